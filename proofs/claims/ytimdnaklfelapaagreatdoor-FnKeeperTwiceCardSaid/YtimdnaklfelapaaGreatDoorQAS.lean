/- Part 19. -/
import Derived.Lib.ItoaMem
import Derived.Test.YtimdnaklfelapaaGreatDoorQAR
open BitVec renaming eq_of_toNat_eq→ay2,ofInt→av5,toNat_ofInt→axB
open Bool renaming and_eq_true→auF,and_false→au7,and_self→avT,and_true→ayC,eq_iff_iff→axg,false_and→auL,false_ne_true→avb,false_or→ava,not_eq_true'→avw,not_false→auH,not_true→auG,or_eq_false_iff→axo,or_eq_true→avo,or_false→avW,or_self→awu,or_true→avG,true_and→auN,true_or→avk
open ByteArray renaming size→ay0
open Classical renaming choose_spec→av9,choose→axs
open Eq renaming trans→ax0
open Go.IntKind renaming wrap→azo
open Go.Lib renaming cut→awQ
open Int renaming emod_eq_of_lt→ayD,eq_ofNat_of_zero_le→avL,le_refl→axr,mul_comm→ayo,mul_le_mul_of_nonneg_right→axC,mul_nonneg→ay5,tdiv_eq_ediv_of_nonneg→avx,tdiv→au6,tmod_eq_emod_of_nonneg→awj,tmod→avq,toNat_natCast→auV,toNat→auK
open List renaming all_eq_true→avn,append_assoc→au2,append_cancel_left→ayO,append_nil→avj,concat_eq_append→ayZ,cons_append→awM,count_cons_self→azb,dropWhile_cons→ays,drop_append_of_le_length→ayq,drop_drop→aw9,drop_eq_getElem_cons→axn,drop_left'→axA,drop_zero→awF,drop→avp,eq_nil_of_length_eq_zero→avi,eq_nil_or_concat→ayY,filter_append→ayA,filter_cons→awq,filter_nil→ayp,flatMap_append→azi,foldlM_cons→axO,foldl_cons→avC,foldl_nil→axa,getD_eq_getElem?_getD→auQ,getElem?_append_left→avQ,getElem?_append_right→avl,getElem?_drop→awh,getElem?_eq_getElem→auO,getElem?_eq_none→awa,getElem?_eq_some_iff→auR,getElem?_map→avz,getElem?_range→av3,getElem?_replicate→aw6,getElem?_set→ax6,getElem?_take_of_lt→ayM,getElem_mem→avm,getElem_of_mem→avA,length_append→auP,length_cons→auZ,length_drop→avy,length_eq_one_iff→ayT,length_filter_le→avY,length_map→avK,length_nil→avf,length_set→avZ,length_singleton→av2,length_take→avv,length_zipWith→ayt,length→awX,map_append→avS,map_congr_left→av0,map_cons→avJ,map_id→azu,map_map→awK,map_nil→awZ,mem_append_left→auT,mem_append→auX,mem_cons_of_mem→auJ,mem_cons_self→auM,mem_cons→au5,mem_filter→awd,mem_iff_getElem→axq,mem_map→avH,mem_of_getElem?→au8,mem_of_mem_drop→awA,mem_of_mem_take→av6,mem_range→avB,mem_singleton_self→avX,mem_singleton→avh,nil_append→avR,not_mem_nil→ayL,range_succ→awP,range→au9,replicate_succ→azk,replicate→au0,takeWhile_append_dropWhile→awW,takeWhile_cons→aw7,takeWhile_sublist→ayS,take_add_one→axG,take_append_drop→awJ,take_left'→axw,take_length→avN,take_of_length_le→awv,take_take→ay1,take→au3,zipWith_cons_cons→awG
open List.cons renaming injEq→axx
open Nat renaming add_assoc→avI,add_comm→axY,add_zero→awR,le_refl→auS,le_trans→avr,lt_of_lt_of_le→av8,lt_or_ge→awm,lt_trichotomy→awl,mod_eq_of_lt→axt,mod_lt→ayi,pow_succ→ayn,sub_self→aym,sub_zero→aw1,zero_add→avV,zero_le→avM
open Ne renaming symm→axT
open Option renaming bind_eq_some_iff→auI,bind_some→auE,filter_eq_some_iff→awe,getD_some→avd,isSome_some→au4
open Option.some renaming injEq→auU
open Or renaming inl→ay4,inr→ay3
open Prod.mk renaming injEq→avs
open UInt8 renaming ofNat→axc,toNat_inj→axz
set_option linter.unusedVariables false
set_option linter.unusedSimpArgs false
set_option linter.defProp false
noncomputable section
namespace Go.VS
open Go
def ale{A R:Type}{t:(A→Option R)→A→Option R}{x:A}{v:R}(hv: ∀ k r,eR t k x=some r→r=v)(he: ∃ k,eR t k x=some v):acs t x=some v:=by
 cases h:acs t x with
 | none=>
  exfalso;obtain⟨k,hk⟩:=he;unfold acs at h;rw[dif_pos ⟨k,v,hk⟩]at h;cases h
 | some r=>
  obtain⟨k,hk⟩:=Zn h;rw[hv k r hk]
def O5{σ β γ:Type}{b:σ→Option (σ ⊕ (β ⊕ γ))}(st:Nat→σ)(n:Nat)(p:Nat→Bool)(r:β)(fin:γ)
  (h: ∀ i,i < n→(∀ j,j < i→p j=true)→b (st i)=some (if p i then .inl (st (i+1)) else .inr (.inl r)))
  (hn:(∀ j,j < n→p j=true)→b (st n)=some (.inr (.inr fin))):aV b (st 0)=some (if dp n p then .inr fin else .inl r):=by
 have: ∀ k,k≤n→(∀ j,j < n - k→p j=true)→aV b (st (n - k))=some (if vo p k (n - k) then .inr fin else .inl r):=by
  intro k
  induction k with
  | zero=>intro _ hp;exact ao (hn hp)
  | succ k ih=>
   intro hk hp;have h1:=h (n - (k+1)) (by omega) hp;unfold vo;rcases tf (p (n - (k+1))) with hq | hq
   ·rw[hq]at h1;rw[hq,auN];refine aj h1 ?_;rw[show n - (k+1)+1=n - k by omega];exact ih (by omega) (fun j hj=>by
     rcases awm j (n - (k+1)) with h2 | h2
     ·exact hp j h2
     ·rw[show j=n - (k+1) by omega];exact hq)
   ·rw[hq]at h1;rw[hq,auL];exact ao h1
 have:=this n (auS _) (fun j hj=>by omega);rwa[aym]at this
abbrev dcm(u:Nat):List UInt8:=Lib.decDigits u
def kv{u:Nat}(h:u < 10):dcm u=[axc (48+u)]:=Lib.decDigits_one h
def xt{u:Nat}(h: ¬ u < 10):dcm u=dcm (u / 10)++[axc (48+u % 10)]:=by rw[dcm,Lib.decDigits,dif_neg h]
def vl: ∀ (k u:Nat),1≤k→u < 10 ^ k→(dcm u).length≤k
 | 0,_,h,_=>by omega
 | 1,u,_,h=>by rw[kv (by omega)];simp
 | k+2,u,_,h=>by
  by_cases h1:u < 10
  ·rw[kv h1];simp
  ·rw[xt h1];have:=vl (k+1) (u / 10) (by omega) (by rw[ayn]at h;omega);simp;omega
def j9(u:Nat):Lib.itoa (u:Int)=dcm u:=Lib.itoa_nonneg u
def cZ(n:Int):auB:=⟨(Lib.itoa n).toArray⟩
def Tq{n:Nat}(h:n < 10):eS [w8 (w64 (48+(n:Int)))]=⟨(dcm n).toArray⟩:=by
 rw[kv h,ai (by omega) (by omega),Qs,show(48+(n:Int)) % 256=((48+n:Nat):Int) by omega];rfl
def abj(u:Nat):au6 (u:Int) 10=((u / 10:Nat):Int):=rfl
def abf(u:Nat):avq (u:Int) 10=((u % 10:Nat):Int):=rfl
def Tr(u:Nat):eS [w8 (w64 (48+((u % 10:Nat):Int)))]=⟨[axc (48+u % 10)].toArray⟩:=by
 rw[Tq (by omega),kv (by omega)]
def adK(a b:List UInt8):(⟨a.toArray⟩:auB)++⟨b.toArray⟩=⟨(a++b).toArray⟩:=by
 apply qR;rw[ua]
def acH:Lib.decDigits 9223372036854775808=[57,50,50,51,51,55,50,48,51,54,56,53,52,55,55,53,56,48,56]:=by
 show dcm _=_
 repeat (first | rw[kv (by omega)] | rw[xt (by omega)])
 rfl
def HL: ∀ (k:Nat) (n:Int),-9223372036854775808≤n→n≤9223372036854775807→ ∀ r,eR (fun g=>bS g) k (n,())=some r→r=((cZ n,()),())
 | 0,_,_,_,r,h=>by cases h
 | k+1,n,h0,h1,r,h=>by
  have ih:=HL k
  replace h:bS (eR (fun g=>bS g) k) (n,())=some r:=h
  generalize eR (fun g=>bS g) k=G at ih h;unfold bS at h;by_cases hn:n < -9223372036854775807
  ·simp only[hn,auz,auy]at h;cases h;obtain rfl:n= -9223372036854775808:=by omega
   have:cZ (-9223372036854775808)=B [45,57,50,50,51,51,55,50,48,51,54,56,53,52,55,55,53,56,48,56]:=by
    apply qR;show Lib.itoa (-9223372036854775808)=_;rw[show(-9223372036854775808:Int)= -((9223372036854775808:Nat):Int) by rfl,Lib.itoa_neg _ (by omega)];rw[L_B];rw[acH]
   rw[this]
  ·rw[aur (by simpa using hn)]at h;by_cases apW:n < 0
   ·rw[aus (by simpa using apW)]at h;simp only at h;rw[ai (by omega) (by omega)]at h;obtain⟨r4,e4,h⟩:=auI.1 h;have:=ih (0 - n) (by omega) (by omega) r4 e4;subst this;split at h
    ·cases h;obtain⟨u,hu⟩:=avL (show 0≤ -n by omega);obtain rfl:n= -(u:Int):=by omega
     have:cZ (-(u:Int))=B [45]++cZ (0 - -(u:Int)):=by
      unfold cZ;rw[Lib.itoa_neg _ (by omega),show(0:Int) - -(u:Int)=(u:Int) by omega,j9];rw[B,adK];rfl
     rw[this]
    ·cases h
   ·rw[aur (by simpa using apW)]at h;obtain⟨u,hu⟩:=avL (show 0≤n by omega);obtain rfl:n=(u:Int):=hu;by_cases hs:u < 10
    ·rw[aus (by simp;omega)]at h;simp only at h;cases h;rw[Tq hs,cZ,j9]
    ·rw[aur (by simp;omega)]at h;simp only[abj,abf]at h;rw[ai (by omega) (by omega)]at h;obtain⟨r7,e7,h⟩:=auI.1 h;have:=ih ((u / 10:Nat):Int) (by omega) (by omega) r7 e7;subst this;split at h
     ·cases h;rw[Tr,cZ,cZ,j9,j9,adK,← xt hs]
     ·cases h
def OL: ∀ (k u:Nat),1≤k→k≤19→u < 10 ^ k→u≤9223372036854775807→eR (fun g=>bS g) k ((u:Int),())=some ((⟨(dcm u).toArray⟩,()),())
 | 0,_,h,_,_,_=>by omega
 | k+1,u,_,hk,h,h63=>by
  have e1:decide ((u:Int) < -9223372036854775807)=false:=by simp
  have e2:decide ((u:Int) < 0)=false:=by simp
  have ih:=OL k (u / 10);show bS (eR (fun g=>bS g) k) _=_;generalize eR (fun g=>bS g) k=G at ih;unfold bS;simp only[e1,e2,abj,abf,auD];by_cases hs:u < 10
  ·rw[aus (by simp;omega),Tq hs]
  ·rw[aur (by simp;omega),ai (by omega) (by omega)];have hk0:1≤k:=by
    rcases Nat.eq_zero_or_pos k with rfl | h'
    ·simp at h;omega
    ·exact h'
   have hlt:u / 10 < 10 ^ k:=by rw[ayn]at h;omega
   have hl:=vl k (u / 10) hk0 hlt;rw[ih hk0 (by omega) hlt (by omega)];simp only[auE];rw[aus,Tr,adK,← xt hs];have:(⟨(dcm (u / 10)).toArray⟩:auB).size=(dcm (u / 10)).length:=rfl;rw[decide_eq_true_eq,this,Tr];show _+1≤_;omega
def bB{n:Int}(h0: -9223372036854775808≤n)(h1:n≤9223372036854775807):aG (n,())=some ((cZ n,()),()):=by
 refine ale (fun k r h=>HL k n h0 h1 r h) ?_;have aro: ∀ u:Nat,u≤9223372036854775807→u < 10 ^ 19:=fun u hu=>by omega
 by_cases hn:n < -9223372036854775807
 ·refine⟨1, ?_⟩;cases h:eR (fun g=>bS g) 1 (n,()) with
  | none=>simp only[eR]at h;unfold bS at h;rw[aus (by simpa using hn)]at h;cases h
  | some r=>rw[HL 1 n h0 h1 r h]
 ·by_cases apW:n < 0
  ·refine⟨20, ?_⟩;cases h:eR (fun g=>bS g) 20 (n,()) with
   | none=>
    obtain⟨u,hu⟩:=avL (show 0≤ -n by omega);have ih:=OL 19 u (by omega) (by omega) (aro u (by omega)) (by omega)
    replace h:bS (eR (fun g=>bS g) 19) (n,())=none:=h
    generalize eR (fun g=>bS g) 19=G at ih h;unfold bS at h;rw[aur (by simpa using hn),aus (by simpa using apW)]at h;simp only at h;rw[ai (by omega) (by omega),show 0 - n=(u:Int) by omega,ih]at h;simp only[auE]at h;rw[aus]at h
    ·cases h
    ·have hl:=vl 19 u (by omega) (aro u (by omega));have e:(⟨(dcm u).toArray⟩:auB).size=(dcm u).length:=rfl;rw[decide_eq_true_eq,e];show 1+_≤_;omega
   | some r=>rw[HL 20 n h0 h1 r h]
  ·obtain⟨u,hu⟩:=avL (show 0≤n by omega);obtain rfl:n=(u:Int):=hu;exact⟨19,by rw[OL 19 u (by omega) (by omega) (aro u (by omega)) (by omega),cZ,j9]⟩
def ux{n:Int}(h0: -9223372036854775808≤n)(h1:n≤9223372036854775807):ch (n,())=some ((cZ n,()),()):=by
 show acb _=_;unfold acb;rw[aus ⟨h0,h1⟩];rfl
def dig(b:UInt8):Bool:=inB (b.toNat:Int) 48 57
def val(l:List UInt8):Nat:=l.foldl (fun a b=>10 * a+(b.toNat - 48)) 0
def Lp(l:List UInt8)(b:UInt8):val (l++[b])=10 * val l+(b.toNat - 48):=by simp[val]
def afH{l:List UInt8}{i:Nat}(h:i < l.length):l.take (i+1)=l.take i++[l.getD i 0]:=by
 rw[axG,auO h];simp[h]
def ZK: ∀ (k:Nat) (l:List UInt8),l.length≤k→(∀ b∈l,dig b=true)→val l < 10 ^ k:=by
 intro k
 induction k with
 | zero=>
  intro l hl _;obtain rfl:l=[]:=avi (by omega);decide
 | succ k ih=>
  intro l hl hd;rcases ayY l with rfl | ⟨m,b,rfl⟩
  ·exact Nat.pow_pos (by decide)
  ·simp at hl hd;have h1:=ih m (by omega) (fun x hx=>hd x (.inl hx));have h2:=hd b (.inr rfl);rw[ayZ,Lp,ayn];have h3:=ah.1 h2;omega
def akd{m:List UInt8}: ∀ {b:UInt8},dig b=true→b≠48→(∀ x∈m,dig x=true)→1≤val (b::m):=by
 intro b hb hne hd;have h0:1≤val [b]:=by
  have:=ah.1 hb;have hn:b.toNat≠48:=fun h=>hne (axz.1 h);simp[val];omega
 have: ∀ (m:List UInt8) (a:Nat),1≤a→1≤m.foldl (fun a b=>10 * a+(b.toNat - 48)) a:=by
  intro m
  induction m with
  | nil=>intro a h;exact h
  | cons x m ih=>intro a h;exact ih _ (show 1≤10 * a+(x.toNat - 48) by omega)
 exact this m _ (by simpa[val] using h0)
def Q9(l:List UInt8):Bool:=match l with
 | []=>false
 | [_]=>true
 | b::_::_=> !decide (b=48)
def afj: ∀ (k:Nat) (l:List UInt8),l.length=k→(∀ b∈l,dig b=true)→Q9 l=true→dcm (val l)=l:=by
 intro k
 induction k with
 | zero=>intro l hl _ h;obtain rfl:l=[]:=avi hl;cases h
 | succ k ih=>
  intro l hl hd arf;rcases ayY l with rfl | ⟨m,b,rfl⟩
  ·cases arf
  ·rw[ayZ]at *;simp at hl;have hb:=hd b (by simp);have hb2:=ah.1 hb;have hof: ∀ n,b.toNat=n→axc n=b:=fun n h=>by rw[← h];simp
   cases m with
   | nil=>
    have:val ([]++[b])=b.toNat - 48:=by simp[val]
    rw[this,kv (by omega),hof _ (by omega)];rfl
   | cons c m=>
    have hc:c≠48:=by
     cases m<;>simpa[Q9] using arf
    have h1:=akd (m:=m) (hd c (by simp)) hc (fun x hx=>hd x (by simp[hx]));rw[Lp,xt (by omega),show(10 * val (c::m)+(b.toNat - 48)) / 10=val (c::m) by omega,show(10 * val (c::m)+(b.toNat - 48)) % 10=b.toNat - 48 by omega,
     ih (c::m) hl (fun x hx=>hd x (auT _ hx)) (by cases m<;>simp[Q9,hc]),hof _ (by omega)]
def S7: ∀ (k u:Nat),u < k→ ∀ b∈dcm u,dig b=true:=by
 intro k
 induction k with
 | zero=>intro u h;omega
 | succ k ih=>
  intro u h b hb;have hd: ∀ n,n < 10→dig (axc (48+n))=true:=fun n hn=>by
   have:(axc (48+n)).toNat=48+n:=by simp;omega
   unfold dig;rw[this];exact ah.2 ⟨by omega,by omega⟩
  by_cases hu:u < 10
  ·rw[kv hu]at hb;obtain rfl:=avh.1 hb;exact hd u hu
  ·rw[xt hu]at hb;rcases auX.1 hb with hb | hb
   ·exact ih (u / 10) (by omega) b hb
   ·obtain rfl:=avh.1 hb;exact hd _ (by omega)
def SR: ∀ (k u:Nat),u < k→val (dcm u)=u:=by
 intro k
 induction k with
 | zero=>intro u h;omega
 | succ k ih=>
  intro u h;by_cases hu:u < 10
  ·rw[kv hu];have:(axc (48+u)).toNat=48+u:=by simp;omega
   simp only[val,avC,axa,this];omega
  ·rw[xt hu,Lp,ih (u / 10) (by omega)];have:(axc (48+u % 10)).toNat=48+u % 10:=by simp;omega
   rw[this];omega
def aek(u:Nat):dcm u≠[]:=by
 by_cases hu:u < 10
 ·rw[kv hu];simp
 ·rw[xt hu];simp
def acI: ∀ (k u:Nat),u < k→Q9 (dcm u)=true∧(1≤u→ ∃ b m,dcm u=b::m∧b≠48):=by
 intro k
 induction k with
 | zero=>intro u h;omega
 | succ k ih=>
  intro u h;by_cases hu:u < 10
  ·rw[kv hu];refine⟨rfl,fun h1=>⟨_,_,rfl,fun h2=> ?_⟩⟩;have:(axc (48+u)).toNat=48+u:=by simp;omega
   rw[h2]at this;simp at this;omega
  ·obtain⟨b,m,h1,h2⟩:=(ih (u / 10) (by omega)).2 (by omega);rw[xt hu,h1];refine⟨?_,fun _=>⟨b,_,rfl,h2⟩⟩;cases m<;>simp[Q9,h2]
def Uj(l:List UInt8):Option Nat:=if l.all dig&&Q9 l then some (val l) else none
def BP{l:List UInt8}{n:Nat}:Uj l=some n↔l=dcm n:=by
 unfold Uj;constructor
 ·intro h;split at h
  ·rename_i hc;simp at hc;cases h;exact(afj _ l rfl hc.1 hc.2).symm
  ·cases h
 ·rintro rfl;rw[aus,SR (n+1) n (by omega)];simp only[auF,avn];exact⟨S7 (n+1) n (by omega),(acI (n+1) n (by omega)).1⟩
def amX{s:auB}{i:Nat}:inB (bt s i) 48 57=dig ((L s).getD i 0):=rfl
def afp{l:List UInt8}{f:UInt8→Bool}:dp l.length (fun i=>f (l.getD i 0))=l.all f:=by
 rw[axg,cG,avn];constructor
 ·intro h x hx;obtain⟨i,hi,rfl⟩:=avA hx;have:=h i hi;simpa[hi] using this
 ·intro h i hi;simpa[hi] using h _ (avm hi)
def QO{s:auB}{i:Nat}(h: ∀ j,j < i→inB (bt s j) 48 57=true)(hi:i≤s.size): ∀ b∈(L s).take i,dig b=true:=by
 intro b hb;obtain⟨j,hj,rfl⟩:=avA hb;simp at hj;have h1:=h j (by omega);rw[amX]at h1;have h2:j < (L s).length:=by rw[ba];omega
 rw[List.getElem_take];have e:(L s).getD j 0=(L s)[j]:=by rw[auQ,auO h2];rfl
 rwa[e]at h1
def aa9{s:auB}{i:Nat}(hi:i < s.size):val ((L s).take (i+1))=10 * val ((L s).take i)+(((L s).getD i 0).toNat - 48):=by
 rw[afH (by rw[ba];exact hi),Lp]
def bC(s:auB):Int×Bool:=if s.size≤5 then(match Uj (L s) with | some n=>((n:Int),true) | none=>(0,false)) else(0,false)
def akS{s:auB}(h:1≤s.size):Q9 (L s)= !(decide (bt s 0=48)&&decide (1 < (s.size:Int))):=by
 rw[show s.size=(L s).length from rfl]at *;unfold bt;show _= !(decide ((((L s).getD 0 0).toNat:Int)=48)&&_);generalize L s=l at *
 match l with
 | []=>simp at h
 | [b]=>simp[Q9]
 | b::c::m=>
  have:(((b:UInt8).toNat:Int)=48)↔b=48:=⟨fun h=>axz.1 (by show b.toNat=48;omega),fun h=>by subst h;rfl⟩;simp only[Q9,List.getD_cons_zero,this];simp;omega
def QY(s:auB):(L s).take s.size=L s:=awv (by rw[ba];exact auS _)
def sx{s:auB}(hs:s.size≤9223372036854775807):gQ (s,())=some (((bC s).1,(bC s).2,()),()):=by
 unfold gQ bC;simp only[cm,auE];by_cases h5:s.size≤5
 ·by_cases h1:1≤s.size
  ·have e1:inB (s.size:Int) 1 5=true:=ah.2 ⟨by omega,by omega⟩;have e2:inb 0 s.size=true:=by have:=ak (show 0 < s.size by omega);simpa using this
   have aoh:qp (s,0,0,())=some (if dp s.size (fun i=>inB (bt s i) 48 57) then .inr ((val (L s):Int),()) else .inl (0,false,())):=by
    rw[← QY s];refine O5 (fun i=>(s,(val ((L s).take i):Int),(i:Int),())) s.size (fun i=>inB (bt s i) 48 57) (0,false,()) ((val ((L s).take s.size):Int),()) (fun i hi hp=> ?_) (fun _=>by simp[pL]);unfold pL;simp only[ak hi,bD hi,ahT,cm,auE,aA hi (by omega:s.size≤9223372036854775807)];rcases tf (inB (bt s i) 48 57) with h | h
    ·have hv:=ZK 5 _ (by simp;omega) (QO hp (by omega));have hb:=ah.1 h;have e:w64 (w64 (10 * (val ((L s).take i):Int))+w64 (w8 (bt s i - 48)))=(val ((L s).take (i+1)):Int):=by
      rw[aa9 hi,Qs,ai (n:=10 * _) (by omega) (by omega),ayD (by omega) (by omega),ai (n:=bt s i - 48) (by omega) (by omega),ai (by omega) (by omega)];rw[y0]at hb ⊢;omega
     simp only[h,e];rfl
    ·simp only[h];rfl
   rw[e1,e2,aus h5];simp only[aoh,auG,auH,ava,fK,auy];have aom:dp s.size (fun i=>inB (bt s i) 48 57)=(L s).all dig:=afp (l:=L s) (f:=dig);rw[aom];unfold Uj;rw[akS h1];rcases tf (decide (bt s 0=48)&&decide (1 < (s.size:Int))) with h | h
   ·rw[h];simp
   ·rw[h];rcases tf ((L s).all dig) with h' | h'
    ·rw[h'];rfl
    ·rw[h'];rfl
  ·have e1:inB (s.size:Int) 1 5=false:=by simp[inB];omega
   have:L s=[]:=avi (by rw[ba];omega);rw[e1,aus h5,this];simp[Uj,Q9]
 ·have e1:inB (s.size:Int) 1 5=false:=by simp[inB];omega
  rw[e1,aur h5];simp
def bh(s:auB):Int:=if s.size≤4 then(match Uj (L s) with | some n=>(n:Int) | none=> -1) else -1
def acJ(u:Nat):cZ (u:Int)=⟨(dcm u).toArray⟩:=by rw[cZ,j9]
def CR{s:auB}(hs:s.size≤9223372036854775807):kM (s,())=some ((bh s,()),()):=by
 unfold kM bh;by_cases h5:s.size≤4
 ·by_cases h1:1≤s.size
  ·have e1:(decide ((s.size:Int) < 1)||decide (4 < (s.size:Int)))=false:=by simp;omega
   have aoh:uj (s,0,0,())=some (if dp s.size (fun i=>inB (bt s i) 48 57) then .inr (s,(val (L s):Int),()) else .inl (-1,())):=by
    rw[← QY s];refine O5 (fun i=>(s,(val ((L s).take i):Int),(i:Int),())) s.size (fun i=>inB (bt s i) 48 57) (-1,()) (s,(val ((L s).take s.size):Int),()) (fun i hi hp=> ?_) (fun _=>by simp[uS]);unfold uS;simp only[ak hi,bD hi,aA hi (by omega:s.size≤9223372036854775807)];rcases tf (inB (bt s i) 48 57) with h | h
    ·have hv:=ZK 5 _ (by simp;omega) (QO hp (by omega));have hb:=ah.1 h;have e:w64 (w64 ((val ((L s).take i):Int) * 10)+w64 (w8 (bt s i - 48)))=(val ((L s).take (i+1)):Int):=by
      rw[aa9 hi,Qs,ai (n:=_ * 10) (by omega) (by omega),ayD (by omega) (by omega),ai (n:=bt s i - 48) (by omega) (by omega),ai (by omega) (by omega)];rw[y0]at hb ⊢;omega
     have e2:decide (bt s i < 48)=false:=by simp;omega
     have e3:decide (57 < bt s i)=false:=by simp;omega
     simp only[h,e,e2,e3];rfl
    ·have hb:bt s i < 48∨57 < bt s i:=by
      have:=mt ah.2 (by rw[h];simp);omega
     simp only[h];rcases hb with hb | hb
     ·simp[hb]
     ·have: ¬ bt s i < 48:=by omega
      simp[hb,this]
   rw[e1,aus h5];simp only[aoh,auD];have aom:dp s.size (fun i=>inB (bt s i) 48 57)=(L s).all dig:=afp (l:=L s) (f:=dig);rw[aom];unfold Uj;rcases tf ((L s).all dig) with h' | h'
   ·have hd:=avn.1 h';have hv:=ZK 5 (L s) (by rw[ba];omega) hd;simp only[h',auy,c8,auN,bB (n:=(val (L s):Int)) (by omega) (by omega),auE,acJ];rcases tf (Q9 (L s)) with hl | hl
    ·have:(⟨(dcm (val (L s))).toArray⟩:auB)=s:=by
      apply qR;rw[am0,afj _ _ rfl hd hl]
     simp[this,hl]
    ·have: ¬ (⟨(dcm (val (L s))).toArray⟩:auB)=s:=fun h=>by
      have h2:=congrArg L h;rw[am0]at h2;rw[← h2,(acI (val (L s)+1) _ (by omega)).1]at hl;cases hl
     simp[this,hl]
   ·rw[h'];rfl
  ·have e1:(decide ((s.size:Int) < 1)||decide (4 < (s.size:Int)))=true:=by simp;omega
   have:L s=[]:=avi (by rw[ba];omega);rw[e1,aus h5,this];simp[Uj,Q9]
 ·have e1:(decide ((s.size:Int) < 1)||decide (4 < (s.size:Int)))=true:=by simp;omega
  rw[e1,aur h5];simp
def aiN{s:auB}{n:Nat}:bC s=((n:Int),true)↔s.size≤5∧L s=dcm n:=by
 unfold bC;by_cases h:s.size≤5
 ·rw[aus h];constructor
  ·intro h2;cases h3:Uj (L s) with
   | none=>rw[h3]at h2;cases h2
   | some m=>
    rw[h3]at h2;simp at h2;exact⟨h,by rw[BP.1 h3,show m=n by omega]⟩
  ·rintro⟨_,h2⟩;rw[BP.2 h2]
 ·rw[aur h];constructor
  ·intro h2;cases h2
  ·rintro⟨h2,_⟩;exact absurd h2 h
def uu(s:auB):bC s=(0,false)∨ ∃ n:Nat,bC s=((n:Int),true)∧s.size≤5∧L s=dcm n:=by
 unfold bC;by_cases h:s.size≤5
 ·rw[aus h];cases h2:Uj (L s) with
  | none=>exact .inl rfl
  | some n=>exact .inr ⟨n,rfl,h,BP.1 h2⟩
 ·rw[aur h];exact .inl rfl
def uM(s:auB):(bh s= -1∧ ∀ n,L s=dcm n→4 < s.size)∨ ∃ n:Nat,bh s=(n:Int)∧s.size≤4∧L s=dcm n:=by
 unfold bh;by_cases h:s.size≤4
 ·rw[aus h];cases h2:Uj (L s) with
  | none=>exact .inl ⟨rfl,fun n hn=>by rw[BP.2 hn]at h2;cases h2⟩
  | some n=>exact .inr ⟨n,rfl,h,BP.1 h2⟩
 ·rw[aur h];exact .inl ⟨rfl,fun n _=>by omega⟩
def Vz{s:auB}{n:Nat}(h:s.size≤4)(hn:L s=dcm n):bh s=(n:Int):=by
 unfold bh;rw[aus h,BP.2 hn]
def OB{s:auB}{n:Nat}(h:s.size≤5)(hn:L s=dcm n):bC s=((n:Int),true):=aiN.2 ⟨h,hn⟩
section
variable {α:Type} (f:α→Bool)
def ins(l:List α)(n:α):List α:=l.takeWhile f++n::l.dropWhile f
abbrev tw(l:List α):Nat:=(l.takeWhile f).length
def Yt(l:List α):tw f l≤l.length:=by
 exact(ayS f).length_le
def SS(l:List α):l.take (tw f l)=l.takeWhile f:=by
 have:=List.take_left (l₁:=l.takeWhile f) (l₂:=l.dropWhile f);rwa[awW]at this
def SU(l:List α):l.drop (tw f l)=l.dropWhile f:=by
 have:=List.drop_left (l₁:=l.takeWhile f) (l₂:=l.dropWhile f);rwa[awW]at this
def abc: ∀ {l:List α} {i:Nat} {x:α},i < tw f l→l[i]? =some x→f x=true
 | [],i,x,h,hx=>by simp at hx
 | y::l,i,x,h,hx=>by
  unfold tw at h;rw[aw7]at h;split at h
  ·rename_i hy;cases i with
   | zero=>simp at hx;subst hx;exact hy
   | succ i=>exact abc (l:=l) (i:=i) (by simpa using h) (by simpa using hx)
  ·simp at h
def abd: ∀ {l:List α} {x:α},l[tw f l]? =some x→f x=false
 | [],x,hx=>by simp at hx
 | y::l,x,hx=>by
  unfold tw at hx;rw[aw7]at hx;split at hx
  ·exact abd (l:=l) (by simpa using hx)
  ·rename_i hy;simp at hx;subst hx;simpa using hy
def ql(l:List α)(n:α):(ins f l n).length=l.length+1:=by
 have:=congrArg awX (awW (p:=f) (l:=l));rw[auP]at this;simp only[ins,auP,auZ];omega
def MG{l:List α}{n x:α}(h:x∈ins f l n):x=n∨x∈l:=by
 unfold ins at h;rw[auX,au5]at h;rcases h with h | h | h
 ·exact .inr ((ayS f).mem h)
 ·exact .inl h
 ·exact .inr ((List.dropWhile_sublist f).mem h)
def Ml{l:List α}{n x:α}(h:x=n∨x∈l):x∈ins f l n:=by
 unfold ins;rw[auX,au5];rcases h with h | h
 ·exact .inr (.inl h)
 ·rw[← awW (p:=f) (l:=l),auX]at h;rcases h with h | h
  ·exact .inl h
  ·exact .inr (.inr h)
end
def Tm{α:Type}{f g:α→Bool}: ∀ {l:List α},(∀ x∈l,f x=g x)→l.takeWhile f=l.takeWhile g∧l.dropWhile f=l.dropWhile g
 | [],_=>⟨rfl,rfl⟩
 | x::l,h=>by
  have ih:=Tm (l:=l) (fun y hy=>h y (auJ _ hy));rw[aw7,aw7,ays,ays,h x auM,ih.1,ih.2];exact⟨rfl,rfl⟩
def Za{α:Type}{f g:α→Bool}{l:List α}{n:α}(h: ∀ x∈l,f x=g x):ins f l n=ins g l n:=by
 unfold ins;rw[(Tm h).1,(Tm h).2]
def ji{l:List anz}{i:Nat}{x:anz}(h:l[i]? =some x):nA l i=x:=HQ h
def vM{l:List Mark}{i:Nat}{x:Mark}(h:l[i]? =some x):mA l i=x:=HQ h
def ka(l:List anz)(n:anz):List anz:=ins (fun x=>bef x.fr x.nu n.fr n.nu) l n
def vR(l:List Mark)(n:Mark):List Mark:=ins (fun x=>bef x.mf x.mn n.mf n.mn) l n
def Hx{α:Type}{l:List α}{i:Nat}{x:α}(h:l[i]? =some x):l.take i++[x]=l.take (i+1):=by
 rw[axG,h];rfl
def Yy{α:Type}{l:List α}{i j:Nat}{x:α}(h:l[i]? =some x)(hj:j≤i):(l.take i).drop j++[x]=(l.take (i+1)).drop j:=by
 have hi:=(auR.1 h).1;rw[← Hx h,ayq (by simp;omega)]
def gq{α:Type}(g:α→Bool)(l:List α)(n:α)(i:Nat):List α:=if i≤tw g l then l.take i else l.take (tw g l)++n::(l.take i).drop (tw g l)
def HC{α:Type}(g:α→Bool)(l:List α)(n:α)(i:Nat):(gq g l n i).length≤l.length+1:=by
 have:=Yt g l;unfold gq;split<;>simp<;>omega
def YB{α:Type}(g:α→Bool)(l:List α)(n:α):(if tw g l < l.length then gq g l n l.length else gq g l n l.length++[n])=ins g l n:=by
 have h:=Yt g l;unfold gq ins;split
 ·rw[aur (by omega),avN,SS,SU]
 ·rw[aus (by omega),avN];have:tw g l=l.length:=by omega
  rw[← SS,← SU,this];simp
def abG{α:Type}{g:α→Bool}{l:List α}{n x:α}{i:Nat}(h:l[i]? =some x)(hi:i < tw g l):gq g l n i++[x]=gq g l n (i+1):=by
 unfold gq;rw[aus (by omega),aus (by omega),Hx h]
def abI{α:Type}{g:α→Bool}{l:List α}{n x:α}{i:Nat}(h:l[i]? =some x)(hi:i=tw g l):gq g l n i++[n]++[x]=gq g l n (i+1):=by
 subst hi;unfold gq;rw[aus (auS _),aur (by omega),← Yy h (auS _)];simp
def abH{α:Type}{g:α→Bool}{l:List α}{n x:α}{i:Nat}(h:l[i]? =some x)(hi:tw g l < i):gq g l n i++[x]=gq g l n (i+1):=by
 unfold gq;rw[aur (by omega),aur (by omega),← Yy h (by omega)];simp
def vb{l:List anz}{fr nu tt un:Int}{tx:auB}(hl:l.length≤1048576):jb (l,(fr,nu,tt,un,tx,()),())=some ((ka l ⟨fr,nu,tt,un,tx⟩,()),()):=by
 have ht:=Yt (fun x:anz=>bef x.fr x.nu fr nu) l;have h:ss (l,(fr,nu,tt,un,tx,()),0,())=some (.inr (l,(fr,nu,tt,un,tx,()),((tw (fun x:anz=>bef x.fr x.nu fr nu) l:Nat):Int),())):=
  cy (fun i=>(l,(fr,nu,tt,un,tx,()),(i:Int),())) (tw (fun x:anz=>bef x.fr x.nu fr nu) l) (fun i hi=>by
   have hi':i < l.length:=by omega
   have hx:=auO hi';unfold su;simp only[ak hi',bD hi',dA,lV,aA hi' (by omega:l.length≤9223372036854775807),ji hx,abc (fun x:anz=>bef x.fr x.nu fr nu) hi hx];rfl) (by
   unfold su;generalize ht2:tw (fun x:anz=>bef x.fr x.nu fr nu) l=t at *;rcases awm t l.length with hlt | hge
   ·have hx:=auO hlt;have:=abd (fun x:anz=>bef x.fr x.nu fr nu) (l:=l) (x:=l[t]) (by rw[ht2];exact hx);simp only[ak hlt,bD hlt,dA,lV,ji hx,this];rfl
   ·have e:decide ((t:Int) < (l.length:Int))=false:=by simp;omega
    simp only[e,dO,auy,auL,auD])
 unfold jb;have hb:(decide (0≤((tw (fun x:anz=>bef x.fr x.nu fr nu) l:Nat):Int))&&decide (((tw (fun x:anz=>bef x.fr x.nu fr nu) l:Nat):Int)≤(l.length:Int)))=true:=by simp;omega
 simp only[h,c8,hb,auy,auV,avR,avf,avV,auP,auZ,avv,avy];rw[aus (aH (by omega)),aus (aH (by omega)),aus (aH (by omega)),SS,SU];simp[ka,ins]
def adA(l:List anz)(n:anz):List anz:=ins (fun x=> !bef n.fr n.nu x.fr x.nu) l n
def mq{l:List anz}{fr nu tt un:Int}{tx:auB}(hl:l.length≤1048576):ec (l,(fr,nu,tt,un,tx,()),())=some ((adA l ⟨fr,nu,tt,un,tx⟩,()),()):=by
 let g:anz→Bool:=fun x=> !bef fr nu x.fr x.nu
 have ht:=Yt g l;have h:lY (l,(fr,nu,tt,un,tx,()),[],false,0,())=some (.inr ((fr,nu,tt,un,tx,()),gq g l ⟨fr,nu,tt,un,tx⟩ l.length,decide (tw g l < l.length),())):=by
  refine cy (fun i=>(l,(fr,nu,tt,un,tx,()),gq g l ⟨fr,nu,tt,un,tx⟩ i,decide (tw g l < i),(i:Int),())) l.length (fun i hi=> ?_) (by simp[kO]);have hx:=auO hi;have hr:=HC g l ⟨fr,nu,tt,un,tx⟩ i;unfold kO;simp only[ak hi,bD hi,dA,zj,aA hi (by omega:l.length≤9223372036854775807),ji hx,auZ,avf,avV,aH (show(gq g l ⟨fr,nu,tt,un,tx⟩ i).length+1≤4294967296 by omega)];rcases awl i (tw g l) with hlt | heq | hgt
  ·have h1:bef fr nu l[i].fr l[i].nu=false:=by simpa[g] using abc g hlt hx
   have h2:decide (tw g l < i)=false:=by simp;omega
   have h3:decide (tw g l < i+1)=false:=by simp;omega
   simp only[h1,h2,h3,fK,auH,auy,au4,avd,au7,auD,aZ,dA,ji hx,ak hi,aH (show(gq g l ⟨fr,nu,tt,un,tx⟩ i).length+1≤4294967296 by omega),abG hx hlt,aA hi (by omega:l.length≤9223372036854775807)]
  ·have hx2:l[tw g l]? =some l[i]:=by rw[← heq];exact hx
   have h1:bef fr nu l[i].fr l[i].nu=true:=by simpa[g] using abd g hx2
   have h2:decide (tw g l < i)=false:=by simp;omega
   have h3:decide (tw g l < i+1)=true:=by simp;omega
   have h4:gq g l ⟨fr,nu,tt,un,tx⟩ i++[⟨fr,nu,tt,un,tx⟩]++[l[i]]=gq g l ⟨fr,nu,tt,un,tx⟩ (i+1):=abI hx heq;simp only[h1,h2,h3,h4,fK,auH,auy,au4,avd,avT,aZ,dA,ji hx,ak hi,auP,auZ,avf,avV,aH (show(gq g l ⟨fr,nu,tt,un,tx⟩ i).length+1+1≤4294967296 by omega),aA hi (by omega:l.length≤9223372036854775807)]
  ·have h2:decide (tw g l < i)=true:=by simp;omega
   have h3:decide (tw g l < i+1)=true:=by simp;omega
   simp only[h2,h3,dO,auG,auy,auL,auD,aZ,dA,ji hx,ak hi,aH (show(gq g l ⟨fr,nu,tt,un,tx⟩ i).length+1≤4294967296 by omega),abH hx hgt,aA hi (by omega:l.length≤9223372036854775807)]
 unfold ec;simp only[h,c8];have he:=YB g l ⟨fr,nu,tt,un,tx⟩;have hr:=HC g l ⟨fr,nu,tt,un,tx⟩ l.length;unfold adA;show _=some ((ins g l _,()),());rw[← he];by_cases hc:tw g l < l.length
 ·simp[hc]
 ·simp[hc,aH (show(gq g l ⟨fr,nu,tt,un,tx⟩ l.length).length+1≤4294967296 by omega)]
def vD(t:Int)(l:List anz):List anz:=l.filter fun x=>decide (t < x.un)
def AX{l:List Mark}{mf mn mu:Int}(hl:l.length≤1048576):lR (l,(mf,mn,mu,()),())=some ((vR l ⟨mf,mn,mu⟩,()),()):=by
 have ht:=Yt (fun x:Mark=>bef x.mf x.mn mf mn) l;have h:sB (l,(mf,mn,mu,()),0,())=some (.inr (l,(mf,mn,mu,()),((tw (fun x:Mark=>bef x.mf x.mn mf mn) l:Nat):Int),())):=
  cy (fun i=>(l,(mf,mn,mu,()),(i:Int),())) (tw (fun x:Mark=>bef x.mf x.mn mf mn) l) (fun i hi=>by
   have hi':i < l.length:=by omega
   have hx:=auO hi';unfold sC;simp only[ak hi',bD hi',eP,lV,aA hi' (by omega:l.length≤9223372036854775807),vM hx,abc (fun x:Mark=>bef x.mf x.mn mf mn) hi hx];rfl) (by
   unfold sC;generalize ht2:tw (fun x:Mark=>bef x.mf x.mn mf mn) l=t at *;rcases awm t l.length with hlt | hge
   ·have hx:=auO hlt;have:=abd (fun x:Mark=>bef x.mf x.mn mf mn) (l:=l) (x:=l[t]) (by rw[ht2];exact hx);simp only[ak hlt,bD hlt,eP,lV,vM hx,this];rfl
   ·have e:decide ((t:Int) < (l.length:Int))=false:=by simp;omega
    simp only[e,dO,auy,auL,auD])
 unfold lR;have hb:(decide (0≤((tw (fun x:Mark=>bef x.mf x.mn mf mn) l:Nat):Int))&&decide (((tw (fun x:Mark=>bef x.mf x.mn mf mn) l:Nat):Int)≤(l.length:Int)))=true:=by simp;omega
 simp only[h,c8,hb,auy,auV,avR,avf,avV,auP,auZ,avv,avy];rw[aus (aH (by omega)),aus (aH (by omega)),aus (aH (by omega)),SS,SU];simp[vR,ins]
def adB(l:List Mark)(n:Mark):List Mark:=ins (fun x=> !bef n.mf n.mn x.mf x.mn) l n
def rv{l:List Mark}{mf mn mu:Int}(hl:l.length≤1048576):fw (l,(mf,mn,mu,()),())=some ((adB l ⟨mf,mn,mu⟩,()),()):=by
 let g:Mark→Bool:=fun x=> !bef mf mn x.mf x.mn
 have ht:=Yt g l;have h:l4 (l,(mf,mn,mu,()),[],false,0,())=some (.inr ((mf,mn,mu,()),gq g l ⟨mf,mn,mu⟩ l.length,decide (tw g l < l.length),())):=by
  refine cy (fun i=>(l,(mf,mn,mu,()),gq g l ⟨mf,mn,mu⟩ i,decide (tw g l < i),(i:Int),())) l.length (fun i hi=> ?_) (by simp[kP]);have hx:=auO hi;have hr:=HC g l ⟨mf,mn,mu⟩ i;unfold kP;simp only[ak hi,bD hi,eP,zj,aA hi (by omega:l.length≤9223372036854775807),vM hx,auZ,avf,avV,aH (show(gq g l ⟨mf,mn,mu⟩ i).length+1≤4294967296 by omega)];rcases awl i (tw g l) with hlt | heq | hgt
  ·have h1:bef mf mn l[i].mf l[i].mn=false:=by simpa[g] using abc g hlt hx
   have h2:decide (tw g l < i)=false:=by simp;omega
   have h3:decide (tw g l < i+1)=false:=by simp;omega
   simp only[h1,h2,h3,fK,auH,auy,au4,avd,au7,auD,aZ,eP,vM hx,ak hi,aH (show(gq g l ⟨mf,mn,mu⟩ i).length+1≤4294967296 by omega),abG hx hlt,aA hi (by omega:l.length≤9223372036854775807)]
  ·have hx2:l[tw g l]? =some l[i]:=by rw[← heq];exact hx
   have h1:bef mf mn l[i].mf l[i].mn=true:=by simpa[g] using abd g hx2
   have h2:decide (tw g l < i)=false:=by simp;omega
   have h3:decide (tw g l < i+1)=true:=by simp;omega
   have h4:gq g l ⟨mf,mn,mu⟩ i++[⟨mf,mn,mu⟩]++[l[i]]=gq g l ⟨mf,mn,mu⟩ (i+1):=abI hx heq;simp only[h1,h2,h3,h4,fK,auH,auy,au4,avd,avT,aZ,eP,vM hx,ak hi,auP,auZ,avf,avV,aH (show(gq g l ⟨mf,mn,mu⟩ i).length+1+1≤4294967296 by omega),aA hi (by omega:l.length≤9223372036854775807)]
  ·have h2:decide (tw g l < i)=true:=by simp;omega
   have h3:decide (tw g l < i+1)=true:=by simp;omega
   simp only[h2,h3,dO,auG,auy,auL,auD,aZ,eP,vM hx,ak hi,aH (show(gq g l ⟨mf,mn,mu⟩ i).length+1≤4294967296 by omega),abH hx hgt,aA hi (by omega:l.length≤9223372036854775807)]
 unfold fw;simp only[h,c8];have he:=YB g l ⟨mf,mn,mu⟩;have hr:=HC g l ⟨mf,mn,mu⟩ l.length;unfold adB;show _=some ((ins g l _,()),());rw[← he];by_cases hc:tw g l < l.length
 ·simp[hc]
 ·simp[hc,aH (show(gq g l ⟨mf,mn,mu⟩ l.length).length+1≤4294967296 by omega)]
def FH(t:Int)(l:List Mark):List Mark:=l.filter fun x=>decide (t < x.mu)
def Aj{α:Type}{l:List α}{f:α→Bool}{i:Nat}{x:α}(h:l[i]? =some x):(l.take (i+1)).filter f=(l.take i).filter f++(if f x then [x] else []):=by
 rw[← Hx h,ayA];congr 1;cases hf:f x<;>simp[hf]
def Dz{α:Type}{l:List α}{f:α→Bool}{i:Nat}:((l.take i).filter f).length≤l.length:=by
 have:=avY f (l.take i);simp at this;omega
def U9{id ti nx t:Int}{held:List anz}{marks:List Mark}{inbox:List anz}(sm:anM held marks inbox):sR ((id,ti,nx,held,marks,inbox,()),t,())=some (((id,t,nx,vD t held,FH t marks,inbox,()),()),()):=by
 have hl:=sm.hl;have ml:=sm.ml;have h0:qx (t,(id,ti,nx,held,marks,inbox,()),(0,0,0,[],[],[],()),(id,t,nx,[],[],inbox,()),held,(held.length:Int),0,())=some (.inr (t,(id,ti,nx,held,marks,inbox,()),(0,0,0,[],[],[],()),(id,t,nx,vD t held,[],inbox,()),())):=by
  rw[show vD t held=(held.take held.length).filter (fun x=>decide (t < x.un)) by rw[avN];rfl];refine cy (fun i=>(t,(id,ti,nx,held,marks,inbox,()),(0,0,0,[],[],[],()),(id,t,nx,(held.take i).filter (fun x=>decide (t < x.un)),[],inbox,()),held,(held.length:Int),(i:Int),())) held.length (fun i hi=> ?_) (by simp[pP]);have hx:=auO hi;have hr:=Dz (l:=held) (f:=fun x=>decide (t < x.un)) (i:=i);unfold pP;simp only[ak hi,bD hi,dA,ji hx,aA hi (by omega:held.length≤9223372036854775807),Aj hx,auZ,avf,avV,aH (show((held.take i).filter (fun x=>decide (t < x.un))).length+1≤4294967296 by omega)];by_cases hc:t < held[i].un<;>simp[hc]
 have h1:qw (t,(0,0,0,[],[],[],()),(id,t,nx,vD t held,[],inbox,()),marks,(marks.length:Int),0,())=some (.inr ((0,0,0,[],[],[],()),(id,t,nx,vD t held,FH t marks,inbox,()),())):=by
  rw[show FH t marks=(marks.take marks.length).filter (fun x=>decide (t < x.mu)) by rw[avN];rfl];refine cy (fun i=>(t,(0,0,0,[],[],[],()),(id,t,nx,vD t held,(marks.take i).filter (fun x=>decide (t < x.mu)),inbox,()),marks,(marks.length:Int),(i:Int),())) marks.length (fun i hi=> ?_) (by simp[pO]);have hx:=auO hi;have hr:=Dz (l:=marks) (f:=fun x=>decide (t < x.mu)) (i:=i);unfold pO;simp only[ak hi,bD hi,eP,vM hx,aA hi (by omega:marks.length≤9223372036854775807),Aj hx,auZ,avf,avV,aH (show((marks.take i).filter (fun x=>decide (t < x.mu))).length+1≤4294967296 by omega)];by_cases hc:t < marks[i].mu<;>simp[hc]
 unfold sR;simp only[h0,h1,c8]
def Tx{id ti nx t:Int}{held:List anz}{marks:List Mark}{inbox:List anz}(sm:anM held marks inbox):ru ((id,ti,nx,held,marks,inbox,()),t,())=some (((id,t,nx,vD t held,FH t marks,inbox,()),()),()):=by
 have hl:=sm.hl;have ml:=sm.ml;have h0:p7 (t,(id,ti,nx,held,marks,inbox,()),(0,0,0,[],[],[],()),[],0,())=some (.inr (t,(id,ti,nx,held,marks,inbox,()),(0,0,0,[],[],[],()),vD t held,())):=by
  rw[show vD t held=(held.take held.length).filter (fun x=>decide (t < x.un)) by rw[avN];rfl];refine cy (fun i=>(t,(id,ti,nx,held,marks,inbox,()),(0,0,0,[],[],[],()),(held.take i).filter (fun x=>decide (t < x.un)),(i:Int),())) held.length (fun i hi=> ?_) (by simp[pC]);have hx:=auO hi;have hr:=Dz (l:=held) (f:=fun x=>decide (t < x.un)) (i:=i);unfold pC;simp only[ak hi,bD hi,dA,ji hx,aA hi (by omega:held.length≤9223372036854775807),Aj hx,auZ,avf,avV,aH (show((held.take i).filter (fun x=>decide (t < x.un))).length+1≤4294967296 by omega)];by_cases hc:t < held[i].un<;>simp[hc]
 have h1:p6 (t,(id,ti,nx,held,marks,inbox,()),(0,0,0,[],[],[],()),vD t held,[],0,())=some (.inr (t,(id,ti,nx,held,marks,inbox,()),(0,0,0,[],[],[],()),vD t held,FH t marks,())):=by
  rw[show FH t marks=(marks.take marks.length).filter (fun x=>decide (t < x.mu)) by rw[avN];rfl];refine cy (fun i=>(t,(id,ti,nx,held,marks,inbox,()),(0,0,0,[],[],[],()),vD t held,(marks.take i).filter (fun x=>decide (t < x.mu)),(i:Int),())) marks.length (fun i hi=> ?_) (by simp[pB]);have hx:=auO hi;have hr:=Dz (l:=marks) (f:=fun x=>decide (t < x.mu)) (i:=i);unfold pB;simp only[ak hi,bD hi,eP,vM hx,aA hi (by omega:marks.length≤9223372036854775807),Aj hx,auZ,avf,avV,aH (show((marks.take i).filter (fun x=>decide (t < x.mu))).length+1≤4294967296 by omega)];by_cases hc:t < marks[i].mu<;>simp[hc]
 unfold ru;simp only[h0,h1,c8]
def zf(l:List anz)(i:Nat):List anz:=l.take i++l.drop (i+1)
def U7{l:List anz}{i:Nat}(hl:l.length≤1048576)(hi:i < l.length):kb (l,(i:Int),())=some ((zf l i,()),()):=by
 unfold kb;have h1:(decide (0≤(i:Int))&&decide ((i:Int)≤(l.length:Int)))=true:=by simp;omega
 have h2:(decide (0≤((i+1:Nat):Int))&&decide (((i+1:Nat):Int)≤(l.length:Int)))=true:=by simp;omega
 simp only[aA hi (by omega:l.length≤9223372036854775807),h1,h2,auy,auV,avR,avf,avV,avv,avy];rw[aus (aH (by omega)),aus (aH (by omega))];rfl
end Go.VS
namespace Go.VS
open Go
def B_L(s:auB):B (L s)=s:=qR rfl
def l7(l:List UInt8):Prop:= ∀ b∈l,b≠32
def o6: ∀ (l:List UInt8),l7 l∨ ∃ w r,l7 w∧l=w++32::r
 | []=> .inl (fun _ h=>by cases h)
 | b::l=>by
  by_cases h:b=32
  ·exact .inr ⟨[],l,(fun _ h=>by cases h),by rw[h];rfl⟩
  ·rcases o6 l with h1 | ⟨w,r,h1,h2⟩
   ·refine .inl (fun x hx=> ?_);rcases au5.1 hx with rfl | hx
    ·exact h
    ·exact h1 x hx
   ·refine .inr ⟨b::w,r,fun x hx=> ?_,by rw[h2];rfl⟩;rcases au5.1 hx with rfl | hx
    ·exact h
    ·exact h1 x hx
def U4: ∀ {l:List UInt8},l7 l→Lib.index l [32]= -1
 | [],_=>rfl
 | b::l,h=>by
  rw[Lib.index_one];unfold Lib.indexByte;have h1:=h b auM;rw[aur (by simpa using h1),← Lib.index_one,U4 (fun x hx=>h x (auJ _ hx))];rfl
def U5: ∀ {w r:List UInt8},l7 w→Lib.index (w++32::r) [32]=w.length
 | [],r,_=>by rw[Lib.index_one];rfl
 | b::w,r,h=>by
  rw[Lib.index_one,awM];unfold Lib.indexByte;have h1:=h b auM;rw[aur (by simpa using h1),← Lib.index_one,U5 (fun x hx=>h x (auJ _ hx)),aur (by simp)];simp
def amU{l:List UInt8}(h:l7 l):awQ l [32]=(l,[],false):=by
 unfold awQ;rw[U4 h,aur (by omega)]
def amV{w r:List UInt8}(h:l7 w):awQ (w++32::r) [32]=(w,r,true):=by
 unfold awQ;rw[U5 h,aus (by omega)];simp
def ajL{s:auB}(hs:s.size≤1048576)(h:l7 (L s)):oY (s,B [32],())=some ((s,noB,false,()),()):=by
 show aen _=_;unfold aen;rw[aus (by show s.size < _;omega)];show some ((B (awQ (L s) [32]).1,B (awQ (L s) [32]).2.1,(awQ (L s) [32]).2.2,()),())=_;rw[amU h];show some ((B (L s),noB,false,()),())=_;rw[B_L]
def ajM{s:auB}{w r:List UInt8}(hs:s.size≤1048576)(h:l7 w)(e:L s=w++32::r):oY (s,B [32],())=some ((B w,B r,true,()),()):=by
 show aen _=_;unfold aen;rw[aus (by show s.size < _;omega)];show some ((B (awQ (L s) [32]).1,B (awQ (L s) [32]).2.1,(awQ (L s) [32]).2.2,()),())=_;rw[e,amV h]
def ajU{s:auB}{i:Nat}:decide (bt s i=32)=decide ((L s).getD i 0=32):=by
 rw[decide_eq_decide,y0];exact⟨fun h=>axz.1 (by show _=32;omega),fun h=>by rw[h];rfl⟩
def Yr{s:auB}(hs:s.size≤1048576):rj (s,0,())=some (if qP s.size (fun i=>decide (bt s i=32)) < 0 then .inr (s,()) else
  .inl (s.extract 0 (qP s.size (fun i=>decide (bt s i=32))).toNat,s.extract ((qP s.size (fun i=>decide (bt s i=32))).toNat+1) s.size,())):=
 uy (fun i=>(s,(i:Int),())) s.size (fun i=>decide (bt s i=32)) (fun i=>(s.extract 0 i.toNat,s.extract (i.toNat+1) s.size,())) (s,()) (fun i hi=>by
  have h1:(decide (0≤(i:Int))&&decide ((i:Int)≤(s.size:Int)))=true:=by simp;omega
  have h2:(decide (0≤((i+1:Nat):Int))&&decide (((i+1:Nat):Int)≤(s.size:Int)))=true:=by simp;omega
  unfold rk;simp only[ak hi,bD hi,aA hi (by omega:s.size≤9223372036854775807),h1,h2,auy,auV];cases decide (bt s i=32)<;>rfl) (by simp[rk])
def ajr{n:Nat}{p:Nat→Bool}(h: ∀ i,i < n→p i=false):qP n p= -1:=by
 rcases bZ n p with⟨h1,_⟩ | ⟨i,h1,h2,h3,_⟩
 ·exact h1
 ·rw[h i h2]at h3;cases h3
def acx{n i:Nat}{p:Nat→Bool}(hi:i < n)(hp:p i=true)(h: ∀ j,j < i→p j=false):qP n p=i:=by
 rcases bZ n p with⟨_,h1⟩ | ⟨j,h1,h2,h3,h4⟩
 ·rw[h1 i hi]at hp;cases hp
 ·rcases awl i j with h5 | h5 | h5
  ·rw[h4 i h5]at hp;cases hp
  ·rw[h1,h5]
  ·rw[h j h5]at h3;cases h3
def aji{w r:List UInt8}{b:UInt8}:(w++b::r).getD w.length 0=b:=by simp
def ae9{w r:List UInt8}{j:Nat}(h:j < w.length):(w++r).getD j 0∈w:=by
 rw[auQ,avQ h,auO h];exact avm h
def ajh{l:List UInt8}{j:Nat}(h:j < l.length):l.getD j 0∈l:=by
 rw[auQ,auO h];exact avm h
def afz{s:auB}(hs:s.size≤1048576)(h:l7 (L s)):gn (s,())=some ((s,noB,()),()):=by
 unfold gn;simp only[Yr hs];rw[ajr (fun i hi=>by rw[ajU];simpa using h _ (ajh (by rw[ba];exact hi)))];rfl
def afA{s:auB}{w r:List UInt8}(hs:s.size≤1048576)(h:l7 w)(e:L s=w++32::r):gn (s,())=some ((B w,B r,()),()):=by
 have hl:s.size=w.length+1+r.length:=by
  have:=congrArg awX e;rw[ba]at this;simp at this;omega
 unfold gn;simp only[Yr hs];rw[acx (i:=w.length) (by omega) (by rw[ajU,e,aji];rfl) (fun j hj=>by rw[ajU,e];simpa using h _ (ae9 hj)),aur (by omega)];have e1:s.extract 0 w.length=B w:=qR (by rw[kB,e,L_B];simp);have e2:s.extract (w.length+1) s.size=B r:=qR (by rw[kB,e,L_B,hl,show w++32::r=(w++[32])++r by simp,axA (by simp),show w.length+1+r.length - (w.length+1)=r.length by omega,avN]);simp only[Bo,auV,e1,e2]
def wr(n:anz):auB:=((((((((cZ n.fr++B [32])++cZ n.nu)++B [32])++cZ n.to)++B [32])++cZ n.un)++B [32])++n.tx)
def wrL(n:anz):List UInt8:=Lib.itoa n.fr++32::(Lib.itoa n.nu++32::(Lib.itoa n.to++32::(Lib.itoa n.un++32::L n.tx)))
def WY(n:Int):L (cZ n)=Lib.itoa n:=rfl
def ahD(n:anz):L (wr n)=wrL n:=by
 unfold wr wrL;simp only[ua,WY,L_B,au2,awM,avR]
def adS{n:Int}{k:Nat}(h0:0≤n)(h1:n < 10 ^ k)(hk:1≤k):Lib.itoa n=dcm n.toNat∧(Lib.itoa n).length≤k:=by
 obtain⟨u,rfl⟩:=avL h0;rw[j9];refine⟨rfl,vl k u hk ?_⟩;have:((10 ^ k:Nat):Int)=(10:Int) ^ k:=by simp
 omega
structure aoD (n:anz):Prop where
 f0:0≤n.fr
 f1:n.fr≤3
 t0:0≤n.to
 t1:n.to≤3
 n0:1≤n.nu
 n1:n.nu≤99
 u0:1≤n.un
 u1:n.un≤999
 s0:1≤n.tx.size
 s1:n.tx.size≤24
def mz{n:anz}(h:ay n=true):aoD n:=by
 unfold ay Tk at h;simp only[auF,ah]at h;obtain⟨⟨a,b⟩,⟨c,d⟩,⟨e,f⟩,⟨g,i⟩,⟨j,k⟩,_⟩:=h;exact⟨a,b,c,d,e,f,g,i,by omega,by omega⟩
def dQ{n:Int}{k:Nat}(h0:0≤n)(h1:n < 10 ^ k)(hk:1≤k):(cZ n).size≤k:=(adS h0 h1 hk).2
def ke{fr nu tt un:Int}{tx:auB}(hs:tx.size≤1048576):dm ((fr,nu,tt,un,tx,()),())=some ((if ay ⟨fr,nu,tt,un,tx⟩ then wr ⟨fr,nu,tt,un,tx⟩ else noB,()),()):=by
 unfold dm;simp only[vf hs,auE];rcases tf (ay ⟨fr,nu,tt,un,tx⟩) with h | h
 ·have hf:=mz h;obtain⟨f0,f1,t0,t1,n0,n1,u0,u1,s0,s1⟩:=hf;simp only at f0 f1 t0 t1 n0 n1 u0 u1 s0 s1;have a1:=dQ (n:=fr) (k:=1) f0 (by omega) (by omega);have a2:=dQ (n:=nu) (k:=2) (by omega) (by omega) (by omega);have a3:=dQ (n:=tt) (k:=1) t0 (by omega) (by omega);have a4:=dQ (n:=un) (k:=3) (by omega) (by omega) (by omega);have b:(B [32]).size=1:=rfl;simp only[h,auG,auD,ux (n:=fr) (by omega) (by omega),ux (n:=nu) (by omega) (by omega),ux (n:=tt) (by omega) (by omega),ux (n:=un) (by omega) (by omega),auE,aB,b]
  repeat rw[aus (by rw[decide_eq_true_eq];omega)]
  rfl
 ·simp only[h,auH,auy,auD]
def gv{fr nu tt un:Int}{tx:auB}(hs:tx.size≤1048576):cj ((fr,nu,tt,un,tx,()),())=some ((if ay ⟨fr,nu,tt,un,tx⟩ then wr ⟨fr,nu,tt,un,tx⟩ else noB,()),()):=by
 unfold cj;simp only[AB hs,auE];rcases tf (ay ⟨fr,nu,tt,un,tx⟩) with h | h
 ·have hf:=mz h;obtain⟨f0,f1,t0,t1,n0,n1,u0,u1,s0,s1⟩:=hf;simp only at f0 f1 t0 t1 n0 n1 u0 u1 s0 s1;have a1:=dQ (n:=fr) (k:=1) f0 (by omega) (by omega);have a2:=dQ (n:=nu) (k:=2) (by omega) (by omega) (by omega);have a3:=dQ (n:=tt) (k:=1) t0 (by omega) (by omega);have a4:=dQ (n:=un) (k:=3) (by omega) (by omega) (by omega);have b:(B [32]).size=1:=rfl;simp only[h,auG,auD,bB (n:=fr) (by omega) (by omega),bB (n:=nu) (by omega) (by omega),bB (n:=tt) (by omega) (by omega),bB (n:=un) (by omega) (by omega),auE,aB,b]
  repeat rw[aus (by rw[decide_eq_true_eq];omega)]
  rfl
 ·simp only[h,auH,auy,auD]
def acK:List UInt8→Option (List UInt8×List UInt8)
 | []=>none
 | b::l=>if b=32 then some ([],l) else(acK l).map fun p=>(b::p.1,p.2)
def NJ: ∀ {l:List UInt8},l7 l→acK l=none
 | [],_=>rfl
 | b::l,h=>by
  unfold acK;rw[aur (h b auM),NJ (fun x hx=>h x (auJ _ hx))];rfl
def NK: ∀ {w r:List UInt8},l7 w→acK (w++32::r)=some (w,r)
 | [],r,_=>rfl
 | b::w,r,h=>by
  rw[awM];unfold acK;rw[aur (h b auM),NK (fun x hx=>h x (auJ _ hx))];rfl
def wd(s:auB):auB×auB:=match acK (L s) with
 | some p=>(B p.1,B p.2)
 | none=>(s,noB)
def aa8{s:auB}(h:l7 (L s)):wd s=(s,noB):=by unfold wd;rw[NJ h]
def IP{s:auB}{w r:List UInt8}(h:l7 w)(e:L s=w++32::r):wd s=(B w,B r):=by unfold wd;rw[e,NK h]
def Lm(s:auB):(wd s).1.size≤s.size∧(wd s).2.size≤s.size:=by
 rcases o6 (L s) with h | ⟨w,r,h,e⟩
 ·rw[aa8 h];exact⟨auS _,avM _⟩
 ·rw[IP h e];have:=congrArg awX e;rw[ba]at this;simp at this;rw[aW,aW];exact⟨by show w.length≤_;omega,by show r.length≤_;omega⟩
def ahM{s:auB}(hs:s.size≤1048576):gn (s,())=some (((wd s).1,(wd s).2,()),()):=by
 rcases o6 (L s) with h | ⟨w,r,h,e⟩
 ·rw[aa8 h,afz hs h]
 ·rw[IP h e,afA hs h e]
def anh{s:auB}(hs:s.size≤1048576):oY (s,B [32],())=some (((wd s).1,(wd s).2,(acK (L s)).isSome,()),()):=by
 rcases o6 (L s) with h | ⟨w,r,h,e⟩
 ·rw[aa8 h,ajL hs h,NJ h];rfl
 ·rw[IP h e,ajM hs h e,e,NK h];rfl
def jP(s:auB):Nat→auB
 | 0=>s
 | i+1=>(wd (jP s i)).2
def aF(s:auB)(i:Nat):auB:=(wd (jP s i)).1
def C1(s:auB): ∀ i,(jP s i).size≤s.size
 | 0=>auS _
 | i+1=>avr (Lm (jP s i)).2 (C1 s i)
def ac3(s:auB)(i:Nat):(aF s i).size≤s.size:=avr (Lm _).1 (C1 s i)
def aiG{s:auB}{n:Nat}(hs:s.size≤1048576)(hn:n≤10):iU (s,(n:Int),())=some (((au9 n).map (fun i=>bh (aF s i)),jP s n,()),()):=by
 have h:rm (s,(n:Int),[],0,())=some (.inr (jP s n,(au9 n).map (fun i=>bh (aF s i)),())):=by
  refine cy (fun i=>(jP s i,(n:Int),(au9 i).map (fun i=>bh (aF s i)),(i:Int),())) n (fun i hi=> ?_) (by simp[rn]);have h1:=C1 s i;have h2:=ac3 s i;unfold rn;simp only[bD hi,ahM (show(jP s i).size≤1048576 by omega),auE,auy,CR (show(wd (jP s i)).1.size≤9223372036854775807 by have:=(Lm (jP s i)).1;omega),
   avK,List.length_range,auZ,avf,avV,aH (show i+1≤4294967296 by omega),aA hi (by omega:n≤9223372036854775807),awP,avS,avJ,awZ]
  rfl
 unfold iU;simp only[h,c8]
def Ui{ws:List auB}(hl:ws.length≤1048577)(hw: ∀ w∈ws,w.size≤1048576):
  ik (ws,())=some ((if dp ws.length (fun i=>(bC (ws.getD i noB)).2) then(ws.map (fun w=>(bC w).1),true,()) else([],false,())),()):=by
 have h:oR ([],ws,(ws.length:Int),0,())=some (if dp ws.length (fun i=>(bC (ws.getD i noB)).2) then .inr (ws.map (fun w=>(bC w).1),()) else .inl ([],false,())):=by
  rw[show ws.map (fun w=>(bC w).1)=(ws.take ws.length).map (fun w=>(bC w).1) by rw[avN]];refine O5 (fun i=>((ws.take i).map (fun w=>(bC w).1),ws,(ws.length:Int),(i:Int),())) ws.length (fun i=>(bC (ws.getD i noB)).2) ([],false,()) ((ws.take ws.length).map (fun w=>(bC w).1),()) (fun i hi _=> ?_) (fun _=>by simp[nX]);have hx:=auO hi;have hs:=hw _ (avm hi);unfold nX;simp only[ak hi,bD hi,Kc,HQ hx,sx (show ws[i].size≤9223372036854775807 by omega),auE,avK,avv,auZ,avf,avV,
   aH (show min i ws.length+1≤4294967296 by omega),aA hi (by omega:ws.length≤9223372036854775807)]
  rw[← Hx hx,avS];rcases tf (bC ws[i]).2 with h | h<;>simp[h]
 unfold ik;simp only[h];cases dp ws.length (fun i=>(bC (ws.getD i noB)).2)<;>rfl
def lJ{w r:List UInt8}{k:Nat}(h:l7 w):Lib.splitK [32] 0 (k+1) (w++32::r)=w::Lib.splitK [32] 0 k r:=by
 conv=>lhs;unfold Lib.splitK
 rw[U5 h,aur (by simp)];show(w++32::r).take (w.length+0)::Lib.splitK [32] 0 k ((w++32::r).drop (w.length+1))=_;rw[awR,axw rfl,show w++32::r=(w++[32])++r by simp,axA (by simp)]
def Hw{l:List UInt8}{k:Nat}(h:l7 l):Lib.splitK [32] 0 k l=[l]:=by
 cases k with
 | zero=>rfl
 | succ k=>
  unfold Lib.splitK;rw[U4 h];rfl
def join:List (List UInt8)→List UInt8
 | []=>[]
 | [x]=>x
 | x::y::l=>x++32::join (y::l)
def afW(k:Nat)(l:List UInt8): ∃ x m,Lib.splitK [32] 0 k l=x::m:=by
 cases k with
 | zero=>exact⟨l,[],rfl⟩
 | succ k=>
  rcases o6 l with h | ⟨w,r,h,rfl⟩
  ·exact⟨l,[],Hw h⟩
  ·exact⟨w,_,lJ h⟩
def Fj: ∀ (k:Nat) (l:List UInt8),join (Lib.splitK [32] 0 k l)=l
 | 0,_=>rfl
 | k+1,l=>by
  rcases o6 l with h | ⟨w,r,h,rfl⟩
  ·rw[Hw h];rfl
  ·rw[lJ h];have ih:=Fj k r;obtain⟨x,m,e⟩:=afW k r;rw[e]at ih ⊢;show w++32::join (x::m)=_;rw[ih]
def am7{ps:List auB}{ls:List (List UInt8)}(h:ps.map (·.data.toList)=ls):ps=ls.map B:=by
 subst h;rw[awK]
 conv=>lhs;rw[← azu ps]
 exact av0 fun s _=>(B_L s).symm
def abq(k:Nat)(s:auB):Lib.splitB (B [32]) 0 k s=(Lib.splitK [32] 0 k (L s)).map B:=am7 (Lib.splitB_data (B [32]) 0 k s)
def akk{s:auB}(hs:s.size≤1048576):pq (s,B [32],())=some (((Lib.splitK [32] 0 ((L s).count 32) (L s)).map B,()),()):=by
 show Tu _=_;unfold Tu;rw[aus ⟨by show s.size < _;omega,by show 1≤1;omega⟩];show some ((Lib.splitB (B [32]) 0 (Lib.count (L s) [32]) s,()),())=_;rw[abq,Lib.count_one]
def aia{s:auB}(hs:s.size≤1048576):ub (s,B [32],5,())=some (((Lib.splitK [32] 0 (min 5 (s.size+1) - 1) (L s)).map B,()),()):=by
 show Lw _=_;unfold Lw;rw[aus ⟨by show s.size < _;omega,by show 1≤1;omega,by show(1:Int)≤5;omega,by show(5:Int)≤_;omega⟩];show some ((Lib.splitB (B [32]) 0 (min 5 (s.size+1) - 1) s,()),())=_;rw[abq]
def aiM(u:Nat):l7 (dcm u):=fun b hb h=>by
 have:=ah.1 (S7 (u+1) u (by omega) b hb);subst h;simp at this
def eA{n:Int}(h0:0≤n):l7 (Lib.itoa n):=by
 obtain⟨u,rfl⟩:=avL h0;rw[j9];exact aiM u
def ou{n:Int}(h0:0≤n)(h1:n < 10000):bh (B (Lib.itoa n))=n:=by
 obtain⟨u,rfl⟩:=avL h0;rw[j9];exact Vz (by rw[aW];exact vl 4 u (by omega) (by omega)) (L_B _)
def gx{n:Int}(h0:0≤n)(h1:n < 100000):bC (B (Lib.itoa n))=(n,true):=by
 obtain⟨u,rfl⟩:=avL h0;rw[j9];exact OB (by rw[aW];exact vl 5 u (by omega) (by omega)) (L_B _)
open Classical in
def dt (s:auB):Option anz:=if h: ∃ n,ay n=true∧wr n=s then some (axs h) else none
def po{s t:auB}{x:Int}{r:List UInt8}(h:wd s=(B (Lib.itoa x),B r)):(wd s).1=B (Lib.itoa x)∧L (wd s).2=r:=by rw[h];exact⟨rfl,rfl⟩
def Tg{n:anz}(hf:aoD n){s:auB}(e:L s=wrL n):aF s 0=B (Lib.itoa n.fr)∧aF s 1=B (Lib.itoa n.nu)∧aF s 2=B (Lib.itoa n.to)∧aF s 3=B (Lib.itoa n.un)∧jP s 4=n.tx:=by
 obtain⟨f0,f1,t0,t1,n0,n1,u0,u1,s0,s1⟩:=hf;unfold wrL at e;have e0:=IP (eA f0) e;have c1:L (jP s 1)=_:=(po (t:=s) e0).2;have e1:=IP (eA (show 0≤n.nu by omega)) c1;have c2:L (jP s 2)=_:=(po (t:=s) e1).2;have e2:=IP (eA t0) c2;have c3:L (jP s 3)=_:=(po (t:=s) e2).2;have e3:=IP (eA (show 0≤n.un by omega)) c3;have c4:L (jP s 4)=_:=(po (t:=s) e3).2;exact⟨(po (t:=s) e0).1,(po (t:=s) e1).1,(po (t:=s) e2).1,(po (t:=s) e3).1,qR c4⟩
def ahI{n:anz}(hf:aoD n):aF (wr n) 0=B (Lib.itoa n.fr)∧aF (wr n) 1=B (Lib.itoa n.nu)∧aF (wr n) 2=B (Lib.itoa n.to)∧aF (wr n) 3=B (Lib.itoa n.un)∧jP (wr n) 4=n.tx:=Tg hf (ahD n)
def aiI{n m:anz}(h1:n.fr=m.fr)(h2:n.nu=m.nu)(h3:n.to=m.to)(h4:n.un=m.un)(h5:n.tx=m.tx):n=m:=by
 cases n;cases m;simp only at h1 h2 h3 h4 h5;subst h1 h2 h3 h4 h5;rfl
def MF{x y:Int}(h0:0≤x)(h1:x < 10000)(h2:0≤y)(h3:y < 10000)(h:B (Lib.itoa x)=B (Lib.itoa y)):x=y:=by
 rw[← ou h0 h1,← ou h2 h3,h]
def al4{n m:anz}(hn:ay n=true)(hm:ay m=true)(h:wr n=wr m):n=m:=by
 have fn:=mz hn;have fm:=mz hm;have a:=Tg fn (s:=wr n) (ahD n);have b:=Tg fm (s:=wr n) (by rw[h];exact ahD m);clear h hn hm;generalize wr n=s at a b;obtain⟨a0,a1,a2,a3,a4⟩:=a;obtain⟨b0,b1,b2,b3,b4⟩:=b;obtain⟨f0,f1,t0,t1,n0,n1,u0,u1,s0,s1⟩:=fn;obtain⟨g0,g1,v0,v1,m0,m1,w0,w1,z0,z1⟩:=fm;exact aiI (MF (by omega) (by omega) (by omega) (by omega) (a0.symm.trans b0)) (MF (by omega) (by omega) (by omega) (by omega) (a1.symm.trans b1)) (MF (by omega) (by omega) (by omega) (by omega) (a2.symm.trans b2))
  (MF (by omega) (by omega) (by omega) (by omega) (a3.symm.trans b3)) (a4.symm.trans b4)
def xB{n:anz}(h:ay n=true):dt (wr n)=some n:=by
 unfold dt;have hex: ∃ m,ay m=true∧wr m=wr n:=⟨n,h,rfl⟩;rw[dif_pos hex];have:=av9 hex;rw[al4 this.1 h this.2]
def eG{s:auB}{n:anz}(h:dt s=some n):ay n=true∧wr n=s:=by
 unfold dt at h;split at h
 ·rename_i hex;cases h;exact av9 hex
 ·cases h
def ZH{n:anz}(hf:aoD n):9≤(wr n).size:=by
 obtain⟨f0,f1,t0,t1,n0,n1,u0,u1,s0,s1⟩:=hf;have h: ∀ {x:Int},0≤x→1≤(Lib.itoa x).length:=fun {x} h0=>by
  obtain⟨u,rfl⟩:=avL h0;rw[j9];exact List.length_pos_iff.2 (aek u)
 rw[← ba,ahD];unfold wrL;have a:=h f0;have b:=h (show 0≤n.nu by omega);have c:=h t0;have d:=h (show 0≤n.un by omega);have e:(L n.tx).length=n.tx.size:=rfl;simp only[auP,auZ];omega
def abT(o:Option anz):(Int×Int×Int×Int×auB×auC)×Bool×auC:=match o with
 | some n=>((n.fr,n.nu,n.to,n.un,n.tx,()),true,())
 | none=>((0,0,0,0,noB,()),false,())
def D1{s:auB}(hs:s.size≤1048576):ie (s,())=some (abT (dt s),()):=by
 unfold ie;have e4:iU (s,4,())=some (([bh (aF s 0),bh (aF s 1),bh (aF s 2),bh (aF s 3)],jP s 4,()),()):=aiG (n:=4) hs (by omega);have hr:=C1 s 4;have i0:inb 0 [bh (aF s 0),bh (aF s 1),bh (aF s 2),bh (aF s 3)].length=true:=rfl;have i1:inb 1 [bh (aF s 0),bh (aF s 1),bh (aF s 2),bh (aF s 3)].length=true:=rfl;have i2:inb 2 [bh (aF s 0),bh (aF s 1),bh (aF s 2),bh (aF s 3)].length=true:=rfl;have i3:inb 3 [bh (aF s 0),bh (aF s 1),bh (aF s 2),bh (aF s 3)].length=true:=rfl;have r0: @rd Int (dfl .int) [bh (aF s 0),bh (aF s 1),bh (aF s 2),bh (aF s 3)] 0=bh (aF s 0):=rfl;have r1: @rd Int (dfl .int) [bh (aF s 0),bh (aF s 1),bh (aF s 2),bh (aF s 3)] 1=bh (aF s 1):=rfl;have r2: @rd Int (dfl .int) [bh (aF s 0),bh (aF s 1),bh (aF s 2),bh (aF s 3)] 2=bh (aF s 2):=rfl;have r3: @rd Int (dfl .int) [bh (aF s 0),bh (aF s 1),bh (aF s 2),bh (aF s 3)] 3=bh (aF s 3):=rfl;simp only[e4,auE,i0,i1,i2,i3,r0,r1,r2,r3,gv (show(jP s 4).size≤1048576 by omega),au4,avd,auy,show ∀ c,aX c true=true from fun c=>rfl];generalize hx:(⟨bh (aF s 0),bh (aF s 1),bh (aF s 2),bh (aF s 3),jP s 4⟩:anz)=x at *;by_cases hc:s≠noB∧(if ay x then wr x else noB)=s
 ·obtain⟨h1,h2⟩:=hc;have hok:ay x=true:=by
   rcases tf (ay x) with h | h
   ·exact h
   ·rw[h]at h2;exact absurd h2.symm h1
  rw[hok]at h2;simp only[auy]at h2;rw[aur (by simp[h1,hok,h2]),← h2,xB hok];subst hx;simp only[h2];rfl
 ·rw[aus (by
   by_cases h1:s=noB
   ·simp[h1]
   ·have h2: ¬ (if ay x then wr x else noB)=s:=fun h=>hc ⟨h1,h⟩;simp[h1,h2])]
  cases h:dt s with
  | none=>rfl
  | some n=>
   exfalso;obtain⟨h1,h2⟩:=eG h;have hf:=mz h1;obtain⟨a0,a1,a2,a3,a4⟩:=ahI hf;have hsz:=ZH hf;obtain⟨f0,f1,t0,t1,n0,n1,u0,u1,s0,s1⟩:=hf;rw[h2]at a0 a1 a2 a3 a4;rw[a0,a1,a2,a3,a4,ou (by omega) (by omega),ou (by omega) (by omega),ou (by omega) (by omega),ou (by omega) (by omega)]at hx;have hx:n=x:=hx;subst hx;refine hc ⟨fun e=> ?_,by rw[h1];exact h2⟩;rw[h2,e]at hsz;exact absurd hsz (by decide)
def afV{n:anz}(hf:aoD n):Lib.splitK [32] 0 4 (wrL n)=[Lib.itoa n.fr,Lib.itoa n.nu,Lib.itoa n.to,Lib.itoa n.un,L n.tx]:=by
 obtain⟨f0,f1,t0,t1,n0,n1,u0,u1,s0,s1⟩:=hf;unfold wrL;rw[lJ (eA f0),lJ (eA (by omega)),lJ (eA t0),lJ (eA (by omega))];rfl
def Fh: ∀ (k:Nat) (l:List UInt8),∀ p∈Lib.splitK [32] 0 k l,p.length≤l.length
 | 0,l,p,hp=>by
  obtain rfl:=avh.1 hp;exact auS _
 | k+1,l,p,hp=>by
  rcases o6 l with h | ⟨w,r,h,rfl⟩
  ·rw[Hw h]at hp;obtain rfl:=avh.1 hp;exact auS _
  ·rw[lJ h]at hp;rcases au5.1 hp with rfl | hp
   ·simp
   ·have:=Fh k r p hp;simp;omega
def JV: ∀ (k:Nat) (l:List UInt8),(Lib.splitK [32] 0 k l).length≤k+1
 | 0,l=>auS _
 | k+1,l=>by
  rcases o6 l with h | ⟨w,r,h,rfl⟩
  ·rw[Hw h];simp
  ·rw[lJ h];have:=JV k r;simp;omega
def RG{s:auB}(hs:s.size≤1048576):lA (s,())=some (abT (dt s),()):=by
 unfold lA;simp only[aia hs,auE];generalize hk:min 5 (s.size+1) - 1=k;have hsz:=Fh k (L s);have hln:=JV k (L s);have hwr: ∀ n,dt s=some n→Lib.splitK [32] 0 k (L s)=[Lib.itoa n.fr,Lib.itoa n.nu,Lib.itoa n.to,Lib.itoa n.un,L n.tx]:=fun n hn=>by
  obtain⟨h1,h2⟩:=eG hn;have:=ZH (mz h1);rw[h2]at this;obtain rfl:k=4:=by omega
  rw[← h2,ahD];exact afV (mz h1)
 generalize Lib.splitK [32] 0 k (L s)=ps at *;by_cases h5:ps.length=5
 ·match ps,h5 with
  | [p0,p1,p2,p3,p4],_=>
   have hb: ∀ p∈[p0,p1,p2,p3,p4],(B p).size≤1048576:=fun p hp=>by
    have:=hsz p hp;rw[ba]at this;rw[aW];omega
   have e5:(!decide (((([p0,p1,p2,p3,p4]:List (List UInt8)).map B).length:Int)=5))=false:=rfl;have e6:(decide (0≤4)&&decide ((4:Int)≤((([p0,p1,p2,p3,p4]:List (List UInt8)).map B).length:Int)))=true:=rfl;have e7:au3 (auK 4) (([p0,p1,p2,p3,p4]:List (List UInt8)).map B)=[B p0,B p1,B p2,B p3]:=rfl;simp only[e5,e6,e7,auy,auD];rw[Ui (by simp) (fun w hw=>by
    simp only[au5,ayL,or_false]at hw;rcases hw with rfl | rfl | rfl | rfl
    ·exact hb p0 (by simp)
    ·exact hb p1 (by simp)
    ·exact hb p2 (by simp)
    ·exact hb p3 (by simp))]
   have asz:dp [B p0,B p1,B p2,B p3].length (fun i=>(bC ([B p0,B p1,B p2,B p3].getD i noB)).2)=((bC (B p0)).2&&((bC (B p1)).2&&((bC (B p2)).2&&((bC (B p3)).2&&true)))):=rfl;rw[asz];rcases tf ((bC (B p0)).2&&((bC (B p1)).2&&((bC (B p2)).2&&((bC (B p3)).2&&true)))) with ha | ha
   ·rw[ha];simp only[auy,auE,auG,auD,avJ,awZ];have i0:inb 0 [(bC (B p0)).1,(bC (B p1)).1,(bC (B p2)).1,(bC (B p3)).1].length=true:=rfl;have i1:inb 1 [(bC (B p0)).1,(bC (B p1)).1,(bC (B p2)).1,(bC (B p3)).1].length=true:=rfl;have i2:inb 2 [(bC (B p0)).1,(bC (B p1)).1,(bC (B p2)).1,(bC (B p3)).1].length=true:=rfl;have i3:inb 3 [(bC (B p0)).1,(bC (B p1)).1,(bC (B p2)).1,(bC (B p3)).1].length=true:=rfl;have i4:inb 4 [B p0,B p1,B p2,B p3,B p4].length=true:=rfl;have r0: @rd Int (dfl .int) [(bC (B p0)).1,(bC (B p1)).1,(bC (B p2)).1,(bC (B p3)).1] 0=(bC (B p0)).1:=rfl;have r1: @rd Int (dfl .int) [(bC (B p0)).1,(bC (B p1)).1,(bC (B p2)).1,(bC (B p3)).1] 1=(bC (B p1)).1:=rfl;have r2: @rd Int (dfl .int) [(bC (B p0)).1,(bC (B p1)).1,(bC (B p2)).1,(bC (B p3)).1] 2=(bC (B p2)).1:=rfl;have r3: @rd Int (dfl .int) [(bC (B p0)).1,(bC (B p1)).1,(bC (B p2)).1,(bC (B p3)).1] 3=(bC (B p3)).1:=rfl;have r4: @rd auB (dfl .str) [B p0,B p1,B p2,B p3,B p4] 4=B p4:=rfl;have hp4:=hb p4 (by simp);simp only[i0,i1,i2,i3,i4,r0,r1,r2,r3,r4,auy,vf hp4,ke hp4,auE,au4,avd,show ∀ c,aX c true=true from fun c=>rfl];generalize hx:(⟨(bC (B p0)).1,(bC (B p1)).1,(bC (B p2)).1,(bC (B p3)).1,B p4⟩:anz)=x at *;by_cases hc:ay x=true∧wr x=s
    ·obtain⟨h1,h2⟩:=hc;rw[aur (by simp[h1,h2]),← h2,xB h1];subst hx;rfl
    ·rw[aus (by
      rcases tf (ay x) with h1 | h1
      ·have h2: ¬ wr x=s:=fun h=>hc ⟨h1,h⟩;simp[h1,h2]
      ·simp[h1])]
     cases h:dt s with
     | none=>rfl
     | some n=>
      exfalso;obtain⟨h1,h2⟩:=eG h;have hf:=mz h1;have hp:=hwr n h;simp only[axx,and_true]at hp;obtain⟨rfl,rfl,rfl,rfl,rfl⟩:=hp;obtain⟨f0,f1,t0,t1,n0,n1,u0,u1,s0,s1⟩:=hf;rw[gx (by omega) (by omega),gx (by omega) (by omega),gx (by omega) (by omega),gx (by omega) (by omega),B_L]at hx;have hx:n=x:=hx;subst hx;exact hc ⟨h1,h2⟩
   ·rw[ha];simp only[auE,auH,auy,auD];cases h:dt s with
    | none=>rfl
    | some n=>
     exfalso;obtain⟨h1,h2⟩:=eG h;have hf:=mz h1;have hp:=hwr n h;simp only[axx,and_true]at hp;obtain⟨rfl,rfl,rfl,rfl,rfl⟩:=hp;obtain⟨f0,f1,t0,t1,n0,n1,u0,u1,s0,s1⟩:=hf;rw[gx (by omega) (by omega),gx (by omega) (by omega),gx (by omega) (by omega),gx (by omega) (by omega)]at ha;cases ha
 ·have e5:(!decide (((ps.map B).length:Int)=5))=true:=by simp;omega
  simp only[e5,auy];cases h:dt s with
  | none=>rfl
  | some n=>
   have:=congrArg awX (hwr n h);simp at this;exact absurd this h5
abbrev KL:=Int×Int×Int×List anz×List Mark×List anz×auC
abbrev tK(k:anE):KL:=(k.id,k.ti,k.nx,k.held,k.marks,k.inbox,())
def anP(r:Option ((KL×Bool×auC)×auC))(o:Option anE):Prop:=match o with
 | some k=>r=some ((tK k,true,()),())
 | none=> ∃ t,r=some ((t,false,()),())
def anP.no{t:KL}:anP (some ((t,false,()),())) none:=⟨t,rfl⟩
def anP.eta{r:Option ((KL×Bool×auC)×auC)}{o:Option anE}(h:anP r o):
  anP (r.bind fun r=>some (((r.1.1.1,r.1.1.2.1,r.1.1.2.2.1,r.1.1.2.2.2.1,r.1.1.2.2.2.2.1,r.1.1.2.2.2.2.2.1,()),r.1.2.1,()),())) o:=by
 cases o with
 | some k=>
  have:r=_:=h;subst this;rfl
 | none=>
  obtain⟨t,rfl⟩:=h;exact⟨t,rfl⟩
def anP.ite{c:Bool}{a b:Option ((KL×Bool×auC)×auC)}{x y:Option anE}(h1:c=true→anP a x)(h2:c=false→anP b y):anP (if c then a else b) (if c then x else y):=by
 cases c
 ·exact h2 rfl
 ·exact h1 rfl
def anP.neg{c:Bool}{t:KL}{b:Option ((KL×Bool×auC)×auC)}{y:Option anE}(h2:c=false→anP b y):anP (if c then some ((t,false,()),()) else b) (if c then none else y):=anP.ite (fun _=>anP.no) h2
def Bl(k:anE)(n:anz):Option anE:=
 if !ay n then none else if decide (n.un≤k.ti) then none else if decide (0≤aP k.held n.fr n.nu) then none else if decide (0≤aP k.inbox n.fr n.nu) then none else if decide (0≤eC k.marks n.fr n.nu) then none else
 if decide (12 < (k.held.length:Int)+k.marks.length+1) then none else
 if decide (n.to=k.id) then some ⟨k.id,k.ti,k.nx,k.held,vR k.marks ⟨n.fr,n.nu,n.un⟩,ka k.inbox n⟩ else some ⟨k.id,k.ti,k.nx,ka k.held n,k.marks,k.inbox⟩
def I7{id ti nx fr nu tt un:Int}{tx:auB}{held:List anz}{marks:List Mark}{inbox:List anz}(sm:anM held marks inbox)(hs:tx.size≤1048576):
  anP (pb ((id,ti,nx,held,marks,inbox,()),(fr,nu,tt,un,tx,()),())) (Bl ⟨id,ti,nx,held,marks,inbox⟩ ⟨fr,nu,tt,un,tx⟩):=by
 have hl:=sm.hl;have ml:=sm.ml;unfold pb Bl;simp only[vf hs,fb sm.hl,fb sm.il,lS sm.ml,vb sm.hl,vb sm.il,AX sm.ml,auE,
  ai (n:=(held.length:Int)+marks.length) (by omega) (by omega),ai (n:=(held.length:Int)+marks.length+1) (by omega) (by omega)]
 exact anP.neg fun _=>anP.neg fun _=>anP.neg fun _=>anP.neg fun _=>anP.neg fun _=>anP.neg fun _=>anP.ite (fun _=>rfl) (fun _=>rfl)
def SY{l:List anz}{n:anz}(h:aP l n.fr n.nu < 0):adA l n=ka l n:=by
 refine Za fun x hx=> ?_;have hne: ¬ (x.fr=n.fr∧x.nu=n.nu):=fun hc=>by
  rcases bZ l.length (fun i=>decide ((nA l i).fr=n.fr)&&decide ((nA l i).nu=n.nu)) with⟨_,h2⟩ | ⟨i,h1,_⟩
  ·obtain⟨j,hj,rfl⟩:=avA hx;have:=h2 j hj;rw[ji (auO hj)]at this;simp[hc.1,hc.2]at this
  ·unfold aP at h;omega
 unfold bef;rw[axg];simp;omega
def TO{l:List Mark}{n:Mark}(h:eC l n.mf n.mn < 0):adB l n=vR l n:=by
 refine Za fun x hx=> ?_;have hne: ¬ (x.mf=n.mf∧x.mn=n.mn):=fun hc=>by
  rcases bZ l.length (fun i=>decide ((mA l i).mf=n.mf)&&decide ((mA l i).mn=n.mn)) with⟨_,h2⟩ | ⟨i,h1,_⟩
  ·obtain⟨j,hj,rfl⟩:=avA hx;have:=h2 j hj;rw[vM (auO hj)]at this;simp[hc.1,hc.2]at this
  ·unfold eC at h;omega
 unfold bef;rw[axg];simp;omega
def Qt{id ti nx fr nu tt un:Int}{tx:auB}{held:List anz}{marks:List Mark}{inbox:List anz}(sm:anM held marks inbox)(hs:tx.size≤1048576):
  anP (mR ((id,ti,nx,held,marks,inbox,()),(fr,nu,tt,un,tx,()),())) (Bl ⟨id,ti,nx,held,marks,inbox⟩ ⟨fr,nu,tt,un,tx⟩):=by
 have hl:=sm.hl;have ml:=sm.ml;have aqe:pG ((id,ti,nx,held,marks,inbox,()),(fr,nu,tt,un,tx,()),())=
   some ((ay ⟨fr,nu,tt,un,tx⟩&&(decide (ti < un)&&(decide (aP held fr nu < 0)&&(decide (eC marks fr nu < 0)&&decide (aP inbox fr nu < 0)))),()),()):=by
  unfold pG;simp only[AB hs,cD sm.hl,cD sm.il,jK sm.ml,auE,au4,avd,show ∀ c,aX c true=true from fun c=>rfl,auy];rcases tf (ay ⟨fr,nu,tt,un,tx⟩) with h1 | h1<;>rcases tf (decide (ti < un)) with h2 | h2<;>rcases tf (decide (aP held fr nu < 0)) with h3 | h3<;>simp only[h1,h2,h3,auy,auD,auN,auL]
 unfold mR Bl;have aok:=mq (l:=held) (fr:=fr) (nu:=nu) (tt:=tt) (un:=un) (tx:=tx) sm.hl;have ap5:=mq (l:=inbox) (fr:=fr) (nu:=nu) (tt:=tt) (un:=un) (tx:=tx) sm.il;have ar9:=rv (l:=marks) (mf:=fr) (mn:=nu) (mu:=un) sm.ml;simp only[aqe,aok,ap5,ar9,auE];rcases tf (ay ⟨fr,nu,tt,un,tx⟩) with h1 | h1
 ·rcases sb un ti with h2 | h2
  ·simp only[h1,h2,auz,auA,auN,auL,auH,auG,auy,auD];exact anP.no
  ·rcases sgn (aP held fr nu) with h3 | h3
   ·rcases sgn (eC marks fr nu) with h4 | h4
    ·rcases sgn (aP inbox fr nu) with h5 | h5
     ·have q1:aP held fr nu < 0:=of_eq_true h3.1;have q2:eC marks fr nu < 0:=of_eq_true h4.1;have q3:aP inbox fr nu < 0:=of_eq_true h5.1;have lN:=ql (fun x:anz=>bef x.fr x.nu fr nu) held ⟨fr,nu,tt,un,tx⟩;have lM:=ql (fun x:Mark=>bef x.mf x.mn fr nu) marks ⟨fr,nu,un⟩;have eN:adA held ⟨fr,nu,tt,un,tx⟩=ka held ⟨fr,nu,tt,un,tx⟩:=SY q1;have eI:adA inbox ⟨fr,nu,tt,un,tx⟩=ka inbox ⟨fr,nu,tt,un,tx⟩:=SY q3;have eM:adB marks ⟨fr,nu,un⟩=vR marks ⟨fr,nu,un⟩:=TO q2;have l1:((ka held ⟨fr,nu,tt,un,tx⟩).length:Int)=held.length+1:=by unfold ka;rw[lN];omega
      have l2:((vR marks ⟨fr,nu,un⟩).length:Int)=marks.length+1:=by unfold vR;rw[lM];omega
      simp only[h1,h2,h3,h4,h5,eN,eI,eM,l1,l2,auz,auA,auN,auG,auD,
       ai (n:=(held.length:Int)+1+marks.length) (by omega) (by omega),ai (n:=(held.length:Int)+(marks.length+1)) (by omega) (by omega)]
      rcases sb ((held.length:Int)+marks.length+1) 12 with h6 | h6
      ·have a1:decide ((held.length:Int)+1+marks.length≤12)=true:=by have:=of_eq_true h6.1;simp;omega
       have a2:decide ((held.length:Int)+(marks.length+1)≤12)=true:=by have:=of_eq_true h6.1;simp;omega
       simp only[a1,a2,h6,auA,auD];by_cases h7:tt=id
       ·simp only[h7,auz,auG,auD,auy];rfl
       ·simp only[h7,auA,auH,auD,auy];rfl
      ·have a1:decide ((held.length:Int)+1+marks.length≤12)=false:=by have:=of_eq_true h6.2;simp;omega
       have a2:decide ((held.length:Int)+(marks.length+1)≤12)=false:=by have:=of_eq_true h6.2;simp;omega
       simp only[a1,a2,h6,auz,auy];by_cases h7:tt=id
       ·simp only[h7,auz,auG,auD];exact anP.no
       ·simp only[h7,auA,auH,auy];exact anP.no
     ·simp only[h1,h2,h3,h4,h5,auz,auA,auN,auL,auH,auG,auy,auD];exact anP.no
    ·simp only[h1,h2,h3,h4,auz,auA,auN,auL,auH,auG,auy,auD,ite_self];exact anP.no
   ·simp only[h1,h2,h3,auz,auA,auN,auL,auH,auG,auy,auD];exact anP.no
 ·simp only[h1,auL,auH,auy];exact anP.no
abbrev kE:auB:=B [116,105,109,101]
abbrev mg:auB:=B [110,101,120,116]
abbrev tH:auB:=B [111,119,110]
abbrev kF:auB:=B [116,97,107,101]
abbrev kG:auB:=B [104,101,108,100]
abbrev fP:auB:=B [105,110,98,111,120]
abbrev jk:auB:=B [108,101,116]
abbrev nG:auB:=B [101,97,116]
abbrev fX:auB:=B [109,97,114,107]
def Ma(k:anE)(w:auB)(n:Int):Option anE:=
 if decide (w=kE)&&decide (k.ti < n) then some ⟨k.id,n,k.nx,vD n k.held,FH n k.marks,k.inbox⟩ else if decide (w=mg)&&decide (k.nx < n) then some ⟨k.id,k.ti,n,k.held,k.marks,k.inbox⟩ else none
def aay{id ti nx n:Int}{w:auB}{held:List anz}{marks:List Mark}{inbox:List anz}(sm:anM held marks inbox):
  anP (sO ((id,ti,nx,held,marks,inbox,()),w,n,())) (Ma ⟨id,ti,nx,held,marks,inbox⟩ w n):=by
 unfold sO Ma;simp only[U9 sm,auE];exact anP.ite (fun _=>rfl) fun _=>anP.ite (fun _=>rfl) fun _=>anP.no
def iR(k:anE)(w:auB)(n:anz):Option anE:=
 if decide (w=tH)&&(decide (n.fr=k.id)&&decide (n.nu=k.nx)) then Bl ⟨k.id,k.ti,k.nx+1,k.held,k.marks,k.inbox⟩ n else if decide (w=kF)&& !decide (n.fr=k.id) then Bl k n else
 if decide (0≤aP k.held n.fr n.nu)||decide (0≤aP k.inbox n.fr n.nu) then none else if decide (w=kG) then some ⟨k.id,k.ti,k.nx,ka k.held n,k.marks,k.inbox⟩ else if decide (w=fP) then some ⟨k.id,k.ti,k.nx,k.held,k.marks,ka k.inbox n⟩ else none
def XF{id ti nx fr nu tt un:Int}{w tx:auB}{held:List anz}{marks:List Mark}{inbox:List anz}(sm:anM held marks inbox)(hs:tx.size≤1048576)(h0:0≤nx)(h1:nx≤1000):
  anP (o9 ((id,ti,nx,held,marks,inbox,()),w,(fr,nu,tt,un,tx,()),())) (iR ⟨id,ti,nx,held,marks,inbox⟩ w ⟨fr,nu,tt,un,tx⟩):=by
 have hj:(if decide (w=tH) then(some (.inr (w,(id,ti,nx,held,marks,inbox,()),(fr,nu,tt,un,tx,()),(0,0,0,([]:List anz),([]:List Mark),([]:List anz),()),decide (fr=id)&&decide (nu=nx),())):Option (((KL×Bool×auC)×auC) ⊕ (auB×KL×(Int×Int×Int×Int×auB×auC)×KL×Bool×auC))) else
   some (.inr (w,(id,ti,nx,held,marks,inbox,()),(fr,nu,tt,un,tx,()),(0,0,0,([]:List anz),([]:List Mark),([]:List anz),()),false,())))=
   some (.inr (w,(id,ti,nx,held,marks,inbox,()),(fr,nu,tt,un,tx,()),(0,0,0,([]:List anz),([]:List Mark),([]:List anz),()),decide (w=tH)&&(decide (fr=id)&&decide (nu=nx)),())):=by
  cases decide (w=tH)<;>rfl
 unfold o9 iR;simp only[hj,aZ];refine anP.ite (fun _=> ?_) fun _=> ?_
 ·rw[ai (by omega) (by omega)];exact(I7 sm hs).eta
 refine anP.ite (fun _=>(I7 sm hs).eta) fun _=> ?_;simp only[fb sm.hl,fb sm.il,auE,au4,avd,show ∀ c,aX c true=true from fun c=>rfl,auy];refine anP.neg fun _=> ?_;simp only[vb sm.hl,vb sm.il,auE];exact anP.ite (fun _=>rfl) fun _=>anP.ite (fun _=>rfl) fun _=>anP.no
def jt{l:List anz}{f n:Int}(h:0≤aP l f n):(aP l f n).toNat < l.length∧((aP l f n).toNat:Int)=aP l f n∧(nA l (aP l f n).toNat).fr=f∧(nA l (aP l f n).toNat).nu=n:=by
 rcases bZ l.length (fun i=>decide ((nA l i).fr=f)&&decide ((nA l i).nu=n)) with⟨h1,_⟩ | ⟨i,h1,h2,h3,_⟩
 ·unfold aP at h;omega
 ·have e:aP l f n=(i:Int):=h1;rw[e];simp at h3;exact⟨h2,rfl,h3.1,h3.2⟩
def vS{l:List anz}{f n:Int}(h:0≤aP l f n):inb (aP l f n) l.length=true:=by
 obtain⟨h1,h2,_⟩:=jt h;rw[← h2];exact ak h1
def Ze{l:List anz}{f n:Int}:aX (decide (0≤aP l f n)) (inb (aP l f n) l.length)=true:=by
 rcases tf (decide (0≤aP l f n)) with h | h
 ·rw[h,fK,vS (auv h)]
 ·rw[h,dO]
def A2(l:List anz)(m:Mark):Bool:=decide (0≤aP l m.mf m.mn)&&decide ((nA l (aP l m.mf m.mn).toNat).un=m.mu)
def fc(k:anE)(w:auB)(m:Mark):Option anE:=
 if decide (w=jk)&&A2 k.held m then some ⟨k.id,k.ti,k.nx,zf k.held (aP k.held m.mf m.mn).toNat,vR k.marks m,k.inbox⟩ else
 if decide (w=nG)&&A2 k.inbox m then some ⟨k.id,k.ti,k.nx,k.held,k.marks,zf k.inbox (aP k.inbox m.mf m.mn).toNat⟩ else
 if decide (w=fX)&& !decide (0≤eC k.marks m.mf m.mn) then some ⟨k.id,k.ti,k.nx,k.held,vR k.marks m,k.inbox⟩ else none
def alQ{l:List anz}{f n:Int}(hl:l.length≤1048576)(h:0≤aP l f n):kb (l,aP l f n,())=some ((zf l (aP l f n).toNat,()),()):=by
 obtain⟨h1,h2,_⟩:=jt h
 conv=>lhs;rw[← h2]
 exact U7 hl h1
def XG{id ti nx a b c:Int}{w:auB}{held:List anz}{marks:List Mark}{inbox:List anz}(sm:anM held marks inbox):
  anP (pa ((id,ti,nx,held,marks,inbox,()),w,(a,b,c,()),())) (fc ⟨id,ti,nx,held,marks,inbox⟩ w ⟨a,b,c⟩):=by
 unfold pa fc;simp only[fb sm.hl,fb sm.il,lS sm.ml,auE,Ze,dO,auy];have hj:(if decide (w=jk) then(some (.inr (w,(id,ti,nx,held,marks,inbox,()),(a,b,c,()),(0,0,0,([]:List anz),([]:List Mark),([]:List anz),()),aP held a b,aP inbox a b,decide (0≤eC marks a b),decide (0≤aP held a b)&&decide ((@rd anz (dfl .note) held (aP held a b)).un=c),())):Option (((KL×Bool×auC)×auC) ⊕ (auB×KL×(Int×Int×Int×auC)×KL×Int×Int×Bool×Bool×auC))) else
   some (.inr (w,(id,ti,nx,held,marks,inbox,()),(a,b,c,()),(0,0,0,([]:List anz),([]:List Mark),([]:List anz),()),aP held a b,aP inbox a b,decide (0≤eC marks a b),false,())))=
   some (.inr (w,(id,ti,nx,held,marks,inbox,()),(a,b,c,()),(0,0,0,([]:List anz),([]:List Mark),([]:List anz),()),aP held a b,aP inbox a b,decide (0≤eC marks a b),decide (w=jk)&&A2 held ⟨a,b,c⟩,())):=by
  cases decide (w=jk)<;>rfl
 simp only[hj,aZ];refine anP.ite (fun h=> ?_) fun _=> ?_
 ·simp only[A2,auF,decide_eq_true_eq]at h;simp only[alQ sm.hl h.2.1,AX sm.ml,auE];rfl
 simp only[Ze,dO,auy];have hj2:(if decide (w=nG) then(some (.inr (w,(id,ti,nx,held,marks,inbox,()),(a,b,c,()),(0,0,0,([]:List anz),([]:List Mark),([]:List anz),()),aP inbox a b,decide (0≤eC marks a b),decide (0≤aP inbox a b)&&decide ((@rd anz (dfl .note) inbox (aP inbox a b)).un=c),())):Option (((KL×Bool×auC)×auC) ⊕ (auB×KL×(Int×Int×Int×auC)×KL×Int×Bool×Bool×auC))) else
   some (.inr (w,(id,ti,nx,held,marks,inbox,()),(a,b,c,()),(0,0,0,([]:List anz),([]:List Mark),([]:List anz),()),aP inbox a b,decide (0≤eC marks a b),false,())))=
   some (.inr (w,(id,ti,nx,held,marks,inbox,()),(a,b,c,()),(0,0,0,([]:List anz),([]:List Mark),([]:List anz),()),aP inbox a b,decide (0≤eC marks a b),decide (w=nG)&&A2 inbox ⟨a,b,c⟩,())):=by
  cases decide (w=nG)<;>rfl
 simp only[hj2,aZ];refine anP.ite (fun h=> ?_) fun _=> ?_
 ·simp only[A2,auF,decide_eq_true_eq]at h;simp only[alQ sm.il h.2.1,auE];rfl
 simp only[AX sm.ml,auE];exact anP.ite (fun _=>rfl) fun _=>anP.no
structure anK (k:anE):Prop where
 id0:0≤k.id
 id1:k.id≤3
 t0:0≤k.ti
 t1:k.ti≤999
 n0:1≤k.nx
 n1:k.nx≤100
 hl:k.held.length≤6
 h:dB k.held=true
 ml:k.marks.length≤12
 m:ju k.marks=true
 il:k.inbox.length≤6
 i:dB k.inbox=true
 ho: ∀ i,i < k.held.length→lh k.id k.ti k.nx k.held k.marks i=true
 mo: ∀ i,i < k.marks.length→lx k.id k.ti k.nx k.marks i=true
 io: ∀ i,i < k.inbox.length→k9 k.id k.ti k.nx k.marks k.inbox i=true
def bN{k:anE}(h:aw k=true):anK k:=by
 unfold aw at h;simp only[auF,ah,decide_eq_true_eq,cG]at h;obtain⟨⟨a,b⟩,⟨c,d⟩,⟨e,f⟩,⟨g,i⟩,⟨j,l⟩,⟨m,n⟩,o,p,q⟩:=h;exact⟨a,b,c,d,e,f,by omega,i,by omega,l,by omega,n,o,p,q⟩
def dr{l:List anz}(h:dB l=true){i:Nat}(hi:i < l.length):ay (nA l i)=true:=by
 have:=cG.1 h i hi;simp only[auF]at this;exact this.1
def yh{l:List Mark}(h:ju l=true){i:Nat}(hi:i < l.length):Dd (mA l i)=true:=by
 have:=cG.1 h i hi;simp only[auF]at this;exact this.1
def QB{l:List anz}(h:dB l=true){x:anz}(hx:x∈l):ay x=true:=by
 obtain⟨i,hi,rfl⟩:=avA hx;have:=dr h hi;rwa[ji (auO hi)]at this
def abW{l:List Mark}(h:ju l=true){x:Mark}(hx:x∈l):Dd x=true:=by
 obtain⟨i,hi,rfl⟩:=avA hx;have:=yh h hi;rwa[vM (auO hi)]at this
def jR{n:anz}(h:ay n=true):oM n:=by
 have:=(mz h).s1;unfold oM;omega
def anK.sm{k:anE}(h:anK k):anM k.held k.marks k.inbox:=by
 obtain⟨id0,id1,t0,t1,n0,n1,hl,hh,ml,m,il,hi,ho,mo,io⟩:=h;exact⟨by omega,fun x hx=>jR (QB hh hx),by omega,by omega,fun x hx=>jR (QB hi hx)⟩
def HN{l:List anz}{n:anz}(hl:l.length≤6)(h: ∀ x∈l,oM x)(hn:oM n):(ka l n).length≤1048576∧ ∀ x∈ka l n,oM x:=by
 refine⟨by unfold ka;rw[ql];omega,fun x hx=> ?_⟩;rcases MG _ hx with rfl | hx
 ·exact hn
 ·exact h x hx
def MH{l:List Mark}{n:Mark}(hl:l.length≤12):(vR l n).length≤1048576:=by unfold vR;rw[ql];omega
def SZ{l:List anz}{i:Nat}(hl:l.length≤6)(h: ∀ x∈l,oM x):(zf l i).length≤1048576∧ ∀ x∈zf l i,oM x:=by
 refine⟨by unfold zf;simp;omega,fun x hx=> ?_⟩;unfold zf at hx;rcases auX.1 hx with hx | hx
 ·exact h x (av6 hx)
 ·exact h x (awA hx)
abbrev SmK(k:anE):Prop:=anM k.held k.marks k.inbox
def Ta{k k':anE}{n:anz}(hf:anK k)(hk:k'.held=k.held∧k'.marks=k.marks∧k'.inbox=k.inbox){o:anE}(h:Bl k' n=some o):SmK o:=by
 have sm:=hf.sm;have l1:=hf.hl;have l2:=hf.ml;have l3:=hf.il;unfold Bl at h;rw[hk.1,hk.2.1,hk.2.2]at h;split at h
 ·cases h
 rename_i hn;have hn:oM n:=jR (by simpa using hn)
 iterate 5 (split at h;· cases h)
 split at h<;>cases h
 ·have a:=HN l3 sm.i hn;exact⟨sm.hl,sm.h,MH l2,a.1,a.2⟩
 ·have a:=HN l1 sm.h hn;exact⟨a.1,a.2,sm.ml,sm.il,sm.i⟩
def akI{k:anE}{w:auB}{n:Int}(hf:anK k){o:anE}(h:Ma k w n=some o):SmK o:=by
 have sm:=hf.sm;have l1:=hf.hl;have l2:=hf.ml;unfold Ma at h;split at h
 ·cases h;have a:=avY (fun x:anz=>decide (n < x.un)) k.held;have b:=avY (fun x:Mark=>decide (n < x.mu)) k.marks;exact⟨by unfold vD;simp only;omega,fun x hx=>sm.h x (awd.1 hx).1,by unfold FH;simp only;omega,sm.il,sm.i⟩
 ·split at h<;>cases h;exact sm
def aed{k:anE}{w:auB}{n:anz}(hf:anK k)(hn:ay n=true){o:anE}(h:iR k w n=some o):SmK o:=by
 have sm:=hf.sm;unfold iR at h;split at h
 ·exact Ta (k':=⟨k.id,k.ti,k.nx+1,k.held,k.marks,k.inbox⟩) hf ⟨rfl,rfl,rfl⟩ h
 split at h
 ·exact Ta (k':=k) hf ⟨rfl,rfl,rfl⟩ h
 split at h
 ·cases h
 split at h
 ·cases h;have a:=HN hf.hl sm.h (jR hn);exact⟨a.1,a.2,sm.ml,sm.il,sm.i⟩
 split at h<;>cases h;have a:=HN hf.il sm.i (jR hn);exact⟨sm.hl,sm.h,sm.ml,a.1,a.2⟩
def aeg{k:anE}{w:auB}{m:Mark}(hf:anK k){o:anE}(h:fc k w m=some o):SmK o:=by
 have sm:=hf.sm;unfold fc at h;split at h
 ·cases h;have a:=SZ (i:=(aP k.held m.mf m.mn).toNat) hf.hl sm.h;exact⟨a.1,a.2,MH hf.ml,sm.il,sm.i⟩
 split at h
 ·cases h;have a:=SZ (i:=(aP k.inbox m.mf m.mn).toNat) hf.il sm.i;exact⟨sm.hl,sm.h,sm.ml,a.1,a.2⟩
 split at h<;>cases h;exact⟨sm.hl,sm.h,MH hf.ml,sm.il,sm.i⟩
def GU{k:anE}{w:auB}{m:Mark}(hf:anK k)(hm:Dd m=false):fc k w m=none∨ ∃ o,fc k w m=some o∧aw o=false:=by
 have hit: ∀ l,dB l=true→A2 l m=false:=fun l hl=>by
  unfold A2;rcases tf (decide (0≤aP l m.mf m.mn)) with h | h
  ·obtain⟨h1,_,h2,h3⟩:=jt (auv h);rw[h,auN,decide_eq_false_iff_not];intro h4;have h5:=mz (dr hl h1);have:Dd m=true:=by
    unfold Dd;simp only[auF,ah];have:=h5.f0;have:=h5.f1;have:=h5.n0;have:=h5.n1;have:=h5.u0;have:=h5.u1;omega
   rw[this]at hm;cases hm
  ·rw[h];rfl
 unfold fc;rw[hit _ hf.h,hit _ hf.i,au7,au7,auD,auD];split
 ·refine .inr ⟨_,rfl, ?_⟩;rcases tf (aw ⟨k.id,k.ti,k.nx,k.held,vR k.marks m,k.inbox⟩) with h | h
  ·have:=abW (bN h).m (Ml (fun x=>bef x.mf x.mn m.mf m.mn) (l:=k.marks) (n:=m) (.inl rfl));rw[hm]at this;cases this
  ·exact h
 ·exact .inl rfl
def oB(r:auB):Option Mark:=match Lib.splitK [32] 0 ((L r).count 32) (L r) with
 | [p,q,t]=>if(bC (B p)).2&&((bC (B q)).2&&((bC (B t)).2&&true)) then some ⟨(bC (B p)).1,(bC (B q)).1,(bC (B t)).1⟩ else none
 | _=>none
def cL(k:anE)(w r:auB):Option anE:=
 if decide (w=kE)||decide (w=mg) then(if(bC r).2 then Ma k w (bC r).1 else none) else
 if decide (w=tH)||(decide (w=kF)||(decide (w=kG)||decide (w=fP))) then(match dt r with | some n=>iR k w n | none=>none) else
 if decide (w=jk)||(decide (w=nG)||decide (w=fX)) then(match oB r with | some m=>fc k w m | none=>none) else none
def qX(k:anE)(rec:auB):Option anE:=if !(acK (L rec)).isSome then none else cL k (wd rec).1 (wd rec).2
def ahY{id ti nx:Int}{w r:auB}{held:List anz}{marks:List Mark}{inbox:List anz}(sm:anM held marks inbox)(hr:r.size≤1048576):
  anP ((pq (r,B [32],())).bind fun r46=>(ik (r46.1.1,())).bind fun r47=>
   if r47.1.2.1&&decide ((r47.1.1.length:Int)=3) then(if inb 0 r47.1.1.length then(if inb 1 r47.1.1.length then(if inb 2 r47.1.1.length then
    (pa ((id,ti,nx,held,marks,inbox,()),w,((@rd Int (dfl .int) r47.1.1 0),(@rd Int (dfl .int) r47.1.1 1),(@rd Int (dfl .int) r47.1.1 2),()),())).bind fun r48=>some (((r48.1.1.1,r48.1.1.2.1,r48.1.1.2.2.1,r48.1.1.2.2.2.1,r48.1.1.2.2.2.2.1,r48.1.1.2.2.2.2.2.1,()),r48.1.2.1,()),())
    else none) else none) else none)
   else some (((id,ti,nx,held,marks,inbox,()),false,()),())) (match oB r with | some m=>fc ⟨id,ti,nx,held,marks,inbox⟩ w m | none=>none):=by
 unfold oB;simp only[akk hr,auE];have hsz:=Fh ((L r).count 32) (L r);have hln:=JV ((L r).count 32) (L r);have auo:(L r).count 32≤r.size:=List.count_le_length;generalize Lib.splitK [32] 0 ((L r).count 32) (L r)=ps at *;have hb: ∀ p∈ps,(B p).size≤1048576:=fun p hp=>by
  have:=hsz p hp;rw[ba]at this;rw[aW];omega
 rw[Ui (by simp;omega) (fun w hw=>by
  obtain⟨p,hp,rfl⟩:=avH.1 hw;exact hb p hp)]
 simp only[auE];by_cases h3:ps.length=3
 ·match ps,h3 with
  | [p,q,t],_=>
   have asz:dp (([p,q,t]:List (List UInt8)).map B).length (fun i=>(bC ((([p,q,t]:List (List UInt8)).map B).getD i noB)).2)=((bC (B p)).2&&((bC (B q)).2&&((bC (B t)).2&&true))):=rfl;rw[asz];rcases tf ((bC (B p)).2&&((bC (B q)).2&&((bC (B t)).2&&true))) with h | h
   ·simp only[h,auy];exact(XG sm).eta
   ·simp only[h,auD,auL];exact anP.no
 ·have e1: ∀ c:Bool,(((if c then(((ps.map B).map (fun w=>(bC w).1)),true,()) else(([]:List Int),false,())).2.1&&decide ((((if c then(((ps.map B).map (fun w=>(bC w).1)),true,()) else(([]:List Int),false,())):List Int×Bool×auC).1.length:Int)=3))=false):=by
   intro c;cases c
   ·rfl
   ·simp;omega
  rw[aur (by rw[e1];simp)];have e2:(match ps with | [p,q,t]=>if(bC (B p)).2&&((bC (B q)).2&&((bC (B t)).2&&true)) then some (⟨(bC (B p)).1,(bC (B q)).1,(bC (B t)).1⟩:Mark) else none | _=>none)=none:=by
   split
   ·exact absurd rfl h3
   ·rfl
  rw[e2];exact anP.no
def amz{id ti nx:Int}{w r:auB}{held:List anz}{marks:List Mark}{inbox:List anz}(sm:anM held marks inbox)(hr:r.size≤1048576){t:KL}:
  anP ((gQ (r,())).bind fun r33=>if r33.1.2.1 then(sO ((id,ti,nx,held,marks,inbox,()),w,r33.1.1,())).bind fun r34=>some (((r34.1.1.1,r34.1.1.2.1,r34.1.1.2.2.1,r34.1.1.2.2.2.1,r34.1.1.2.2.2.2.1,r34.1.1.2.2.2.2.2.1,()),r34.1.2.1,()),())
   else some ((t,false,()),())) (if(bC r).2 then Ma ⟨id,ti,nx,held,marks,inbox⟩ w (bC r).1 else none):=by
 simp only[sx (show r.size≤9223372036854775807 by omega),auE];exact anP.ite (fun _=>(aay sm).eta) fun _=>anP.no
def am5{id ti nx:Int}{w r:auB}{held:List anz}{marks:List Mark}{inbox:List anz}(sm:anM held marks inbox)(hr:r.size≤1048576)(h0:0≤nx)(h1:nx≤1000){t:KL}:
  anP ((lA (r,())).bind fun r40=>if r40.1.2.1 then(o9 ((id,ti,nx,held,marks,inbox,()),w,(r40.1.1.1,r40.1.1.2.1,r40.1.1.2.2.1,r40.1.1.2.2.2.1,r40.1.1.2.2.2.2.1,()),())).bind fun r41=>
    some (((r41.1.1.1,r41.1.1.2.1,r41.1.1.2.2.1,r41.1.1.2.2.2.1,r41.1.1.2.2.2.2.1,r41.1.1.2.2.2.2.2.1,()),r41.1.2.1,()),())
   else some ((t,false,()),())) (match dt r with | some n=>iR ⟨id,ti,nx,held,marks,inbox⟩ w n | none=>none):=by
 simp only[RG hr,auE];cases h:dt r with
 | none=>exact anP.no
 | some n=>
  have:=jR (eG h).1;exact(XF sm this h0 h1).eta
def or3{a b c:Bool}{Ω X:Type}{f:Bool→X}:(if a then(some (.inr (f a)):Option (Ω ⊕ X)) else if b then some (.inr (f b)) else some (.inr (f c)))=some (.inr (f (a||(b||c)))):=by cases a<;>cases b<;>rfl
def or2{a b:Bool}{Ω X:Type}{f:Bool→X}:(if a then(some (.inr (f a)):Option (Ω ⊕ X)) else some (.inr (f b)))=some (.inr (f (a||b))):=by cases a<;>rfl
def or4{a b c d:Bool}{Ω X:Type}{f:Bool→X}:(if a then(some (.inr (f a)):Option (Ω ⊕ X)) else if b then some (.inr (f b)) else if c then some (.inr (f c)) else some (.inr (f d)))=some (.inr (f (a||(b||(c||d))))):=by cases a<;>cases b<;>cases c<;>rfl
def YW{a b:Bool}{Ω X:Type}{f:Bool→X}{g:X→Option Ω}{m:Option (Ω ⊕ X)}(h:m=(if a then(some (.inr (f a)):Option (Ω ⊕ X)) else some (.inr (f b)))):bH g m=g (f (a||b)):=by rw[h,or2];rfl
def agK{a b c:Bool}{Ω X:Type}{f:Bool→X}{g:X→Option Ω}{m:Option (Ω ⊕ X)}(h:m=(if a then(some (.inr (f a)):Option (Ω ⊕ X)) else if b then some (.inr (f b)) else some (.inr (f c)))):bH g m=g (f (a||(b||c))):=by rw[h,or3];rfl
def agJ{a b c d:Bool}{Ω X:Type}{f:Bool→X}{g:X→Option Ω}{m:Option (Ω ⊕ X)}(h:m=(if a then(some (.inr (f a)):Option (Ω ⊕ X)) else if b then some (.inr (f b)) else if c then some (.inr (f c)) else some (.inr (f d)))):bH g m=g (f (a||(b||(c||d)))):=by rw[h,or4];rfl
def aaz{id ti nx:Int}{rec:auB}{held:List anz}{marks:List Mark}{inbox:List anz}(sm:anM held marks inbox)(hr:rec.size≤1048576)(h0:0≤nx)(h1:nx≤1000):
  anP (sQ ((id,ti,nx,held,marks,inbox,()),rec,())) (qX ⟨id,ti,nx,held,marks,inbox⟩ rec):=by
 have hr2:(wd rec).2.size≤1048576:=by have:=(Lm rec).2;omega
 unfold sQ qX cL;simp only[anh hr,auE];refine anP.neg fun _=> ?_;rw[YW (a:=decide ((wd rec).1=kE)) (b:=decide ((wd rec).1=mg)) (f:=fun v=>((id,ti,nx,held,marks,inbox,()),(0,0,0,[],[],[],()),(wd rec).1,(wd rec).2,(wd rec).1,v,())) rfl];refine anP.ite (fun _=>amz sm hr2) fun _=> ?_;simp only;rw[agJ (a:=decide ((wd rec).1=tH)) (b:=decide ((wd rec).1=kF)) (c:=decide ((wd rec).1=kG)) (d:=decide ((wd rec).1=fP)) (f:=fun v=>((id,ti,nx,held,marks,inbox,()),(0,0,0,[],[],[],()),(wd rec).1,(wd rec).2,(wd rec).1,v,())) rfl];refine anP.ite (fun _=>am5 sm hr2 h0 h1) fun _=> ?_;simp only;rw[agK (a:=decide ((wd rec).1=jk)) (b:=decide ((wd rec).1=nG)) (c:=decide ((wd rec).1=fX)) (f:=fun v=>((id,ti,nx,held,marks,inbox,()),(0,0,0,[],[],[],()),(wd rec).1,(wd rec).2,v,())) rfl];exact anP.ite (fun _=>ahY sm hr2) fun _=>anP.no
def ah9{k:anE}{rec:auB}(hf:anK k){o:anE}(h:qX k rec=some o):SmK o:=by
 unfold qX at h;split at h
 ·cases h
 unfold cL at h;split at h
 ·split at h
  ·exact akI hf h
  ·cases h
 split at h
 ·cases hn:dt (wd rec).2 with
  | none=>rw[hn]at h;cases h
  | some n=>rw[hn]at h;exact aed hf (eG hn).1 h
 split at h
 ·cases hn:oB (wd rec).2 with
  | none=>rw[hn]at h;cases h
  | some n=>rw[hn]at h;exact aeg hf h
 ·cases h
def ic(k:anE)(rec:auB):anE×Bool:=
 if aw k then(match (qX k rec).filter aw with | some k'=>(k',true) | none=>(k,false)) else(⟨0,0,0,[],[],[]⟩,false)
def I8{id ti nx:Int}{rec:auB}{held:List anz}{marks:List Mark}{inbox:List anz}(sm:anM held marks inbox)(hr:rec.size≤1048576):
  lW ((id,ti,nx,held,marks,inbox,()),rec,())=some ((tK (ic ⟨id,ti,nx,held,marks,inbox⟩ rec).1,(ic ⟨id,ti,nx,held,marks,inbox⟩ rec).2,()),()):=by
 unfold lW ic;simp only[A1 sm,Ej sm,auE];rcases tf (aw ⟨id,ti,nx,held,marks,inbox⟩) with h | h
 ·have hf:=bN h;have ha:=aaz (id:=id) (ti:=ti) (nx:=nx) sm hr (by have:=hf.n0;simp only at this;omega) (by have:=hf.n1;simp only at this;omega);simp only[h,auG,auD,auy];cases hst:qX ⟨id,ti,nx,held,marks,inbox⟩ rec with
  | none=>
   rw[hst]at ha;obtain⟨t,ht⟩:=ha;simp only[ht,auE,auH,auG,dO,auy,avk];rfl
  | some o=>
   rw[hst]at ha;have sm':=ah9 hf hst;rw[show sQ ((id,ti,nx,held,marks,inbox,()),rec,())=some ((tK o,true,()),()) from ha];simp only[auE,auG,auH,fK,A1 sm',Ej sm',au4,avd,auy,ava,Option.filter_some];rcases tf (aw o) with h2 | h2
   ·simp only[h2,auG,auD,auy]
   ·simp only[h2,auH,auD,auy]
 ·simp only[h,auH,auD,auy]
def adu{id ti nx a b:Int}{held:List anz}{marks:List Mark}{inbox:List anz}(sm:anM held marks inbox)(h:0≤aP held a b):
  uW ((id,ti,nx,held,marks,inbox,()),a,b,())=some (((id,ti,nx,zf held (aP held a b).toNat,adB marks ⟨a,b,(nA held (aP held a b).toNat).un⟩,inbox,()),true,()),()):=by
 obtain⟨h1,h2,_⟩:=jt h;have hl:=sm.hl;unfold uW;have apW:decide (aP held a b < 0)=false:=by simp;omega
 simp only[cD sm.hl,auE,apW,auD,vS h,auy];generalize hi:(aP held a b).toNat=i at *;rw[← h2];have e1:(decide (0≤(i:Int))&&decide ((i:Int)≤(held.length:Int)))=true:=by simp;omega
 have e2:(decide (0≤((i+1:Nat):Int))&&decide (((i+1:Nat):Int)≤(held.length:Int)))=true:=by simp;omega
 simp only[aA h1 (by omega:held.length≤9223372036854775807),e1,e2,auy,auV,avR,avf,avV,avv,avy,dA,rv sm.ml,auE];rw[aus (aH (by omega)),aus (aH (by omega))];rfl
def adv{id ti nx a b:Int}{held:List anz}{marks:List Mark}{inbox:List anz}(sm:anM held marks inbox)(h:0≤aP inbox a b):
  uX ((id,ti,nx,held,marks,inbox,()),a,b,())=some (((id,ti,nx,held,marks,zf inbox (aP inbox a b).toNat,()),true,()),()):=by
 obtain⟨h1,h2,_⟩:=jt h;have hl:=sm.il;unfold uX;have apW:decide (aP inbox a b < 0)=false:=by simp;omega
 simp only[cD sm.il,auE,apW,auD];generalize hi:(aP inbox a b).toNat=i at *;rw[← h2];have e1:(decide (0≤(i:Int))&&decide ((i:Int)≤(inbox.length:Int)))=true:=by simp;omega
 have e2:(decide (0≤((i+1:Nat):Int))&&decide (((i+1:Nat):Int)≤(inbox.length:Int)))=true:=by simp;omega
 simp only[aA h1 (by omega:inbox.length≤9223372036854775807),e1,e2,auy,auV,avR,avf,avV,avv,avy];rw[aus (aH (by omega)),aus (aH (by omega))];rfl
def XX(r:auB):Bool:= !decide (jP r 3=noB)|| !decide (r=((((cZ (bh (aF r 0))++B [32])++cZ (bh (aF r 1)))++B [32])++cZ (bh (aF r 2))))
def mk3(r:auB):Mark:=⟨bh (aF r 0),bh (aF r 1),bh (aF r 2)⟩
def iF(k:anE)(w r:auB):Option anE:=
 if decide (w=kE) then(if decide (bh r≤k.ti) then none else some ⟨k.id,bh r,k.nx,vD (bh r) k.held,FH (bh r) k.marks,k.inbox⟩) else
 if decide (w=tH) then(match dt r with | some n=>if !decide (n.fr=k.id) then none else if !decide (n.nu=k.nx) then none else Bl ⟨k.id,k.ti,k.nx+1,k.held,k.marks,k.inbox⟩ n | none=>none) else
 if decide (w=kF) then(match dt r with | some n=>if decide (n.fr=k.id) then none else Bl k n | none=>none) else
 if decide (w=mg) then(if decide (bh r≤k.nx) then none else some ⟨k.id,k.ti,bh r,k.held,k.marks,k.inbox⟩) else
 if decide (w=kG)||decide (w=fP) then(match dt r with | some n=>if decide (0≤aP k.held n.fr n.nu) then none else if decide (0≤aP k.inbox n.fr n.nu) then none else if decide (w=kG) then some ⟨k.id,k.ti,k.nx,ka k.held n,k.marks,k.inbox⟩ else some ⟨k.id,k.ti,k.nx,k.held,k.marks,ka k.inbox n⟩ | none=>none) else
 if XX r then none else
 if decide (w=jk) then(if !A2 k.held (mk3 r) then none else some ⟨k.id,k.ti,k.nx,zf k.held (aP k.held (mk3 r).mf (mk3 r).mn).toNat,vR k.marks (mk3 r),k.inbox⟩) else
 if decide (w=nG) then(if !A2 k.inbox (mk3 r) then none else some ⟨k.id,k.ti,k.nx,k.held,k.marks,zf k.inbox (aP k.inbox (mk3 r).mf (mk3 r).mn).toNat⟩) else
 if decide (w=fX) then(if decide (0≤eC k.marks (mk3 r).mf (mk3 r).mn) then none else some ⟨k.id,k.ti,k.nx,k.held,vR k.marks (mk3 r),k.inbox⟩) else none
def DL(s:auB): -1≤bh s∧bh s < 10000:=by
 rcases uM s with⟨h,_⟩ | ⟨n,h,h1,h2⟩
 ·omega
 ·have:n < 10000:=by
   have hv:=ZK 4 (L s) (by rw[ba];omega) (by rw[h2];exact S7 (n+1) n (by omega));rw[h2,SR (n+1) n (by omega)]at hv;omega
  omega
def J9{n:Int}(h0: -1≤n)(h1:n < 10000):(cZ n).size≤4:=by
 by_cases h:0≤n
 ·exact dQ h (by omega) (by omega)
 ·obtain rfl:n= -1:=by omega
  have:cZ (-1)=B [45,49]:=by
   apply qR;show Lib.itoa (-1)=_;rw[show(-1:Int)= -((1:Nat):Int) by rfl,Lib.itoa_neg _ (by omega)];show 45::dcm 1=_;rw[kv (by omega)];rfl
  rw[this];decide
def ai9{l:List anz}{m:Mark}:(decide (aP l m.mf m.mn < 0)|| !decide ((@rd anz (dfl .note) l (aP l m.mf m.mn)).un=m.mu))= !A2 l m:=by
 unfold A2;rcases sgn (aP l m.mf m.mn) with h | h
 ·simp only[h,auz,auA,avk,auL,auH]
 ·simp only[h,auz,auA,ava,auN];rfl
def ai7{l:List anz}{f n:Int}:aX (!(decide (aP l f n < 0))) (inb (aP l f n) l.length)=true:=by
 rcases sgn (aP l f n) with h | h
 ·simp only[h,auz,auG,dO]
 ·simp only[h,auA,auH,fK,vS (of_eq_true h.2)]
def ads{id ti nx:Int}{rec:auB}{held:List anz}{marks:List Mark}{inbox:List anz}(hf:anK ⟨id,ti,nx,held,marks,inbox⟩)(hr:rec.size≤1048576):
  anP (o4 ((id,ti,nx,held,marks,inbox,()),rec,())) (iF ⟨id,ti,nx,held,marks,inbox⟩ (wd rec).1 (wd rec).2):=by
 have sm:anM held marks inbox:=hf.sm;have hn0:1≤nx:=hf.n0;have hn1:nx≤100:=hf.n1;have hr2:(wd rec).2.size≤1048576:=by have:=(Lm rec).2;omega
 unfold o4 iF;simp only[ahM hr,auE];generalize (wd rec).1=w;generalize (wd rec).2=r at *;simp only[CR (show r.size≤9223372036854775807 by omega),D1 hr2,Tx sm,auE];refine anP.ite (fun _=>anP.neg fun _=>rfl) fun _=> ?_;refine anP.ite (fun _=> ?_) fun _=> ?_
 ·cases h:dt r with
  | none=>exact anP.no
  | some n=>
   have:=jR (eG h).1;simp only[abT,auG,auD];refine anP.neg fun _=>anP.neg fun _=> ?_;rw[ai (by omega) (by omega)];exact(Qt sm this).eta
 refine anP.ite (fun _=> ?_) fun _=> ?_
 ·cases h:dt r with
  | none=>exact anP.no
  | some n=>
   have:=jR (eG h).1;simp only[abT,auG,ava];exact anP.neg fun _=>(Qt sm this).eta
 refine anP.ite (fun _=>anP.neg fun _=>rfl) fun _=> ?_;rw[YW (a:=decide (w=kG)) (b:=decide (w=fP)) (f:=fun v=>((id,ti,nx,held,marks,inbox,()),(0,0,0,[],[],[],()),w,r,v,())) rfl];refine anP.ite (fun _=> ?_) fun _=> ?_
 ·simp only[D1 hr2,auE];cases h:dt r with
  | none=>exact anP.no
  | some n=>
   have:=jR (eG h).1;simp only[abT,auG,auD,cD sm.hl,cD sm.il,auE];refine anP.neg fun h1=>anP.neg fun h2=> ?_;have e1:adA held n=ka held n:=SY (by simpa using h1);have e2:adA inbox n=ka inbox n:=SY (by simpa using h2);have aok:=mq (l:=held) (fr:=n.fr) (nu:=n.nu) (tt:=n.to) (un:=n.un) (tx:=n.tx) sm.hl;have ap5:=mq (l:=inbox) (fr:=n.fr) (nu:=n.nu) (tt:=n.to) (un:=n.un) (tx:=n.tx) sm.il;rw[show(⟨n.fr,n.nu,n.to,n.un,n.tx⟩:anz)=n from rfl]at aok ap5;simp only[aok,ap5,e1,e2,auE];exact anP.ite (fun _=>rfl) fun _=>rfl
 have e3:iU (r,3,())=some (([bh (aF r 0),bh (aF r 1),bh (aF r 2)],jP r 3,()),()):=aiG (n:=3) hr2 (by omega);have i0:inb 0 [bh (aF r 0),bh (aF r 1),bh (aF r 2)].length=true:=rfl;have i1:inb 1 [bh (aF r 0),bh (aF r 1),bh (aF r 2)].length=true:=rfl;have i2:inb 2 [bh (aF r 0),bh (aF r 1),bh (aF r 2)].length=true:=rfl;have r0: @rd Int (dfl .int) [bh (aF r 0),bh (aF r 1),bh (aF r 2)] 0=bh (aF r 0):=rfl;have r1: @rd Int (dfl .int) [bh (aF r 0),bh (aF r 1),bh (aF r 2)] 1=bh (aF r 1):=rfl;have r2: @rd Int (dfl .int) [bh (aF r 0),bh (aF r 1),bh (aF r 2)] 2=bh (aF r 2):=rfl;have q0:=DL (aF r 0);have q1:=DL (aF r 1);have q2:=DL (aF r 2);have z0:=J9 q0.1 q0.2;have z1:=J9 q1.1 q1.2;have z2:=J9 q2.1 q2.2;have zb:(B [32]).size=1:=rfl;have d1:decide ((cZ (bh (aF r 0))).size+(B [32]).size≤4611686018427387904)=true:=by rw[zb,decide_eq_true_eq];omega
 have d2:decide ((cZ (bh (aF r 0))++B [32]).size+(cZ (bh (aF r 1))).size≤4611686018427387904)=true:=by rw[aB,zb,decide_eq_true_eq];omega
 have d3:decide (((cZ (bh (aF r 0))++B [32])++cZ (bh (aF r 1))).size+(B [32]).size≤4611686018427387904)=true:=by rw[aB,aB,zb,decide_eq_true_eq];omega
 have d4:decide ((((cZ (bh (aF r 0))++B [32])++cZ (bh (aF r 1)))++B [32]).size+(cZ (bh (aF r 2))).size≤4611686018427387904)=true:=by rw[aB,aB,aB,zb,decide_eq_true_eq];omega
 simp only[e3,auE,i0,i1,i2,r0,r1,r2,bB (n:=bh (aF r 0)) (by omega) (by omega),bB (n:=bh (aF r 1)) (by omega) (by omega),bB (n:=bh (aF r 2)) (by omega) (by omega),
  au4,avd,show ∀ c,aX c true=true from fun c=>rfl,auy,d1,d2,d3,d4]
 refine anP.neg fun _=> ?_;have hmk:mk3 r=⟨bh (aF r 0),bh (aF r 1),bh (aF r 2)⟩:=rfl;generalize bh (aF r 0)=a at *;generalize bh (aF r 1)=b at *;generalize bh (aF r 2)=c at *;rw[hmk];simp only[cD sm.hl,cD sm.il,jK sm.ml,auE,ai7,auy];refine anP.ite (fun _=> ?_) fun _=> ?_
 ·rw[ai9 (m:=⟨a,b,c⟩)];refine anP.neg fun h=> ?_;have hh:A2 held ⟨a,b,c⟩=true:=by simpa using h
  simp only[A2,auF,decide_eq_true_eq]at hh;obtain⟨g1,g2,g3,g4⟩:=jt hh.1;have ho:=hf.ho _ g1;unfold lh at ho;simp only[auF,decide_eq_true_eq]at ho;have hm:eC marks a b < 0:=by
   have:=ho.2.2.2;simp only[g3,g4]at this;exact this
  have hM:adB marks ⟨a,b,c⟩=vR marks ⟨a,b,c⟩:=TO hm;simp only[adu sm hh.1,auE,hh.2,hM];rfl
 refine anP.ite (fun _=> ?_) fun _=> ?_
 ·rw[ai9 (m:=⟨a,b,c⟩)];refine anP.neg fun h=> ?_;have hh:A2 inbox ⟨a,b,c⟩=true:=by simpa using h
  simp only[A2,auF,decide_eq_true_eq]at hh;simp only[adv sm hh.1,auE];rfl
 refine anP.ite (fun _=> ?_) fun _=>anP.no;refine anP.neg fun h=> ?_;have hM:adB marks ⟨a,b,c⟩=vR marks ⟨a,b,c⟩:=TO (by simpa using h);simp only[rv sm.ml,auE,hM];rfl
def T7:decide (kE=mg)=false:=by decide
def Xa:decide (kE=tH)=false:=by decide
def T6:decide (kE=kF)=false:=by decide
def T9:decide (kE=kG)=false:=by decide
def Q5:decide (kE=fP)=false:=by decide
def Xb:decide (kE=jk)=false:=by decide
def Xc:decide (kE=nG)=false:=by decide
def T8:decide (kE=fX)=false:=by decide
def FW:decide (mg=kE)=false:=by decide
def Xk:decide (mg=tH)=false:=by decide
def Uc:decide (mg=kF)=false:=by decide
def Ue:decide (mg=kG)=false:=by decide
def Q6:decide (mg=fP)=false:=by decide
def Xl:decide (mg=jk)=false:=by decide
def Xm:decide (mg=nG)=false:=by decide
def Ud:decide (mg=fX)=false:=by decide
def Xf:decide (tH=kE)=false:=by decide
def Xh:decide (tH=mg)=false:=by decide
def Xg:decide (tH=kF)=false:=by decide
def Xj:decide (tH=kG)=false:=by decide
def Ub:decide (tH=fP)=false:=by decide
def aai:decide (tH=jk)=false:=by decide
def aaj:decide (tH=nG)=false:=by decide
def Xi:decide (tH=fX)=false:=by decide
def x8:decide (kF=kE)=false:=by decide
def x9:decide (kF=mg)=false:=by decide
def AJ:decide (kF=tH)=false:=by decide
def ya:decide (kF=kG)=false:=by decide
def wu:decide (kF=fP)=false:=by decide
def Xd:decide (kF=jk)=false:=by decide
def Xe:decide (kF=nG)=false:=by decide
def Ua:decide (kF=fX)=false:=by decide
def FY:decide (kG=kE)=false:=by decide
def F1:decide (kG=mg)=false:=by decide
def IX:decide (kG=tH)=false:=by decide
def FZ:decide (kG=kF)=false:=by decide
def Q8:decide (kG=fP)=false:=by decide
def Xn:decide (kG=jk)=false:=by decide
def Xo:decide (kG=nG)=false:=by decide
def Uh:decide (kG=fX)=false:=by decide
def Ea:decide (fP=kE)=false:=by decide
def Ec:decide (fP=mg)=false:=by decide
def FX:decide (fP=tH)=false:=by decide
def Eb:decide (fP=kF)=false:=by decide
def Ed:decide (fP=kG)=false:=by decide
def Uf:decide (fP=jk)=false:=by decide
def Ug:decide (fP=nG)=false:=by decide
def Q7:decide (fP=fX)=false:=by decide
def AN:decide (jk=kE)=false:=by decide
def AP:decide (jk=mg)=false:=by decide
def Da:decide (jk=tH)=false:=by decide
def AO:decide (jk=kF)=false:=by decide
def AR:decide (jk=kG)=false:=by decide
def yf:decide (jk=fP)=false:=by decide
def Db:decide (jk=nG)=false:=by decide
def AQ:decide (jk=fX)=false:=by decide
def IY:decide (nG=kE)=false:=by decide
def I0:decide (nG=mg)=false:=by decide
def Mf:decide (nG=tH)=false:=by decide
def IZ:decide (nG=kF)=false:=by decide
def I2:decide (nG=kG)=false:=by decide
def F2:decide (nG=fP)=false:=by decide
def Mg:decide (nG=jk)=false:=by decide
def I1:decide (nG=fX)=false:=by decide
def yb:decide (fX=kE)=false:=by decide
def yd:decide (fX=mg)=false:=by decide
def AK:decide (fX=tH)=false:=by decide
def yc:decide (fX=kF)=false:=by decide
def ye:decide (fX=kG)=false:=by decide
def wv:decide (fX=fP)=false:=by decide
def AL:decide (fX=jk)=false:=by decide
def AM:decide (fX=nG)=false:=by decide
abbrev flt(o:Option anE):Option anE:=o.filter aw
def M5{o:Option anE}(h:o=none∨ ∃ k,o=some k∧aw k=false):flt o=none:=by
 rcases h with rfl | ⟨k,rfl,h⟩
 ·rfl
 ·simp[flt,Option.filter,h]
def adF:dt noB=none:=by
 cases h:dt noB with
 | none=>rfl
 | some n=>
  obtain⟨h1,h2⟩:=eG h;have:=ZH (mz h1);rw[h2]at this;exact absurd this (by decide)
def ajK:bh noB= -1:=by
 rcases uM noB with⟨h,_⟩ | ⟨n,_,_,h⟩
 ·exact h
 ·exact absurd h.symm (aek n)
def YL(r:auB):(bC r=(0,false)∧bh r= -1)∨ ∃ n:Nat,bC r=((n:Int),true)∧(bh r=n∨(bh r= -1∧10000≤n)):=by
 rcases uu r with h | ⟨n,h1,h2,h3⟩
 ·refine .inl ⟨h, ?_⟩;rcases uM r with⟨h4,_⟩ | ⟨n,_,h5,h6⟩
  ·exact h4
  ·rw[OB (by omega) h6]at h;cases h
 ·refine .inr ⟨n,h1, ?_⟩;rcases uM r with⟨h4,h5⟩ | ⟨m,h4,_,h6⟩
  ·refine .inr ⟨h4, ?_⟩;have h7:=h5 n h3;rcases awm n 10000 with h8 | h8
   ·have:=vl 4 n (by omega) (by omega);rw[← h3,ba]at this;omega
   ·exact h8
  ·left;have e:dcm n=dcm m:=h3.symm.trans h6;have:=congrArg val e;rw[SR (n+1) n (by omega),SR (m+1) m (by omega)]at this;omega
def afv(a b c:Int):L ((((cZ a++B [32])++cZ b)++B [32])++cZ c)=Lib.itoa a++32::(Lib.itoa b++32::Lib.itoa c):=by
 simp only[ua,WY,L_B,au2,awM,avR]
def Wm{l:List UInt8}(h:l7 l):l.count 32=0:=List.count_eq_zero.2 fun hm=>h 32 hm rfl
def ZO{r:auB}{a b c:Int}(ha:0≤a)(ha2:a < 100000)(hb:0≤b)(hb2:b < 100000)(hc:0≤c)(hc2:c < 100000)(e:L r=Lib.itoa a++32::(Lib.itoa b++32::Lib.itoa c)):oB r=some ⟨a,b,c⟩:=by
 unfold oB;have h2:(L r).count 32=1+1:=by
  rw[e,List.count_append,azb,List.count_append,azb,Wm (eA ha),Wm (eA hb),Wm (eA hc)]
 rw[h2,e,lJ (eA ha),lJ (eA hb)];show(if(bC (B (Lib.itoa a))).2&&((bC (B (Lib.itoa b))).2&&((bC (B (Lib.itoa c))).2&&true)) then some (⟨(bC (B (Lib.itoa a))).1,(bC (B (Lib.itoa b))).1,(bC (B (Lib.itoa c))).1⟩:Mark) else none)=_;rw[gx ha ha2,gx hb hb2,gx hc hc2];rfl
def aak{p:List UInt8}(h:(bC (B p)).2=true):0≤(bC (B p)).1∧p=Lib.itoa (bC (B p)).1:=by
 rcases uu (B p) with h1 | ⟨n,h1,_,h3⟩
 ·rw[h1]at h;cases h
 ·rw[h1];exact⟨by simp,by rw[j9];exact h3⟩
def aeF{r:auB}{m:Mark}(h:oB r=some m):0≤m.mf∧0≤m.mn∧0≤m.mu∧L r=Lib.itoa m.mf++32::(Lib.itoa m.mn++32::Lib.itoa m.mu):=by
 unfold oB at h;have hj:=Fj ((L r).count 32) (L r);split at h
 ·rename_i p q t hp;rw[hp]at hj;split at h
  ·rename_i hc;simp only[auF]at hc;cases h;have h1:=aak hc.1;have h2:=aak hc.2.1;have h3:=aak hc.2.2.1;refine⟨h1.1,h2.1,h3.1, ?_⟩;simp only;rw[← h1.2,← h2.2,← h3.2];exact hj.symm
  ·cases h
 ·cases h
def Yu{r:auB}{a b c:Int}(ha:0≤a)(ha2:a < 10000)(hb:0≤b)(hb2:b < 10000)(hc:0≤c)(hc2:c < 10000)(e:L r=Lib.itoa a++32::(Lib.itoa b++32::Lib.itoa c)):XX r=false∧mk3 r=⟨a,b,c⟩:=by
 have e0:=IP (eA ha) e;have c1:L (jP r 1)=_:=(po (t:=r) e0).2;have e1:=IP (eA hb) c1;have c2:L (jP r 2)=_:=(po (t:=r) e1).2;have e2:=aa8 (s:=jP r 2) (by rw[c2];exact eA hc);have w0:aF r 0=B (Lib.itoa a):=(po (t:=r) e0).1;have w1:aF r 1=B (Lib.itoa b):=(po (t:=r) e1).1;have w2:aF r 2=B (Lib.itoa c):=by
  show(wd (jP r 2)).1=_;rw[e2];apply qR;rw[c2,L_B]
 have t3:jP r 3=noB:=by
  show(wd (jP r 2)).2=_;rw[e2]
 have d0:=ou ha ha2;have d1:=ou hb hb2;have d2:=ou hc hc2;refine⟨?_, ?_⟩
 ·unfold XX;rw[t3,w0,w1,w2,d0,d1,d2];have:r=((((cZ a++B [32])++cZ b)++B [32])++cZ c):=qR (by rw[e,afv]);rw[← this];simp
 ·unfold mk3;rw[w0,w1,w2,d0,d1,d2]
def yg{m:Mark}(h:Dd m=true):0≤m.mf∧m.mf≤3∧1≤m.mn∧m.mn≤99∧1≤m.mu∧m.mu≤999:=by
 unfold Dd at h;simp only[auF,ah]at h;omega
def Tn{k:anE}(hf:anK k)(w r:auB):flt (if XX r then none else fc k w (mk3 r))=flt (match oB r with | some m=>fc k w m | none=>none):=by
 rcases tf (Dd (mk3 r)) with hm | hm
 ·obtain⟨a0,a1,b0,b1,c0,c1⟩:=yg hm;rcases tf (XX r) with hc | hc
  ·rw[hc];simp only[auy];cases h:oB r with
   | none=>rfl
   | some m=>
    simp only;rcases tf (Dd m) with h2 | h2
    ·obtain⟨p0,p1,q0,q1,s0,s1⟩:=yg h2;obtain⟨_,_,_,e⟩:=aeF h;rw[(Yu (by omega) (by omega) (by omega) (by omega) (by omega) (by omega) e).1]at hc;cases hc
    ·exact(M5 (GU hf h2)).symm
  ·have hc2:=hc;unfold XX at hc;simp only[axo,Bool.not_eq_false',decide_eq_true_eq]at hc;have e:L r=_:=(congrArg L hc.2).trans (afv _ _ _);have:=ZO (a:=(mk3 r).mf) (b:=(mk3 r).mn) (c:=(mk3 r).mu) (by omega) (by omega) (by omega) (by omega) (by omega) (by omega) e;rw[hc2,this];rfl
 ·have hL:flt (if XX r then none else fc k w (mk3 r))=none:=by
   cases XX r
   ·exact M5 (GU hf hm)
   ·rfl
  rw[hL];cases h:oB r with
  | none=>rfl
  | some m=>
   simp only;rcases tf (Dd m) with h2 | h2
   ·obtain⟨p0,p1,q0,q1,s0,s1⟩:=yg h2;obtain⟨_,_,_,e⟩:=aeF h;have:=(Yu (by omega) (by omega) (by omega) (by omega) (by omega) (by omega) e).2;rw[this]at hm;have hm:Dd m=false:=hm;rw[h2]at hm;cases hm
   ·exact(M5 (GU hf h2)).symm
def ama{k:anE}{n nx:Int}{a b:List anz}{m:List Mark}(hn:999 < n):aw ⟨k.id,n,nx,a,m,b⟩=false:=by
 rcases tf (aw ⟨k.id,n,nx,a,m,b⟩) with h | h
 ·have:=(bN h).t1;simp only at this;omega
 ·exact h
def amx{k:anE}{n ti:Int}{a b:List anz}{m:List Mark}(hn:100 < n):aw ⟨k.id,ti,n,a,m,b⟩=false:=by
 rcases tf (aw ⟨k.id,ti,n,a,m,b⟩) with h | h
 ·have:=(bN h).n1;simp only at this;omega
 ·exact h
def afR{k:anE}(hf:anK k)(r:auB):flt (iF k kE r)=flt (cL k kE r):=by
 have h0:=hf.t0;unfold iF cL Ma;simp only[T7,Xa,T6,T9,Q5,Xb,Xc,T8,auz,au7,avW,avG,ava,avk,auL,auN,auy,auD];rcases YL r with⟨h1,h2⟩ | ⟨n,h1,h2 | ⟨h2,h3⟩⟩
 ·rw[h1,h2,aus (by simp;omega)];rfl
 ·rw[h1,h2];rcases sb (n:Int) k.ti with h4 | h4<;>simp only[h4,auz,auA,auy,auD]
 ·rw[h1,h2,aus (by simp;omega)];rcases sb (n:Int) k.ti with h4 | h4<;>simp only[h4,auz,auA,auy,auD];exact(M5 (.inr ⟨_,rfl,ama (by omega)⟩)).symm
def afS{k:anE}(hf:anK k)(r:auB):flt (iF k mg r)=flt (cL k mg r):=by
 have h0:=hf.n0;unfold iF cL Ma;simp only[FW,Xk,Uc,Ue,Q6,Xl,Xm,Ud,auz,au7,avW,avG,ava,avk,auL,auN,auy,auD];rcases YL r with⟨h1,h2⟩ | ⟨n,h1,h2 | ⟨h2,h3⟩⟩
 ·rw[h1,h2,aus (by simp;omega)];rfl
 ·rw[h1,h2];rcases sb (n:Int) k.nx with h4 | h4<;>simp only[h4,auz,auA,auy,auD]
 ·rw[h1,h2,aus (by simp;omega)];rcases sb (n:Int) k.nx with h4 | h4<;>simp only[h4,auz,auA,auy,auD];exact(M5 (.inr ⟨_,rfl,amx (by omega)⟩)).symm
def afO{k:anE}(r:auB):iF k tH r=cL k tH r:=by
 unfold iF cL iR;simp only[Xf,Xh,Xg,Xj,Ub,aai,aaj,Xi,auz,au7,avW,avG,ava,avk,auL,auN,auy,auD];cases dt r with
 | none=>rfl
 | some n=>
  simp only;rcases tf (decide (n.fr=k.id)) with h1 | h1<;>rcases tf (decide (n.nu=k.nx)) with h2 | h2<;>simp only[h1,h2,auG,auH,ite_self,auz,au7,avW,avG,ava,avk,auL,auN,auy,auD]
def adf{k:anE}(r:auB):iF k kF r=cL k kF r:=by
 unfold iF cL iR;simp only[x8,x9,AJ,ya,wu,Xd,Xe,Ua,auz,au7,avW,avG,ava,avk,auL,auN,auy,auD];cases dt r with
 | none=>rfl
 | some n=>
  simp only;rcases tf (decide (n.fr=k.id)) with h1 | h1<;>simp only[h1,auG,auH,ite_self,auz,au7,avW,avG,ava,avk,auL,auN,auy,auD]
def adh{k:anE}(r:auB):iF k kG r=cL k kG r:=by
 unfold iF cL iR;simp only[FY,F1,IX,FZ,Q8,Xn,Xo,Uh,auz,au7,avW,avG,ava,avk,auL,auN,auy,auD];cases dt r with
 | none=>rfl
 | some n=>
  simp only;rcases tf (decide (0≤aP k.held n.fr n.nu)) with h1 | h1<;>rcases tf (decide (0≤aP k.inbox n.fr n.nu)) with h2 | h2<;>simp only[h1,h2,auG,auH,ite_self,auz,au7,avW,avG,ava,avk,auL,auN,auy,auD]
def abm{k:anE}(r:auB):iF k fP r=cL k fP r:=by
 unfold iF cL iR;simp only[Ea,Ec,FX,Eb,Ed,Uf,Ug,Q7,auz,au7,avW,avG,ava,avk,auL,auN,auy,auD];cases dt r with
 | none=>rfl
 | some n=>
  simp only;rcases tf (decide (0≤aP k.held n.fr n.nu)) with h1 | h1<;>rcases tf (decide (0≤aP k.inbox n.fr n.nu)) with h2 | h2<;>simp only[h1,h2,auG,auH,ite_self,auz,au7,avW,avG,ava,avk,auL,auN,auy,auD]
def afP{k:anE}(hf:anK k)(r:auB):flt (iF k jk r)=flt (cL k jk r):=by
 have h:=Tn hf jk r;unfold iF cL;simp only[AN,AP,Da,AO,AR,yf,Db,AQ,auz,au7,avW,avG,ava,avk,auL,auN,auy,auD];refine ax0 ?_ h;unfold fc;simp only[AN,AP,Da,AO,AR,yf,Db,AQ,auz,au7,avW,avG,ava,avk,auL,auN,auy,auD];congr 1;refine ite_congr rfl (fun _=>rfl) fun _=> ?_;cases A2 k.held (mk3 r)<;>rfl
def afQ{k:anE}(hf:anK k)(r:auB):flt (iF k nG r)=flt (cL k nG r):=by
 have h:=Tn hf nG r;unfold iF cL;simp only[IY,I0,Mf,IZ,I2,F2,Mg,I1,auz,au7,avW,avG,ava,avk,auL,auN,auy,auD];refine ax0 ?_ h;unfold fc;simp only[IY,I0,Mf,IZ,I2,F2,Mg,I1,auz,au7,avW,avG,ava,avk,auL,auN,auy,auD];congr 1;refine ite_congr rfl (fun _=>rfl) fun _=> ?_;cases A2 k.inbox (mk3 r)<;>rfl
def adg{k:anE}(hf:anK k)(r:auB):flt (iF k fX r)=flt (cL k fX r):=by
 have h:=Tn hf fX r;unfold iF cL;simp only[yb,yd,AK,yc,ye,wv,AL,AM,auz,au7,avW,avG,ava,avk,auL,auN,auy,auD];refine ax0 ?_ h;unfold fc;simp only[yb,yd,AK,yc,ye,wv,AL,AM,auz,au7,avW,avG,ava,avk,auL,auN,auy,auD];congr 1;refine ite_congr rfl (fun _=>rfl) fun _=> ?_;cases decide (0≤eC k.marks (mk3 r).mf (mk3 r).mn)<;>rfl
def akh{k:anE}(hf:anK k)(w r:auB):flt (iF k w r)=flt (cL k w r):=by
 by_cases apC:w=kE
 ·subst apC;exact afR hf r
 by_cases apE:w=mg
 ·subst apE;exact afS hf r
 by_cases aqw:w=tH
 ·subst aqw;exact congrArg flt (afO r)
 by_cases apD:w=kF
 ·subst apD;exact congrArg flt (adf r)
 by_cases apG:w=kG
 ·subst apG;exact congrArg flt (adh r)
 by_cases apa:w=fP
 ·subst apa;exact congrArg flt (abm r)
 by_cases aqx:w=jk
 ·subst aqx;exact afP hf r
 by_cases aqy:w=nG
 ·subst aqy;exact afQ hf r
 by_cases apF:w=fX
 ·subst apF;exact adg hf r
 have e1:iF k w r=none:=by
  unfold iF;simp only[apC,apE,aqw,apD,apG,apa,aqx,aqy,apF,auA,auz,au7,avW,avG,ava,avk,auL,auN,auy,auD,ite_self]
 have e2:cL k w r=none:=by
  unfold cL;simp only[apC,apE,aqw,apD,apG,apa,aqx,aqy,apF,auA,auz,au7,avW,avG,ava,avk,auL,auN,auy,auD]
 rw[e1,e2]
def af0{k:anE}(hf:anK k)(w:auB):iF k w noB=none:=by
 have h0:=hf.t0;have h1:=hf.n0;have hc:XX noB=true:=by
  unfold XX;have: ¬ noB=((((cZ (bh (aF noB 0))++B [32])++cZ (bh (aF noB 1)))++B [32])++cZ (bh (aF noB 2))):=fun h=>by
   have:=congrArg ay0 h;rw[aB,aB,aB,aB]at this;have e:noB.size=0:=rfl;have e2:(B [32]).size=1:=rfl;omega
  simp[this]
 unfold iF;rw[ajK,adF,hc];have a1:decide (-1≤k.ti)=true:=by simp;omega
 have a2:decide (-1≤k.nx)=true:=by simp;omega
 simp only[a1,a2,auy,ite_self]
def amm{k:anE}(hf:anK k)(rec:auB):flt (iF k (wd rec).1 (wd rec).2)=flt (qX k rec):=by
 unfold qX;rcases o6 (L rec) with h | ⟨w,r,h,e⟩
 ·rw[aa8 h,NJ h,af0 hf];rfl
 ·rw[e,NK h];exact akh hf _ _
def akl{k:anE}{w r:auB}(hf:anK k){o:anE}(h:iF k w r=some o):SmK o:=by
 have sm:=hf.sm;unfold iF at h;split at h
 ·split at h<;>cases h;have a:=avY (fun x:anz=>decide (bh r < x.un)) k.held;have b:=avY (fun x:Mark=>decide (bh r < x.mu)) k.marks;have l1:=hf.hl;have l2:=hf.ml;exact⟨by unfold vD;simp only;omega,fun x hx=>sm.h x (awd.1 hx).1,by unfold FH;simp only;omega,sm.il,sm.i⟩
 split at h
 ·cases hn:dt r with
  | none=>rw[hn]at h;cases h
  | some n=>
   rw[hn]at h;simp only at h;split at h
   ·cases h
   split at h
   ·cases h
   exact Ta (k':=⟨k.id,k.ti,k.nx+1,k.held,k.marks,k.inbox⟩) hf ⟨rfl,rfl,rfl⟩ h
 split at h
 ·cases hn:dt r with
  | none=>rw[hn]at h;cases h
  | some n=>
   rw[hn]at h;simp only at h;split at h
   ·cases h
   exact Ta (k':=k) hf ⟨rfl,rfl,rfl⟩ h
 split at h
 ·split at h<;>cases h;exact sm
 split at h
 ·cases hn:dt r with
  | none=>rw[hn]at h;cases h
  | some n=>
   have hok:=jR (eG hn).1;rw[hn]at h;simp only at h;split at h
   ·cases h
   split at h
   ·cases h
   split at h<;>cases h
   ·have a:=HN hf.hl sm.h hok;exact⟨a.1,a.2,sm.ml,sm.il,sm.i⟩
   ·have a:=HN hf.il sm.i hok;exact⟨sm.hl,sm.h,sm.ml,a.1,a.2⟩
 split at h
 ·cases h
 split at h
 ·split at h<;>cases h;have a:=SZ (i:=(aP k.held (mk3 r).mf (mk3 r).mn).toNat) hf.hl sm.h;exact⟨a.1,a.2,MH hf.ml,sm.il,sm.i⟩
 split at h
 ·split at h<;>cases h;have a:=SZ (i:=(aP k.inbox (mk3 r).mf (mk3 r).mn).toNat) hf.il sm.i;exact⟨sm.hl,sm.h,sm.ml,a.1,a.2⟩
 split at h
 ·split at h<;>cases h;exact⟨sm.hl,sm.h,MH hf.ml,sm.il,sm.i⟩
 ·cases h
def IT{id ti nx:Int}{rec:auB}{held:List anz}{marks:List Mark}{inbox:List anz}(sm:anM held marks inbox)(hr:rec.size≤1048576):
  lO ((id,ti,nx,held,marks,inbox,()),rec,())=some ((tK (ic ⟨id,ti,nx,held,marks,inbox⟩ rec).1,(ic ⟨id,ti,nx,held,marks,inbox⟩ rec).2,()),()):=by
 unfold lO ic;simp only[AE sm,Fs sm,auE];rcases tf (aw ⟨id,ti,nx,held,marks,inbox⟩) with h | h
 ·have hf:=bN h;have ha:=ads hf hr;have hko:=amm hf rec;unfold flt at hko;simp only[h,auG,auD,auy];rw[← hko];cases hst:iF ⟨id,ti,nx,held,marks,inbox⟩ (wd rec).1 (wd rec).2 with
  | none=>
   rw[hst]at ha;obtain⟨t,ht⟩:=ha;simp only[ht,auE,auH,auG,dO,auy,avk];rfl
  | some o=>
   rw[hst]at ha;have sm':=akl hf hst;rw[show o4 ((id,ti,nx,held,marks,inbox,()),rec,())=some ((tK o,true,()),()) from ha];simp only[auE,auG,auH,fK,AE sm',Fs sm',au4,avd,auy,ava,Option.filter_some];rcases tf (aw o) with h2 | h2
   ·simp only[h2,auG,auD,auy]
   ·simp only[h2,auH,auD,auy]
 ·simp only[h,auH,auD,auy]
def aaZ{s:auB}{a i:Nat}(h:a+i < s.size):bt (s.extract a s.size) i=bt s ((a+i:Nat):Int):=by
 rw[y0,y0,kB];congr 2;rw[auQ,auQ,ayM (by omega),awh]
def aff{s:auB}{a i j:Nat}(h:a+j≤s.size):(s.extract a s.size).extract i j=s.extract (a+i) (a+j):=by
 apply qR;rw[kB,kB,kB];rw[List.drop_take,aw9,ay1];congr 1;omega
def ee{s:auB}{a b:Nat}(hb:b≤s.size):(s.extract a b).size=b - a:=by
 rw[← ba,kB,avv,avy,ba];omega
def acN(s:auB):Int:=qP (min s.size 3) fun i=>decide (bt s i=58)
def qS(s:auB):Option (auB×Nat):=
 if acN s < 0 then none else
 let c:=(acN s).toNat
 let n:=bh (s.extract 0 c)
 if n < 1 then none else if 60 < n then none else
 if(s.size:Int) < c+2+n then none else
 if !decide (bt s ((c+1+n.toNat:Nat):Int)=59) then none else some (s.extract (c+1) (c+1+n.toNat),c+2+n.toNat)
def At(s:auB):(acN s= -1∧ ∀ i,i < min s.size 3→bt s (i:Int)≠58)∨ ∃ c:Nat,acN s=c∧c < s.size∧c < 3∧bt s (c:Int)=58∧ ∀ i,i < c→bt s (i:Int)≠58:=by
 rcases bZ (min s.size 3) (fun i=>decide (bt s i=58)) with⟨h1,h2⟩ | ⟨c,h1,h2,h3,h4⟩
 ·exact .inl ⟨h1,fun i hi=>by simpa using h2 i hi⟩
 ·exact .inr ⟨c,h1,by omega,by omega,by simpa using h3,fun i hi=>by simpa using h4 i hi⟩
def adt{s:auB}(hs:s.size≤1048576):uZ (s,())=some ((match qS s with | some p=>(p.1,(p.2:Int),()) | none=>(noB,0,())),()):=by
 have hb: ∀ i,i < min s.size 3→ff (s,(i:Int),())=if decide (bt s (i:Int)=58) then ff (s,(i:Int),()) else some (.inl (s,((i+1:Nat):Int),())):=fun i hi=>by
  have hi2:i < s.size:=by omega
  rcases tf (decide (bt s (i:Int)=58)) with h | h
  ·rw[h];rfl
  ·rw[h];have e1:decide ((i:Int) < 3)=true:=by simp;omega
   unfold ff;simp only[ak hi2,bD hi2,h,aA hi2 (by omega:s.size≤9223372036854775807),e1];rfl
 have aoh: ∃ y,ry (s,0,())=some y∧((qS s=none∧(y= .inl (noB,0,())∨y= .inr ()))∨ ∃ p,qS s=some p∧y= .inl (p.1,(p.2:Int),())):=by
  rcases At s with⟨h1,h2⟩ | ⟨c,h1,h2,h3,h4,h5⟩
  ·refine⟨.inr (), ?_,.inl ⟨by unfold qS;rw[h1,aus (by omega)],.inr rfl⟩⟩;refine cy (fun i=>(s,(i:Int),())) (min s.size 3) (fun i hi=> ?_) ?_
   ·rw[hb i hi,show decide (bt s (i:Int)=58)=false by simpa using h2 i hi];rfl
   ·unfold ff;have e:(decide (((min s.size 3:Nat):Int) < (s.size:Int))&&decide (((min s.size 3:Nat):Int) < 3))=false:=by
     rw[Bool.eq_false_iff];simp only[ne_eq,auF,decide_eq_true_eq];omega
    simp only[e];rfl
  ·have aob:qS s=(let n:=bh (s.extract 0 c);if n < 1 then none else if 60 < n then none else if(s.size:Int) < c+2+n then none else
     if !decide (bt s ((c+1+n.toNat:Nat):Int)=59) then none else some (s.extract (c+1) (c+1+n.toNat),c+2+n.toNat)):=by
    unfold qS;rw[h1,aur (by omega)];rfl
   have aq4: ∃ y,ff (s,(c:Int),())=some (.inr y)∧((qS s=none∧(y= .inl (noB,0,())∨y= .inr ()))∨ ∃ p,qS s=some p∧y= .inl (p.1,(p.2:Int),())):=by
    rw[aob];unfold ff;have e1:decide ((c:Int) < 3)=true:=by simp;omega
    have e2:(decide (0≤(c:Int))&&decide ((c:Int)≤(s.size:Int)))=true:=by simp;omega
    have e3:(!decide (bt s (c:Int)=58))=false:=by simp[h4]
    have hse:(s.extract 0 c).size=c:=ee (by omega);simp only[ak h2,bD h2,e1,e2,e3,auV,auD,avT,auy,CR (show(s.extract 0 c).size≤9223372036854775807 by omega),auE];have hrg:=DL (s.extract 0 c);generalize bh (s.extract 0 c)=n at *;by_cases k1:n < 1
    ·exact⟨.inl (noB,0,()),by simp[k1],.inl ⟨by simp[k1],.inl rfl⟩⟩
    by_cases k2:60 < n
    ·exact⟨.inl (noB,0,()),by simp[k1,k2],.inl ⟨by simp[k1,k2],.inl rfl⟩⟩
    obtain⟨m,hm⟩:=avL (show 0≤n by omega);subst hm;have w1:w64 ((c:Int)+2)=(c:Int)+2:=ai (by omega) (by omega);have w2:w64 ((c:Int)+1)=((c+1:Nat):Int):=by rw[ai (by omega) (by omega)];omega
    have w3:w64 ((c:Int)+2+(m:Int))=((c+2+m:Nat):Int):=by rw[ai (by omega) (by omega)];omega
    have w4:w64 (((c+1:Nat):Int)+(m:Int))=((c+1+m:Nat):Int):=by rw[ai (by omega) (by omega)];omega
    simp only[w1,w2,w3,w4,auV];by_cases k3:(s.size:Int) < (c:Int)+2+m
    ·have k3':(s.size:Int) < ((c+2+m:Nat):Int):=by omega
     exact⟨.inl (noB,0,()),by simp only[k1,k2,k3',auz,auA,auy,auD],.inl ⟨by simp[k1,k2,k3],.inl rfl⟩⟩
    have k3': ¬ (s.size:Int) < ((c+2+m:Nat):Int):=by omega
    have k4:c+1+m < s.size:=by omega
    have e5:((decide (0≤((c+1+m:Nat):Int))&&decide (((c+1+m:Nat):Int)≤(s.size:Int)))&&(decide (0≤((c+1:Nat):Int))&&decide (((c+1:Nat):Int)≤((c+1+m:Nat):Int))))=true:=by
     simp only[auF,decide_eq_true_eq];omega
    simp only[k1,k2,k3,k3',auA,auD,if_false,ak k4,auy,e5];rcases tf (!decide (bt s ((c+1+m:Nat):Int)=59)) with k5 | k5
    ·exact⟨.inl (noB,0,()),by simp only[k5,auy],.inl ⟨by simp only[k5,auy],.inl rfl⟩⟩
    ·exact⟨.inl (s.extract (c+1) (c+1+m),((c+2+m:Nat):Int),()),by simp only[k5,auD],.inr ⟨(s.extract (c+1) (c+1+m),c+2+m),by simp only[k5,auD],rfl⟩⟩
   obtain⟨y,hy,hy2⟩:=aq4;refine⟨y, ?_,hy2⟩;refine cy (fun i=>(s,(i:Int),())) c (fun i hi=> ?_) hy;rw[hb i (by omega),show decide (bt s (i:Int)=58)=false by simpa using h5 i hi];rfl
 obtain⟨y,hy,hy2⟩:=aoh;unfold uZ;simp only[hy];rcases hy2 with⟨h1,rfl | rfl⟩ | ⟨p,h1,rfl⟩<;>rw[h1]<;>rfl
def BO{s:auB}{p:auB×Nat}(h:qS s=some p):3≤p.2∧p.2≤s.size∧p.1.size≤60∧1≤p.1.size:=by
 unfold qS at h;split at h
 ·cases h
 rename_i hc;rcases At s with⟨h1,_⟩ | ⟨c,h1,h2,h3,h4,h5⟩
 ·omega
 rw[h1]at h;simp only[auV]at h;split at h
 ·cases h
 split at h
 ·cases h
 split at h
 ·cases h
 split at h
 ·cases h
 cases h;simp only;rw[ee (by omega)];omega
def my(log:auB):Nat→List auB→Nat→List auB×Nat
 | 0,out,at_=>(out,at_)
 | f+1,out,at_=>if at_ < log.size then(match qS (log.extract at_ log.size) with
  | none=>(out,at_)
  | some p=>my log f (out++[p.1]) (at_+p.2)) else(out,at_)
def TK{log:auB}: ∀ (f:Nat) (out:List auB) (at_:Nat),at_≤log.size→out.length≤at_→(∀ r∈out,r.size≤60∧1≤r.size)→
  (my log f out at_).2≤log.size∧(my log f out at_).1.length≤(my log f out at_).2∧ ∀ r∈(my log f out at_).1,r.size≤60∧1≤r.size
 | 0,out,at_,h1,h2,h3=>⟨h1,h2,h3⟩
 | f+1,out,at_,h1,h2,h3=>by
  unfold my;split
  ·rename_i hlt;cases h:qS (log.extract at_ log.size) with
   | none=>exact⟨h1,h2,h3⟩
   | some p=>
    obtain⟨a,b,c,d⟩:=BO h;rw[ee (auS _)]at b;exact TK f _ _ (by omega) (by simp;omega) (fun r hr=>by
     rcases auX.1 hr with hr | hr
     ·exact h3 r hr
     ·obtain rfl:=avh.1 hr;exact⟨c,d⟩)
  ·exact⟨h1,h2,h3⟩
def fE(log:auB):List auB×Nat:=my log (log.size+1) [] 0
def qe(log:auB):(fE log).2≤log.size∧(fE log).1.length≤log.size∧ ∀ r∈(fE log).1,r.size≤60∧1≤r.size:=by
 have:=TK (log:=log) (log.size+1) [] 0 (avM _) (avM _) (fun r hr=>by cases hr);exact⟨this.1,avr this.2.1 this.1,this.2.2⟩
def Ot{ρ:Type}{log:auB}{b:(auB×List auB×Int×auC)→Option ((auB×List auB×Int×auC) ⊕ ρ)}(ok:List auB→Nat→ρ→Prop)
  (h: ∀ (out:List auB) (at_:Nat),at_ < log.size→out.length≤at_→match qS (log.extract at_ log.size) with
   | some p=>b (log,out,(at_:Int),())=some (.inl (log,out++[p.1],((at_+p.2:Nat):Int),()))
   | none=> ∃ y,b (log,out,(at_:Int),())=some (.inr y)∧ok out at_ y)
  (hn: ∀ (out:List auB) (at_:Nat),log.size≤at_→ ∃ y,b (log,out,(at_:Int),())=some (.inr y)∧ok out at_ y):
  ∀ (f:Nat) (out:List auB) (at_:Nat),log.size < at_+f→at_≤log.size→out.length≤at_→ ∃ y,aV b (log,out,(at_:Int),())=some y∧ok (my log f out at_).1 (my log f out at_).2 y
 | 0,out,at_,h1,h2,h3=>by omega
 | f+1,out,at_,h1,h2,h3=>by
  unfold my;by_cases hlt:at_ < log.size
  ·rw[aus hlt];have hb:=h out at_ hlt h3;cases aob:qS (log.extract at_ log.size) with
   | none=>
    rw[aob]at hb;obtain⟨y,h4,h5⟩:=hb;exact⟨y,ao h4,h5⟩
   | some p=>
    rw[aob]at hb;obtain⟨a,c,_,_⟩:=BO aob;rw[ee (auS _)]at c;obtain⟨y,h4,h5⟩:=Ot ok h hn f (out++[p.1]) (at_+p.2) (by omega) (by omega) (by simp;omega);exact⟨y,aj hb h4,h5⟩
  ·rw[aur hlt];obtain⟨y,h4,h5⟩:=hn out at_ (by omega);exact⟨y,ao h4,h5⟩
def jM{log:auB}(hs:log.size≤1048576):cI (log,())=some (((fE log).1,((fE log).2:Int),()),()):=by
 obtain⟨y,h1,h2⟩:=Ot (log:=log) (b:=fy) (fun out at_ y=>y= .inl (out,(at_:Int),())∨y= .inr (out,(at_:Int),())) (fun out at_ hlt hl=>by
  have hse:(log.extract at_ log.size).size=log.size - at_:=ee (auS _);have e1:(decide (0≤(at_:Int))&&decide ((at_:Int)≤(log.size:Int)))=true:=by simp;omega
  have hb:fy (log,out,(at_:Int),())=(match qS (log.extract at_ log.size) with | some p=>some (.inl (log,out++[p.1],((at_+p.2:Nat):Int),())) | none=>some (.inr (.inl (out,(at_:Int),())))):=by
   unfold fy;simp only[bD hlt,e1,auy,auV,adt (show(log.extract at_ log.size).size≤1048576 by omega),auE];cases aob:qS (log.extract at_ log.size) with
   | none=>rfl
   | some p=>
    obtain⟨a,c,_,_⟩:=BO aob;have e2:decide (((p.2:Nat):Int)=0)=false:=by simp;omega
    have e3:w64 ((at_:Int)+(p.2:Int))=((at_+p.2:Nat):Int):=by rw[ai (by omega) (by omega)];omega
    simp only[e2,e3,auD,auZ,avf,avV,aH (show out.length+1≤4294967296 by omega),auy]
  rw[hb];cases qS (log.extract at_ log.size) with
  | none=>exact⟨_,rfl,.inl rfl⟩
  | some p=>rfl) (fun out at_ hge=>by
  refine⟨.inr (out,(at_:Int),()), ?_,.inr rfl⟩;unfold fy;have e:decide ((at_:Int) < (log.size:Int))=false:=by simp;omega
  simp only[e];rfl) (log.size+1) [] 0 (by omega) (avM _) (avM _)
 unfold cI;rw[show mS (log,[],0,())=some y from h1];rcases h2 with rfl | rfl<;>rfl
def WV{log:auB}{out:List auB}{at_ n:Nat}(hs:log.size≤1048576)(h: ∀ i,i < n→at_+i < log.size∧bt log ((at_+i:Nat):Int)≠58)(hn:n≤3)(hle:at_+n≤log.size)
  (asu:log.size≤at_+n∨n=3∨bt log ((at_+n:Nat):Int)=58):nr (log,out,(at_:Int),(at_:Int),())=some (.inr (log,out,(at_:Int),((at_+n:Nat):Int),())):=by
 have e3:w64 ((at_:Int)+3)=((at_+3:Nat):Int):=by rw[ai (by omega) (by omega)];omega
 refine cy (fun i=>(log,out,(at_:Int),((at_+i:Nat):Int),())) n (fun i hi=> ?_) ?_
 ·obtain⟨h1,h2⟩:=h i hi;unfold mD;have e2:decide (bt log ((at_+i:Nat):Int)=58)=false:=by simpa using h2
  simp only[bD h1,ak h1,e3,bD (show at_+i < at_+3 by omega),e2,aA h1 (by omega:log.size≤9223372036854775807)];rfl
 ·unfold mD;by_cases h1:at_+n < log.size
  ·simp only[bD h1,ak h1,e3];rcases asu with h2 | h2 | h2
   ·omega
   ·have:decide (((at_+n:Nat):Int) < ((at_+3:Nat):Int))=false:=by simp;omega
    rw[this];rfl
   ·rw[show decide (bt log ((at_+n:Nat):Int)=58)=true by simpa using h2];cases decide (((at_+n:Nat):Int) < ((at_+3:Nat):Int))<;>rfl
  ·have e1:decide (((at_+n:Nat):Int) < (log.size:Int))=false:=by simp;omega
   simp only[e1,auD,dO,auy]
def RF{log:auB}{out:List auB}{at_:Nat}(hs:log.size≤1048576)(hlt:at_ < log.size)(hl:out.length≤at_):
  fI (log,out,(at_:Int),())=some (match qS (log.extract at_ log.size) with | some p=> .inl (log,out++[p.1],((at_+p.2:Nat):Int),()) | none=> .inr (.inr (out,(at_:Int),()))):=by
 have hse:(log.extract at_ log.size).size=log.size - at_:=ee (auS _);unfold fI;simp only[bD hlt,auy];rcases At (log.extract at_ log.size) with⟨h1,h2⟩ | ⟨c,h1,h2,h3,h4,h5⟩
 ·have aob:qS (log.extract at_ log.size)=none:=by unfold qS;rw[h1,aus (by omega)]
  have hb: ∀ i,i < min (log.size - at_) 3→at_+i < log.size∧bt log ((at_+i:Nat):Int)≠58:=fun i hi=>by
   refine⟨by omega, ?_⟩;rw[← aaZ (by omega)];exact h2 i (by rw[hse];exact hi)
  rw[aob,WV (n:=min (log.size - at_) 3) hs hb (by omega) (by omega) (by omega)];simp only[c8];by_cases h6:log.size≤at_+min (log.size - at_) 3
  ·have e:decide ((log.size:Int)≤((at_+min (log.size - at_) 3:Nat):Int))=true:=by simp;omega
   simp only[e,auG,dO,auy,avk]
  ·have e:decide ((log.size:Int)≤((at_+min (log.size - at_) 3:Nat):Int))=false:=by simp;omega
   have hm:min (log.size - at_) 3=3:=by omega
   rw[hm]at e h6 ⊢;simp only[e,ak (show at_+3 < log.size by omega),auH,fK,auy,ava];rcases tf (decide (bt log ((at_+3:Nat):Int)=58)) with h7 | h7
   ·simp only[h7,auG,auD];have e4:((decide (0≤((at_+3:Nat):Int))&&decide (((at_+3:Nat):Int)≤(log.size:Int)))&&(decide (0≤(at_:Int))&&decide ((at_:Int)≤((at_+3:Nat):Int))))=true:=by simp;omega
    simp only[e4,auy,auV];have hz:(log.extract at_ (at_+3)).size=3:=by rw[ee (by omega)];omega
    rw[sx (by omega)];simp only[auE];rcases uu (log.extract at_ (at_+3)) with h8 | ⟨n,h8,h9,h10⟩
    ·simp only[h8];rfl
    ·have h11:100≤n:=by
      rcases awm n 100 with h12 | h12
      ·have:=vl 2 n (by omega) (by omega);rw[← h10,ba]at this;omega
      ·exact h12
     have e5:inB (n:Int) 1 60=false:=by simp[inB];omega
     simp only[h8,cm,auE,e5];rfl
   ·simp only[h7];rfl
 ·have hb: ∀ i,i < c→at_+i < log.size∧bt log ((at_+i:Nat):Int)≠58:=fun i hi=>by
   refine⟨by omega, ?_⟩;rw[← aaZ (by omega)];exact h5 i hi
  have h4':bt log ((at_+c:Nat):Int)=58:=by rw[← aaZ (by omega)];exact h4
  have hc:at_+c < log.size:=by omega
  rw[WV (n:=c) hs hb (by omega) (by omega) (.inr (.inr h4'))];simp only[c8];have e:decide ((log.size:Int)≤((at_+c:Nat):Int))=false:=by simp;omega
  have e4:((decide (0≤((at_+c:Nat):Int))&&decide (((at_+c:Nat):Int)≤(log.size:Int)))&&(decide (0≤(at_:Int))&&decide ((at_:Int)≤((at_+c:Nat):Int))))=true:=by simp;omega
  simp only[e,ak hc,auH,fK,auy,ava,show decide (bt log ((at_+c:Nat):Int)=58)=true by simpa using h4',auG,auD,e4,auV];have hz:(log.extract at_ (at_+c)).size=c:=by rw[ee (by omega)];omega
  have hz2:(log.extract at_ log.size).extract 0 c=log.extract at_ (at_+c):=by rw[aff (by omega)];simp
  rw[sx (by omega)];have aob:qS (log.extract at_ log.size)=(let n:=bh (log.extract at_ (at_+c));if n < 1 then none else if 60 < n then none else if((log.extract at_ log.size).size:Int) < c+2+n then none else
    if !decide (bt (log.extract at_ log.size) ((c+1+n.toNat:Nat):Int)=59) then none else some ((log.extract at_ log.size).extract (c+1) (c+1+n.toNat),c+2+n.toNat)):=by
   unfold qS;rw[h1,aur (by omega),auV];simp only[hz2]
  rw[aob];simp only[auE];rcases uu (log.extract at_ (at_+c)) with h8 | ⟨n,h8,h9,h10⟩
  ·have hd:bh (log.extract at_ (at_+c))= -1:=by
    rcases uM (log.extract at_ (at_+c)) with⟨h9,_⟩ | ⟨n,h9,h10,h11⟩
    ·exact h9
    ·rw[OB (by omega) h11]at h8;cases h8
   simp only[h8,hd];rfl
  ·rw[Vz (by omega) h10];simp only[h8,cm,auE,auG,auD,auV,hse];by_cases h11:(n:Int) < 1
   ·rw[aus h11,show inB (n:Int) 1 60=false by simp[inB];omega];rfl
   ·rw[aur h11];by_cases h12:60 < (n:Int)
    ·rw[aus h12,show inB (n:Int) 1 60=false by simp[inB];omega];rfl
    ·rw[aur h12,show inB (n:Int) 1 60=true by simp[inB];omega];have e5:w64 (((at_+c:Nat):Int)+1)=((at_+c+1:Nat):Int):=by rw[ai (by omega) (by omega)];omega
     have e6:w64 (((at_+c+1:Nat):Int)+(n:Int))=((at_+c+1+n:Nat):Int):=by rw[ai (by omega) (by omega)];omega
     simp only[e5,e6,auG,auD];by_cases h13:at_+c+1+n < log.size
     ·rw[aur (show ¬ (((log.size - at_:Nat):Int) < c+2+n) by omega)];have e7:decide ((log.size:Int)≤((at_+c+1+n:Nat):Int))=false:=by simp;omega
      simp only[e7,auD,ak h13,auy];have e10:bt (log.extract at_ log.size) ((c+1+n:Nat):Int)=bt log ((at_+c+1+n:Nat):Int):=by rw[aaZ (show at_+(c+1+n) < log.size by omega),show at_+(c+1+n)=at_+c+1+n by omega]
      simp only[e10];rcases tf (decide (bt log ((at_+c+1+n:Nat):Int)=59)) with h14 | h14
      ·have e8:((decide (0≤((at_+c+1+n:Nat):Int))&&decide (((at_+c+1+n:Nat):Int)≤(log.size:Int)))&&(decide (0≤((at_+c+1:Nat):Int))&&decide (((at_+c+1:Nat):Int)≤((at_+c+1+n:Nat):Int))))=true:=by simp;omega
       have e9:w64 (((at_+c+1+n:Nat):Int)+1)=((at_+(c+2+n):Nat):Int):=by rw[ai (by omega) (by omega)];omega
       simp only[h14,auG,auD,e8,auy,auZ,avf,avV,aH (show out.length+1≤4294967296 by omega),auV,e9,aff (show at_+(c+1+n)≤log.size by omega)];rw[show at_+(c+1)=at_+c+1 by omega,show at_+(c+1+n)=at_+c+1+n by omega]
      ·simp only[h14,auH,auy]
     ·rw[aus (show(((log.size - at_:Nat):Int) < c+2+n) by omega)];have e7:decide ((log.size:Int)≤((at_+c+1+n:Nat):Int))=true:=by simp;omega
      simp only[e7,auy]
def nY{log:auB}(hs:log.size≤1048576):eV (log,())=some (((fE log).1,((fE log).2:Int),()),()):=by
 obtain⟨y,h1,h2⟩:=Ot (log:=log) (b:=fI) (fun out at_ y=>y= .inr (out,(at_:Int),())) (fun out at_ hlt hl=>by
  rw[RF hs hlt hl];cases qS (log.extract at_ log.size) with
  | none=>exact⟨_,rfl,rfl⟩
  | some p=>rfl) (fun out at_ hge=>by
  refine⟨.inr (out,(at_:Int),()), ?_,rfl⟩;unfold fI;have e:decide ((at_:Int) < (log.size:Int))=false:=by simp;omega
  simp only[e];rfl) (log.size+1) [] 0 (by omega) (avM _) (avM _)
 unfold eV;rw[show ns (log,[],0,())=some y from h1];subst h2;have h3:=qe log;simp only[c8];rw[show(my log (log.size+1) [] 0)=fE log from rfl,np (by omega)];rfl
abbrev zK:anE:=⟨0,0,0,[],[],[]⟩
def bV(k:anE)(r:auB):Option anE:=if(ic k r).2 then some (ic k r).1 else none
def fG(k:anE)(rs:List auB):Option anE:=rs.foldlM bV k
def de(id:Int)(rs:List auB):Option anE:=if isN id then fG ⟨id,0,1,[],[],[]⟩ rs else none
def YZ{σ β γ κ α:Type}{b:σ→Option (σ ⊕ (β ⊕ γ))}(st:Nat→κ→σ)(l:List α)(f:κ→α→Option κ)(bad:β)(fin:κ→γ)(I:κ→Prop)
  (h: ∀ i k x,l[i]? =some x→I k→b (st i k)=some (match f k x with | some k'=> .inl (st (i+1) k') | none=> .inr (.inl bad)))
  (hn: ∀ k,I k→b (st l.length k)=some (.inr (.inr (fin k))))(hI: ∀ k x k',I k→f k x=some k'→I k'):
  ∀ k,I k→aV b (st 0 k)=some (match l.foldlM f k with | some k'=> .inr (fin k') | none=> .inl bad):=by
 have: ∀ (m i:Nat),i+m=l.length→ ∀ k,I k→aV b (st i k)=some (match (l.drop i).foldlM f k with | some k'=> .inr (fin k') | none=> .inl bad):=by
  intro m
  induction m with
  | zero=>
   intro i hi k hk;rw[List.drop_of_length_le (by omega),show i=l.length by omega];exact ao (hn k hk)
  | succ m ih=>
   intro i hi k hk;have hlt:i < l.length:=by omega
   rw[axn hlt,axO];have hb:=h i k l[i] (auO hlt) hk;cases hf:f k l[i]with
   | none=>rw[hf]at hb;exact ao hb
   | some k'=>rw[hf]at hb;exact aj hb (ih (i+1) (by omega) k' (hI k _ k' hk hf))
 intro k hk;have:=this l.length 0 (by omega) k hk;rwa[awF]at this
def agI{k:anE}{r:auB}(h:(ic k r).2=true):aw (ic k r).1=true:=by
 unfold ic at h ⊢;split at h<;>rename_i hk
 ·rw[aus hk];cases hs:(qX k r).filter aw with
  | none=>rw[hs]at h;cases h
  | some o=>exact(awe.1 hs).2
 ·cases h
def F9{k o:anE}{r:auB}(h:bV k r=some o):aw o=true:=by
 unfold bV at h;split at h
 ·cases h;exact agI (by assumption)
 ·cases h
def YS{k:anE}(h:aw k=true):SmK k:=by
 have hf:=bN h;have hn: ∀ {l:List anz},dB l=true→ ∀ x∈l,oM x:=fun {l} hl x hx=>by
  obtain⟨i,hi,rfl⟩:=avA hx;have:=dr hl hi;rw[ji (auO hi)]at this;exact jR this
 exact⟨by have:=hf.hl;omega,hn hf.h,by have:=hf.ml;omega,by have:=hf.il;omega,hn hf.i⟩
def nW{id:Int}(h:isN id=true):aw ⟨id,0,1,[],[],[]⟩=true:=by
 unfold aw;simp only[h];rfl
def Ux: ∀ {rs:List auB} {k o:anE},aw k=true→fG k rs=some o→aw o=true
 | [],k,o,hk,h=>by cases h;exact hk
 | r::rs,k,o,hk,h=>by
  unfold fG at h;rw[axO]at h;cases hs:bV k r with
  | none=>rw[hs]at h;cases h
  | some k'=>rw[hs]at h;exact Ux (rs:=rs) (F9 hs) h
def HM{id:Int}{rs:List auB}{o:anE}(h:de id rs=some o):aw o=true:=by
 unfold de at h;split at h
 ·exact Ux (nW (by assumption)) h
 ·cases h
def XI{id:Int}{rs:List auB}(hl:rs.length≤1048576)(hr: ∀ r∈rs,r.size≤1048576):vh (id,rs,())=some ((tK ((de id rs).getD zK),(de id rs).isSome,()),()):=by
 unfold vh de;simp only[dX,auE,Pd];rcases tf (isN id) with h | h
 ·simp only[h,auG,auD,auy];have:=YZ (b:=nv) (fun i (k:anE)=>(tK zK,tK k,rs,(rs.length:Int),(i:Int),())) rs bV (tK zK,false,()) (fun k=>(tK zK,tK k,())) (fun k=>aw k=true) (fun i k x hx hk=>by
   have hi:=(auR.1 hx).1;have hxs:=hr x (au8 hx);unfold nv;simp only[bD hi,ak hi,Kc,HQ hx,auy];rw[I8 (YS hk) hxs];unfold bV;simp only[auE];rcases tf (ic k x).2 with h2 | h2
   ·simp only[h2,auG,auD,auy,aA hi (by omega:rs.length≤9223372036854775807)]
   ·simp only[h2,auH,auD,auy]) (fun k hk=>by simp[nv]) (fun k x k' _ hs=>F9 hs) ⟨id,0,1,[],[],[]⟩ (nW h)
  rw[show td ((0,0,0,[],[],[],()),(id,0,1,[],[],[],()),rs,(rs.length:Int),0,())=_ from this];unfold fG;cases rs.foldlM bV ⟨id,0,1,[],[],[]⟩<;>rfl
 ·simp only[h,auH,auD,auy];rfl
def IS{id:Int}{rs:List auB}(hl:rs.length≤1048576)(hr: ∀ r∈rs,r.size≤1048576):lL (id,rs,())=some ((tK ((de id rs).getD zK),(de id rs).isSome,()),()):=by
 unfold lL de;simp only[dG,auE,Ok];rcases tf (isN id) with h | h
 ·simp only[h,auG,auD,auy];have:=YZ (b:=mW) (fun i (k:anE)=>(rs,tK zK,tK k,(i:Int),())) rs bV (tK zK,false,()) (fun k=>(tK zK,tK k,())) (fun k=>aw k=true) (fun i k x hx hk=>by
   have hi:=(auR.1 hx).1;have hxs:=hr x (au8 hx);unfold mW;simp only[bD hi,ak hi,Kc,HQ hx,auy];rw[IT (YS hk) hxs];unfold bV;simp only[auE];rcases tf (ic k x).2 with h2 | h2
   ·simp only[h2,auG,auD,auy,aA hi (by omega:rs.length≤9223372036854775807)]
   ·simp only[h2,auH,auD,auy]) (fun k hk=>by simp[mW]) (fun k x k' _ hs=>F9 hs) ⟨id,0,1,[],[],[]⟩ (nW h)
  rw[show rP (rs,(0,0,0,[],[],[],()),(id,0,1,[],[],[],()),0,())=_ from this];unfold fG;cases rs.foldlM bV ⟨id,0,1,[],[],[]⟩<;>rfl
 ·simp only[h,auH,auD,auy];rfl
def cq(id:Int)(log:auB):Option anE:=de id (fE log).1
def sn{id:Int}{log:auB}(hs:log.size≤1048576):dJ (id,log,())=some ((tK ((cq id log).getD zK),(cq id log).isSome,()),()):=by
 have h:=qe log;unfold dJ cq;rw[nY hs];simp only[auE];rw[XI (by omega) (fun r hr=>by have:=h.2.2 r hr;omega)];rfl
def J4{id fo:Int}{up:Bool}{log:auB}{hv:List anD}(hs:log.size≤1048576):bm ((id,up,log,fo,hv,()),())=some ((tK ((cq id log).getD zK),(cq id log).isSome,()),()):=by
 have h:=qe log;unfold bm cq;rw[jM hs];simp only[auE];rw[IS (by omega) (fun r hr=>by have:=h.2.2 r hr;omega)];rfl
def cr(lg:auB)(fo:Int):Bool:=decide (lg.size≤2400)&&(inB fo 0 lg.size&&(decide (((fE lg).2:Int)=lg.size)&&decide (((fE (lg.extract 0 fo.toNat)).2:Int)=fo)))
def nt{lg:auB}{fo:Int}(hs:lg.size≤1048576):fu ((lg,fo,()),())=some ((cr lg fo,()),()):=by
 unfold fu cr;simp only[cm,nY hs,auE,au4,avd];by_cases h1:lg.size≤2400
 ·have e1:decide (2400 < (lg.size:Int))=false:=by simp;omega
  simp only[e1,h1,auH,fK,auy,ava,auz,auN];rcases tf (inB fo 0 lg.size) with h2 | h2
  ·have h3:=ah.1 h2;have e2:(decide (0≤fo)&&decide (fo≤(lg.size:Int)))=true:=by simp;omega
   simp only[h2,auG,auD,e2,auy,auN];rw[nY (by rw[ee (by omega)];omega)];rfl
  ·simp only[h2,auH,auy,auL]
 ·have e1:decide (2400 < (lg.size:Int))=true:=by simp;omega
  simp only[e1,h1,auG,dO,auy,avk,auA,auL]
def mT{lg:auB}{fo:Int}(hs:lg.size≤1048576):fg ((lg,fo,()),())=some ((cr lg fo,()),()):=by
 unfold fg cr;simp only[ez,jM hs,auE,au4,avd];by_cases h1:lg.size≤2400
 ·have e1:decide (2400 < (lg.size:Int))=false:=by simp;omega
  simp only[e1,h1,auH,fK,auy,ava,auz,auN];rcases tf (inB fo 0 lg.size) with h2 | h2
  ·have h3:=ah.1 h2;have e2:(decide (0≤fo)&&decide (fo≤(lg.size:Int)))=true:=by simp;omega
   simp only[h2,auG,auD,e2,auy,auN];rw[jM (by rw[ee (by omega)];omega)];rfl
  ·simp only[h2,auH,auy,auL]
 ·have e1:decide (2400 < (lg.size:Int))=true:=by simp;omega
  simp only[e1,h1,auG,dO,auy,avk,auA,auL]
def bF(p:Bool):aX p true=true:=by cases p<;>rfl
def akJ{k o:anE}{w:auB}{n:Int}(h:Ma k w n=some o):o.id=k.id:=by
 unfold Ma at h
 repeat' split at h
 all_goals first | (cases h;done) | (cases h;rfl)
def afs{k o:anE}{n:anz}(h:Bl k n=some o):o.id=k.id:=by
 unfold Bl at h
 repeat' split at h
 all_goals first | (cases h;done) | (cases h;rfl)
def aee{k o:anE}{w:auB}{n:anz}(h:iR k w n=some o):o.id=k.id:=by
 unfold iR at h;split at h
 ·exact(afs h).trans rfl
 split at h
 ·exact afs h
 split at h
 ·cases h
 repeat' split at h
 all_goals first | (cases h;done) | (cases h;rfl)
def aeh{k o:anE}{w:auB}{m:Mark}(h:fc k w m=some o):o.id=k.id:=by
 unfold fc at h
 repeat' split at h
 all_goals first | (cases h;done) | (cases h;rfl)
def ah7{k o:anE}{w r:auB}(h:cL k w r=some o):o.id=k.id:=by
 unfold cL at h;split at h
 ·split at h
  ·exact akJ h
  ·cases h
 split at h
 ·split at h
  ·exact aee h
  ·cases h
 split at h
 ·split at h
  ·exact aeh h
  ·cases h
 ·cases h
def ai1{k o:anE}{r:auB}(h:bV k r=some o)(hk:aw k=true):o.id=k.id:=by
 unfold bV at h;split at h
 case isFalse=>cases h
 rename_i h2;cases h;unfold ic at h2 ⊢;simp only[hk,auy]at h2 ⊢;cases hs:(qX k r).filter aw with
 | none=>rfl
 | some o=>
  simp only;have:=(awe.1 hs).1;unfold qX at this;split at this
  ·cases this
  ·exact ah7 this
def Uy: ∀ {rs:List auB} {k o:anE},aw k=true→fG k rs=some o→o.id=k.id
 | [],k,o,_,h=>by cases h;rfl
 | r::rs,k,o,hk,h=>by
  unfold fG at h;rw[axO]at h;cases hs:bV k r with
  | none=>rw[hs]at h;cases h
  | some k'=>rw[hs]at h;exact(Uy (rs:=rs) (F9 hs) h).trans (ai1 hs hk)
def OM{id:Int}{rs:List auB}{o:anE}(h:de id rs=some o):o.id=id:=by
 unfold de at h;split at h
 ·exact Uy (k:=⟨id,0,1,[],[],[]⟩) (nW (by assumption)) h
 ·cases h
def xA(l:List anA)(i:Nat):anA:=l.getD i (dfl .mixed)
def hA(l:List anD)(i:Nat):anD:=l.getD i (dfl .half)
def L3(l:List anA)(i:Nat): @rd anA (dfl .mixed) l (i:Int)=xA l i:=rfl
def SX(l:List anD)(i:Nat): @rd anD (dfl .half) l (i:Int)=hA l i:=rfl
def aj9{l:List anA}{i j:Nat}(h:j < i):xA (l.take i) j=xA l j:=by
 unfold xA;simp[auQ,h]
def Ah(l:List anA)(i:Nat):Bool:=(inB (xA l i).nu 0 999&&decide (((xA l i).da.size:Int)=4))&&dp i fun j=> !decide ((xA l j).nu=(xA l i).nu)
def kj(h:anD):Bool:=isN h.fr&&(isN h.to&&(inB h.nu 1 99&&(inB h.un 1 999&&(inB h.sz 1 24&&(decide ((h.got.length:Int)≤14)&&dp h.got.length (Ah h.got))))))
def XE{h:anD}(sm:J8 h):vd ((h.fr,h.nu,h.to,h.un,h.sz,h.got,()),())=some ((kj h,()),()):=by
 have hl:h.got.length≤9223372036854775807:=by have:=sm.1;omega
 have aoh:sG ((h.fr,h.nu,h.to,h.un,h.sz,h.got,()),h.got,(h.got.length:Int),0,())=some (if dp h.got.length (Ah h.got) then .inr () else .inl (false,())):=
  dI (fun i=>((h.fr,h.nu,h.to,h.un,h.sz,h.got,()),h.got,(h.got.length:Int),(i:Int),())) h.got.length (Ah h.got) (false,()) () (fun i hi=>by
   unfold sK Ah;simp only[bD hi,ak hi,auy,L3,cm,auE];rcases tf (inB (xA h.got i).nu 0 999) with e | e<;>rcases tfp (((xA h.got i).da.size:Int)=4) with e' | e'
   rotate_left
   ·simp only[e,e',auA,au7,auH,avG,auL,auy,auD]
   ·simp only[e,auL,auH,avk,auy,auD]
   ·simp only[e,auL,auH,avk,auy,auD]
   ·have e2:(decide (0≤(i:Int))&&decide ((i:Int)≤(h.got.length:Int)))=true:=by simp;omega
    have e3:(au3 i h.got).length=i:=by simp;omega
    simp only[e,e',auz,auG,awu,auD,e2,auy,auV,e3,auN];have hin:sF ((h.fr,h.nu,h.to,h.un,h.sz,h.got,()),((xA h.got i).nu,(xA h.got i).da,()),h.got,(h.got.length:Int),(i:Int),au3 i h.got,(i:Int),0,())=
      some (if dp i (fun j=> !decide ((xA h.got j).nu=(xA h.got i).nu)) then .inr ((h.fr,h.nu,h.to,h.un,h.sz,h.got,()),h.got,(h.got.length:Int),(i:Int),()) else .inl (false,())):=
     dI (fun j=>((h.fr,h.nu,h.to,h.un,h.sz,h.got,()),((xA h.got i).nu,(xA h.got i).da,()),h.got,(h.got.length:Int),(i:Int),au3 i h.got,(i:Int),(j:Int),())) i (fun j=> !decide ((xA h.got j).nu=(xA h.got i).nu)) (false,()) _ (fun j hj=>by
      unfold sJ;simp only[bD hj,e3,ak hj,auy,L3,aj9 hj,aA hj (by omega:i≤9223372036854775807)];rcases tfp ((xA h.got j).nu=(xA h.got i).nu) with e4 | e4<;>simp only[e4,auz,auA]<;>rfl) (by simp[sJ])
    rw[hin];rcases tf (dp i (fun j=> !decide ((xA h.got j).nu=(xA h.got i).nu))) with e4 | e4
    ·simp only[e4,auy,c8,aA hi hl]
    ·simp only[e4,auD,Bo]) (by simp[sK])
 unfold vd kj;simp only[dX,cm,auE,aoh];rcases tf (isN h.fr) with e | e<;>simp only[e,auG,auH,auy,auD,auN,auL];rcases tf (isN h.to) with e | e<;>simp only[e,auG,auH,auy,auD,auN,auL];rcases tf (inB h.nu 1 99) with e | e<;>simp only[e,auG,auH,auy,auD,auN,auL];rcases tf (inB h.un 1 999) with e | e<;>simp only[e,auG,auH,auy,auD,auN,auL];rcases tf (inB h.sz 1 24) with e | e<;>simp only[e,auG,auH,auy,auD,auN,auL];rcases sb (h.got.length:Int) 14 with⟨e1,e2⟩ | ⟨e1,e2⟩<;>simp only[e1,e2,auz,auA,auy,auD,auN,auL];rcases tf (dp h.got.length (Ah h.got)) with e | e<;>simp only[e,auy,auD]<;>rfl
def ahu{sz:Int}(h:inB sz 1 24=true):inB (w64 (au6 (w64 (w64 (sz+4) - 1)) 4)) 1 6=true:=by
 have h:=ah.1 h;rw[ai (n:=sz+4) (by omega) (by omega),ai (n:=sz+4 - 1) (by omega) (by omega)];have e:au6 (sz+4 - 1) 4=(sz+4 - 1) / 4:=avx (by omega);rw[e,ai (by omega) (by omega),ah];omega
def W5{h:anD}(sm:J8 h):nI ((h.fr,h.nu,h.to,h.un,h.sz,h.got,()),())=some ((kj h,()),()):=by
 have hl:h.got.length≤9223372036854775807:=by have:=sm.1;omega
 have aoh:inB h.sz 1 24=true→mQ ((h.fr,h.nu,h.to,h.un,h.sz,h.got,()),0,())=some (if dp h.got.length (Ah h.got) then .inr () else .inl (false,())):=fun hz=>
  dI (fun i=>((h.fr,h.nu,h.to,h.un,h.sz,h.got,()),(i:Int),())) h.got.length (Ah h.got) (false,()) () (fun i hi=>by
   unfold mj Ah di jJ iv;simp only[bD hi,ak hi,auy,L3,ez,auE,ahu hz,fK,au4,avd,auN];rcases tf (inB (xA h.got i).nu 0 999) with e | e<;>rcases tfp (((xA h.got i).da.size:Int)=4) with e' | e'
   rotate_left
   ·simp only[e,e',auA,au7,auH,auL,auy,auD]
   ·simp only[e,auL,auH,auy,auD]
   ·simp only[e,auL,auH,auy,auD]
   ·simp only[e,e',auz,avT,auG,auD,auN];have hin:mP ((h.fr,h.nu,h.to,h.un,h.sz,h.got,()),(i:Int),0,())=
      some (if dp i (fun j=> !decide ((xA h.got j).nu=(xA h.got i).nu)) then .inr ((h.fr,h.nu,h.to,h.un,h.sz,h.got,()),(i:Int),()) else .inl (false,())):=
     dI (fun j=>((h.fr,h.nu,h.to,h.un,h.sz,h.got,()),(i:Int),(j:Int),())) i (fun j=> !decide ((xA h.got j).nu=(xA h.got i).nu)) (false,()) _ (fun j hj=>by
      unfold mi;simp only[bD hj,ak hi,ak (Nat.lt_trans hj hi),auy,L3,aA hj (by omega:i≤9223372036854775807)];rcases tfp ((xA h.got j).nu=(xA h.got i).nu) with e4 | e4<;>simp only[e4,auz,auA]<;>rfl) (by simp[mi])
    rw[hin];rcases tf (dp i (fun j=> !decide ((xA h.got j).nu=(xA h.got i).nu))) with e4 | e4
    ·simp only[e4,auy,c8,aA hi hl]
    ·simp only[e4,auD,Bo]) (by simp[mj])
 unfold nI kj;simp only[dG,ez,auE];rcases tf (isN h.fr) with e | e<;>simp only[e,auG,auH,auy,auD,auN,auL];rcases tf (isN h.to) with e | e<;>simp only[e,auG,auH,auy,auD,auN,auL];rcases tf (inB h.nu 1 99) with e | e<;>simp only[e,auG,auH,auy,auD,auN,auL];rcases tf (inB h.un 1 999) with e | e<;>simp only[e,auG,auH,auy,auD,auN,auL];rcases tf (inB h.sz 1 24) with e | e<;>simp only[e,auG,auH,auy,auD,auN,auL];rw[aoh e];rcases sb (h.got.length:Int) 14 with⟨e1,e2⟩ | ⟨e1,e2⟩<;>simp only[e1,e2,auz,auA,auy,auD,auN,auL];rcases tf (dp h.got.length (Ah h.got)) with e | e<;>simp only[e,auy,auD]<;>rfl
def tI(l:List anD)(f n:Int):Int:=qP l.length fun i=>decide ((hA l i).fr=f)&&decide ((hA l i).nu=n)
def I5{l:List anD}{f n:Int}(hl:l.length≤1048576):lT (l,f,n,())=some ((tI l f n,()),()):=by
 unfold lT;have:=uy (b:=nk) (fun i=>(f,n,l,(l.length:Int),(i:Int),())) l.length (fun i=>decide ((hA l i).fr=f)&&decide ((hA l i).nu=n)) (fun r=>(r,())) () (fun i hi=>by
  unfold nk;simp only[bD hi,ak hi,auy,SX,aA hi (by omega:l.length≤9223372036854775807)];rcases tfp ((hA l i).fr=f) with e | e<;>rcases tfp ((hA l i).nu=n) with e2 | e2<;>simp only[e,e2,auz,auA]<;>rfl) (by simp[nk])
 rw[show sL (f,n,l,(l.length:Int),0,())=_ from this];exact Bp
def ajs{n:Nat}{p:Nat→Bool}{i:Nat}(hi:i < n)(hp:p i=true):decide (qP n p < (i:Int))= !(dp i fun j=> !p j):=by
 rcases bZ n p with⟨_,h2⟩ | ⟨c,h1,h2,h3,h4⟩
 ·rw[h2 i hi]at hp;cases hp
 ·rw[h1];by_cases hc:c < i
  ·have:dp i (fun j=> !p j)=false:=by
    rw[Bool.eq_false_iff];intro h;have:=cG.1 h c hc;simp[h3]at this
   rw[this];simpa using hc
  ·have:dp i (fun j=> !p j)=true:=cG.2 fun j hj=>by rw[h4 j (by omega)];rfl
   rw[this];simp;omega
def Dv(l:List anD)(i:Nat):Bool:=kj (hA l i)&&dp i fun j=> !(decide ((hA l j).fr=(hA l i).fr)&&decide ((hA l j).nu=(hA l i).nu))
def ae(k:anv):Bool:=isN k.id&&(cr k.log k.fo&&(decide ((k.anw.length:Int)≤3)&&((k.up||decide (k.anw.length=0))&&(((cq k.id k.log).isSome&&(cq k.id (k.log.extract 0 k.fo.toNat)).isSome)&&dp k.anw.length (Dv k.anw)))))
abbrev tKp(k:anv):Int×Bool×auB×Int×List anD×auC:=(k.id,k.up,k.log,k.fo,k.anw,())
def alK{l:List anD}(h: ∀ x∈l,J8 x)(i:Nat):J8 (hA l i):=by
 unfold hA;rcases awm i l.length with hi | hi
 ·rw[HQ (auO hi)];exact h _ (avm hi)
 ·rw[auQ,awa hi];exact⟨by decide,fun m hm=>by cases hm⟩
def eK{k:anv}(sm:cR k):cF (tKp k,())=some ((ae k,()),()):=by
 obtain⟨id,up,lg,fo,hv⟩:=k;obtain⟨sl,hl,hs⟩:=sm;simp only at sl hl hs;have aoh:jy ((id,up,lg,fo,hv,()),hv,(hv.length:Int),0,())=some (if dp hv.length (Dv hv) then .inr () else .inl (false,())):=
  dI (fun i=>((id,up,lg,fo,hv,()),hv,(hv.length:Int),(i:Int),())) hv.length (Dv hv) (false,()) () (fun i hi=>by
   unfold n8 Dv;simp only[bD hi,ak hi,auy,SX,XE (alK hs i),I5 hl,auE,au4,avd,bF,aA hi (by omega:hv.length≤9223372036854775807)];rcases tf (kj (hA hv i)) with e | e
   ·have hf:=ajs (p:=fun j=>decide ((hA hv j).fr=(hA hv i).fr)&&decide ((hA hv j).nu=(hA hv i).nu)) hi (by simp);unfold tI;simp only[e,auG,ava,auN,hf];cases dp i (fun j=> !(decide ((hA hv j).fr=(hA hv i).fr)&&decide ((hA hv j).nu=(hA hv i).nu)))<;>rfl
   ·simp only[e,auH,avk,auy,auL,auD]) (by simp[n8])
 unfold cF ae;simp only[dX,auE,nt sl];rcases tf (isN id) with e | e<;>simp only[e,auG,auH,auy,auD,auN,auL,qM];rcases tf (cr lg fo) with e2 | e2<;>simp only[e2,auG,auH,auy,auD,auN,auL,qM];have e3:0≤fo∧fo≤(lg.size:Int):=by
  unfold cr at e2;simp only[auF]at e2;exact ah.1 e2.2.1
 have e4:(decide (0≤fo)&&decide (fo≤(lg.size:Int)))=true:=by simp;omega
 rcases sb (hv.length:Int) 3 with⟨e5,e6⟩ | ⟨e5,e6⟩<;>simp only[e5,e6,auz,auA,auy,auD,auN,auL,qM];have aoz: ∀ b:Bool,(b=true)→bH (X:=(Int×Bool×auB×Int×List anD×auC)×auC) (fun j5=>
   (dJ (j5.1.1,j5.1.2.2.1,())).bind fun r8=>
   (if(decide (0≤j5.1.2.2.2.1)&&decide (j5.1.2.2.2.1≤(j5.1.2.2.1.size:Int))) then
   (dJ (j5.1.1,(j5.1.2.2.1.extract (0) (auK j5.1.2.2.2.1)),())).bind fun r9=>
   (if((!r8.1.2.1)||(!r9.1.2.1)) then
   some ((false,()),())
   else
   (aK (jy (j5.1,j5.1.2.2.2.2.1,(j5.1.2.2.2.2.1.length:Int),0,()))
   (fun y56=>some (y56,()))
   (fun y56=>some ((true,()),()))))
   else none)) (some (.inr ((id,up,lg,fo,hv,()),())))=some ((b&&(((cq id lg).isSome&&(cq id (lg.extract 0 fo.toNat)).isSome)&&dp hv.length (Dv hv)),()),()):=by
  rintro b rfl;simp only[aZ,sn sl,auE,e4,auy];rw[sn (by rw[ee (by omega)];omega)];simp only[auE,aoh,auN];rcases tf (cq id lg).isSome with e | e<;>rcases tf (cq id (lg.extract 0 fo.toNat)).isSome with e2 | e2<;>simp only[e,e2,auG,auH,awu,avk,avG,auy,auD,avT,au7,auL,auN];rcases tf (dp hv.length (Dv hv)) with e | e<;>simp only[e,auy,auD]<;>rfl
 rcases tf up with e7 | e7
 ·simp only[e7,auG,auD,avk];rw[e7]at aoz;exact aoz true rfl
 ·simp only[e7,auH,auy,ava];rw[e7]at aoz;by_cases e8:hv.length=0
  ·have e9:decide (0 < (hv.length:Int))=false:=by rw[e8];rfl
   simp only[e9,auD,e8,auz];rw[e8]at aoz;exact aoz true rfl
  ·have e9:decide (0 < (hv.length:Int))=true:=by simp;omega
   simp only[e9,auy,e8,auA,auL,qM]
def bj{k:anv}(sm:cR k):aS (tKp k,())=some ((ae k,()),()):=by
 obtain⟨id,up,lg,fo,hv⟩:=k;obtain⟨sl,hl,hs⟩:=sm;simp only at sl hl hs;have aoh:jn ((id,up,lg,fo,hv,()),0,())=some (if dp hv.length (Dv hv) then .inr () else .inl (false,())):=
  dI (fun i=>((id,up,lg,fo,hv,()),(i:Int),())) hv.length (Dv hv) (false,()) () (fun i hi=>by
   unfold nQ Dv;simp only[bD hi,ak hi,auy,SX,W5 (alK hs i),auE,aA hi (by omega:hv.length≤9223372036854775807)];rcases tf (kj (hA hv i)) with e | e
   ·simp only[e,auG,auD,auN];have hin:oL ((id,up,lg,fo,hv,()),(i:Int),0,())=some (if dp i (fun j=> !(decide ((hA hv j).fr=(hA hv i).fr)&&decide ((hA hv j).nu=(hA hv i).nu))) then .inr ((id,up,lg,fo,hv,()),(i:Int),()) else .inl (false,())):=
     dI (fun j=>((id,up,lg,fo,hv,()),(i:Int),(j:Int),())) i (fun j=> !(decide ((hA hv j).fr=(hA hv i).fr)&&decide ((hA hv j).nu=(hA hv i).nu))) (false,()) _ (fun j hj=>by
      unfold nP;simp only[bD hj,ak hi,ak (Nat.lt_trans hj hi),auy,SX,bF,aA hj (by omega:i≤9223372036854775807)];rcases tfp ((hA hv j).fr=(hA hv i).fr) with e | e<;>rcases tfp ((hA hv j).nu=(hA hv i).nu) with e2 | e2<;>simp only[e,e2,auz,auA]<;>rfl) (by simp[nP])
    rw[hin];rcases tf (dp i (fun j=> !(decide ((hA hv j).fr=(hA hv i).fr)&&decide ((hA hv j).nu=(hA hv i).nu)))) with e4 | e4
    ·simp only[e4,auy,c8,aA hi (by omega:hv.length≤9223372036854775807)]
    ·simp only[e4,auD,Bo]
   ·simp only[e,auH,auy,auL,auD]) (by simp[nQ])
 unfold aS ae;simp only[dG,auE,mT sl];rcases tf (isN id) with e | e<;>simp only[e,auG,auH,auy,auD,auN,auL,qM];rcases tf (cr lg fo) with e2 | e2<;>simp only[e2,auG,auH,auy,auD,auN,auL,qM];have e3:0≤fo∧fo≤(lg.size:Int):=by
  unfold cr at e2;simp only[auF]at e2;exact ah.1 e2.2.1
 have e4:(decide (0≤fo)&&decide (fo≤(lg.size:Int)))=true:=by simp;omega
 rcases sb (hv.length:Int) 3 with⟨e5,e6⟩ | ⟨e5,e6⟩<;>simp only[e5,e6,auz,auA,auy,auD,auN,auL,qM];have aoz: ∀ b:Bool,(b=true)→bH (X:=(Int×Bool×auB×Int×List anD×auC)×auC) (fun j5=>
   (if(decide (0≤j5.1.2.2.2.1)&&decide (j5.1.2.2.2.1≤(j5.1.2.2.1.size:Int))) then
   (cI ((j5.1.2.2.1.extract (0) (auK j5.1.2.2.2.1)),())).bind fun r8=>
   (lL (j5.1.1,r8.1.1,())).bind fun r9=>
   (bm j5).bind fun r10=>
   (if((!r10.1.2.1)||(!r9.1.2.1)) then
   some ((false,()),())
   else
   (aK (jn (j5.1,0,()))
   (fun y27=>some (y27,()))
   (fun y27=>some ((true,()),()))))
   else none)) (some (.inr ((id,up,lg,fo,hv,()),())))=some ((b&&(((cq id lg).isSome&&(cq id (lg.extract 0 fo.toNat)).isSome)&&dp hv.length (Dv hv)),()),()):=by
  rintro b rfl;have hz:(lg.extract 0 fo.toNat).size≤1048576:=by rw[ee (by omega)];omega
  have hg:=qe (lg.extract 0 fo.toNat);simp only[aZ,e4,auy,jM hz,auE,IS (id:=id) (show(fE (lg.extract 0 fo.toNat)).1.length≤1048576 by omega) (fun r hr=>by have:=hg.2.2 r hr;omega),J4 sl,aoh,auN];rw[show de id (fE (lg.extract 0 fo.toNat)).1=cq id (lg.extract 0 fo.toNat) from rfl];rcases tf (cq id lg).isSome with e | e<;>rcases tf (cq id (lg.extract 0 fo.toNat)).isSome with e2 | e2<;>simp only[e,e2,auG,auH,awu,avk,avG,auy,auD,avT,au7,auL,auN];rcases tf (dp hv.length (Dv hv)) with e | e<;>simp only[e,auy,auD]<;>rfl
 rcases tf up with e7 | e7
 ·simp only[e7,auG,auD,avk];rw[e7]at aoz;exact aoz true rfl
 ·simp only[e7,auH,auy,ava];rw[e7]at aoz;by_cases e8:hv.length=0
  ·have e9:decide (0 < (hv.length:Int))=false:=by rw[e8];rfl
   simp only[e9,auD,e8,auz];rw[e8]at aoz;exact aoz true rfl
  ·have e9:decide (0 < (hv.length:Int))=true:=by simp;omega
   simp only[e9,auy,e8,auA,auL,qM]
def kA(l:List anv)(i:Nat):anv:=l.getD i (dfl .anx)
def pA(l:List anB)(i:Nat):anB:=l.getD i (dfl .anJ)
def bA(l:List Bool)(i:Nat):Bool:=l.getD i (dfl .bool)
def anl(l:List anz):Bool:=dp l.length fun i=>ay (nA l i)
def FR(p:anB):Bool:=isN p.src&&(isN p.dst&&((decide (p.src - p.dst=1)||decide (p.dst - p.src=1))&&decide ((p.data.size:Int)≤40)))
def jv{n:Int}(h:isN n=true):0≤n∧n≤3:=ah.1 h
def cO(a t:Int):Int:=if !isN a||(!isN t||decide (a=t)) then -1 else if a < t then a+1 else a - 1
def Ln{a:Int}(h:isN a=true):w64 (a+1)=a+1∧w64 (a - 1)=a - 1:=by
 have:=jv h;exact⟨ai (by omega) (by omega),ai (by omega) (by omega)⟩
def pQ{a t:Int}:bz (a,t,())=some ((cO a t,()),()):=by
 unfold bz cO;simp only[dX,auE];rcases tf (isN a) with e | e
 ·rcases tf (isN t) with e2 | e2
  ·rcases tfp (a=t) with e3 | e3
   ·simp only[e,e2,e3,auz];rfl
   ·rcases tfp (a < t) with e4 | e4<;>simp only[e,e2,e3,e4,auA,auz,auG,auD,aZ,auy,if_false,awu,(Ln e).1,(Ln e).2]
  ·simp only[e,e2];rfl
 ·simp only[e];rfl
def lq{a t:Int}:eF (a,t,())=some ((cO a t,()),()):=by
 unfold eF cO;simp only[dG,auE];rcases tf (isN a) with e | e
 ·rcases tf (isN t) with e2 | e2
  ·rcases tfp (a=t) with e3 | e3
   ·simp only[e,e2,e3,auz];rfl
   ·rcases tfp (a < t) with e4 | e4<;>simp only[e,e2,e3,e4,auA,auz,auG,auD,aZ,auy,if_false,awu,(Ln e).1,(Ln e).2]
  ·simp only[e,e2];rfl
 ·simp only[e];rfl
def agy{a t:Int}(ha:isN a=true)(ht:isN t=true)(hne:a≠t):isN (cO a t)=true:=by
 have:=jv ha;have:=jv ht;have e3:decide (a=t)=false:=by simpa using hne
 unfold cO;simp only[ha,ht,e3,auG,awu,auD];rw[ah];split<;>omega
def stT(k:anv):anE:=(cq k.id k.log).getD zK
def Kd(l:List anv)(i:Int): @rd anv (dfl .anx) l i=kA l i.toNat:=rfl
structure asC (k:anv):Prop where
 id:isN k.id=true
 sh:cr k.log k.fo=true
 hl:k.anw.length≤3
 up:k.up=true∨k.anw.length=0
 st:cq k.id k.log=some (stT k)
 ok:aw (stT k)=true
 sid:(stT k).id=k.id
 fo:(cq k.id (k.log.extract 0 k.fo.toNat)).isSome=true
 hv: ∀ i,i < k.anw.length→Dv k.anw i=true
def ck{k:anv}(h:ae k=true):asC k:=by
 unfold ae at h;simp only[auF,avo,decide_eq_true_eq,cG]at h;obtain⟨a,b,c,d,⟨e,f⟩,g⟩:=h;have hs:cq k.id k.log=some (stT k):=by
  unfold stT;cases hh:cq k.id k.log with
  | none=>rw[hh]at e;cases e
  | some o=>rfl
 exact⟨a,b,by omega,d,hs,HM hs,OM hs,f,g⟩
structure auj (ti:Int) (ks:List anv) (ls:List Bool) (ra:List anB) (se go:List anz):Prop where
 t0:0≤ti
 t1:ti≤99999
 kl:ks.length=4
 ll:ls.length=3
 rl:ra.length≤30
 s:anl se=true
 sl:se.length≤6
 g:anl go=true
 gl:go.length≤6
 k: ∀ i,i < 4→(kA ks i).id=(i:Int)∧ae (kA ks i)=true
 r: ∀ i,i < ra.length→FR (pA ra i)=true
def Pe{k:anE}{n:anz}(h:aw k=true)(hn:n∈k.held):isN (cO k.id n.to)=true:=by
 have hf:=bN h;obtain⟨i,hi,rfl⟩:=avA hn;have h1:=dr hf.h hi;rw[ji (auO hi)]at h1;have h2:=mz h1;have h3:=hf.ho i hi;unfold lh oA at h3;rw[ji (auO hi)]at h3;simp only[auF,avw,decide_eq_false_iff_not]at h3;exact agy (ah.2 ⟨hf.id0,hf.id1⟩) (ah.2 ⟨h2.t0,h2.t1⟩) h3.2.2.1.1
section
variable {ti:Int} {ks:List anv} {ls:List Bool} {ra:List anB} {se go:List anz}
def adJ{l:List anz}{j:Nat}(h:j < l.length):nA l j∈l:=by
 rw[ji (auO h)];exact avm h
end
end Go.VS
namespace Go.VS
open Go
def Zy{a b c d e f:Int}(h:bef a b c d=true)(k:bef c d e f=true):bef a b e f=true:=by
 unfold bef at *;simp only[avo,auF,decide_eq_true_eq]at *;omega
def WM{a b:Int}:bef a b a b=false:=by
 unfold bef;simp
def vJ{l:List anz}(h:dB l=true): ∀ (j i:Nat),i < j→j < l.length→bef (nA l i).fr (nA l i).nu (nA l j).fr (nA l j).nu=true
 | j+1,i,hij,hj=>by
  have h1:=cG.1 h (j+1) hj;simp only[auF,avo,decide_eq_true_eq]at h1;have h2:bef (nA l j).fr (nA l j).nu (nA l (j+1)).fr (nA l (j+1)).nu=true:=h1.2.resolve_left (by omega);rcases awm i j with h3 | h3
  ·exact Zy (vJ h j i h3 (by omega)) h2
  ·rwa[show i=j by omega]
def cw(r:auB):auB:=((cZ (r.size:Int)++B [58])++r)++B [59]
def WW(r:auB):L (cw r)=dcm r.size++58::(L r++[59]):=by
 unfold cw;rw[acJ];simp only[ua,L_B,am0,au2,awM,avR]
def zJ(r:auB):(cw r).size=(dcm r.size).length+2+r.size:=by
 rw[← ba,WW];simp only[auP,auZ,avf,ba];omega
def cat(rs:List auB):List UInt8:=rs.flatMap fun r=>L (cw r)
def tz:cat []=[]:=rfl
def iS(r:auB)(rs:List auB):cat (r::rs)=L (cw r)++cat rs:=rfl
def jh(rs ts:List auB):cat (rs++ts)=cat rs++cat ts:=azi
def qd(rs:List auB):Prop:= ∀ r∈rs,1≤r.size∧r.size≤60
def amS(b:UInt8)(h:dig b=true):b≠58:=by
 rintro rfl;revert h;decide
def afk{n:Nat}(h:n≤60):(dcm n).length≤2:=vl 2 n (by omega) (by omega)
def afl(n:Nat):1≤(dcm n).length:=by
 have:=aek n;cases h:dcm n with
 | nil=>exact absurd h this
 | cons b l=>simp
def afa{l m:List UInt8}{b:UInt8}{i:Nat}(h:i=l.length):(l++b::m).getD i 0=b:=by
 subst h;simp
def L8{s r:auB}{t:List UInt8}(h:L s=L (cw r)++t)(h1:1≤r.size)(h2:r.size≤60):qS s=some (r,(cw r).size):=by
 rw[WW]at h;have hs:s.size=(dcm r.size).length+2+r.size+t.length:=by
  rw[← ba,h];simp only[auP,auZ,avf,ba];omega
 have hd:=afk h2;have hp:=afl r.size;generalize hc:(dcm r.size).length=c at *;have hL:L s=dcm r.size++58::(L r++59::t):=by rw[h];simp
 have at7:acN s=(c:Int):=by
  refine acx (by omega) ?_ (fun j hj=> ?_)
  ·rw[decide_eq_true_eq,y0,hL,afa hc.symm];rfl
  ·rw[decide_eq_false_iff_not,y0,hL];have hlt:j < (dcm r.size).length:=by omega
   have hm:(dcm r.size++58::(L r++59::t)).getD j 0∈dcm r.size:=ae9 hlt;have hdg:=S7 (r.size+1) r.size (by omega) _ hm;have hne:=amS _ hdg;generalize (dcm r.size++58::(L r++59::t)).getD j 0=b at *;intro e;apply hne;have e:b.toNat=58:=by omega
   exact axz.1 e
 have he:L (s.extract 0 c)=dcm r.size:=by
  rw[kB,hL];simp[← hc]
 have hn:bh (s.extract 0 c)=(r.size:Int):=Vz (by rw[← ba,he];omega) he;have h59:bt s ((c+1+r.size:Nat):Int)=59:=by
  have e:(L s).getD (c+1+r.size) 0=59:=by
   have:dcm r.size++58::(L r++59::t)=(dcm r.size++58::L r)++59::t:=by simp
   rw[hL,this];exact afa (by simp[hc];omega)
  rw[y0,e];rfl
 have hx:s.extract (c+1) (c+1+r.size)=r:=by
  refine qR ?_;rw[kB,hL];have:(dcm r.size++58::(L r++59::t)).drop (c+1)=L r++59::t:=by
   have e:dcm r.size++58::(L r++59::t)=(dcm r.size++[58])++(L r++59::t):=by simp
   rw[e,axA (by simp[hc])]
  rw[this,show c+1+r.size - (c+1)=(L r).length by rw[ba];omega,axw rfl]
 unfold qS;rw[at7];simp only[auV,hn];rw[aur (by omega),aur (by omega),aur (by omega),aur (by omega),h59];simp only[auz,auG,auD,hx];rw[zJ,hc]
def akE{s r:auB}{n:Nat}(h:qS s=some (r,n)):1≤r.size∧r.size≤60∧n=(cw r).size∧ ∃ t,L s=L (cw r)++t:=by
 have hsm:=BO h;unfold qS at h;split at h
 ·cases h
 rename_i hc0;rcases At s with⟨h1,_⟩ | ⟨c,h1,h2,h3,h4,_⟩
 ·omega
 rw[h1]at h;simp only[auV]at h;split at h
 ·cases h
 rename_i hn1;split at h
 ·cases h
 rename_i hn2;split at h
 ·cases h
 rename_i hn3;split at h
 ·cases h
 rename_i hn4;cases h;have hz:(s.extract 0 c).size=c:=by rw[ee (by omega)];omega
 rcases uM (s.extract 0 c) with⟨h9,_⟩ | ⟨k,h9,h10,h11⟩
 ·omega
 simp only[h9,auV]at hn1 hn2 hn3 hn4 hsm ⊢;have hrs:(s.extract (c+1) (c+1+k)).size=k:=by rw[ee (by omega)];omega
 have h5:bt s ((c+1+k:Nat):Int)=59:=by
  cases hd:decide (bt s ((c+1+k:Nat):Int)=59) with
  | true=>simpa using hd
  | false=>rw[hd]at hn4;exact absurd rfl hn4
 have g1:(L s).getD c 0=58:=by
  rw[y0]at h4;exact axz.1 (by have:(58:UInt8).toNat=58:=rfl;omega)
 have g2:(L s).getD (c+1+k) 0=59:=by
  rw[y0]at h5;exact axz.1 (by have:(59:UInt8).toNat=59:=rfl;omega)
 have hlen:(L s).length=s.size:=ba s;have t1:(L s).take c=dcm k:=by
  rw[← h11,kB];simp
 have hcl:(dcm k).length=c:=by rw[← t1,avv];omega
 have hsp:L s=dcm k++58::((L (s.extract (c+1) (c+1+k)))++59::(L s).drop (c+1+k+1)):=by
  conv=>lhs;rw[← awJ c (L s),t1]
  congr 1;rw[axn (by omega)];congr 1
  ·rw[← g1,auQ,auO (by omega)];rfl
  ·rw[kB]
   conv=>lhs;rw[← awJ k ((L s).drop (c+1))]
   rw[show c+1+k - (c+1)=k by omega];congr 1;rw[aw9,axn (by omega)];congr 1;rw[← g2,auQ,auO (by omega)];rfl
 refine⟨by omega,by omega, ?_,(L s).drop (c+1+k+1), ?_⟩
 ·rw[zJ,hrs,hcl]
 ·rw[WW,hrs]
  conv=>lhs;rw[hsp]
  simp
def JQ(r:auB):3≤(cw r).size:=by
 rw[zJ];have:=afl r.size;omega
def abC{log:auB}: ∀ (rs:List auB) (f:Nat) (out:List auB) (at_:Nat),qd rs→(L log).drop at_=cat rs→at_≤log.size→log.size < at_+f→my log f out at_=(out++rs,log.size)
 | [],0,out,at_,_,_,h3,h4=>by omega
 | [],f+1,out,at_,_,h2,h3,h4=>by
  have:log.size≤at_:=by
   have e:=congrArg awX h2;rw[avy,ba,tz]at e;simp at e;omega
  unfold my;rw[aur (by omega),avj];rw[show at_=log.size by omega]
 | r::rs,0,out,at_,_,_,h3,h4=>by omega
 | r::rs,f+1,out,at_,h1,h2,h3,h4=>by
  have hr:=h1 r auM;rw[iS]at h2;have hlen:log.size - at_=(cw r).size+(cat rs).length:=by
   have e:=congrArg awX h2;rwa[avy,ba,auP,ba]at e
  have hp:=JQ r;have aob:qS (log.extract at_ log.size)=some (r,(cw r).size):=by
   refine L8 (t:=cat rs) ?_ hr.1 hr.2;rw[kB,h2];refine awv ?_;rw[auP,ba];omega
  unfold my;rw[aus (by omega),aob];simp only;have:=abC (log:=log) rs f (out++[r]) (at_+(cw r).size) (fun x hx=>h1 x (auJ _ hx)) (by
   rw[← aw9,h2,axA (by rw[ba])]) (by omega) (by omega)
  rw[this];simp
def HB{log:auB}{rs:List auB}(h1:qd rs)(h2:L log=cat rs):fE log=(rs,log.size):=by
 have:=abC (log:=log) rs (log.size+1) [] 0 h1 (by simpa using h2) (avM _) (by omega);exact this
def TJ{log:auB}: ∀ (f:Nat) (out:List auB) (at_:Nat),at_≤log.size→ ∃ rs,(my log f out at_).1=out++rs∧qd rs∧ ∃ t,(L log).drop at_=cat rs++t∧(my log f out at_).2=at_+(cat rs).length
 | 0,out,at_,_=>⟨[],by simp[my],(fun r hr=>nomatch hr),(L log).drop at_,rfl,rfl⟩
 | f+1,out,at_,h=>by
  unfold my;split
  ·rename_i hlt;cases aob:qS (log.extract at_ log.size) with
   | none=>exact⟨[],by simp,(fun r hr=>nomatch hr),(L log).drop at_,rfl,rfl⟩
   | some p=>
    obtain⟨r,n⟩:=p;obtain⟨k1,k2,k3,t,k4⟩:=akE aob;have hsm:=BO aob;rw[ee (auS _)]at hsm;simp only at hsm ⊢;obtain⟨rs,g1,g2,t',g3,g4⟩:=TJ (log:=log) f (out++[r]) (at_+n) (by omega);have e:L (log.extract at_ log.size)=(L log).drop at_:=by
     rw[kB];exact awv (by rw[avy,ba];omega)
    rw[e]at k4;have ht:t=cat rs++t':=by
     rw[← g3,← aw9,k4,k3,axA (by rw[ba])]
    refine⟨r::rs,by rw[g1];simp,fun x hx=> ?_,t',by rw[k4,ht,iS,au2], ?_⟩
    ·rcases au5.1 hx with rfl | hx
     ·exact⟨k1,k2⟩
     ·exact g2 x hx
    ·rw[g4,iS,auP,ba,k3];omega
  ·exact⟨[],by simp,(fun r hr=>nomatch hr),(L log).drop at_,rfl,rfl⟩
def Ou(log:auB):qd (fE log).1∧(fE log).2=(cat (fE log).1).length∧ ∃ t,L log=cat (fE log).1++t:=by
 obtain⟨rs,g1,g2,t,g3,g4⟩:=TJ (log:=log) (log.size+1) [] 0 (avM _);have e:(fE log).1=rs:=by
  show(my log (log.size+1) [] 0).1=rs;simpa using g1
 rw[e];refine⟨g2, ?_,t,by simpa using g3⟩;show(my log (log.size+1) [] 0).2=_;rw[g4,avV]
def aaS: ∀ (rs ts:List auB) (t:List UInt8),qd rs→qd ts→cat rs=cat ts++t→ ∃ us,rs=ts++us
 | rs,[],t,_,_,_=>⟨rs,rfl⟩
 | [],s::ts,t,_,_,h=>by
  have e:=congrArg awX h;rw[iS,tz]at e;have:=JQ s;simp only[avf,auP,ba]at e;omega
 | r::rs,s::ts,t,h1,h2,h=>by
  rw[iS,iS,au2]at h;have hr:=h1 r auM;have hs:=h2 s auM;have o1:=L8 (s:=B (L (cw r)++cat rs)) (r:=r) (t:=cat rs) (L_B _) hr.1 hr.2;have o2:=L8 (s:=B (L (cw r)++cat rs)) (r:=s) (t:=cat ts++t) (by rw[L_B,h]) hs.1 hs.2;rw[o1]at o2;simp only[auU,avs]at o2;obtain⟨rfl,_⟩:=o2;obtain⟨us,hu⟩:=aaS rs ts t (fun x hx=>h1 x (auJ _ hx)) (fun x hx=>h2 x (auJ _ hx)) (ayO h);exact⟨us,by rw[hu];rfl⟩
def Yz{lg:auB}{fo:Int}:cr lg fo=true↔lg.size≤2400∧ ∃ rs ts,qd (rs++ts)∧L lg=cat (rs++ts)∧fo=((cat rs).length:Int):=by
 unfold cr;simp only[auF,decide_eq_true_eq];constructor
 ·rintro⟨h1,h2,h3,h4⟩;have h2:=ah.1 h2;obtain⟨a1,a2,t,a3⟩:=Ou lg;obtain⟨b1,b2,t',b3⟩:=Ou (lg.extract 0 fo.toNat);have ht:t=[]:=by
   have e:=congrArg awX a3;rw[ba,auP]at e;exact avi (by omega)
  rw[ht,avj]at a3;have hz:(lg.extract 0 fo.toNat).size=fo.toNat:=by rw[ee (by omega)];omega
  have ht':t'=[]:=by
   have e:=congrArg awX b3;rw[ba,auP,hz]at e;exact avi (by omega)
  rw[ht',avj]at b3;have hp:cat (fE lg).1=cat (fE (lg.extract 0 fo.toNat)).1++(L lg).drop fo.toNat:=by
   rw[← a3,← b3,kB,aw1,awF,awJ]
  obtain⟨us,hu⟩:=aaS _ _ _ a1 b1 hp;refine⟨h1,(fE (lg.extract 0 fo.toNat)).1,us,by rw[← hu];exact a1,by rw[← hu];exact a3, ?_⟩;rw[← b2];exact h4.symm
 ·rintro⟨h1,rs,ts,h2,h3,rfl⟩;have hsz:lg.size=(cat rs).length+(cat ts).length:=by rw[← ba,h3,jh,auP]
  have hrs:qd rs:=fun r hr=>h2 r (auT _ hr);have he:L (lg.extract 0 (cat rs).length)=cat rs:=by
   rw[kB,h3,jh,aw1,awF,axw rfl]
  have e1:=HB h2 h3;have e2:=HB hrs he;refine⟨h1,ah.2 ⟨by omega,by omega⟩,by rw[e1], ?_⟩;rw[auV,e2];simp only;rw[← ba,he]
def Dj(k:anE):Prop:= ∀ n∈k.held,∀ m∈k.inbox,¬ (n.fr=m.fr∧n.nu=m.nu)
def F3{l:List anz}{f n:Int}(h:aP l f n < 0): ∀ x∈l,¬ (x.fr=f∧x.nu=n):=by
 intro x hx hc;rcases bZ l.length (fun i=>decide ((nA l i).fr=f)&&decide ((nA l i).nu=n)) with⟨_,h2⟩ | ⟨i,h1,_⟩
 ·obtain⟨j,hj,rfl⟩:=avA hx;have:=h2 j hj;rw[ji (auO hj)]at this;simp[hc.1,hc.2]at this
 ·unfold aP at h;omega
def HG{l:List anz}{f n:Int}(h: ∀ x∈l,¬ (x.fr=f∧x.nu=n)):aP l f n= -1:=by
 rcases Kk l f n with h1 | h1
 ·exact h1
 ·obtain⟨h2,_,h3,h4⟩:=jt h1;exact absurd ⟨h3,h4⟩ (h _ (adJ h2))
def ab2{l:List Mark}{f n:Int}(h:eC l f n < 0): ∀ x∈l,¬ (x.mf=f∧x.mn=n):=by
 intro x hx hc;rcases bZ l.length (fun i=>decide ((mA l i).mf=f)&&decide ((mA l i).mn=n)) with⟨_,h2⟩ | ⟨i,h1,_⟩
 ·obtain⟨j,hj,rfl⟩:=avA hx;have:=h2 j hj;rw[vM (auO hj)]at this;simp[hc.1,hc.2]at this
 ·unfold eC at h;omega
def amA{l:List Mark}{j:Nat}(h:j < l.length):mA l j∈l:=by
 rw[vM (auO h)];exact avm h
def YO{l:List Mark}{f n:Int}(h: ∀ x∈l,¬ (x.mf=f∧x.mn=n)):eC l f n= -1:=by
 rcases bZ l.length (fun i=>decide ((mA l i).mf=f)&&decide ((mA l i).mn=n)) with⟨h1,_⟩ | ⟨i,_,h2,h3,_⟩
 ·exact h1
 ·simp only[auF,decide_eq_true_eq]at h3;exact absurd h3 (h _ (amA h2))
def afu{k o:anE}{n:anz}(h:Bl k n=some o)(hd:Dj k):Dj o:=by
 unfold Bl at h;split at h
 ·cases h
 split at h
 ·cases h
 split at h
 ·cases h
 rename_i h1;split at h
 ·cases h
 rename_i h2;split at h
 ·cases h
 split at h
 ·cases h
 have a1:=F3 (l:=k.held) (f:=n.fr) (n:=n.nu) (by simpa using h1);have a2:=F3 (l:=k.inbox) (f:=n.fr) (n:=n.nu) (by simpa using h2);split at h<;>cases h
 ·intro x hx m hm;rcases MG _ hm with rfl | hm
  ·exact a1 x hx
  ·exact hd x hx m hm
 ·intro x hx m hm;rcases MG _ hx with rfl | hx
  ·exact fun hc=>a2 m hm ⟨hc.1.symm,hc.2.symm⟩
  ·exact hd x hx m hm
def abO{l:List anz}{i:Nat}{x:anz}(h:x∈zf l i):x∈l:=by
 unfold zf at h;rcases auX.1 h with h | h
 ·exact av6 h
 ·exact awA h
def akK{k o:anE}{w:auB}{n:Int}(h:Ma k w n=some o)(hd:Dj k):Dj o:=by
 unfold Ma at h;split at h
 ·cases h;intro x hx m hm;exact hd x (awd.1 hx).1 m hm
 split at h
 ·cases h;exact hd
 ·cases h
def aef{k o:anE}{w:auB}{n:anz}(h:iR k w n=some o)(hd:Dj k):Dj o:=by
 unfold iR at h;split at h
 ·exact afu h hd
 split at h
 ·exact afu h hd
 split at h
 ·cases h
 rename_i hn;simp only[avo,decide_eq_true_eq,not_or]at hn;have a1:=F3 (l:=k.held) (f:=n.fr) (n:=n.nu) (by omega);have a2:=F3 (l:=k.inbox) (f:=n.fr) (n:=n.nu) (by omega);split at h
 ·cases h;intro x hx m hm;rcases MG _ hx with rfl | hx
  ·exact fun hc=>a2 m hm ⟨hc.1.symm,hc.2.symm⟩
  ·exact hd x hx m hm
 split at h
 ·cases h;intro x hx m hm;rcases MG _ hm with rfl | hm
  ·exact a1 x hx
  ·exact hd x hx m hm
 ·cases h
def aei{k o:anE}{w:auB}{m:Mark}(h:fc k w m=some o)(hd:Dj k):Dj o:=by
 unfold fc at h;split at h
 ·cases h;exact fun x hx m hm=>hd x (abO hx) m hm
 split at h
 ·cases h;exact fun x hx m hm=>hd x hx m (abO hm)
 split at h
 ·cases h;exact hd
 ·cases h
def ah8{k o:anE}{w r:auB}(h:cL k w r=some o)(hd:Dj k):Dj o:=by
 unfold cL at h;split at h
 ·split at h
  ·exact akK h hd
  ·cases h
 split at h
 ·split at h
  ·exact aef h hd
  ·cases h
 split at h
 ·split at h
  ·exact aei h hd
  ·cases h
 ·cases h
def lQ{k o:anE}{r:auB}(hk:aw k=true):bV k r=some o↔qX k r=some o∧aw o=true:=by
 unfold bV ic;simp only[hk,auy];constructor
 ·intro h;cases hf:(qX k r).filter aw with
  | none=>rw[hf]at h;cases h
  | some o'=>
   rw[hf]at h;cases h;exact awe.1 hf
 ·intro h;rw[awe.2 h];rfl
def ai2{k o:anE}{r:auB}(hk:aw k=true)(h:bV k r=some o)(hd:Dj k):Dj o:=by
 have h1:=((lQ hk).1 h).1;unfold qX at h1;split at h1
 ·cases h1
 ·exact ah8 h1 hd
def Uz: ∀ {rs:List auB} {k o:anE},aw k=true→Dj k→fG k rs=some o→Dj o
 | [],k,o,_,hd,h=>by cases h;exact hd
 | r::rs,k,o,hk,hd,h=>by
  unfold fG at h;rw[axO]at h;cases hs:bV k r with
  | none=>rw[hs]at h;cases h
  | some k'=>rw[hs]at h;exact Uz (rs:=rs) (F9 hs) (ai2 hk hs hd) h
def YT{id:Int}{rs:List auB}{o:anE}(h:de id rs=some o):Dj o:=by
 unfold de at h;split at h
 ·exact Uz (nW (by assumption)) (fun n hn=>by cases hn) h
 ·cases h
def ft(k:anE)(rs ts:List auB):fG k (rs++ts)=(fG k rs).bind fun o=>fG o ts:=List.foldlM_append
def qL(k:anE)(r:auB):fG k [r]=bV k r:=by
 unfold fG;rw[axO];cases bV k r<;>rfl
def fD(t:Int):auB:=B [116,105,109,101,32]++cZ t
def rT(n:Int):auB:=B [110,101,120,116,32]++cZ n
def cH(w:auB)(a b c:Int):auB:=((((((w++B [32])++cZ a)++B [32])++cZ b)++B [32])++cZ c)
def xj(n:anz):auB:=B [104,101,108,100,32]++wr n
def rU(n:anz):auB:=B [105,110,98,111,120,32]++wr n
def bp(k:anE):List auB:=
 ((((if 0 < k.ti then [fD k.ti] else [])++(if 1 < k.nx then [rT k.nx] else []))++k.marks.map fun m=>cH fX m.mf m.mn m.mu)++k.held.map xj)++k.inbox.map rU
def qW{k:anE}{rec:auB}{w r:List UInt8}(hw:l7 w)(e:L rec=w++32::r):qX k rec=cL k (B w) (B r):=by
 unfold qX;rw[e,NK hw,IP hw e];rfl
def JS{k:anE}{t:Int}(h0:0≤t)(h1:t < 100000)(h:k.ti < t):cL k kE (B (Lib.itoa t))=some ⟨k.id,t,k.nx,vD t k.held,FH t k.marks,k.inbox⟩:=by
 unfold cL Ma;simp only[gx h0 h1,avk,auy,auN,h,auz]
def adj{k:anE}{n:Int}(h0:0≤n)(h1:n < 100000)(h:k.nx < n):cL k mg (B (Lib.itoa n))=some ⟨k.id,k.ti,n,k.held,k.marks,k.inbox⟩:=by
 unfold cL Ma;simp[FW,gx h0 h1,avG,auy,auL,auN,h,auz,auD]
def adk{k:anE}{m:Mark}{r:auB}(ht:oB r=some m)(h:eC k.marks m.mf m.mn < 0):cL k fX r=some ⟨k.id,k.ti,k.nx,k.held,vR k.marks m,k.inbox⟩:=by
 have e:decide (0≤eC k.marks m.mf m.mn)=false:=by simp;omega
 unfold cL fc;simp[yb,yd,AK,yc,ye,wv,AL,AM,awu,ava,avG,auy,auD,ht,auL,auN,e,auH]
def adl{k:anE}{n:anz}(hn:ay n=true)(h1:aP k.held n.fr n.nu < 0)(h2:aP k.inbox n.fr n.nu < 0):cL k kG (wr n)=some ⟨k.id,k.ti,k.nx,ka k.held n,k.marks,k.inbox⟩:=by
 have e1:decide (0≤aP k.held n.fr n.nu)=false:=by simp;omega
 have e2:decide (0≤aP k.inbox n.fr n.nu)=false:=by simp;omega
 unfold cL iR;simp[FY,F1,IX,FZ,awu,ava,avk,auy,auD,xB hn,auL,e1,e2]
def abn{k:anE}{n:anz}(hn:ay n=true)(h1:aP k.held n.fr n.nu < 0)(h2:aP k.inbox n.fr n.nu < 0):cL k fP (wr n)=some ⟨k.id,k.ti,k.nx,k.held,k.marks,ka k.inbox n⟩:=by
 have e1:decide (0≤aP k.held n.fr n.nu)=false:=by simp;omega
 have e2:decide (0≤aP k.inbox n.fr n.nu)=false:=by simp;omega
 unfold cL iR;simp[Ea,Ec,FX,Eb,Ed,awu,ava,avG,auy,auD,xB hn,auL,e1,e2]
def OA:l7 [116,105,109,101]:=by unfold l7;decide
def agv:l7 [110,101,120,116]:=by unfold l7;decide
def agw:l7 [109,97,114,107]:=by unfold l7;decide
def agx:l7 [104,101,108,100]:=by unfold l7;decide
def adG:l7 [105,110,98,111,120]:=by unfold l7;decide
def H5(t:Int):L (fD t)=[116,105,109,101]++32::Lib.itoa t:=by unfold fD;simp only[ua,L_B,WY];rfl
def ZC(t:Int):L (rT t)=[110,101,120,116]++32::Lib.itoa t:=by unfold rT;simp only[ua,L_B,WY];rfl
def Qr(w:auB)(a b c:Int):L (cH w a b c)=L w++32::(Lib.itoa a++32::(Lib.itoa b++32::Lib.itoa c)):=by
 unfold cH;simp only[ua,L_B,WY,au2,awM,avR]
def ZD(n:anz):L (xj n)=[104,101,108,100]++32::L (wr n):=by unfold xj;simp only[ua,L_B];rfl
def WX(n:anz):L (rU n)=[105,110,98,111,120]++32::L (wr n):=by unfold rU;simp only[ua,L_B];rfl
def qK{k:anE}(h:anK k):aw k=true:=by
 have a:=h.hl;have b:=h.ml;have c:=h.il;unfold aw;simp only[auF,ah,decide_eq_true_eq,cG];exact⟨⟨h.id0,h.id1⟩,⟨h.t0,h.t1⟩,⟨h.n0,h.n1⟩,⟨by omega,h.h⟩,⟨by omega,h.m⟩,⟨by omega,h.i⟩,h.ho,h.mo,h.io⟩
def S2{l:List anz}{a i:Nat}(h:i < a):nA (l.take a) i=nA l i:=by
 unfold nA;simp[auQ,h]
def aap{l:List Mark}{a i:Nat}(h:i < a):mA (l.take a) i=mA l i:=by
 unfold mA;simp[auQ,h]
def Mb{l:List anz}(h:dB l=true)(a:Nat):dB (l.take a)=true:=by
 refine cG.2 fun i hi=> ?_;rw[avv]at hi;have:=cG.1 h i (by omega);rw[S2 (by omega),S2 (by omega)];exact this
def aao{l:List Mark}(h:ju l=true)(a:Nat):ju (l.take a)=true:=by
 refine cG.2 fun i hi=> ?_;rw[avv]at hi;have:=cG.1 h i (by omega);rw[aap (by omega),aap (by omega)];exact this
def QF{l:List Mark}(h:ju l=true): ∀ (j i:Nat),i < j→j < l.length→bef (mA l i).mf (mA l i).mn (mA l j).mf (mA l j).mn=true
 | j+1,i,hij,hj=>by
  have h1:=cG.1 h (j+1) hj;simp only[auF,avo,decide_eq_true_eq]at h1;have h2:bef (mA l j).mf (mA l j).mn (mA l (j+1)).mf (mA l (j+1)).mn=true:=h1.2.resolve_left (by omega);rcases awm i j with h3 | h3
  ·exact Zy (QF h j i h3 (by omega)) h2
  ·rwa[show i=j by omega]
def Cm{k:anE}(hf:anK k)(a b c:Nat)(hc:c=0∨k.marks.length≤b):anK ⟨k.id,k.ti,k.nx,k.held.take a,k.marks.take b,k.inbox.take c⟩:=by
 have hl:=hf.hl;have ml:=hf.ml;have il:=hf.il;refine⟨hf.id0,hf.id1,hf.t0,hf.t1,hf.n0,hf.n1,by simp;omega,Mb hf.h a,by simp;omega,aao hf.m b,by simp;omega,Mb hf.i c,fun i hi=> ?_,fun i hi=> ?_,fun i hi=> ?_⟩
 ·simp only[avv]at hi;have:=hf.ho i (by omega);unfold lh at this ⊢;simp only[auF,decide_eq_true_eq]at this ⊢;rw[S2 (by omega)];refine⟨this.1,this.2.1,this.2.2.1, ?_⟩;rw[YO fun x hx=>ab2 this.2.2.2 x (av6 hx)];omega
 ·simp only[avv]at hi;have:=hf.mo i (by omega);unfold lx at this ⊢;rw[aap (by omega)];exact this
 ·simp only[avv]at hi;rcases hc with hc | hc
  ·omega
  ·have:=hf.io i (by omega);simp only;rw[awv hc];unfold k9 at this ⊢;rw[S2 (by omega)];exact this
def aau{α:Type}{f:α→Bool}{l:List α}{n:α}(h: ∀ x∈l,f x=true):ins f l n=l++[n]:=by
 unfold ins;have h1:l.takeWhile f=l:=by
  induction l with
  | nil=>rfl
  | cons x l ih=>rw[aw7,h x auM];simp only[auy];rw[ih fun y hy=>h y (auJ _ hy)]
 have h2:l.dropWhile f=[]:=by
  induction l with
  | nil=>rfl
  | cons x l ih=>rw[ays,h x auM];simp only[auy];exact ih (fun y hy=>h y (auJ _ hy)) (by
    have:=h1;rw[aw7,h x auM]at this;simpa using this)
 rw[h1,h2]
def nH{α:Type}{l:List α}{j:Nat}(h:j < l.length):l.take (j+1)=l.take j++[l[j]]:=by
 rw[axG,auO h];rfl
def B0{k:anE}(hk:aw k=true)(hd:Dj k):de k.id (bp k)=some k:=by
 have hf:=bN hk;have hid:isN k.id=true:=ah.2 ⟨hf.id0,hf.id1⟩;have t0:=hf.t0;have t1:=hf.t1;have n0:=hf.n0;have n1:=hf.n1;have kT:aw ⟨k.id,k.ti,1,[],[],[]⟩=true:=by
  refine qK ⟨hf.id0,hf.id1,t0,t1,(by decide:(1:Int)≤1),(by decide:(1:Int)≤100),by simp,rfl,by simp,rfl,by simp,rfl,fun i hi=>by simp at hi,fun i hi=>by simp at hi,fun i hi=>by simp at hi⟩
 have kN:aw ⟨k.id,k.ti,k.nx,[],[],[]⟩=true:=by
  refine qK ⟨hf.id0,hf.id1,t0,t1,n0,n1,by simp,rfl,by simp,rfl,by simp,rfl,fun i hi=>by simp at hi,fun i hi=>by simp at hi,fun i hi=>by simp at hi⟩
 have s1:fG ⟨k.id,0,1,[],[],[]⟩ (if 0 < k.ti then [fD k.ti] else [])=some ⟨k.id,k.ti,1,[],[],[]⟩:=by
  by_cases h:0 < k.ti
  ·rw[aus h,qL,(lQ (nW hid)).2 ⟨?_,kT⟩];rw[qW OA (H5 _)];exact JS t0 (by omega) h
  ·rw[aur h,show k.ti=0 by omega];rfl
 have s2:fG ⟨k.id,k.ti,1,[],[],[]⟩ (if 1 < k.nx then [rT k.nx] else [])=some ⟨k.id,k.ti,k.nx,[],[],[]⟩:=by
  by_cases h:1 < k.nx
  ·rw[aus h,qL,(lQ kT).2 ⟨?_,kN⟩];rw[qW agv (ZC _)];exact adj (by omega) (by omega) h
  ·rw[aur h,show k.nx=1 by omega];rfl
 have s3: ∀ j,j≤k.marks.length→fG ⟨k.id,k.ti,k.nx,[],[],[]⟩ ((k.marks.take j).map fun m=>cH fX m.mf m.mn m.mu)=some ⟨k.id,k.ti,k.nx,[],k.marks.take j,[]⟩:=by
  intro j
  induction j with
  | zero=>intro _;rfl
  | succ j ih=>
   intro hj;have hjl:j < k.marks.length:=by omega
   have hm:=yh hf.m hjl;rw[vM (auO hjl)]at hm;have hr:=yg hm;have g1:=qK (Cm hf 0 j 0 (.inl rfl));have g2:=qK (Cm hf 0 (j+1) 0 (.inl rfl));have g3:aw ⟨k.id,k.ti,k.nx,[],k.marks.take j++[k.marks[j]'hjl],[]⟩=true:=by
    rw[← nH hjl];simpa using g2
   have aqf: ∀ x∈k.marks.take j,bef x.mf x.mn k.marks[j].mf k.marks[j].mn=true:=fun x hx=>by
    obtain⟨i,hi,rfl⟩:=avA hx;rw[avv]at hi;have:=QF hf.m j i (by omega) hjl;rw[vM (auO hjl),vM (auO (by omega:i < k.marks.length))]at this;simpa using this
   rw[nH hjl,avS,ft,ih (by omega)];simp only[auE,avJ,awZ];rw[qL,(lQ (by simpa using g1)).2 ⟨?_,g3⟩];have h3:=ZO (r:=B (Lib.itoa (k.marks[j]'hjl).mf++32::(Lib.itoa (k.marks[j]'hjl).mn++32::Lib.itoa (k.marks[j]'hjl).mu))) (a:=(k.marks[j]'hjl).mf) (b:=(k.marks[j]'hjl).mn) (c:=(k.marks[j]'hjl).mu) (by omega) (by omega) (by omega) (by omega) (by omega) (by omega) (L_B _);rw[qW agw (Qr _ _ _ _),adk h3 ?_]
   ·simp only;rw[show vR (k.marks.take j) k.marks[j]=k.marks.take j++[k.marks[j]] from aau aqf]
   ·simp only;rw[YO fun x hx hc=>by
     have:=aqf x hx;rw[hc.1,hc.2,WM]at this;cases this]
    omega
 have s4: ∀ j,j≤k.held.length→fG ⟨k.id,k.ti,k.nx,[],k.marks,[]⟩ ((k.held.take j).map xj)=some ⟨k.id,k.ti,k.nx,k.held.take j,k.marks,[]⟩:=by
  intro j
  induction j with
  | zero=>intro _;rfl
  | succ j ih=>
   intro hj;have hjl:j < k.held.length:=by omega
   have hm:=dr hf.h hjl;rw[ji (auO hjl)]at hm;have g1:=qK (Cm hf j k.marks.length 0 (.inl rfl));have g2:=qK (Cm hf (j+1) k.marks.length 0 (.inl rfl));rw[avN]at g1 g2;have g3:aw ⟨k.id,k.ti,k.nx,k.held.take j++[k.held[j]'hjl],k.marks,[]⟩=true:=by
    rw[← nH hjl];simpa using g2
   have aqf: ∀ x∈k.held.take j,bef x.fr x.nu k.held[j].fr k.held[j].nu=true:=fun x hx=>by
    obtain⟨i,hi,rfl⟩:=avA hx;rw[avv]at hi;have:=vJ hf.h j i (by omega) hjl;rw[ji (auO hjl),ji (auO (by omega:i < k.held.length))]at this;simpa using this
   rw[nH hjl,avS,ft,ih (by omega)];simp only[auE,avJ,awZ];rw[qL,(lQ (by simpa using g1)).2 ⟨?_,g3⟩];rw[qW agx (ZD _),B_L,adl hm ?_ ?_]
   ·simp only;rw[show ka (k.held.take j) k.held[j]=k.held.take j++[k.held[j]] from aau aqf]
   ·simp only;rw[HG fun x hx hc=>by
     have:=aqf x hx;rw[hc.1,hc.2,WM]at this;cases this]
    omega
   ·simp only;rw[HG fun x hx=>by cases hx];omega
 have s5: ∀ j,j≤k.inbox.length→fG ⟨k.id,k.ti,k.nx,k.held,k.marks,[]⟩ ((k.inbox.take j).map rU)=some ⟨k.id,k.ti,k.nx,k.held,k.marks,k.inbox.take j⟩:=by
  intro j
  induction j with
  | zero=>intro _;rfl
  | succ j ih=>
   intro hj;have hjl:j < k.inbox.length:=by omega
   have hm:=dr hf.i hjl;rw[ji (auO hjl)]at hm;have g1:=qK (Cm hf k.held.length k.marks.length j (.inr (auS _)));have g2:=qK (Cm hf k.held.length k.marks.length (j+1) (.inr (auS _)));rw[avN,avN]at g1 g2;have g3:aw ⟨k.id,k.ti,k.nx,k.held,k.marks,k.inbox.take j++[k.inbox[j]'hjl]⟩=true:=by
    rw[← nH hjl];simpa using g2
   have aqf: ∀ x∈k.inbox.take j,bef x.fr x.nu k.inbox[j].fr k.inbox[j].nu=true:=fun x hx=>by
    obtain⟨i,hi,rfl⟩:=avA hx;rw[avv]at hi;have:=vJ hf.i j i (by omega) hjl;rw[ji (auO hjl),ji (auO (by omega:i < k.inbox.length))]at this;simpa using this
   rw[nH hjl,avS,ft,ih (by omega)];simp only[auE,avJ,awZ];rw[qL,(lQ (by simpa using g1)).2 ⟨?_,g3⟩];rw[qW adG (WX _),B_L,abn hm ?_ ?_]
   ·simp only;rw[show ka (k.inbox.take j) k.inbox[j]=k.inbox.take j++[k.inbox[j]] from aau aqf]
   ·simp only;rw[HG fun x hx=>hd x hx _ (avm hjl)];omega
   ·simp only;rw[HG fun x hx hc=>by
     have:=aqf x hx;rw[hc.1,hc.2,WM]at this;cases this]
    omega
 have e3:=s3 k.marks.length (auS _);have e4:=s4 k.held.length (auS _);have e5:=s5 k.inbox.length (auS _);rw[avN]at e3 e4 e5;unfold de bp;rw[aus hid,ft,ft,ft,ft,s1];simp only[auE,s2,e3,e4,e5]
structure aoj (lg:auB) (fo:Int) (rs ts:List auB):Prop where
 ok:qd (rs++ts)
 sz:lg.size≤2400
 eq:L lg=cat (rs++ts)
 fo:fo=((cat rs).length:Int)
def alV{lg:auB}{fo:Int}(h:cr lg fo=true): ∃ rs ts,aoj lg fo rs ts:=by
 obtain⟨h1,rs,ts,h2,h3,h4⟩:=Yz.1 h;exact⟨rs,ts,h2,h1,h3,h4⟩
def aoj.aqj{lg:auB}{fo:Int}{rs ts:List auB}(h:aoj lg fo rs ts):cr lg fo=true:=
 Yz.2 ⟨h.sz,rs,ts,h.ok,h.eq,h.fo⟩
def aoj.read{lg:auB}{fo:Int}{rs ts:List auB}(h:aoj lg fo rs ts):fE lg=(rs++ts,lg.size):=HB h.ok h.eq
def Qx{rs ts:List auB}(h:qd (rs++ts)):qd rs:=fun r hr=>h r (auT _ hr)
def aoj.auk{lg:auB}{fo:Int}{rs ts:List auB}(h:aoj lg fo rs ts):L (lg.extract 0 fo.toNat)=cat rs:=by
 rw[kB,h.eq,h.fo,auV,jh,aw1,awF,axw rfl]
def aoj.aqn{lg:auB}{fo:Int}{rs ts:List auB}(h:aoj lg fo rs ts):(fE (lg.extract 0 fo.toNat)).1=rs:=by
 rw[HB (Qx h.ok) h.auk]
def aoj.state{lg:auB}{fo:Int}{rs ts:List auB}(h:aoj lg fo rs ts)(id:Int):cq id lg=de id (rs++ts):=by
 unfold cq;rw[h.read]
def aoj.ap0{lg:auB}{fo:Int}{rs ts:List auB}(h:aoj lg fo rs ts)(id:Int):cq id (lg.extract 0 fo.toNat)=de id rs:=by
 unfold cq;rw[h.aqn]
def QH(id:Int)(rs ts:List auB):de id (rs++ts)=(de id rs).bind fun k=>fG k ts:=by
 unfold de;split
 ·exact ft _ _ _
 ·rfl
def Uw(id:Int)(rs:List auB)(r:auB):de id (rs++[r])=(de id rs).bind fun k=>bV k r:=by
 rw[QH];congr 1;funext k;exact qL k r
def QI{id:Int}{rs ts:List auB}(h:(de id (rs++ts)).isSome=true):(de id rs).isSome=true:=by
 rw[QH]at h;cases e:de id rs with
 | none=>rw[e]at h;exact h
 | some k=>rfl
def aoj.add{lg r:auB}{fo:Int}{rs ts:List auB}(h:aoj lg fo rs ts)(h1:1≤r.size)(h2:r.size≤60)(h3:lg.size+(cw r).size≤2400):aoj (lg++cw r) fo rs (ts++[r]):=by
 refine⟨?_, ?_, ?_,h.fo⟩
 ·intro x hx;rw[← au2]at hx;rcases auX.1 hx with hx | hx
  ·exact h.ok x hx
  ·rw[avh.1 hx];exact⟨h1,h2⟩
 ·rw[← ba,ua,auP,ba,ba];exact h3
 ·rw[ua,h.eq,← au2,jh (rs++ts) [r]];congr 1;rw[iS,tz,avj]
def aoj.force{lg:auB}{fo:Int}{rs ts:List auB}(h:aoj lg fo rs ts):aoj lg (lg.size:Int) (rs++ts) []:=by
 refine⟨by simpa using h.ok,h.sz,by simpa using h.eq, ?_⟩;rw[← ba,h.eq]
def aoj.pack{lg:auB}{rs:List auB}(h:qd rs)(e:L lg=cat rs)(hz:lg.size≤2400):aoj lg (lg.size:Int) rs []:=by
 refine⟨by simpa using h,hz,by simpa using e, ?_⟩;rw[← ba,e]
def abB{log:auB}: ∀ (qs:List auB) (f:Nat) (out:List auB) (at_:Nat) (t:List UInt8),qd qs→(L log).drop at_=cat qs++t→at_≤log.size→log.size < at_+f→
  ∃ f',my log f out at_=my log f' (out++qs) (at_+(cat qs).length)∧at_+(cat qs).length≤log.size
 | [],f,out,at_,t,_,_,h3,_=>⟨f,by simp[tz],by simpa[tz] using h3⟩
 | r::qs,0,out,at_,t,_,_,h3,h4=>by omega
 | r::qs,f+1,out,at_,t,h1,h2,h3,h4=>by
  have hr:=h1 r auM;rw[iS,au2]at h2;have hlen:log.size - at_=(cw r).size+(cat qs++t).length:=by
   have e:=congrArg awX h2;rwa[avy,ba,auP,ba]at e
  have hp:=JQ r;have aob:qS (log.extract at_ log.size)=some (r,(cw r).size):=by
   refine L8 (t:=cat qs++t) ?_ hr.1 hr.2;rw[kB,h2];refine awv ?_;rw[auP,ba];omega
  obtain⟨f',g1,g2⟩:=abB (log:=log) qs f (out++[r]) (at_+(cw r).size) t (fun x hx=>h1 x (auJ _ hx)) (by
   rw[← aw9,h2,axA (by rw[ba])]) (by omega) (by omega)
  refine⟨f', ?_, ?_⟩
  ·conv=>lhs;unfold my
   rw[aus (by omega),aob];simp only;rw[g1];simp only[iS,auP,ba,au2,awM,avR,avI]
  ·simp only[iS,auP,ba];omega
def agh{log:auB}{qs:List auB}{t:List UInt8}(h:qd qs)(e:L log=cat qs++t): ∃ us,(fE log).1=qs++us:=by
 obtain⟨f',g1,g2⟩:=abB (log:=log) qs (log.size+1) [] 0 t h (by simpa using e) (avM _) (by omega);obtain⟨us,k1,_⟩:=TJ (log:=log) f' ([]++qs) (0+(cat qs).length) g2;refine⟨us, ?_⟩;show(my log (log.size+1) [] 0).1=_;rw[g1,k1];rfl
def aoj.arH{lg:auB}{fo:Int}{rs ts:List auB}(h:aoj lg fo rs ts)(n:Nat)(hn:(cat rs).length≤n):
  ∃ us vs,ts=us++vs∧aoj ((lg.extract 0 n).extract 0 (fE (lg.extract 0 n)).2) ((fE (lg.extract 0 n)).2:Int) (rs++us) []:=by
 obtain⟨a1,a2,t,a3⟩:=Ou (lg.extract 0 n);have e0:L (lg.extract 0 n)=(cat (rs++ts)).take n:=by rw[kB,h.eq,aw1,awF]
 have e:cat (rs++ts)=cat (fE (lg.extract 0 n)).1++(t++(cat (rs++ts)).drop n):=by
  rw[← au2,← a3,e0,awJ]
 obtain⟨vs,hv⟩:=aaS _ _ _ h.ok a1 e;obtain⟨us,hu⟩:=agh (log:=lg.extract 0 n) (qs:=rs) (t:=(cat ts).take (n - (cat rs).length)) (Qx h.ok) (by
  rw[e0,jh,List.take_append,awv hn])
 rw[hu]at hv a1 a2 a3;rw[au2]at hv;refine⟨us,vs,ayO hv,by simpa using a1, ?_, ?_,by rw[a2]⟩
 ·have:=h.sz;rw[← ba,kB,kB];simp only[avv,avy,ba];omega
 ·rw[kB,a3,a2,aw1,awF,axw rfl,avj]
def o8{x:Int}(h0:0≤x)(k:Nat)(hk:1≤k)(h:x < (10 ^ k:Nat)):(Lib.itoa x).length≤k:=by
 obtain⟨u,rfl⟩:=avL h0;rw[j9];exact vl k u hk (by exact_mod_cast h)
def Yq{n:anz}(h:ay n=true):(wr n).size≤35:=by
 obtain⟨f0,f1,t0,t1,n0,n1,u0,u1,s0,s1⟩:=mz h;have a:=o8 f0 1 (by omega) (by omega);have b:=o8 (show 0≤n.nu by omega) 2 (by omega) (by omega);have c:=o8 t0 1 (by omega) (by omega);have d:=o8 (show 0≤n.un by omega) 3 (by omega) (by omega);rw[← ba,ahD];unfold wrL;simp only[auP,auZ,ba];omega
def ahX{r:auB}{m:Mark}(h:oB r=some m):r.size≤17:=by
 unfold oB at h;have hj:=Fj ((L r).count 32) (L r);have hn: ∀ {p:List UInt8},(bC (B p)).2=true→p.length≤5:=fun {p} hp=>by
  rcases uu (B p) with h1 | ⟨n,_,h2,_⟩
  ·rw[h1]at hp;cases hp
  ·exact h2
 split at h
 ·rename_i p q t hp;rw[hp]at hj;split at h
  ·rename_i hc;simp only[auF]at hc;have h1:=hn hc.1;have h2:=hn hc.2.1;have h3:=hn hc.2.2.1;have hj2:p++32::(q++32::t)=L r:=hj;rw[← ba,← hj2];simp only[auP,auZ];omega
  ·cases h
 ·cases h
def ah6{k o:anE}{w r:auB}(h:cL k w r=some o):w.size≤5∧r.size≤35:=by
 unfold cL at h;split at h
 ·rename_i hw;simp only[avo,decide_eq_true_eq]at hw;split at h
  ·rename_i hr;refine⟨by rcases hw with rfl | rfl<;>decide, ?_⟩;rcases uu r with h1 | ⟨n,_,h2,_⟩
   ·rw[h1]at hr;cases hr
   ·omega
  ·cases h
 split at h
 ·rename_i hw;simp only[avo,decide_eq_true_eq]at hw;cases hn:dt r with
  | none=>rw[hn]at h;cases h
  | some n=>
   obtain⟨h1,h2⟩:=eG hn;refine⟨by rcases hw with rfl | rfl | rfl | rfl<;>decide, ?_⟩;rw[← h2];exact Yq h1
 split at h
 ·rename_i hw;simp only[avo,decide_eq_true_eq]at hw;cases hn:oB r with
  | none=>rw[hn]at h;cases h
  | some n=>
   refine⟨by rcases hw with rfl | rfl | rfl<;>decide, ?_⟩;have:=ahX hn;omega
 ·cases h
def ab9{k o:anE}{r:auB}(hk:aw k=true)(h:bV k r=some o):1≤r.size∧r.size≤60:=by
 have h:=((lQ hk).1 h).1;rcases o6 (L r) with hs | ⟨w,t,hs,e⟩
 ·unfold qX at h;rw[NJ hs]at h;cases h
 ·rw[qW hs e]at h;have:=ah6 h;have hw:(B w).size=w.length:=rfl;have ht:(B t).size=t.length:=rfl;rw[← ba,e];simp only[auP,auZ];omega
def Wq{rs:List auB}{c:Nat}(h: ∀ r∈rs,(cw r).size≤c):(cat rs).length≤rs.length * c:=by
 induction rs with
 | nil=>simp[tz]
 | cons r rs ih=>
  have:=ih fun x hx=>h x (auJ _ hx);have:=h r auM;rw[iS,auP,ba,auZ,Nat.succ_mul];omega
def ue{r:auB}(h:r.size≤60):(cw r).size≤r.size+4:=by
 rw[zJ];have:=afk h;omega
def vP{k:anE}(hk:aw k=true):qd (bp k)∧(cat (bp k)).length≤800:=by
 have hf:=bN hk;have t1:=hf.t1;have n1:=hf.n1;have hl:=hf.hl;have ml:=hf.ml;have il:=hf.il;have sT: ∀ r∈(if 0 < k.ti then [fD k.ti] else []),1≤r.size∧r.size≤8:=by
  intro r hr;split at hr
  ·rw[avh.1 hr,← ba,H5];have:=o8 hf.t0 3 (by omega) (by omega);simp only[auP,auZ,avf];omega
  ·cases hr
 have sN: ∀ r∈(if 1 < k.nx then [rT k.nx] else []),1≤r.size∧r.size≤8:=by
  intro r hr;split at hr
  ·rw[avh.1 hr,← ba,ZC];have:=o8 (show 0≤k.nx by have:=hf.n0;omega) 3 (by omega) (by omega);simp only[auP,auZ,avf];omega
  ·cases hr
 have sM: ∀ r∈k.marks.map (fun m=>cH fX m.mf m.mn m.mu),1≤r.size∧r.size≤13:=by
  intro r hr;obtain⟨m,hm,rfl⟩:=avH.1 hr;obtain⟨i,hi,rfl⟩:=avA hm;have:=yg (yh hf.m hi);rw[vM (auO hi)]at this;have a:=o8 this.1 1 (by omega) (by omega);have b:=o8 (show 0≤k.marks[i].mn by omega) 2 (by omega) (by omega);have c:=o8 (show 0≤k.marks[i].mu by omega) 3 (by omega) (by omega);rw[← ba,Qr];simp only[auP,auZ,L_B,avf];omega
 have sH: ∀ r∈k.held.map xj,1≤r.size∧r.size≤40:=by
  intro r hr;obtain⟨m,hm,rfl⟩:=avH.1 hr;obtain⟨i,hi,rfl⟩:=avA hm;have:=dr hf.h hi;rw[ji (auO hi)]at this;have:=Yq this;rw[← ba,ZD];simp only[auP,auZ,ba,avf];omega
 have sI: ∀ r∈k.inbox.map rU,1≤r.size∧r.size≤41:=by
  intro r hr;obtain⟨m,hm,rfl⟩:=avH.1 hr;obtain⟨i,hi,rfl⟩:=avA hm;have:=dr hf.i hi;rw[ji (auO hi)]at this;have:=Yq this;rw[← ba,WX];simp only[auP,auZ,ba,avf];omega
 refine⟨?_, ?_⟩
 ·intro r hr;unfold bp at hr;simp only[auX]at hr;rcases hr with(((hr | hr) | hr) | hr) | hr
  ·have:=sT r hr;omega
  ·have:=sN r hr;omega
  ·have:=sM r hr;omega
  ·have:=sH r hr;omega
  ·have:=sI r hr;omega
 ·unfold bp;simp only[jh,auP];have a:=Wq (c:=12) fun r hr=>by have:=sT r hr;have:=ue (r:=r) (by omega);omega
  have b:=Wq (c:=12) fun r hr=>by have:=sN r hr;have:=ue (r:=r) (by omega);omega
  have c:=Wq (c:=17) fun r hr=>by have:=sM r hr;have:=ue (r:=r) (by omega);omega
  have d:=Wq (c:=44) fun r hr=>by have:=sH r hr;have:=ue (r:=r) (by omega);omega
  have e:=Wq (c:=45) fun r hr=>by have:=sI r hr;have:=ue (r:=r) (by omega);omega
  rw[avK]at c d e;have a2:(if 0 < k.ti then [fD k.ti] else []).length≤1:=by split<;>simp
  have b2:(if 1 < k.nx then [rT k.nx] else []).length≤1:=by split<;>simp
  omega
def fF(rs:List auB):auB:=B (cat rs)
def aab{k:anE}(hk:aw k=true):aoj (fF (bp k)) ((fF (bp k)).size:Int) (bp k) []:=by
 have:=vP hk;refine aoj.pack this.1 (by unfold fF;rw[L_B]) ?_;show(cat (bp k)).length≤2400;omega
def yj(k:anE)(lg:auB)(fo:Int)(r:auB):auB×Int:=
 if lg.size+(cw r).size≤2400 then(lg++cw r,fo) else(fF (bp k)++cw r,((fF (bp k)).size:Int))
def aeV{k o:anE}{id:Int}{lg r:auB}{fo:Int}{rs ts:List auB}(h:aoj lg fo rs ts)(hs:de id (rs++ts)=some k)(hr:bV k r=some o):
  ∃ rs' ts',aoj (yj k lg fo r).1 (yj k lg fo r).2 rs' ts'∧de id (rs'++ts')=some o:=by
 have hk:=HM hs;have hz:=ab9 hk hr;unfold yj;split
 ·rename_i hc;refine⟨rs,ts++[r],h.add hz.1 hz.2 hc, ?_⟩;rw[← au2,Uw,hs];exact hr
 ·have hp:=aab hk;have hsz:=vP hk;have hl:=ue hz.2;refine⟨bp k,[]++[r],hp.add hz.1 hz.2 ?_, ?_⟩
  ·show(cat (bp k)).length+_≤2400;omega
  ·rw[avR,Uw];have:=B0 hk (YT hs);rw[OM hs]at this;rw[this];exact hr
structure an9 (k:anv) (st:anE):Prop where
 ok:ae k=true
 st:cq k.id k.log=some st
def ib{k:anv}(h:ae k=true):an9 k (stT k):=⟨h,(ck h).st⟩
def an9.kok{k:anv}{st:anE}(h:an9 k st):aw st=true:=HM h.st
def an9.id{k:anv}{st:anE}(h:an9 k st):st.id=k.id:=OM h.st
def an9.stT{k:anv}{st:anE}(h:an9 k st):stT k=st:=by
 unfold Go.VS.stT;rw[h.st];rfl
def vO{k:anv}{rs ts:List auB}(id:isN k.id=true)(l:aoj k.log k.fo rs ts)(hl:k.anw.length≤3)(up:k.up=true∨k.anw.length=0)(st:(de k.id (rs++ts)).isSome=true)(hv: ∀ i,i < k.anw.length→Dv k.anw i=true):ae k=true:=by
 unfold ae;simp only[auF,avo,decide_eq_true_eq,cG];refine⟨id,l.aqj,by omega,up,⟨?_, ?_⟩,hv⟩
 ·rw[l.state];exact st
 ·rw[l.ap0];exact QI st
def an9.lg{k:anv}{st:anE}(h:an9 k st): ∃ rs ts,aoj k.log k.fo rs ts∧de k.id (rs++ts)=some st:=by
 obtain⟨rs,ts,hl⟩:=alV (ck h.ok).sh;exact⟨rs,ts,hl,by rw[← hl.state];exact h.st⟩
def an9.aqm{k:anv}{st o:anE}{lg:auB}{fo:Int}{rs ts:List auB}(h:an9 k st)(l:aoj lg fo rs ts)(e:de k.id (rs++ts)=some o):an9 ⟨k.id,k.up,lg,fo,k.anw⟩ o:=by
 have hf:=ck h.ok;refine⟨vO (k:=⟨k.id,k.up,lg,fo,k.anw⟩) hf.id l hf.hl hf.up ?_ hf.hv, ?_⟩
 ·simp only[e];rfl
 ·simp only[l.state];exact e
def wrM(k:anv)(r:auB):anv:=⟨k.id,k.up,(yj (stT k) k.log k.fo r).1,(yj (stT k) k.log k.fo r).2,k.anw⟩
def ZI{k:anv}{st o:anE}{r:auB}(h:an9 k st)(hr:bV st r=some o):an9 (wrM k r) o:=by
 obtain⟨rs,ts,hl,hs⟩:=h.lg;obtain⟨rs',ts',h1,h2⟩:=aeV hl hs hr;have:=h.aqm h1 h2;unfold wrM;rw[h.stT];exact this
def foM(k:anv):anv:=⟨k.id,k.up,k.log,(k.log.size:Int),k.anw⟩
def KM{k:anv}{st:anE}(h:an9 k st):an9 (foM k) st:=by
 obtain⟨rs,ts,hl,hs⟩:=h.lg;exact h.aqm hl.force (by simpa using hs)
def pkM(k:anv):anv:=⟨k.id,k.up,fF (bp (stT k)),((fF (bp (stT k))).size:Int),k.anw⟩
def amo{k:anv}{st:anE}(h:an9 k st):an9 (pkM k) st:=by
 have:=h.aqm (aab h.kok) (o:=st) (by
  have:=B0 h.kok (YT h.st);rw[h.id]at this;simpa using this)
 unfold pkM;rw[h.stT];exact this
def faM(k:anv)(keep:Int):anv:=
 let n:=(k.fo+max 0 (min keep ((k.log.size:Int) - k.fo))).toNat
 ⟨k.id,false,(k.log.extract 0 n).extract 0 (fE (k.log.extract 0 n)).2,((fE (k.log.extract 0 n)).2:Int),[]⟩
def aaH{k:anv}(h:ae k=true)(keep:Int):ae (faM k keep)=true:=by
 have hf:=ck h;obtain⟨rs,ts,hl,hs⟩:=(ib h).lg;have hfo:=hl.fo;obtain⟨us,vs,e,l⟩:=hl.arH (k.fo+max 0 (min keep ((k.log.size:Int) - k.fo))).toNat (by omega);refine vO (k:=faM k keep) hf.id l (by show 0≤3;omega) (.inr rfl) ?_ (fun i hi=>by cases hi);show(de k.id ((rs++us)++[])).isSome=true;rw[avj];refine QI (ts:=vs) ?_;rw[au2,← e,hs];rfl
def Vp{k:anv}{st:anE}(h:an9 k st)(hf:k.fo=(k.log.size:Int))(keep:Int):an9 (faM k keep) st∧(faM k keep).log=k.log∧(faM k keep).fo=k.fo:=by
 obtain⟨rs,ts,hl,hs⟩:=h.lg;have e:(k.fo+max 0 (min keep ((k.log.size:Int) - k.fo))).toNat=k.log.size:=by omega
 have e2:k.log.extract 0 k.log.size=k.log:=by
  apply qR;rw[kB,aw1,awF];exact awv (by rw[ba];omega)
 have hk:faM k keep=⟨k.id,false,k.log,(k.log.size:Int),[]⟩:=by
  unfold faM;simp only[e,e2,hl.read]
 have ok:=aaH h.ok keep;rw[hk]at ok ⊢;exact⟨⟨ok,h.st⟩,rfl,hf.symm⟩
def riM(k:anv):anv:=⟨k.id,true,k.log,k.fo,k.anw⟩
def ain{k:anv}{st:anE}(h:an9 k st):an9 (riM k) st:=by
 have hf:=ck h.ok;obtain⟨rs,ts,hl,hs⟩:=h.lg;refine⟨vO (k:=riM k) hf.id hl hf.hl (.inl rfl) ?_ hf.hv,h.st⟩;show(de k.id (rs++ts)).isSome=true;rw[hs];rfl
def gF(a b:List UInt8):List UInt8:=List.zipWith (· ^^^ ·) a b
def Bm{a b:List UInt8}(h:a.length=b.length):(gF a b).length=a.length:=by
 unfold gF;rw[ayt];omega
def Hu(a b:List UInt8):gF a b=gF b a:=by
 unfold gF
 induction a generalizing b with
 | nil=>cases b<;>rfl
 | cons x a ih=>
  cases b with
  | nil=>rfl
  | cons y b=>rw[awG,awG,ih,UInt8.xor_comm]
def xF(a b c:List UInt8):gF (gF a b) c=gF a (gF b c):=by
 unfold gF
 induction a generalizing b c with
 | nil=>cases b<;>cases c<;>rfl
 | cons x a ih=>
  cases b with
  | nil=>cases c<;>rfl
  | cons y b=>
   cases c with
   | nil=>rfl
   | cons z c=>simp only[awG,ih,UInt8.xor_assoc]
def afx{a b:List UInt8}(h:a.length=b.length):gF (gF a b) b=a:=by
 unfold gF
 induction a generalizing b with
 | nil=>rfl
 | cons x a ih=>
  cases b with
  | nil=>cases h
  | cons y b=>rw[awG,awG,ih (by simpa using h),UInt8.xor_assoc,UInt8.xor_self,UInt8.xor_zero]
def nul(n:Nat):List UInt8:=au0 n 0
def Lk{a:List UInt8}{n:Nat}(h:a.length=n):gF (nul n) a=a:=by
 unfold gF nul
 induction a generalizing n with
 | nil=>subst h;rfl
 | cons x a ih=>
  subst h;rw[auZ,azk,awG,ih rfl,UInt8.zero_xor]
def rX(n:Nat)(bl:Nat→List UInt8):List Nat→List UInt8
 | []=>nul n
 | k::ks=>gF (bl k) (rX n bl ks)
def BQ{n:Nat}{bl:Nat→List UInt8}: ∀ {ks:List Nat},(∀ k∈ks,(bl k).length=n)→(rX n bl ks).length=n
 | [],_=>by simp[rX,nul]
 | k::ks,h=>by
  have a:=h k auM;have b:=BQ fun x hx=>h x (auJ k hx);rw[rX,Bm (by omega),a]
def Vn{n:Nat}{bl:Nat→List UInt8}: ∀ {ks:List Nat} {y:List UInt8},y.length=n→ks.foldl (fun x k=>gF x (bl k)) y=gF y (rX n bl ks)
 | [],y,h=>by
  rw[rX,Hu,Lk h];rfl
 | k::ks,y,h=>by
  rw[avC,rX,← xF];by_cases hk:(gF y (bl k)).length=n
  ·exact Vn hk
  ·
   have key: ∀ (ks:List Nat) (y z:List UInt8),y.length≤n→ks.foldl (fun x k=>gF x (bl k)) y=gF y (rX n bl ks):=by
    intro ks
    induction ks with
    | nil=>
     intro y z hy;rw[axa,rX,Hu];unfold gF nul;clear hk h z
     induction y generalizing n with
     | nil=>simp
     | cons x y ih=>
      cases n with
      | zero=>simp at hy
      | succ n=>rw[azk,awG,UInt8.zero_xor,← ih (by simpa using hy)]
    | cons k ks ih=>
     intro y z hy;rw[avC,rX,← xF];refine ih _ z ?_;unfold gF;rw[ayt];omega
   refine key ks _ [] ?_;unfold gF;rw[ayt];omega
def aiv{n:Nat}{bl:Nat→List UInt8}{p:Nat→Bool}{ks:List Nat}{u:Nat}(hb: ∀ k∈ks,(bl k).length=n)(hf:(ks.filter fun k=> !p k)=[u]):
  ks.foldl (fun x k=>if p k then gF x (bl k) else x) (rX n bl ks)=bl u:=by
 have h1: ∀ (ks:List Nat) (y:List UInt8),ks.foldl (fun x k=>if p k then gF x (bl k) else x) y=(ks.filter p).foldl (fun x k=>gF x (bl k)) y:=by
  intro ks
  induction ks with
  | nil=>intro y;rfl
  | cons k ks ih=>
   intro y;rw[avC,awq];split<;>simp[ih]
 have h2: ∀ (ks:List Nat),(∀ k∈ks,(bl k).length=n)→rX n bl ks=gF (rX n bl (ks.filter fun k=> !p k)) (rX n bl (ks.filter p)):=by
  intro ks
  induction ks with
  | nil=>intro _;simp[rX,Lk (n:=n) (a:=nul n) (by simp[nul])]
  | cons k ks ih=>
   intro hb;have:=ih fun x hx=>hb x (auJ _ hx);rw[rX,this,awq,awq];cases p k
   ·simp only[auH,auy,auD,rX,xF]
   ·simp only[auG,auy,auD,rX];rw[← xF,Hu (bl k),xF]
 have hlen:(rX n bl (ks.filter p)).length=n:=BQ fun k hk=>hb k (awd.1 hk).1;have hu:(bl u).length=n:=hb u (awd.1 (hf▸avX u:u∈ks.filter fun k=> !p k)).1;rw[h1,Vn (BQ hb),h2 ks hb,hf];rw[afx (by rw[hlen];exact BQ fun k hk=>by rw[avh.1 hk];exact hu)];rw[rX,rX,Hu,Lk hu]
def rnd(x:Int):Int:=if inB x 0 65535 then avq (25173 * x+13849) 65536 else 0
def LW(x:Int):0≤rnd x∧rnd x≤65535:=by
 unfold rnd;split
 ·rename_i h;have:=ah.1 h;rw[awj (by omega)];omega
 ·omega
def wx(x:Int):fU (x,())=some ((rnd x,()),()):=by
 unfold fU rnd;simp only[cm,auE];rcases tf (inB x 0 65535) with e | e
 ·have:=ah.1 e;simp only[e,auG,auD,auy];rw[ai (n:=25173 * x) (by omega) (by omega),ai (by omega) (by omega)]
 ·simp only[e,auH,auD,auy]
def wm(x:Int):fQ (x,())=some ((rnd x,()),()):=by
 unfold fQ rnd;simp only[ez,auE];rcases tf (inB x 0 65535) with e | e
 ·have:=ah.1 e;simp only[e,auG,auD,auy];rw[ai (n:=x * 25173) (by omega) (by omega),ai (by omega) (by omega),ayo]
 ·simp only[e,auH,auD,auy]
def qg(b n:Int):Bool:=inB b 1 6&&inB n 0 999
def MK(b n:Int):sy (b,n,())=some ((qg b n,()),()):=by
 unfold sy qg;simp only[cm,auE,au4,avd];cases inB b 1 6<;>rfl
def zu(b n:Int):iv (b,n,())=some ((qg b n,()),()):=by
 unfold iv qg;simp only[ez,auE,au4,avd];cases inB b 1 6<;>rfl
def wgt(b d:Int):Int:=if d=1 then au6 60 b+10 else au6 60 (d * (d - 1))
def Q1{b d:Int}(hb:inB b 1 6=true)(hd:inB d 1 6=true):py (b,d,())=some ((wgt b d,()),()):=by
 have h1:=ah.1 hb;have h2:=ah.1 hd;have h3:b=1∨b=2∨b=3∨b=4∨b=5∨b=6:=by omega
 have h4:d=1∨d=2∨d=3∨d=4∨d=5∨d=6:=by omega
 rcases h3 with rfl | rfl | rfl | rfl | rfl | rfl<;>rcases h4 with rfl | rfl | rfl | rfl | rfl | rfl<;>rfl
def aib(b n:Int)(hb:inB b 1 6=true):iA (b,n,0,1,())=some (.inr (b,n,70,())):=by
 have h1:=ah.1 hb;have h3:b=1∨b=2∨b=3∨b=4∨b=5∨b=6:=by omega
 unfold iA;rcases h3 with rfl | rfl | rfl | rfl | rfl | rfl
 ·exact aj rfl (ao rfl)
 ·exact aj rfl (aj rfl (ao rfl))
 ·exact aj rfl (aj rfl (aj rfl (ao rfl)))
 ·exact aj rfl (aj rfl (aj rfl (aj rfl (ao rfl))))
 ·exact aj rfl (aj rfl (aj rfl (aj rfl (aj rfl (ao rfl)))))
 ·exact aj rfl (aj rfl (aj rfl (aj rfl (aj rfl (aj rfl (ao rfl))))))
def wts(b:Int):List Int:=if b=1 then [70] else if b=2 then [40,30] else if b=3 then [30,30,10] else if b=4 then [25,30,10,5] else if b=5 then [22,30,10,5,3] else [20,30,10,5,3,2]
def ai4(b n:Int)(hb:inB b 1 6=true):iL (b,n,[0,w64 (w64 (au6 60 b)+10)],rd (dfl .int) ([0,w64 (w64 (au6 60 b)+10)]:List Int) 1,2,())=some (.inr (b,n,0::wts b,70,())):=by
 have h1:=ah.1 hb;have h3:b=1∨b=2∨b=3∨b=4∨b=5∨b=6:=by omega
 unfold iL;rcases h3 with rfl | rfl | rfl | rfl | rfl | rfl
 ·exact ao rfl
 ·exact aj rfl (ao rfl)
 ·exact aj rfl (aj rfl (ao rfl))
 ·exact aj rfl (aj rfl (aj rfl (ao rfl)))
 ·exact aj rfl (aj rfl (aj rfl (aj rfl (ao rfl))))
 ·exact aj rfl (aj rfl (aj rfl (aj rfl (aj rfl (ao rfl)))))
def eQ{σ ρ:Type}{b:σ→Option (σ ⊕ ρ)}{x x':σ}{y z:ρ}{c:Bool}(h:b x=if c then some (.inr y) else some (.inl x'))(hz:aV b x'=some z):aV b x=some (if c then y else z):=by
 cases c
 ·exact aj h hz
 ·exact ao h
def XK(b r:Int):List Int→Int→Int→(Int×auC) ⊕ (Int×auC)
 | [],_,_=> .inr (b,())
 | w::ws,acc,d=>if decide (r < acc+w) then .inl (d,()) else XK b r ws (acc+w) (d+1)
def ai5(b r:Int)(hb:inB b 1 6=true):iK (b,0::wts b,r,0,1,())=some (XK b r (wts b) 0 1):=by
 have h1:=ah.1 hb;have h3:b=1∨b=2∨b=3∨b=4∨b=5∨b=6:=by omega
 unfold iK;rcases h3 with rfl | rfl | rfl | rfl | rfl | rfl
 ·exact eQ rfl (ao rfl)
 ·exact eQ rfl (eQ rfl (ao rfl))
 ·exact eQ rfl (eQ rfl (eQ rfl (ao rfl)))
 ·exact eQ rfl (eQ rfl (eQ rfl (eQ rfl (ao rfl))))
 ·exact eQ rfl (eQ rfl (eQ rfl (eQ rfl (eQ rfl (ao rfl)))))
 ·exact eQ rfl (eQ rfl (eQ rfl (eQ rfl (eQ rfl (eQ rfl (ao rfl))))))
def aey{b d:Int}(hb:inB b 1 6=true)(hd:inB d 1 6=true):0≤wgt b d∧wgt b d≤70:=by
 have h1:=ah.1 hb;have h2:=ah.1 hd;have h3:b=1∨b=2∨b=3∨b=4∨b=5∨b=6:=by omega
 have h4:d=1∨d=2∨d=3∨d=4∨d=5∨d=6:=by omega
 rcases h3 with rfl | rfl | rfl | rfl | rfl | rfl<;>rcases h4 with rfl | rfl | rfl | rfl | rfl | rfl<;>decide
def Ty{b x d:Int}(hb:inB b 1 6=true)(hd:inB d 1 6=true)(hlt:d < b)(h0: -1000≤x)(h1:x≤1000):
  iB (b,x,d,())=if decide (x - wgt b d < 0) then some (.inr (.inl (d,()))) else some (.inl (b,x - wgt b d,d+1,())):=by
 have hw:=aey hb hd;have h2:=ah.1 hd;unfold iB;simp only[aut hlt,auy,Q1 hb hd,auE];rw[ai (n:=x - wgt b d) (by omega) (by omega),ai (n:=d+1) (by omega) (by omega)]
def aaJ:(Int×auC) ⊕ (Int×auC)→Int
 | .inl y=>y.1
 | .inr y=>y.1
def alr(b x:Int):Nat→Int→(Int×auC) ⊕ (Int×auC)
 | 0,_=> .inr (b,())
 | n+1,d=>if decide (x - wgt b d < 0) then .inl (d,()) else alr b (x - wgt b d) n (d+1)
def abt{b:Int}(hb:inB b 1 6=true): ∀ (n:Nat) (x d:Int),1≤d→d+n=b→ -70 * d≤x→x≤100→iz (b,x,d,())=some (alr b x n d)
 | 0,x,d,_,h,_,_=>by
  unfold iz;refine ao ?_;unfold iB;simp only[show decide (d < b)=false from auu (by omega),auD];rfl
 | n+1,x,d,h1,h,h2,h3=>by
  have hb':=ah.1 hb;have hd:inB d 1 6=true:=ah.2 ⟨h1,by omega⟩;have hw:=aey hb hd;exact eQ (Ty hb hd (by omega) (by omega) (by omega)) (abt hb n (x - wgt b d) (d+1) (by omega) (by omega) (by omega) (by omega))
def alq: ∀ b:Fin 6,∀ r:Fin 70,aaJ (alr ((b.1+1:Nat):Int) (r.1:Int) b.1 1)=aaJ (XK ((b.1+1:Nat):Int) (r.1:Int) (wts ((b.1+1:Nat):Int)) 0 1):=by decide+kernel
def ajH{b r:Int}(hb:inB b 1 6=true)(h0:0≤r)(h1:r < 70):aaJ (alr b r (b - 1).toNat 1)=aaJ (XK b r (wts b) 0 1):=by
 have h2:=ah.1 hb;have:=alq ⟨(b - 1).toNat,by omega⟩ ⟨r.toNat,by omega⟩;rw[show(((b - 1).toNat+1:Nat):Int)=b by omega,show((r.toNat:Nat):Int)=r by omega]at this;exact this
def DK(b n:Int):Int:=if qg b n then(if decide (n < b) then 1 else aaJ (XK b (avq (au6 (rnd (rnd (31 * n+b))) 16) 70) (wts b) 0 1)) else 0
def aeH(s:(Int×auC) ⊕ (Int×auC)):aK (some s) (fun y=>some (y,())) (fun y=>some (y,()))=some ((aaJ s,()),()):=by
 cases s<;>rfl
def Pb(b n:Int):n7 (b,n,())=some ((DK b n,()),()):=by
 unfold n7 DK;rw[MK];simp only[auE];rcases tf (qg b n) with e | e
 ·have e2:=e;unfold qg at e2;rw[auF]at e2;have h1:=ah.1 e2.1;have h2:=ah.1 e2.2;simp only[e,auG,auD,auy];rcases tf (decide (n < b)) with e3 | e3
  ·simp only[e3,auy]
  ·have hr:=LW (rnd (31 * n+b));have hz:au6 (rnd (rnd (31 * n+b))) 16=rnd (rnd (31 * n+b)) / 16:=avx hr.1;simp only[e3,auD,show decide (b=0)=false from auu (by omega),auH,auy,ai4 b n e2.1];rw[aus (by rfl)];simp only[aK,wx,auE];rw[ai (n:=31 * n) (by omega) (by omega),ai (n:=31 * n+b) (by omega) (by omega),ai (n:=au6 _ 16) (by omega) (by omega)];rw[ai5 b _ e2.1];exact aeH _
 ·simp only[e,auH,auy,auD]
def Oh(b n:Int):nO (b,n,())=some ((DK b n,()),()):=by
 unfold nO DK;rw[zu];simp only[auE];rcases tf (qg b n) with e | e
 ·have e2:=e;unfold qg at e2;rw[auF]at e2;have h1:=ah.1 e2.1;have h2:=ah.1 e2.2;simp only[e,auG,auD,auy];rcases tf (decide (n < b)) with e3 | e3
  ·simp only[e3,auy]
  ·have hr:=LW (rnd (31 * n+b));have hz:au6 (rnd (rnd (31 * n+b))) 16=rnd (rnd (31 * n+b)) / 16:=avx hr.1;have hm:avq (au6 (rnd (rnd (31 * n+b))) 16) 70=(rnd (rnd (31 * n+b)) / 16) % 70:=by rw[hz];exact awj (by omega)
   simp only[e3,auD,aib b n e2.1];simp only[aK,wm,auE];rw[ai (n:=n * 31) (by omega) (by omega),ai (n:=n * 31+b) (by omega) (by omega),ayo n 31,ai (n:=au6 _ 16) (by omega) (by omega)];rw[abt e2.1 (b - 1).toNat _ 1 (by omega) (by omega) (by omega) (by omega),aus (by rfl)];rw[← ajH e2.1 (by omega) (by omega)];exact aeH _
 ·simp only[e,auH,auy,auD]
def MQ{l:List Int}(hl:l.length≤1048576):sP (l,())=some ((l,()),()):=HW hl
def xi(b:Nat)(f:Nat→Bool):Nat→Nat→Nat
 | 0,a=>a
 | k+1,a=>if f a then xi b f k ((a+1) % b) else a
def Rep(u:List Bool)(f:Nat→Bool):Prop:= ∀ i,u.getD i false=f i
def rdB(u:List Bool)(i:Nat): @rd Bool (dfl .bool) u (i:Int)=u.getD i false:=rfl
def LS{b:Nat}{f:Nat→Bool}: ∀ (k a:Nat),a < b→xi b f k a < b
 | 0,_,h=>h
 | k+1,a,h=>by
  unfold xi;split
  ·exact LS k _ (ayi _ (by omega))
  ·exact h
def TE{a b k:Nat}:((a+1) % b+k) % b=(a+(k+1)) % b:=by
 rw[Nat.mod_add_mod,avI,axY 1 k]
def Om{b:Nat}{f:Nat→Bool}: ∀ (k a m:Nat),a < b→f ((a+k) % b)=false→k≤m→xi b f m a=xi b f k a
 | 0,a,m,h,e,_=>by
  rw[awR,axt h]at e;cases m with
  | zero=>rfl
  | succ m=>
   simp only[xi,e,auD]
 | k+1,a,m,h,e,hm=>by
  cases m with
  | zero=>omega
  | succ m=>
   rw[xi,xi];rw[Om k ((a+1) % b) m (ayi _ (by omega)) (by rw[TE];exact e) (by omega)]
def alN{a b j:Nat}(ha:a < b)(hj:j < b): ∃ k,k≤b∧(a+k) % b=j:=by
 by_cases h:a≤j
 ·exact⟨j - a,by omega,by rw[show a+(j - a)=j by omega];exact axt hj⟩
 ·exact⟨j+b - a,by omega,by rw[show a+(j+b - a)=j+b by omega,Nat.add_mod_right];exact axt hj⟩
def cnt(f:Nat→Bool):Nat→Nat
 | 0=>0
 | k+1=>cnt f k+(if f k then 1 else 0)
def Wp{f:Nat→Bool}: ∀ (k:Nat),cnt f k < k→ ∃ j,j < k∧f j=false
 | 0,h=>by omega
 | k+1,h=>by
  rw[cnt]at h;rcases tf (f k) with e | e
  ·rw[e,aus rfl]at h;obtain⟨j,h1,h2⟩:=Wp (f:=f) k (by omega);exact⟨j,by omega,h2⟩
  ·exact⟨k,by omega,e⟩
def Lq(f:Nat→Bool)(a:Nat):Nat→Bool:=fun j=>if j=a then true else f j
def aaP{f:Nat→Bool}{a:Nat}: ∀ (k:Nat),(k≤a→cnt (Lq f a) k=cnt f k)∧cnt (Lq f a) k≤cnt f k+1
 | 0=>⟨fun _=>rfl,by rw[cnt,cnt];omega⟩
 | k+1=>by
  obtain⟨h1,h2⟩:=aaP (f:=f) (a:=a) k;rw[cnt,cnt];constructor
  ·intro h;rw[h1 (by omega),show Lq f a k=f k from aur (by omega)]
  ·by_cases h:k=a
   ·rw[h1 (by omega)];unfold Lq;rw[aus h];cases f k<;>simp
   ·unfold Lq;rw[aur h];unfold Lq at h2;omega
def Wo: ∀ (k:Nat),cnt (fun _=>false) k=0
 | 0=>rfl
 | k+1=>by rw[cnt,Wo k];rfl
def Rep.set{u:List Bool}{f:Nat→Bool}{a:Nat}(h:Rep u f)(ha:a < u.length):Rep (u.set a true) (Lq f a):=by
 intro i;unfold Lq;rw[auQ,ax6];by_cases e:i=a
 ·subst e;simp[ha]
 ·rw[aur (axT e),aur e,← h i,auQ]
def Rep.new(n:Nat):Rep (au0 n false) (fun _=>false):=by
 intro i;rw[auQ,aw6];split<;>rfl
def Q0(b:Nat):Nat→(Nat→Bool)→Int→Nat→Bool
 | 0,f,_=>f
 | n+1,f,x=>Q0 b n (Lq f (xi b f b (avq (au6 (rnd x) 16) (b:Int)).toNat)) (rnd x)
def aba{b:Nat}(hb:0 < b): ∀ (n:Nat) (f:Nat→Bool) (x:Int),(∀ i,b≤i→f i=false)→ ∀ i,b≤i→Q0 b n f x i=false
 | 0,_,_,h=>h
 | n+1,f,x,h=>by
  refine aba hb n _ _ ?_;intro i hi;unfold Lq;rw[aur,h i hi];have:xi b f b (avq (au6 (rnd x) 16) (b:Int)).toNat < b:=by
   refine LS _ _ ?_;have:=LW x;rw[avx this.1,awj (by omega)];have h1:=Int.emod_lt_of_pos (rnd x / 16) (show(0:Int) < b by omega);have h2:=Int.emod_nonneg (rnd x / 16) (show(b:Int)≠0 by omega);omega
  omega
def wU(f:Nat→Bool)(m:Nat):List Nat:=(au9 m).filter f
def Kg(f:Nat→Bool)(m:Nat):wU f (m+1)=wU f m++if f m then [m] else []:=by
 unfold wU;rw[awP,ayA];congr 1;simp only[awq,ayp]
def L6(f:Nat→Bool)(m:Nat):(wU f m).length≤m:=by
 unfold wU;exact avr (avY _ _) (by simp)
def ais{f:Nat→Bool}{m k:Nat}(h:k∈wU f m):k < m:=by
 unfold wU at h;exact avB.1 (awd.1 h).1
def YG{f:Nat→Bool}{b:Nat}(h: ∀ i,b≤i→f i=false): ∀ (m:Nat),b≤m→wU f m=wU f b
 | 0,hm=>by rw[show b=0 by omega]
 | m+1,hm=>by
  by_cases e:b=m+1
  ·rw[e]
  ·rw[Kg,h m (by omega),auD,avj,YG h m (by omega)]
abbrev bT(l:List Nat):List Int:=l.map fun i:Nat=>(i:Int)
def acE{b r:Int}(hb:0≤b): ∀ (ws:List Int) (acc d:Int),0≤d→d+ws.length≤b+1→0≤aaJ (XK b r ws acc d)∧aaJ (XK b r ws acc d)≤b
 | [],_,_,_,_=>by
  show 0≤b∧b≤b;omega
 | w::ws,acc,d,h0,h1=>by
  rw[auZ]at h1;unfold XK;split
  ·show 0≤d∧d≤b;omega
  ·exact acE hb ws _ _ (by omega) (by omega)
def acF{b n:Int}(h:qg b n=true):0≤DK b n∧DK b n≤b:=by
 unfold DK;rw[aus h];unfold qg at h;rw[auF]at h;have h1:=ah.1 h.1;split
 ·omega
 ·refine acE (by omega) _ _ _ (by omega) ?_;have h3:b=1∨b=2∨b=3∨b=4∨b=5∨b=6:=by omega
  rcases h3 with rfl | rfl | rfl | rfl | rfl | rfl<;>exact axr _
def aU(b n:Int):List Nat:=
 if qg b n then(if decide (n < b) then [n.toNat] else wU (Q0 b.toNat (DK b n).toNat (fun _=>false) (rnd (7 * n+1))) b.toNat) else []
def jT{b n:Int}{k:Nat}(h:k∈aU b n):(k:Int) < b:=by
 unfold aU at h;split at h
 ·rename_i h0;unfold qg at h0;rw[auF]at h0;have h1:=ah.1 h0.1;have h2:=ah.1 h0.2;split at h
  ·rename_i h3;have:=auv h3;have:=avh.1 h;omega
  ·have:=ais h;omega
 ·cases h
def De(b n:Int):(aU b n).length≤6:=by
 unfold aU;split
 ·rename_i h0;unfold qg at h0;rw[auF]at h0;have h1:=ah.1 h0.1;split
  ·simp
  ·exact avr (L6 _ _) (by omega)
 ·simp
section
variable {bn:Nat} (hb:0 < bn) (h6:bn≤6) {u:List Bool} {f:Nat→Bool} (hu:Rep u f) (hl:bn≤u.length)
include hb h6 hu hl
def Zb(x n:Int): ∀ (k a:Nat),a < bn→f ((a+k) % bn)=false→
  n6 ((bn:Int),u,x,n,(a:Int),())=some (.inr ((bn:Int),u,x,n,((xi bn f k a:Nat):Int),()))
 | 0,a,ha,e=>by
  rw[awR,axt ha]at e;refine ao ?_;unfold pd;simp only[rdB,hu a,e,ak (show a < u.length by omega),auy,auD];rfl
 | k+1,a,ha,e=>by
  unfold n6 at *;unfold xi;rcases tf (f a) with e1 | e1
  ·rw[e1,aus rfl];refine aj ?_ (Zb x n k ((a+1) % bn) (ayi _ hb) (by rw[TE];exact e));unfold pd;simp only[rdB,hu a,e1,ak (show a < u.length by omega),auy,show decide ((bn:Int)=0)=false from auu (by omega),auH];rw[ai (by omega) (by omega)];rfl
  ·rw[e1,auD];refine ao ?_;unfold pd;simp only[rdB,hu a,e1,ak (show a < u.length by omega),auy,auD]
def Yw(o:List Int)(x n:Int): ∀ (k a:Nat),a < bn→f ((a+k) % bn)=false→
  nN ((bn:Int),o,u,x,n,(a:Int),())=some (.inr ((bn:Int),o,u,x,n,((xi bn f k a:Nat):Int),()))
 | 0,a,ha,e=>by
  rw[awR,axt ha]at e;refine ao ?_;unfold o5;simp only[rdB,hu a,e,ak (show a < u.length by omega),auy,auD];rfl
 | k+1,a,ha,e=>by
  unfold nN at *;unfold xi;rcases tf (f a) with e1 | e1
  ·rw[e1,aus rfl];refine aj ?_ (Yw o x n k ((a+1) % bn) (ayi _ hb) (by rw[TE];exact e));unfold o5;simp only[rdB,hu a,e1,ak (show a < u.length by omega),auy,show decide ((bn:Int)=0)=false from auu (by omega),auH];rw[ai (by omega) (by omega)];rfl
  ·rw[e1,auD];refine ao ?_;unfold o5;simp only[rdB,hu a,e1,ak (show a < u.length by omega),auy,auD]
end
section
variable {bn:Nat} (hb:0 < bn) (h6:bn≤6)
include hb h6
def aeK(x:Int): ∃ a:Nat,avq (w64 (au6 (rnd x) 16)) (bn:Int)=(a:Int)∧(avq (au6 (rnd x) 16) (bn:Int)).toNat=a∧a < bn:=by
 have h:=LW x;have hd:au6 (rnd x) 16=rnd x / 16:=avx h.1;rw[hd,ai (by omega) (by omega),awj (by omega)];have h1:=Int.emod_lt_of_pos (rnd x / 16) (show(0:Int) < bn by omega);have h2:=Int.emod_nonneg (rnd x / 16) (show(bn:Int)≠0 by omega);exact⟨(rnd x / 16 % (bn:Int)).toNat,by omega,rfl,by omega⟩
def acf: ∀ (n:Nat) (u:List Bool) (f:Nat→Bool) (x:Int),Rep u f→bn≤u.length→cnt f bn+n≤bn→
  ∃ u',uB ((bn:Int),u,x,(n:Int),())=some (.inr (u',()))∧Rep u' (Q0 bn n f x)∧u'.length=u.length
 | 0,u,f,x,hu,_,_=>by
  refine⟨u,ao ?_,hu,rfl⟩;rfl
 | n+1,u,f,x,hu,hl,hc=>by
  obtain⟨a,ea,eb,ha⟩:=aeK hb h6 x;obtain⟨j,hj,ej⟩:=Wp (f:=f) bn (by omega);obtain⟨k,hk,ek⟩:=alN ha hj;have es:=Zb hb h6 hu hl (rnd x) ((n+1:Nat):Int) k a ha (by rw[ek];exact ej);have em:=Om (f:=f) k a bn ha (by rw[ek];exact ej) hk;have hs:xi bn f k a < bn:=LS k a ha;obtain⟨u',h1,h2,h3⟩:=acf n (u.set (xi bn f k a) true) (Lq f (xi bn f k a)) (rnd x) (hu.set (by omega)) (by rw[avZ];exact hl)
   (by have:=(aaP (f:=f) (a:=xi bn f k a) bn).2;omega)
  refine⟨u',aj ?_ h1, ?_,by rw[h3,avZ]⟩
  ·unfold A0;simp only[wx,auE,show decide ((0:Int) < ((n+1:Nat):Int))=true from aut (by omega),auy,show decide ((bn:Int)=0)=false from auu (by omega),auH,ea,es];simp only[aK,auE,ak (show xi bn f k a < u.length by omega),auy,auV];rw[ai (by omega) (by omega),show((n+1:Nat):Int) - 1=(n:Int) by omega]
  ·rw[Q0,eb,em];exact h2
def abr(o:List Int): ∀ (n:Nat) (u:List Bool) (f:Nat→Bool) (x:Int),Rep u f→bn≤u.length→cnt f bn+n≤bn→
  ∃ u',uo ((bn:Int),o,u,x,(n:Int),())=some (.inr ((bn:Int),o,u',()))∧Rep u' (Q0 bn n f x)∧u'.length=u.length
 | 0,u,f,x,hu,_,_=>by
  refine⟨u,ao ?_,hu,rfl⟩;rfl
 | n+1,u,f,x,hu,hl,hc=>by
  obtain⟨a,ea,eb,ha⟩:=aeK hb h6 x;obtain⟨j,hj,ej⟩:=Wp (f:=f) bn (by omega);obtain⟨k,hk,ek⟩:=alN ha hj;have es:=Yw hb h6 hu hl o (rnd x) ((n+1:Nat):Int) k a ha (by rw[ek];exact ej);have em:=Om (f:=f) k a bn ha (by rw[ek];exact ej) hk;have hs:xi bn f k a < bn:=LS k a ha;obtain⟨u',h1,h2,h3⟩:=abr o n (u.set (xi bn f k a) true) (Lq f (xi bn f k a)) (rnd x) (hu.set (by omega)) (by rw[avZ];exact hl)
   (by have:=(aaP (f:=f) (a:=xi bn f k a) bn).2;omega)
  refine⟨u',aj ?_ h1, ?_,by rw[h3,avZ]⟩
  ·unfold AD;simp only[wm,auE,show decide ((0:Int) < ((n+1:Nat):Int))=true from aut (by omega),auy,show decide ((bn:Int)=0)=false from auu (by omega),auH,ea,es];simp only[aK,auE,ak (show xi bn f k a < u.length by omega),auy,auV];rw[ai (by omega) (by omega),show((n+1:Nat):Int) - 1=(n:Int) by omega]
  ·rw[Q0,eb,em];exact h2
end
def agO{u:List Bool}{f:Nat→Bool}(hu:Rep u f)(hl:u.length=6):uA ([],u,0,())=some (.inr (bT (wU f 6),())):=by
 refine cy (fun i=>(bT (wU f i),u,(i:Int),())) 6 ?_ rfl;intro i hi;unfold AZ;simp only[rdB,hu i,ak (show i < u.length by omega),ak hi,ayC,auy,show decide ((i:Int) < 6)=true from aut (by omega)];rw[ai (n:=(i:Int)+1) (by omega) (by omega),Kg];have:=L6 f i;rcases tf (f i) with e | e
 ·simp only[e,auy];rw[aus (aH (by simp;omega))];simp[bT]
 ·simp only[e,auD,avj];rfl
def afY{bn:Nat}(h6:bn≤6){u:List Bool}{f:Nat→Bool}(hu:Rep u f)(hl:u.length=bn):um ((bn:Int),[],u,0,())=some (.inr (bT (wU f bn),())):=by
 refine cy (fun i=>((bn:Int),bT (wU f i),u,(i:Int),())) bn ?_ ?_
 ·intro i hi;unfold u7;simp only[rdB,hu i,ak (show i < u.length by omega),auy,show decide ((i:Int) < (bn:Int))=true from aut (by omega)];rw[ai (n:=(i:Int)+1) (by omega) (by omega),Kg];have:=L6 f i;rcases tf (f i) with e | e
  ·simp only[e,auy];rw[aus (aH (by simp;omega))];simp[bT]
  ·simp only[e,auD,avj];rfl
 ·unfold u7;simp only[show decide ((bn:Int) < (bn:Int))=false from auu (by omega),auD]
def Ds(b n:Int):sV (b,n,())=some ((bT (aU b n),()),()):=by
 unfold sV aU;rw[MK];simp only[auE];rcases tf (qg b n) with e | e
 ·have e2:=e;unfold qg at e2;rw[auF]at e2;have h1:=ah.1 e2.1;have h2:=ah.1 e2.2;simp only[e,auG,auD,auy];rcases tf (decide (n < b)) with e3 | e3
  ·simp only[e3,auy];rw[show bT [n.toNat]=[n] from by simp[bT];omega]
  ·have hd:=acF e;simp only[e3,auD,wx,Pb,auE];rw[ai (n:=7 * n) (by omega) (by omega),ai (n:=7 * n+1) (by omega) (by omega)];obtain⟨u,g1,g2,g3⟩:=acf (bn:=b.toNat) (by omega) (by omega) (DK b n).toNat (au0 6 false) (fun _=>false) (rnd (7 * n+1)) (Rep.new 6) (by simp;omega) (by rw[Wo];omega);rw[show((b.toNat:Nat):Int)=b by omega,show(((DK b n).toNat:Nat):Int)=DK b n by omega]at g1;rw[show(dfl .bool:Bool)=false from rfl,g1];simp only[aK,auE];rw[agO g2 (by rw[g3];rfl),YG (b:=b.toNat) (aba (by omega) _ _ _ fun _ _=>rfl) 6 (by omega)];simp only[auE];rw[MQ (by have:=L6 (Q0 b.toNat (DK b n).toNat (fun _=>false) (rnd (7 * n+1))) b.toNat;simp;omega)];rfl
 ·simp only[e,auH,auy,auD];rfl
def LL(b n:Int):rE (b,n,())=some ((bT (aU b n),()),()):=by
 unfold rE aU;rw[zu];simp only[auE];rcases tf (qg b n) with e | e
 ·have e2:=e;unfold qg at e2;rw[auF]at e2;have h1:=ah.1 e2.1;have h2:=ah.1 e2.2;simp only[e,auG,auD,auy];rcases tf (decide (n < b)) with e3 | e3
  ·simp only[e3,auy];rw[show bT [n.toNat]=[n] from by simp[bT];omega];rfl
  ·have hd:=acF e;simp only[e3,auD,wm,Oh,auE];rw[aus (by simp;omega)];rw[ai (n:=n * 7) (by omega) (by omega),ai (n:=n * 7+1) (by omega) (by omega),ayo n 7];obtain⟨u,g1,g2,g3⟩:=abr (bn:=b.toNat) (by omega) (by omega) [] (DK b n).toNat (au0 b.toNat false) (fun _=>false) (rnd (7 * n+1)) (Rep.new _) (by simp) (by rw[Wo];omega);rw[show((b.toNat:Nat):Int)=b by omega,show(((DK b n).toNat:Nat):Int)=DK b n by omega]at g1;rw[show(dfl .bool:Bool)=false from rfl,g1];simp only[aK,auE];have g4:=afY (bn:=b.toNat) (by omega) g2 (by rw[g3];simp);rw[show((b.toNat:Nat):Int)=b by omega]at g4;rw[g4];rfl
 ·simp only[e,auH,auy,auD];rfl
end Go.VS
namespace Go.VS
open Go
abbrev bI(l:List UInt8):List Int:=l.map fun b=>(b.toNat:Int)
def HZ(s:auB):aL s=bI (L s):=rfl
def Lu(l:List UInt8):eS (bI l)=B l:=by
 unfold eS bI B;rw[awK];congr 2;rw[av0 (g:=id) (by intro b _;simp),azu]
def aeX(a b:UInt8):vQ .u8 (a.toNat:Int) (b.toNat:Int)=((a ^^^ b).toNat:Int):=by
 have h1: ∀ c:UInt8,av5 (IntKind.bits .u8) (c.toNat:Int)=c.toBitVec:=by
  intro c;apply ay2;rw[axB];have:=c.toNat_lt;show((c.toNat:Int) % (2 ^ 8:Nat)).toNat=c.toBitVec.toNat;rw[ayD (by omega) (by omega)];rfl
 unfold vQ;rw[h1 a,h1 b];have:=(a ^^^ b).toNat_lt;show azo .u8 (((a ^^^ b).toNat:Nat):Int)=_;have h3: ∀ n:Int,azo .u8 n=n % 256:=Qs;rw[h3];omega
def anr{l:List UInt8}(h:l.length=4): ∃ a b c d,l=[a,b,c,d]:=by
 rcases l with _ | ⟨a,_ | ⟨b,_ | ⟨c,_ | ⟨d,_ | ⟨e,l⟩⟩⟩⟩⟩
 all_goals simp at h
 exact⟨a,b,c,d,rfl⟩
def sz4{s:auB}(h:s.size=4): ∃ a b c d,s=B [a,b,c,d]:=by
 obtain⟨a,b,c,d,e⟩:=anr (l:=L s) h;exact⟨a,b,c,d,by rw[← e,B_L]⟩
def MI{a b:auB}(ha:a.size=4)(hb:b.size=4):sg (a,b,())=some ((B (gF (L a) (L b)),()),()):=by
 obtain⟨a0,a1,a2,a3,rfl⟩:=sz4 ha;obtain⟨b0,b1,b2,b3,rfl⟩:=sz4 hb;unfold sg;rw[aus (by rfl)];have h:uz (B [b0,b1,b2,b3],aL (B [a0,a1,a2,a3]),((aL (B [a0,a1,a2,a3])).length:Int),0,())=
   some (.inr ([vQ .u8 (a0.toNat:Int) (b0.toNat:Int),vQ .u8 (a1.toNat:Int) (b1.toNat:Int),vQ .u8 (a2.toNat:Int) (b2.toNat:Int),vQ .u8 (a3.toNat:Int) (b3.toNat:Int)],())):=
  aj rfl (aj rfl (aj rfl (aj rfl (ao rfl))))
 rw[h];simp only[aeX,aK,auE];exact congrArg (fun z=>some ((z,()),())) (Lu [a0 ^^^ b0,a1 ^^^ b1,a2 ^^^ b2,a3 ^^^ b3])
def Ly{a b:auB}(ha:a.size=4)(hb:b.size=4):rp (a,b,())=some ((B (gF (L a) (L b)),()),()):=by
 obtain⟨a0,a1,a2,a3,rfl⟩:=sz4 ha;obtain⟨b0,b1,b2,b3,rfl⟩:=sz4 hb;unfold rp;have h:uk (B [a0,a1,a2,a3],B [b0,b1,b2,b3],[],0,())=
   some (.inr ([vQ .u8 (a0.toNat:Int) (b0.toNat:Int),vQ .u8 (a1.toNat:Int) (b1.toNat:Int),vQ .u8 (a2.toNat:Int) (b2.toNat:Int),vQ .u8 (a3.toNat:Int) (b3.toNat:Int)],())):=
  aj rfl (aj rfl (aj rfl (aj rfl (ao rfl))))
 rw[h];simp only[aeX,aK,auE];exact congrArg (fun z=>some ((z,()),())) (Lu [a0 ^^^ b0,a1 ^^^ b1,a2 ^^^ b2,a3 ^^^ b3])
def pv{n:Int}(h0:0≤n)(h1:n≤1000):di (n,())=some ((au6 (n+3) 4,()),()):=by
 unfold di;simp only;rw[ai (n:=n+4) (by omega) (by omega),ai (n:=n+4 - 1) (by omega) (by omega),show n+4 - 1=n+3 by omega];rw[avx (by omega),ai (by omega) (by omega)]
def W2:Ay ()=some ((B (nul 4),()),()):=rfl
def DR(t:List UInt8)(i:Nat):List UInt8:=(au9 4).map fun j=>t.getD (4 * i+j) 0
def Hn(t:List UInt8)(i:Nat):(DR t i).length=4:=by simp[DR]
def oV(t:auB):List auB:=if inB t.size 1 24 then(au9 ((t.size+3) / 4)).map fun i=>B (DR (L t) i) else []
def af9(t:auB)(o:List auB)(i:Nat)(hi:i≤100):
  rF (t,o,(i:Int),[],w64 ((i:Int) * 4),())=some (.inr (t,o,(i:Int),bI (DR (L t) i),())):=by
 rw[ai (by omega) (by omega),show(i:Int) * 4=((4 * i+0:Nat):Int) by omega];refine cy (fun j=>(t,o,(i:Int),bI ((au9 j).map fun m=>(L t).getD (4 * i+m) 0),((4 * i+j:Nat):Int),())) 4 ?_ ?_
 ·intro j hj;unfold rH;simp only;rw[ai (n:=(i:Int)+1) (by omega) (by omega),ai (n:=((i:Int)+1) * 4) (by omega) (by omega)];rw[aus (aut (by omega)),ai (n:=((4 * i+j:Nat):Int)+1) (by omega) (by omega)];rw[awP,avS];by_cases h:4 * i+j < t.size
  ·rw[aus (aut (by omega)),aus (ak h),aus (aH (by simp;omega)),y0];simp only[avS,avJ,awZ];rfl
  ·rw[aur (by simp;omega),aus (aH (by simp;omega))];have:(L t).getD (4 * i+j) 0=0:=by
    rw[auQ,awa (by rw[ba];omega)];rfl
   simp only[avS,avJ,awZ,this];rfl
 ·unfold rH;simp only;rw[ai (n:=(i:Int)+1) (by omega) (by omega),ai (n:=((i:Int)+1) * 4) (by omega) (by omega)];rw[aur (by simp;omega)];rfl
def W6(t:auB):u9 (t,())=some ((oV t,()),()):=by
 unfold u9 oV;rcases tf (inB t.size 1 24) with e | e
 ·have h1:=ah.1 e;rw[aur (by simp;omega),aus e];have h:rG (t,[],0,())=some (.inr ((au9 ((t.size+3) / 4)).map (fun i=>B (DR (L t) i)),())):=by
   refine cy (fun i=>(t,(au9 i).map (fun i=>B (DR (L t) i)),(i:Int),())) ((t.size+3) / 4) ?_ ?_
   ·intro i hi;unfold rI;simp only[pv (n:=(t.size:Int)) (by omega) (by omega),auE];rw[avx (by omega),aus (aut (by omega)),af9 t _ i (by omega)];simp only[aK,auE];rw[aus (aH (by simp;omega)),Lu,ai (by omega) (by omega),awP,avS];rfl
   ·unfold rI;simp only[pv (n:=(t.size:Int)) (by omega) (by omega),auE];rw[avx (by omega),aur (by simp)]
  rw[h];rfl
 ·rw[aus,aur (by rw[e];exact avb)];by_cases h:(1:Int)≤t.size∧(t.size:Int)≤24
  ·rw[ah.2 h]at e;cases e
  ·simp;omega
abbrev bsA(l:List auB)(k:Nat):auB:=l.getD k noB
def Ke(l:List auB)(k:Nat): @rd auB (dfl .str) l (k:Int)=bsA l k:=rfl
def C2(pre:List Nat)(k:Nat)(post:List Nat): @rd Int (dfl .int) (bT (pre++k::post)) (pre.length:Int)=(k:Int):=by
 rw[Kc,bT,avS,avJ,auQ,avl (by simp)];simp
def snoc{α:Type}(pre:List α)(k:α)(post:List α):pre++k::post=(pre++[k])++post:=by simp
def dx{n m:Nat}(h:n < m)(hm:m≤1048576):w64 ((n:Int)+1)=((n+1:Nat):Int):=aA h (by omega)
section
variable {bs:List auB} (hbs: ∀ k,k < bs.length→(bsA bs k).size=4)
include hbs
def af1(post:List Nat): ∀ (pre:List Nat) (y:auB),y.size=4→(pre++post).length≤1048576→(∀ k∈post,k < bs.length)→
  kW (bs,bT (pre++post),y,(pre.length:Int),())=some (.inr (B (post.foldl (fun x k=>gF x (L (bsA bs k))) (L y)),())):=by
 induction post with
 | nil=>
  intro pre y _ _ _;refine ao ?_;unfold pJ;simp only[avj,avK,show decide ((pre.length:Int) < (pre.length:Int))=false from auu (by omega),auD,axa,B_L]
 | cons k post ih=>
  intro pre y hy hl hk;have h1:=hk k auM;have hlen:pre.length < (bT (pre++k::post)).length:=by simp
  refine aj (x':=(bs,bT (pre++k::post),B (gF (L y) (L (bsA bs k))),((pre++[k]).length:Int),())) ?_ ?_
  ·unfold pJ;simp only[show decide ((pre.length:Int) < ((bT (pre++k::post)).length:Int))=true from aut (by omega),auy,ak hlen,C2,ak h1,Ke,Ly hy (hbs k h1),auE];rw[dx hlen (by simpa using hl),auP];rfl
  ·have:=ih (pre++[k]) (B (gF (L y) (L (bsA bs k)))) (by rw[aW,Bm (by rw[ba,ba,hy,hbs k h1]),ba,hy]) (by rw[← snoc];exact hl) fun x hx=>hk x (auJ k hx);rw[← snoc]at this;exact this
end
def NL{t:auB}{k:Nat}(h:k < (oV t).length):bsA (oV t) k=B (DR (L t) k):=by
 unfold oV at h ⊢;split
 ·rename_i e;rw[aus e]at h;simp at h;rw[bsA,auQ,avz,av3 h];rfl
 ·rename_i e;rw[aur e]at h;cases h
def vL(t:auB)(n:Int):auB:=
 if(aU (oV t).length n).isEmpty then noB else B (rX 4 (DR (L t)) (aU (oV t).length n))
def ab0{t:auB}{n:Int}{y:List UInt8}{ks:List Nat}(hy:y.length=4)(hk: ∀ k∈ks,k < (oV t).length):
  ks.foldl (fun x k=>gF x (L (bsA (oV t) k))) y=gF y (rX 4 (DR (L t)) ks):=by
 rw[← Vn hy];have: ∀ (ks:List Nat) (y:List UInt8),(∀ k∈ks,k < (oV t).length)→ks.foldl (fun x k=>gF x (L (bsA (oV t) k))) y=ks.foldl (fun x k=>gF x (DR (L t) k)) y:=by
  intro ks
  induction ks with
  | nil=>intro _ _;rfl
  | cons k ks ih=>
   intro y h;rw[avC,avC,NL (h k auM),ih _ fun x hx=>h x (auJ k hx)];rfl
 exact this ks y hk
def S8{t:auB}: ∀ k,k < (oV t).length→(bsA (oV t) k).size=4:=by
 intro k h;rw[NL h,aW,Hn]
def Fy(t:auB)(n:Int):mU (t,n,())=some ((vL t n,()),()):=by
 unfold mU vL;simp only[W6,LL,auE];have hk: ∀ k∈aU (oV t).length n,k < (oV t).length:=fun k h=>by
  have:=jT h;omega
 have hl:=De (oV t).length n;revert hk hl;generalize aU (oV t).length n=ks;intro hk hl;cases ks with
 | nil=>rw[aus (by simp),aus (by simp)]
 | cons k ks=>
  have h1:=hk k auM;have hc:(oV t).length≠0:=by omega
  rw[aur (by simp;exact⟨fun h=>hc (by rw[h];rfl),by omega⟩),aur (by simp),W2];simp only[auE];have:=af1 (bs:=oV t) S8 (k::ks) [] (B (nul 4)) (by rfl) (by simpa using (by simp at hl;omega:ks.length+1≤1048576)) hk;rw[ab0 (n:=n) (by rfl) hk]at this;rw[show kW (oV t,bT (k::ks),B (nul 4),0,())=_ from this];simp only[aK,auE];rw[L_B,Lk (BQ fun x _=>Hn _ x)]
end Go.VS
namespace Go.VS
open Go
def unk(kn:List auB)(k:Nat):Bool:=decide (bsA kn k=noB)
def eH(kn:List auB)(of:List Nat):List Nat:=of.filter (unk kn)
def jQ(kn:List auB)(of:List Nat)(y:List UInt8):List UInt8:=of.foldl (fun x k=>if unk kn k then x else gF x (L (bsA kn k))) y
def anX(b:Nat)(kn:List auB):Prop:=kn.length=b∧ ∀ k,k < b→bsA kn k=noB∨(bsA kn k).size=4
def Oq{b:Nat}{kn:List auB}(h:anX b kn): ∀ {of:List Nat} {y:List UInt8},y.length=4→(∀ k∈of,k < b)→(jQ kn of y).length=4
 | [],_,hy,_=>hy
 | k::of,y,hy,hk=>by
  unfold jQ;rw[avC];refine Oq (of:=of) h ?_ fun x hx=>hk x (auJ k hx);rcases tf (unk kn k) with e | e
  ·rw[e];exact hy
  ·rw[e,auD];rcases h.2 k (hk k auM) with h1 | h1
   ·unfold unk at e;exact absurd h1 (auw e)
   ·rw[Bm (by rw[hy,ba,h1]),hy]
def alW(d:Int)(l:List Nat):Int:=l.foldl (fun(_:Int) (k:Nat)=>(k:Int)) d
section
variable {b:Nat} {kn:List auB} (hkn:anX b kn)
include hkn
def agR(bi:Int)(list l2:List anA)(ag:Bool)(n i:Int)(post:List Nat): ∀ (pre:List Nat) (y:auB) (u:Int) (m:Nat),y.size=4→(pre++post).length≤1048576→m≤pre.length→(∀ k∈post,k < b)→
  ld (bi,list,kn,ag,y,u,(m:Int),l2,n,i,bT (pre++post),((bT (pre++post)).length:Int),(pre.length:Int),())=
   some (.inr (bi,list,kn,ag,B (jQ kn post (L y)),alW u (eH kn post),((m+(eH kn post).length:Nat):Int),l2,n,i,())):=by
 induction post with
 | nil=>
  intro pre y u m _ _ _ _;refine ao ?_;unfold lC;simp only[avj,avK,show decide ((pre.length:Int) < (pre.length:Int))=false from auu (by omega),auD];show _=some (Sum.inr (Sum.inr (bi,list,kn,ag,B (L y),u,(m:Int),l2,n,i,())));rw[B_L]
 | cons k post ih=>
  intro pre y u m hy hl hm hk;have h1:=hk k auM;have hlen:pre.length < (bT (pre++k::post)).length:=by simp
  have hb:k < kn.length:=by rw[hkn.1];exact h1
  have hl2:(pre++[k]++post).length≤1048576:=by rw[← snoc];exact hl
  rcases tf (unk kn k) with e | e
  ·refine aj (x':=(bi,list,kn,ag,y,(k:Int),((m+1:Nat):Int),l2,n,i,bT (pre++k::post),((bT (pre++k::post)).length:Int),((pre++[k]).length:Int),())) ?_ ?_
   ·unfold lC;simp only[show decide ((pre.length:Int) < ((bT (pre++k::post)).length:Int))=true from aut (by omega),auy,ak hlen,C2,ak hb,Ke];rw[aus (show decide (bsA kn k=noB)=true from e),dx hlen (by simpa using hl),auP,ai (n:=(m:Int)+1) (by omega) (by simp at hl;omega)];rfl
   ·have:=ih (pre++[k]) y (k:Int) (m+1) hy hl2 (by simp;omega) fun x hx=>hk x (auJ k hx);rw[← snoc]at this;rw[show eH kn (k::post)=k::eH kn post by unfold eH;rw[awq,e,aus rfl]];rw[show jQ kn (k::post) (L y)=jQ kn post (L y) by unfold jQ;rw[avC,e,aus rfl]];rw[auZ,show m+((eH kn post).length+1)=m+1+(eH kn post).length by omega];exact this
  ·have hs:(bsA kn k).size=4:=by
    rcases hkn.2 k h1 with h2 | h2
    ·exact absurd h2 (auw e)
    ·exact h2
   refine aj (x':=(bi,list,kn,ag,B (gF (L y) (L (bsA kn k))),u,(m:Int),l2,n,i,bT (pre++k::post),((bT (pre++k::post)).length:Int),((pre++[k]).length:Int),())) ?_ ?_
   ·unfold lC;simp only[show decide ((pre.length:Int) < ((bT (pre++k::post)).length:Int))=true from aut (by omega),auy,ak hlen,C2,ak hb,Ke];rw[aur (by intro h;unfold unk at e;rw[h]at e;cases e),MI hy hs,dx hlen (by simpa using hl),auP];rfl
   ·have:=ih (pre++[k]) (B (gF (L y) (L (bsA kn k)))) u m (by rw[aW,Bm (by rw[ba,ba,hy,hs]),ba,hy]) hl2 (by simp;omega) fun x hx=>hk x (auJ k hx);rw[← snoc]at this;rw[show eH kn (k::post)=eH kn post by unfold eH;rw[awq,e,auD]];rw[show jQ kn (k::post) (L y)=jQ kn post (gF (L y) (L (bsA kn k))) by unfold jQ;rw[avC,e,auD]];exact this
def af2(post:List Nat): ∀ (pre:List Nat) (y:auB) (o:List Nat),y.size=4→(pre++post).length≤1048576→o.length≤pre.length→(∀ k∈post,k < b)→
  mh (kn,bT o,y,bT (pre++post),(pre.length:Int),())=some (.inr (bT (o++eH kn post),B (jQ kn post (L y)),())):=by
 induction post with
 | nil=>
  intro pre y o _ _ _ _;refine ao ?_;unfold mO;simp only[avj,avK,show decide ((pre.length:Int) < (pre.length:Int))=false from auu (by omega),auD];show _=some (Sum.inr (Sum.inr (bT (o++[]),B (L y),())));rw[B_L,avj]
 | cons k post ih=>
  intro pre y o hy hl hm hk;have h1:=hk k auM;have hlen:pre.length < (bT (pre++k::post)).length:=by simp
  have hb:k < kn.length:=by rw[hkn.1];exact h1
  have hl2:(pre++[k]++post).length≤1048576:=by rw[← snoc];exact hl
  rcases tf (unk kn k) with e | e
  ·refine aj (x':=(kn,bT (o++[k]),y,bT (pre++k::post),((pre++[k]).length:Int),())) ?_ ?_
   ·unfold mO;simp only[show decide ((pre.length:Int) < ((bT (pre++k::post)).length:Int))=true from aut (by omega),auy,ak hlen,C2,ak hb,Ke];rw[aus (show decide (bsA kn k=noB)=true from e),aus (aH (by simp;simp at hl;omega)),dx hlen (by simpa using hl),auP];simp[bT]
   ·have:=ih (pre++[k]) y (o++[k]) hy hl2 (by simp;omega) fun x hx=>hk x (auJ k hx);rw[← snoc]at this;rw[show eH kn (k::post)=k::eH kn post by unfold eH;rw[awq,e,aus rfl]];rw[show jQ kn (k::post) (L y)=jQ kn post (L y) by unfold jQ;rw[avC,e,aus rfl]];rw[snoc o k (eH kn post)];exact this
  ·have hs:(bsA kn k).size=4:=by
    rcases hkn.2 k h1 with h2 | h2
    ·exact absurd h2 (auw e)
    ·exact h2
   refine aj (x':=(kn,bT o,B (gF (L y) (L (bsA kn k))),bT (pre++k::post),((pre++[k]).length:Int),())) ?_ ?_
   ·unfold mO;simp only[show decide ((pre.length:Int) < ((bT (pre++k::post)).length:Int))=true from aut (by omega),auy,ak hlen,C2,ak hb,Ke];rw[aur (by intro h;unfold unk at e;rw[h]at e;cases e),Ly hy hs,dx hlen (by simpa using hl),auP];rfl
   ·have:=ih (pre++[k]) (B (gF (L y) (L (bsA kn k)))) o (by rw[aW,Bm (by rw[ba,ba,hy,hs]),ba,hy]) hl2 (by simp;omega) fun x hx=>hk x (auJ k hx);rw[← snoc]at this;rw[show eH kn (k::post)=eH kn post by unfold eH;rw[awq,e,auD]];rw[show jQ kn (k::post) (L y)=jQ kn post (gF (L y) (L (bsA kn k))) by unfold jQ;rw[avC,e,auD]];exact this
end
def rW(b:Nat)(kn:List auB)(m:anA):Option (List auB):=
 if inB m.nu 0 999&&decide ((m.da.size:Int)=4) then
  (match eH kn (aU (b:Int) m.nu) with
   | [u]=>some (kn.set u (B (jQ kn (aU (b:Int) m.nu) (L m.da))))
   | _=>none)
 else none
def cW(b:Nat)(s:List auB×Bool)(m:anA):List auB×Bool:=match rW b s.1 m with | some kn=>(kn,true) | none=>s
def iW(b:Nat)(list:List anA)(kn:List auB):List auB×Bool:=list.foldl (cW b) (kn,false)
def lv(b:Nat)(list:List anA):Nat→List auB→List auB
 | 0,kn=>kn
 | n+1,kn=>if(iW b list kn).2 then lv b list n (iW b list kn).1 else(iW b list kn).1
def H4{kn:List auB}{u:Nat}(v:auB)(hu:u < kn.length)(k:Nat):bsA (kn.set u v) k=if k=u then v else bsA kn k:=by
 rw[bsA,auQ,ax6];by_cases h:u=k
 ·subst h;simp[hu]
 ·rw[aur h,aur (axT h),← auQ]
def ajQ{f g:Nat→Bool}(h: ∀ i,g i=true→f i=true): ∀ k,cnt g k≤cnt f k
 | 0=>auS _
 | k+1=>by
  have:=ajQ h k;rw[cnt,cnt];rcases tf (g k) with e | e
  ·rw[e,h k e];omega
  ·rw[e,auD];omega
def ajP{f g:Nat→Bool}(h: ∀ i,g i=true→f i=true){u:Nat}(hf:f u=true)(hg:g u=false): ∀ k,u < k→cnt g k < cnt f k
 | 0,h=>by omega
 | k+1,hk=>by
  rw[cnt,cnt];by_cases e:u=k
  ·subst e;rw[hf,hg,aus rfl,auD];have:=ajQ h u;omega
  ·have:=ajP h hf hg k (by omega);rcases tf (g k) with e | e
   ·rw[e,h k e];omega
   ·rw[e,auD];omega
def C6{b:Nat}{kn kn':List auB}{m:anA}(h:anX b kn)(e:rW b kn m=some kn'):
  anX b kn'∧(∀ k,unk kn' k=true→unk kn k=true)∧cnt (unk kn') b < cnt (unk kn) b:=by
 unfold rW at e;split at e
 ·rename_i hc;rw[auF]at hc;have hs:=auv hc.2;split at e
  ·rename_i u hu;injection e with e;subst e;have aos:u∈eH kn (aU (b:Int) m.nu):=by rw[hu];exact avX u
   obtain⟨h1,h2⟩:=awd.1 aos;have h3:=jT h1;have hub:u < b:=by omega
   have hul:u < kn.length:=by rw[h.1];exact hub
   have hlen:(B (jQ kn (aU (b:Int) m.nu) (L m.da))).size=4:=by
    rw[aW,Oq h (by rw[ba];omega) fun k hk=>by have:=jT hk;omega]
   have hno:B (jQ kn (aU (b:Int) m.nu) (L m.da))≠noB:=by
    intro hh;rw[hh]at hlen;cases hlen
   have are: ∀ k,unk (kn.set u (B (jQ kn (aU (b:Int) m.nu) (L m.da)))) k=true→unk kn k=true:=by
    intro k hk;unfold unk at hk;rw[H4 _ hul]at hk;by_cases ek:k=u
    ·rw[aus ek]at hk;exact absurd (auv hk) hno
    ·rw[aur ek]at hk;exact hk
   refine⟨⟨by rw[avZ,h.1], ?_⟩,are,ajP are h2 ?_ b hub⟩
   ·intro k hk;rw[H4 _ hul];by_cases ek:k=u
    ·rw[aus ek];exact ay3 hlen
    ·rw[aur ek];exact h.2 k hk
   ·unfold unk;rw[H4 _ hul,aus rfl];exact auu hno
  ·cases e
 ·cases e
def lP{b:Nat}: ∀ (list:List anA) (s:List auB×Bool),anX b s.1→
  anX b (list.foldl (cW b) s).1∧(∀ k,unk (list.foldl (cW b) s).1 k=true→unk s.1 k=true)∧cnt (unk (list.foldl (cW b) s).1) b≤cnt (unk s.1) b∧
  ((list.foldl (cW b) s).2=true→s.2=true∨cnt (unk (list.foldl (cW b) s).1) b < cnt (unk s.1) b)
 | [],s,h=>⟨h,fun _ hk=>hk,auS _,fun hs=>ay4 hs⟩
 | m::list,s,h=>by
  rw[avC];cases e:rW b s.1 m with
  | none=>
   rw[show cW b s m=s by unfold cW;rw[e]];exact lP list s h
  | some kn=>
   rw[show cW b s m=(kn,true) by unfold cW;rw[e]];obtain⟨a1,a2,a3⟩:=C6 h e;obtain⟨b1,b2,b3,_⟩:=lP list (kn,true) a1;have b4:cnt (unk (list.foldl (cW b) (kn,true)).1) b≤cnt (unk kn) b:=b3;exact⟨b1,fun k hk=>a2 k (b2 k hk),by omega,fun _=>ay3 (by omega)⟩
end Go.VS
namespace Go.VS
open Go
def LZ(pre:List anA)(m:anA)(post:List anA): @rd anA (dfl .mixed) (pre++m::post) (pre.length:Int)=m:=by
 rw[Kc,auQ,avl (auS _)];simp
def agH(u:Nat):alW (-1) [u]=(u:Int):=rfl
def JT{b:Nat}{kn kn':List auB}{m:anA}(ag:Bool)(h:rW b kn m=some kn'):cW b (kn,ag) m=(kn',true):=by unfold cW;rw[h]
def uf{b:Nat}{kn:List auB}{m:anA}(ag:Bool)(h:rW b kn m=none):cW b (kn,ag) m=(kn,ag):=by unfold cW;rw[h]
def ab4{b:Nat}{kn:List auB}{n:Int}{u:Nat}(h:eH kn (aU (b:Int) n)=[u]):u < b:=by
 have:u∈eH kn (aU (b:Int) n):=by rw[h];exact avX u
 have:=jT (awd.1 this).1;omega
def adW{b:Nat}(h6:b≤6)(list:List anA)(post:List anA): ∀ (pre:List anA) (kn:List auB) (ag:Bool),anX b kn→(pre++post).length≤1048576→
  gT ((b:Int),list,kn,ag,pre++post,((pre++post).length:Int),(pre.length:Int),())=
   some (.inr ((b:Int),list,(post.foldl (cW b) (kn,ag)).1,(post.foldl (cW b) (kn,ag)).2,())):=by
 induction post with
 | nil=>
  intro pre kn ag _ _;refine ao ?_;unfold eJ;simp only[avj,show decide ((pre.length:Int) < (pre.length:Int))=false from auu (by omega),auD];rfl
 | cons m post ih=>
  intro pre kn ag hk hl;have hlen:pre.length < (pre++m::post).length:=by simp
  have hw:=dx hlen hl;have nxt: ∀ (kn':List auB) (ag':Bool),anX b kn'→cW b (kn,ag) m=(kn',ag')→
    eJ ((b:Int),list,kn,ag,pre++m::post,((pre++m::post).length:Int),(pre.length:Int),())=some (.inl ((b:Int),list,kn',ag',pre++m::post,((pre++m::post).length:Int),((pre.length+1:Nat):Int),()))→
    gT ((b:Int),list,kn,ag,pre++m::post,((pre++m::post).length:Int),(pre.length:Int),())=
     some (.inr ((b:Int),list,((m::post).foldl (cW b) (kn,ag)).1,((m::post).foldl (cW b) (kn,ag)).2,())):=by
   intro kn' ag' h1 h2 h3;refine aj h3 ?_;have:=ih (pre++[m]) kn' ag' h1 (by rw[← snoc];exact hl);rw[← snoc,@auP _ pre [m]]at this;rw[avC,h2];exact this
  rcases tf (inB m.nu 0 999) with e1 | e1
  ·by_cases e2:(m.da.size:Int)=4
   ·have hh:rW b kn m=(match eH kn (aU (b:Int) m.nu) with | [u]=>some (kn.set u (B (jQ kn (aU (b:Int) m.nu) (L m.da)))) | _=>none):=by
     unfold rW;rw[aus (by rw[e1,aut e2]<;>rfl)]<;>rfl
    have hlo:(aU (b:Int) m.nu).length≤1048576:=avr (De _ _) (by omega);have hi:=agR hk (b:Int) list (pre++m::post) ag ((pre++m::post).length:Int) (pre.length:Int) (aU (b:Int) m.nu) [] m.da (-1) 0 (by omega) hlo (auS _) fun k h=>by have:=jT h;omega
    have hi2:ld ((b:Int),list,kn,ag,m.da,-1,0,pre++m::post,((pre++m::post).length:Int),(pre.length:Int),bT (aU (b:Int) m.nu),((bT (aU (b:Int) m.nu)).length:Int),0,())=_:=hi;by_cases e3:(eH kn (aU (b:Int) m.nu)).length=1
    ·obtain⟨u,hu⟩:=ayT.1 e3;rw[hu]at hh;have hub:=ab4 hu;refine nxt _ true (C6 hk hh).1 (JT ag hh) ?_;unfold eJ;simp only[show decide ((pre.length:Int) < ((pre++m::post).length:Int))=true from aut (by omega),auy,ak hlen,LZ,cm,auE,e1,e2,auG,auz,avW,auD,Ds,hi2,hu];simp only[aK,auE,agH,ak (show u < kn.length by rw[hk.1];exact hub),auy,auV,hw];rfl
    ·have hn:rW b kn m=none:=by
      rw[hh];split
      ·rename_i u hu;rw[hu]at e3;exact absurd rfl e3
      ·rfl
     refine nxt kn ag hk (uf ag hn) ?_;unfold eJ;simp only[show decide ((pre.length:Int) < ((pre++m::post).length:Int))=true from aut (by omega),auy,ak hlen,LZ,cm,auE,e1,e2,auG,auz,avW,auD,Ds,hi2];simp only[aK,auE,avV,show decide (((eH kn (aU (b:Int) m.nu)).length:Int)=1)=false from auu (by omega),auD,hw]
   ·have hn:rW b kn m=none:=by
     unfold rW;rw[aur (by rw[auu e2,au7];exact avb)]
    refine nxt kn ag hk (uf ag hn) ?_;unfold eJ;simp only[show decide ((pre.length:Int) < ((pre++m::post).length:Int))=true from aut (by omega),auy,ak hlen,LZ,cm,auE,auu e2,auH,avG,hw]
  ·have hn:rW b kn m=none:=by
    unfold rW;rw[aur (by rw[e1,auL];exact avb)]
   refine nxt kn ag hk (uf ag hn) ?_;unfold eJ;simp only[show decide ((pre.length:Int) < ((pre++m::post).length:Int))=true from aut (by omega),auy,ak hlen,LZ,cm,auE,e1,auH,avk,hw]
def aal{b:Nat}(h0:0 < b)(h6:b≤6)(n:Int):qg (b:Int) n=inB n 0 999:=by
 unfold qg;rw[ah.2 (by omega),auN]
def W3{b:Nat}{kn:List auB}(hk:anX b kn)(n:Int){d:auB}(hd:d.size=4):
  uT ((b:Int),(n,d,()),kn,())=some ((bT (eH kn (aU (b:Int) n)),B (jQ kn (aU (b:Int) n) (L d)),()),()):=by
 unfold uT;simp only[LL,auE];have hlo:(aU (b:Int) n).length≤1048576:=avr (De _ _) (by omega);have hi:=af2 hk (aU (b:Int) n) [] d [] hd hlo (auS _) fun k h=>by have:=jT h;omega
 have hi2:mh (kn,[],d,bT (aU (b:Int) n),0,())=_:=hi;rw[hi2];rfl
def xO(b n:Int)(d:auB):jJ (b,(n,d,()),())=some ((qg b n&&decide ((d.size:Int)=4),()),()):=by
 unfold jJ;simp only[zu,auE]
def adn{b:Nat}(h0:0 < b)(h6:b≤6)(post:List anA): ∀ (pre:List anA) (kn:List auB) (ag:Bool),anX b kn→(pre++post).length≤1048576→
  gL ((b:Int),pre++post,kn,ag,(pre.length:Int),())=
   some (.inr ((b:Int),pre++post,(post.foldl (cW b) (kn,ag)).1,(post.foldl (cW b) (kn,ag)).2,())):=by
 induction post with
 | nil=>
  intro pre kn ag _ _;refine ao ?_;unfold fR;simp only[avj,show decide ((pre.length:Int) < (pre.length:Int))=false from auu (by omega),auD];rfl
 | cons m post ih=>
  intro pre kn ag hk hl;have hlen:pre.length < (pre++m::post).length:=by simp
  have hw:=dx hlen hl;have nxt: ∀ (kn':List auB) (ag':Bool),anX b kn'→cW b (kn,ag) m=(kn',ag')→
    fR ((b:Int),pre++m::post,kn,ag,(pre.length:Int),())=some (.inl ((b:Int),pre++m::post,kn',ag',((pre.length+1:Nat):Int),()))→
    gL ((b:Int),pre++m::post,kn,ag,(pre.length:Int),())=
     some (.inr ((b:Int),pre++m::post,((m::post).foldl (cW b) (kn,ag)).1,((m::post).foldl (cW b) (kn,ag)).2,())):=by
   intro kn' ag' h1 h2 h3;refine aj h3 ?_;have:=ih (pre++[m]) kn' ag' h1 (by rw[← snoc];exact hl);rw[← snoc,@auP _ pre [m]]at this;rw[avC,h2];exact this
  rcases tf (inB m.nu 0 999&&decide ((m.da.size:Int)=4)) with e | e
  ·have e':=e;rw[auF]at e';have e2:=auv e'.2;have hh:rW b kn m=(match eH kn (aU (b:Int) m.nu) with | [u]=>some (kn.set u (B (jQ kn (aU (b:Int) m.nu) (L m.da)))) | _=>none):=by
    unfold rW;rw[aus e]<;>rfl
   have hL:=W3 hk m.nu (d:=m.da) (by omega);by_cases e3:(eH kn (aU (b:Int) m.nu)).length=1
   ·obtain⟨u,hu⟩:=ayT.1 e3;rw[hu]at hh;have hub:=ab4 hu;refine nxt _ true (C6 hk hh).1 (JT ag hh) ?_;unfold fR;simp only[show decide ((pre.length:Int) < ((pre++m::post).length:Int))=true from aut (by omega),auy,ak hlen,LZ,xO,aal h0 h6,auE,e,auG,auD,hL,hu];rw[aus (by rfl),aus (by rfl),show @rd Int (dfl .int) (bT [u]) 0=(u:Int) from rfl,aus (ak (show u < kn.length by rw[hk.1];exact hub)),hw];rfl
   ·have hn:rW b kn m=none:=by
     rw[hh];split
     ·rename_i u hu;rw[hu]at e3;exact absurd rfl e3
     ·rfl
    refine nxt kn ag hk (uf ag hn) ?_;unfold fR;simp only[show decide ((pre.length:Int) < ((pre++m::post).length:Int))=true from aut (by omega),auy,ak hlen,LZ,xO,aal h0 h6,auE,e,auG,auD,hL,avK,
     show decide (((eH kn (aU (b:Int) m.nu)).length:Int)=1)=false from auu (by omega),hw]
  ·have hn:rW b kn m=none:=by
    unfold rW;rw[aur (by rw[e];exact avb)]
   refine nxt kn ag hk (uf ag hn) ?_;unfold fR;simp only[show decide ((pre.length:Int) < ((pre++m::post).length:Int))=true from aut (by omega),auy,ak hlen,LZ,xO,aal h0 h6,auE,e,auH,hw]
def Zd{b:Nat}(h6:b≤6)(list:List anA)(hl:list.length≤1048576): ∀ (n:Nat) (kn:List auB),anX b kn→cnt (unk kn) b < n→
  qz ((b:Int),list,kn,true,())=some (.inr (lv b list n kn,()))
 | 0,_,_,h=>by omega
 | n+1,kn,hk,h=>by
  have hr:=adW h6 list list [] kn false hk hl;have hr2:gT ((b:Int),list,kn,false,list,(list.length:Int),0,())=some (.inr ((b:Int),list,(iW b list kn).1,(iW b list kn).2,())):=hr;obtain⟨g1,g2,g3,g4⟩:=lP list (kn,false) hk;refine aj (x':=((b:Int),list,(iW b list kn).1,(iW b list kn).2,())) ?_ ?_
  ·unfold wy;simp only[auy,hr2];rfl
  ·rw[lv];rcases tf (iW b list kn).2 with e | e
   ·rw[e,aus rfl];rcases g4 e with g | g
    ·cases g
    ·exact Zd h6 list hl n _ g1 (av8 g (Nat.le_of_lt_succ h))
   ·rw[e,auD];exact ao rfl
def Yx{b:Nat}(h0:0 < b)(h6:b≤6)(list:List anA)(hl:list.length≤1048576): ∀ (n:Nat) (kn:List auB),anX b kn→cnt (unk kn) b < n→
  qb ((b:Int),list,kn,true,())=some (.inr (lv b list n kn,()))
 | 0,_,_,h=>by omega
 | n+1,kn,hk,h=>by
  have hr:=adn h0 h6 list [] kn false hk hl;have hr2:gL ((b:Int),list,kn,false,0,())=some (.inr ((b:Int),list,(iW b list kn).1,(iW b list kn).2,())):=hr;obtain⟨g1,g2,g3,g4⟩:=lP list (kn,false) hk;refine aj (x':=((b:Int),list,(iW b list kn).1,(iW b list kn).2,())) ?_ ?_
  ·unfold wq;simp only[auy,hr2];rfl
  ·rw[lv];rcases tf (iW b list kn).2 with e | e
   ·rw[e,aus rfl];rcases g4 e with g | g
    ·cases g
    ·exact Yx h0 h6 list hl n _ g1 (av8 g (Nat.le_of_lt_succ h))
   ·rw[e,auD];exact ao rfl
def aaQ(f:Nat→Bool): ∀ k,cnt f k≤k
 | 0=>auS _
 | k+1=>by
  have:=aaQ f k;rw[cnt];split<;>omega
def anX.new(b:Nat):anX b (au0 b noB):=by
 refine⟨by simp,fun k hk=>ay4 ?_⟩;rw[bsA,auQ,aw6,aus hk];rfl
def x7(b:Int)(list:List anA):List auB:=if inB b 1 6 then lv b.toNat list 7 (au0 b.toNat noB) else []
def Vb(b:Int)(list:List anA)(hl:list.length≤1048576):sU (b,list,())=some ((x7 b list,()),()):=by
 unfold sU x7;simp only[cm,auE];rcases tf (inB b 1 6) with e | e
 ·have h1:=ah.1 e;simp only[e,auG,auD,auy];rw[aus (by simp;omega)];have:=Zd (b:=b.toNat) (by omega) list hl 7 _ (anX.new _) (by have:=aaQ (unk (au0 b.toNat noB)) b.toNat;omega);rw[show((b.toNat:Nat):Int)=b by omega]at this;rw[show(dfl .str:auB)=noB from rfl,this];rfl
 ·simp only[e,auH,auy,auD]
def TA(b:Int)(list:List anA)(hl:list.length≤1048576):rD (b,list,())=some ((x7 b list,()),()):=by
 unfold rD x7;simp only[ez,auE];rcases tf (inB b 1 6) with e | e
 ·have h1:=ah.1 e;simp only[e,auG,auD,auy];rw[aus (by simp;omega)];have:=Yx (b:=b.toNat) (by omega) (by omega) list hl 7 _ (anX.new _) (by have:=aaQ (unk (au0 b.toNat noB)) b.toNat;omega);rw[show((b.toNat:Nat):Int)=b by omega]at this;rw[show(dfl .str:auB)=noB from rfl,this];rfl
 ·simp only[e,auH,auy,auD]
def zh:List auB→auB→Option auB
 | [],a=>some a
 | x::r,a=>if x=noB then none else zh r (a++x)
def HY: ∀ {l:List auB} {a c:auB},(∀ x∈l,x=noB∨x.size=4)→zh l a=some c→c.size=a.size+4 * l.length
 | [],a,c,_,h=>by
  injection h with h;rw[h];rfl
 | x::r,a,c,hx,h=>by
  unfold zh at h;split at h
  ·cases h
  ·rename_i hne;rw[HY (fun y hy=>hx y (auJ x hy)) h,aB,auZ];rcases hx x auM with h1 | h1
   ·exact absurd h1 hne
   ·omega
def Qy(pre:List auB)(x:auB)(post:List auB): @rd auB (dfl .str) (pre++x::post) (pre.length:Int)=x:=by
 rw[Kc,auQ,avl (auS _)];simp
abbrev aly(s:Int)(o:Option auB):(auB×Bool×auC) ⊕ (Int×auB×auC):=match o with | none=> .inl (noB,false,()) | some c=> .inr (s,c,())
def ai6(s:Int)(post:List auB): ∀ (pre:List auB) (a:auB),(pre++post).length≤1048576→(∀ x∈post,x.size≤4)→a.size≤4 * pre.length→
  lc (s,a,pre++post,((pre++post).length:Int),(pre.length:Int),())=some (aly s (zh post a)):=by
 induction post with
 | nil=>
  intro pre a _ _ _;refine ao ?_;unfold lB;simp only[avj,show decide ((pre.length:Int) < (pre.length:Int))=false from auu (by omega),auD];rfl
 | cons x post ih=>
  intro pre a hl hx ha;have hlen:pre.length < (pre++x::post).length:=by simp
  have hw:=dx hlen hl;have hx4:=hx x auM;by_cases e:x=noB
  ·refine ao ?_;unfold lB zh;simp only[show decide ((pre.length:Int) < ((pre++x::post).length:Int))=true from aut (by omega),auy,ak hlen,Qy];rw[aus (aut e),aus e]
  ·refine aj (x':=(s,a++x,pre++x::post,((pre++x::post).length:Int),((pre++[x]).length:Int),())) ?_ ?_
   ·unfold lB;simp only[show decide ((pre.length:Int) < ((pre++x::post).length:Int))=true from aut (by omega),auy,ak hlen,Qy];rw[aur (by rw[auu e];exact avb),aus (aut (by simp at hl;omega)),hw,@auP _ pre [x]];rfl
   ·have:=ih (pre++[x]) (a++x) (by rw[← snoc];exact hl) (fun y hy=>hx y (auJ x hy)) (by rw[aB,auP,av2];omega);rw[← snoc]at this;rw[show zh (x::post) a=zh post (a++x) from aur e];exact this
def aic(s:Int)(post:List auB): ∀ (pre:List auB) (a:auB),(pre++post).length≤1048576→(∀ x∈post,x.size≤4)→a.size≤4 * pre.length→
  kV (s,pre++post,a,(pre.length:Int),())=some (aly s (zh post a)):=by
 induction post with
 | nil=>
  intro pre a _ _ _;refine ao ?_;unfold lr;simp only[avj,show decide ((pre.length:Int) < (pre.length:Int))=false from auu (by omega),auD];rfl
 | cons x post ih=>
  intro pre a hl hx ha;have hlen:pre.length < (pre++x::post).length:=by simp
  have hw:=dx hlen hl;have hx4:=hx x auM;by_cases e:x=noB
  ·refine ao ?_;unfold lr zh;simp only[show decide ((pre.length:Int) < ((pre++x::post).length:Int))=true from aut (by omega),auy,ak hlen,Qy];rw[aus (aut e),aus e]
  ·refine aj (x':=(s,pre++x::post,a++x,((pre++[x]).length:Int),())) ?_ ?_
   ·unfold lr;simp only[show decide ((pre.length:Int) < ((pre++x::post).length:Int))=true from aut (by omega),auy,ak hlen,Qy];rw[aur (by rw[auu e];exact avb),aus (aut (by simp at hl;omega)),hw,@auP _ pre [x]];rfl
   ·have:=ih (pre++[x]) (a++x) (by rw[← snoc];exact hl) (fun y hy=>hx y (auJ x hy)) (by rw[aB,auP,av2];omega);rw[← snoc]at this;rw[show zh (x::post) a=zh post (a++x) from aur e];exact this
def DT(c:auB)(s:Nat):Bool:=dp (c.size - s) fun i=>decide (bt c ((s+i:Nat):Int)=0)
def agN{c:auB}{s:Nat}(h:s≤c.size)(hc:c.size≤1048576):qy ((s:Int),c,(s:Int),())=some (if DT c s then .inr ((s:Int),c,()) else .inl (noB,false,())):=by
 refine dI (fun i=>((s:Int),c,((s+i:Nat):Int),())) (c.size - s) _ _ _ ?_ ?_
 ·intro i hi;unfold pR;simp only[show decide (((s+i:Nat):Int) < (c.size:Int))=true from aut (by omega),auy,ak (show s+i < c.size by omega)];rw[ai (by omega) (by omega)];rcases tf (decide (bt c ((s+i:Nat):Int)=0)) with e | e
  ·simp only[e,auG,auD,auy];rfl
  ·simp only[e,auH,auD,auy]
 ·unfold pR;simp only[show decide (((s+(c.size - s):Nat):Int) < (c.size:Int))=false from auu (by omega),auD]
def afX{c:auB}{s:Nat}(h:s≤c.size)(hc:c.size≤1048576):qa ((s:Int),c,(s:Int),())=some (if DT c s then .inr ((s:Int),c,()) else .inl (noB,false,())):=by
 refine dI (fun i=>((s:Int),c,((s+i:Nat):Int),())) (c.size - s) _ _ _ ?_ ?_
 ·intro i hi;unfold pI;simp only[show decide (((s+i:Nat):Int) < (c.size:Int))=true from aut (by omega),auy,ak (show s+i < c.size by omega)];rw[ai (by omega) (by omega)];rcases tf (decide (bt c ((s+i:Nat):Int)=0)) with e | e
  ·simp only[e,auG,auD,auy];rfl
  ·simp only[e,auH,auD,auy]
 ·unfold pI;simp only[show decide (((s+(c.size - s):Nat):Int) < (c.size:Int))=false from auu (by omega),auD]
def FQ{b:Nat}(list:List anA): ∀ (n:Nat) (kn:List auB),anX b kn→anX b (lv b list n kn)
 | 0,_,h=>h
 | n+1,kn,h=>by
  have:=(lP list (kn,false) h).1;unfold lv;split
  ·exact FQ list n _ this
  ·exact this
def anX.all{b:Nat}{kn:List auB}(h:anX b kn): ∀ x∈kn,x=noB∨x.size=4:=by
 intro x hx;obtain⟨k,hk,rfl⟩:=axq.1 hx;have:=h.2 k (by rw[← h.1];exact hk);rw[bsA,auQ,auO hk]at this;exact this
def TQ{b:Int}(hb:inB b 1 6=true)(list:List anA):anX b.toNat (x7 b list):=by
 unfold x7;rw[aus hb];exact FQ list 7 _ (anX.new _)
def anX.le{b:Nat}{kn:List auB}(h:anX b kn): ∀ x∈kn,x.size≤4:=by
 intro x hx;rcases h.all x hx with h1 | h1
 ·rw[h1];exact avM _
 ·omega
def dy(s:Int)(list:List anA):auB×Bool:=
 if inB s 1 24 then(match zh (x7 (au6 (s+3) 4) list) noB with
  | none=>(noB,false)
  | some c=>if DT c s.toNat then(c.extract 0 s.toNat,true) else(noB,false)) else(noB,false)
def QX(s:Int)(hs:0≤s)(c:auB)(hc:s≤c.size)(b:Bool):
  aK (some (if b then(.inr (s,c,()):(auB×Bool×auC) ⊕ (Int×auB×auC)) else .inl (noB,false,()))) (fun y=>some (y,()))
   (fun y=>if(decide (0≤y.1)&&decide (y.1≤(y.2.1.size:Int))) then some ((y.2.1.extract 0 (auK y.1),true,()),()) else none)=
   some (((if b then(c.extract 0 s.toNat,true) else(noB,false)).1,(if b then(c.extract 0 s.toNat,true) else(noB,false)).2,()),()):=by
 cases b
 ·rfl
 ·show(if(decide (0≤s)&&decide (s≤(c.size:Int))) then _ else _)=_;rw[aus (by simp;omega)];rfl
def Va(s:Int)(list:List anA)(hl:list.length≤1048576):sS (s,list,())=some (((dy s list).1,(dy s list).2,()),()):=by
 unfold sS dy;simp only[cm,auE];rcases tf (inB s 1 24) with e | e
 ·have h1:=ah.1 e;have hd:au6 (s+3) 4=(s+3) / 4:=avx (by omega);simp only[e,auG,auD,auy];rw[ai (n:=s+4) (by omega) (by omega),ai (n:=s+4 - 1) (by omega) (by omega),show s+4 - 1=s+3 by omega,ai (by omega) (by omega),Vb _ _ hl];simp only[auE];have hb:inB (au6 (s+3) 4) 1 6=true:=ah.2 (by omega);have hk:=TQ hb list;have asw:=ai6 s (x7 (au6 (s+3) 4) list) [] noB (by rw[avR,hk.1];omega) (anX.le hk) (auS _);have aqG:lc (s,noB,x7 (au6 (s+3) 4) list,((x7 (au6 (s+3) 4) list).length:Int),0,())=_:=asw;rw[aqG];cases hc:zh (x7 (au6 (s+3) 4) list) noB with
  | none=>rfl
  | some c=>
   have hz:=HY hk.all hc;have hz0:noB.size=0:=rfl;rw[hk.1,hz0]at hz;have hzero:=agN (c:=c) (s:=s.toNat) (by omega) (by omega);rw[show((s.toNat:Nat):Int)=s by omega]at hzero;simp only[aK,auE,aly];rw[hzero];exact QX s (by omega) c (by omega) _
 ·simp only[e,auH,auy,auD]
def Tz(s:Int)(list:List anA)(hl:list.length≤1048576):rC (s,list,())=some (((dy s list).1,(dy s list).2,()),()):=by
 unfold rC dy;simp only[ez,auE];rcases tf (inB s 1 24) with e | e
 ·have h1:=ah.1 e;have hd:au6 (s+3) 4=(s+3) / 4:=avx (by omega);simp only[e,auG,auD,auy,pv (n:=s) (by omega) (by omega),auE];rw[TA _ _ hl];simp only[auE];have hb:inB (au6 (s+3) 4) 1 6=true:=ah.2 (by omega);have hk:=TQ hb list;have asw:=aic s (x7 (au6 (s+3) 4) list) [] noB (by rw[avR,hk.1];omega) (anX.le hk) (auS _);have aqG:kV (s,x7 (au6 (s+3) 4) list,noB,0,())=_:=asw;rw[aqG];cases hc:zh (x7 (au6 (s+3) 4) list) noB with
  | none=>rfl
  | some c=>
   have hz:=HY hk.all hc;have hz0:noB.size=0:=rfl;rw[hk.1,hz0]at hz;have hzero:=afX (c:=c) (s:=s.toNat) (by omega) (by omega);rw[show((s.toNat:Nat):Int)=s by omega]at hzero;simp only[aK,auE,aly];rw[hzero];exact QX s (by omega) c (by omega) _
 ·simp only[e,auH,auy,auD]
abbrev tF(f:Frame):Int×Int×Int×Int×Int×Int×Int×Int×Int×auB×auC:=(f.ki,f.src,f.dst,f.fr,f.nu,f.to,f.un,f.sz,f.mix,f.da,())
def yy(f:Frame):Bool:=
 if decide (f.ki=1) then inB f.sz 1 24&&(inB f.mix 0 999&&(decide ((f.da.size:Int)=4)&&decide (f.dst=cO f.src f.to)))
 else(decide (f.ki=2)||decide (f.ki=3))&&(decide (f.sz=0)&&(decide (f.mix=0)&&(decide (f.da=noB)&&decide (f.src=cO f.dst f.to))))
def km(f:Frame):Bool:=isN f.src&&(isN f.dst&&(isN f.fr&&(isN f.to&&(inB f.nu 1 99&&(inB f.un 1 999&&yy f)))))
def Gs(f:Frame):kh (tF f,())=some ((km f,()),()):=by
 obtain⟨ki,src,dst,fr,nu,t',un,sz,mix,da⟩:=f;unfold kh km;simp only[dX,cm,auE];rcases tf (isN src) with e | e<;>simp only[e,auG,auH,auy,auD,auN,auL];rcases tf (isN dst) with e | e<;>simp only[e,auG,auH,auy,auD,auN,auL];rcases tf (isN fr) with e | e<;>simp only[e,auG,auH,auy,auD,auN,auL];rcases tf (isN t') with e | e<;>simp only[e,auG,auH,auy,auD,auN,auL];rcases tf (inB nu 1 99) with e | e<;>simp only[e,auG,auH,auy,auD,auN,auL];rcases tf (inB un 1 999) with e | e<;>simp only[e,auG,auH,auy,auD,auN,auL];unfold yy;simp only[pQ,au4,avd,bF,auy];rcases tfp (ki=1) with e | e<;>simp only[e,auz,auA,auy,auD]
 ·rcases tf (inB sz 1 24) with e | e<;>simp only[e,auy,auD,auN,auL];rcases tf (inB mix 0 999) with e | e<;>simp only[e,auy,auD,auN,auL]
 ·rcases tfp (ki=2) with e | e<;>simp only[e,auz,auA,auy,auD,aZ,avk,ava,auN]
  ·rcases tfp (sz=0) with e | e<;>simp only[e,auz,auA,auy,auD,auN,auL];rcases tfp (mix=0) with e | e<;>simp only[e,auz,auA,auy,auD,auN,auL]
  ·rcases tfp (ki=3) with e | e<;>simp only[e,auz,auA,auy,auD,auN,auL];rcases tfp (sz=0) with e | e<;>simp only[e,auz,auA,auy,auD,auN,auL];rcases tfp (mix=0) with e | e<;>simp only[e,auz,auA,auy,auD,auN,auL]
def am9{ki:Int}(h1:(ki=1)=False):inB ki 1 3=(decide (ki=2)||decide (ki=3)):=by
 have h1:ki≠1:=of_eq_false h1;rw[axg,ah,avo,decide_eq_true_iff,decide_eq_true_iff];omega
def FG(f:Frame):mX (tF f,())=some ((km f,()),()):=by
 obtain⟨ki,src,dst,fr,nu,t',un,sz,mix,da⟩:=f;unfold mX km;simp only[dG,ez,auE];have hk:inB ki 1 3=(decide (ki=1)||(decide (ki=2)||decide (ki=3))):=by
  rcases tfp (ki=1) with e | e
  ·have:ki=1:=of_eq_true e;subst this;rfl
  ·rw[am9 e];simp only[e,auA,ava]
 rw[hk];unfold yy;rcases tfp (ki=1) with e0 | e0<;>simp only[e0,auz,auA,avk,ava,auG,auH,auy,auD]
 ·rcases tf (isN src) with e | e<;>simp only[e,auG,auH,auy,auD,auN,auL];rcases tf (isN dst) with e | e<;>simp only[e,auG,auH,auy,auD,auN,auL];rcases tf (isN fr) with e | e<;>simp only[e,auG,auH,auy,auD,auN,auL];rcases tf (isN t') with e | e<;>simp only[e,auG,auH,auy,auD,auN,auL];rcases tf (inB nu 1 99) with e | e<;>simp only[e,auG,auH,auy,auD,auN,auL];rcases tf (inB un 1 999) with e | e<;>simp only[e,auG,auH,auy,auD,auN,auL];simp only[lq,auE];rw[show decide (cO src t'=dst)=decide (dst=cO src t') from decide_eq_decide.2 eq_comm];rcases tf (inB sz 1 24) with e | e<;>rcases tf (inB mix 0 999) with e1 | e1<;>rcases tf (decide ((da.size:Int)=4)) with e2 | e2<;>rcases tfp (dst=cO src t') with e3 | e3<;>simp only[e,e1,e2,e3,auz,auA,auy,auD,auN,auL,avT,au7]
 ·rcases tf (decide (ki=2)||decide (ki=3)) with e9 | e9<;>simp only[e9,auG,auH,auy,auD,auN,auL,au7];rcases tf (isN src) with e | e<;>simp only[e,auG,auH,auy,auD,auN,auL];rcases tf (isN dst) with e | e<;>simp only[e,auG,auH,auy,auD,auN,auL];rcases tf (isN fr) with e | e<;>simp only[e,auG,auH,auy,auD,auN,auL];rcases tf (isN t') with e | e<;>simp only[e,auG,auH,auy,auD,auN,auL];rcases tf (inB nu 1 99) with e | e<;>simp only[e,auG,auH,auy,auD,auN,auL];rcases tf (inB un 1 999) with e | e<;>simp only[e,auG,auH,auy,auD,auN,auL];simp only[lq,auE];rw[show decide (cO dst t'=src)=decide (src=cO dst t') from decide_eq_decide.2 eq_comm];rcases tfp (sz=0) with e | e<;>rcases tfp (mix=0) with e1 | e1<;>rcases tfp (da=noB) with e2 | e2<;>rcases tfp (src=cO dst t') with e3 | e3<;>simp only[e,e1,e2,e3,auz,auA,auy,auD,auN,auL,avT,au7]
def BOk(l:List Int):Prop:= ∀ x∈l,0≤x∧x≤255
def BOk.rd{l:List Int}(h:BOk l)(i:Int):0≤ @rd Int (dfl .u8) l i∧ @rd Int (dfl .u8) l i≤255:=by
 show 0≤l.getD i.toNat 0∧l.getD i.toNat 0≤255;rw[auQ];cases e:l[i.toNat]? with
 | none=>exact⟨by decide,by decide⟩
 | some x=>exact h x (au8 e)
def BOk.str(s:auB):BOk (aL s):=by
 intro x hx;obtain⟨b,_,rfl⟩:=avH.1 hx;have:=b.toNat_lt;omega
def BOk.app{a b:List Int}(ha:BOk a)(hb:BOk b):BOk (a++b):=by
 intro x hx;rcases auX.1 hx with h | h
 ·exact ha x h
 ·exact hb x h
def al7(n:Int):0≤w8 n∧w8 n≤255:=by
 rw[Qs];omega
def BOk.nil:BOk []:=fun x hx=>by cases hx
def BOk.cons(n:Int){l:List Int}(h:BOk l):BOk (w8 n::l):=by
 intro x hx;rcases au5.1 hx with h1 | h1
 ·rw[h1];exact al7 n
 ·exact h x h1
def ER:List Int→Nat→Int→Int
 | [],_,n=>n
 | x::r,i,n=>ER r (i+1) (avq (n+x * ((i % 1000:Nat)+1)) 65521)
def Tp: ∀ {l:List Int} {i:Nat} {n:Int},BOk l→0≤n→n < 65521→0≤ER l i n∧ER l i n < 65521
 | [],_,_,_,h0,h1=>⟨h0,h1⟩
 | x::r,i,n,hb,h0,h1=>by
  have hx:=hb x auM;have hp:0≤x * ((i % 1000:Nat)+1:Int):=ay5 hx.1 (by omega);unfold ER;rw[awj (by omega)];exact Tp (fun y hy=>hb y (auJ x hy)) (by omega) (by omega)
def akM{x:Int}(i:Nat)(h:0≤x∧x≤255):0≤x * ((i % 1000:Nat)+1:Int)∧x * ((i % 1000:Nat)+1:Int)≤255000:=by
 refine⟨ay5 h.1 (by omega), ?_⟩;have h1:x * ((i % 1000:Nat)+1:Int)≤255 * ((i % 1000:Nat)+1:Int):=axC h.2 (by omega);omega
def am3(pre:List Int)(x:Int)(post:List Int): @rd Int (dfl .u8) (pre++x::post) (pre.length:Int)=x:=by
 rw[Kc,auQ,avl (auS _)];simp
def af3(post:List Int): ∀ (pre:List Int) (n:Int),BOk post→0≤n→n < 65521→(pre++post).length≤1048576→
  js (pre++post,n,(pre.length:Int),())=some (.inr (ER post pre.length n,())):=by
 induction post with
 | nil=>
  intro pre n _ _ _ _;refine ao ?_;unfold nV;simp only[avj,show decide ((pre.length:Int) < (pre.length:Int))=false from auu (by omega),auD];rfl
 | cons x post ih=>
  intro pre n hb h0 h1 hl;have hlen:pre.length < (pre++x::post).length:=by simp
  have hw:=dx hlen hl;have hx:=hb x auM;have hm:=akM pre.length hx;have ht:avq (pre.length:Int) 1000=((pre.length % 1000:Nat):Int):=rfl;refine aj (x':=(pre++x::post,avq (n+x * ((pre.length % 1000:Nat)+1)) 65521,((pre++[x]).length:Int),())) ?_ ?_
  ·unfold nV;simp only[show decide ((pre.length:Int) < ((pre++x::post).length:Int))=true from aut (by omega),auy,ak hlen,am3,ht];rw[ai (n:=x) (by omega) (by omega),ai (n:=((pre.length % 1000:Nat):Int)+1) (by omega) (by omega),ayo _ x,ai (n:=x * _) (by omega) (by omega),ai (n:=n+_) (by omega) (by omega),hw,@auP _ pre [x]];rfl
  ·have hr:0≤avq (n+x * ((pre.length % 1000:Nat)+1)) 65521∧avq (n+x * ((pre.length % 1000:Nat)+1)) 65521 < 65521:=by
    rw[awj (by omega)];omega
   have:=ih (pre++[x]) _ (fun y hy=>hb y (auJ x hy)) hr.1 hr.2 (by rw[← snoc];exact hl);rw[← snoc]at this;rw[ER];rw[show(pre++[x]).length=pre.length+1 by simp]at this ⊢;exact this
def Q3{l:List Int}(h:BOk l)(hl:l.length≤1048576):ig (l,())=some ((ER l 0 0,()),()):=by
 unfold ig;have h1:js (l,0,0,())=some (.inr (ER l 0 0,())):=af3 l [] 0 h (by omega) (by omega) hl;rw[h1];rfl
abbrev two(n:Int):List Int:=[w8 (w64 (au6 n 256)),w8 (avq n 256)]
abbrev ae4(f:Frame):List Int:=[w8 f.ki,w8 f.src,w8 f.dst,w8 f.fr,w8 f.nu,w8 f.to,w8 (w64 (au6 f.un 256)),w8 (avq f.un 256)]
def wc(f:Frame):List Int:=if decide (f.ki=1) then(ae4 f++[w8 f.sz,w8 (w64 (au6 f.mix 256)),w8 (avq f.mix 256)])++aL f.da else ae4 f
def gO(f:Frame):List Int:=if km f then wc f++two (ER (wc f) 0 0) else []
def Az{l:List Int}(n:Int)(hl:l.length≤1048576):gp (l,n,())=some ((l++two n,()),()):=by
 unfold gp;rw[aus (aH (by simp;omega))]
def WL(f:Frame):BOk (wc f):=by
 unfold wc;split
 ·exact BOk.app (.cons _ (.cons _ (.cons _ (.cons _ (.cons _ (.cons _ (.cons _ (.cons _ (.cons _ (.cons _ (.cons _ .nil))))))))))) (BOk.str _)
 ·exact .cons _ (.cons _ (.cons _ (.cons _ (.cons _ (.cons _ (.cons _ (.cons _ .nil)))))))
def afb{f:Frame}(h:km f=true)(hk:decide (f.ki=1)=true):f.da.size=4:=by
 unfold km yy at h;simp only[auF]at h;have h:=h.2.2.2.2.2.2;rw[aus hk]at h;simp only[auF]at h;have:=auv h.2.2.1;omega
def Ql{f:Frame}(h:km f=true):(wc f).length≤15:=by
 unfold wc;split
 ·rename_i hk;have:=afb h hk;simp[HZ,ba];omega
 ·simp
def BH(f:Frame):eU (tF f,())=some ((gO f,()),()):=by
 unfold eU gO;simp only[FG,auE];rcases tf (km f) with e | e
 ·simp only[e,auG,auD,auy];have hl:=Ql e;have hs:=Q3 (WL f) (by omega);have key: ∀ l,l=wc f→((ig (l,())).bind fun r6=>(gp (l,r6.1)).bind fun r7=>some (r7.1,()))=some ((wc f++two (ER (wc f) 0 0),()),()):=by
   rintro l rfl;simp only[hs,auE];rw[Az _ (by omega)];rfl
  rw[aus (by rfl),Az _ (by simp)];simp only[auE];rcases tf (decide (f.ki=1)) with e1 | e1
  ·have hd:=afb e e1;have hb:wc f=(ae4 f++[w8 f.sz,w8 (w64 (au6 f.mix 256)),w8 (avq f.mix 256)])++aL f.da:=by unfold wc;rw[aus e1]
   rw[aus e1,aus (by rfl),Az _ (by simp)];simp only[auE];rw[aus (aH (by omega)),aus (aH (by simp[HZ,ba];omega))];exact key _ (by rw[hb];rfl)
  ·have hb:wc f=ae4 f:=by unfold wc;rw[e1,auD]
   rw[aur (by rw[e1];exact avb)];exact key _ (by rw[hb];rfl)
 ·simp only[e,auH,auy,auD]
abbrev zF:Frame:=⟨0,0,0,0,0,0,0,0,0,noB⟩
abbrev r8(b:List Int)(i:Int):Int:= @rd Int (dfl .u8) b i
def BJ(b:List Int):Frame:=
 if decide ((b.length:Int)=17) then⟨r8 b 0,r8 b 1,r8 b 2,r8 b 3,r8 b 4,r8 b 5,256 * r8 b 6+r8 b 7,r8 b 8,256 * r8 b 9+r8 b 10,eS (avp 11 (au3 15 b))⟩
 else⟨r8 b 0,r8 b 1,r8 b 2,r8 b 3,r8 b 4,r8 b 5,256 * r8 b 6+r8 b 7,0,0,noB⟩
def dj(b:List Int):Frame×Bool:=
 if decide ((b.length:Int)=10)||decide ((b.length:Int)=17) then(if decide (eS (gO (BJ b))=eS b) then(BJ b,true) else(zF,false)) else(zF,false)
def ano{b:List Int}(h:BOk b)(i:Int):w64 (r8 b i)=r8 b i:=by
 have:0≤r8 b i∧r8 b i≤255:=h.rd i;exact ai (by omega) (by omega)
def amn{b:List Int}(h:BOk b)(i j:Int):w64 (w64 (256 * r8 b i)+r8 b j)=256 * r8 b i+r8 b j:=by
 have h1:0≤r8 b i∧r8 b i≤255:=h.rd i;have h2:0≤r8 b j∧r8 b j≤255:=h.rd j;rw[ai (n:=256 * r8 b i) (by omega) (by omega),ai (by omega) (by omega)]
def qc{b:List Int}(h:BOk b):ax (b,())=some ((tF (dj b).1,(dj b).2,()),()):=by
 unfold ax dj;by_cases h1:b.length=10∨b.length=17
 ·have hn:10≤b.length:=by omega
  have hI: ∀ i:Int,(0≤i∧i < 10)→inb i b.length=true:=fun i hi=>by simp[inb];omega
  rw[aur (by simp;omega)];dsimp only;rw[aus (hI 0 (by omega)),aus (hI 1 (by omega)),aus (hI 2 (by omega)),aus (hI 3 (by omega)),aus (hI 4 (by omega)),aus (hI 5 (by omega)),aus (hI 6 (by omega)),aus (hI 7 (by omega))];rw[aus (show(decide ((b.length:Int)=10)||decide ((b.length:Int)=17))=true by simp;omega)];simp only[ano h,ayo _ 256,amn h];have fin: ∀ f:Frame,BJ b=f→((eU (tF f,())).bind fun r16=>if(!decide ((eS r16.1.1)=(eS b))) then some ((tF zF,false,()),()) else some ((tF f,true,()),()))=
    some ((tF (if decide (eS (gO (BJ b))=eS b) then(BJ b,true) else(zF,false)).1,(if decide (eS (gO (BJ b))=eS b) then(BJ b,true) else(zF,false)).2,()),()):=by
   rintro f rfl;simp only[BH,auE];rcases tf (decide (eS (gO (BJ b))=eS b)) with e | e<;>simp only[e,auG,auH,auy,auD]
  rcases tf (decide ((b.length:Int)=17)) with e | e
  ·have e17:b.length=17:=by have:=auv e;omega
   have hJ: ∀ i:Int,(0≤i∧i < 17)→inb i b.length=true:=fun i hi=>by simp[inb];omega
   rw[aus (aut (by omega)),aus (hJ 8 (by omega)),aus (hJ 9 (by omega)),aus (hJ 10 (by omega)),aus (by simp;omega),aZ];refine fin ⟨r8 b 0,r8 b 1,r8 b 2,r8 b 3,r8 b 4,r8 b 5,256 * r8 b 6+r8 b 7,r8 b 8,256 * r8 b 9+r8 b 10,eS (avp 11 (au3 15 b))⟩ ?_;unfold BJ;rw[aus e]
  ·have e17:b.length≠17:=by have:=auw e;omega
   rw[aur (by simp;omega),aZ];refine fin ⟨r8 b 0,r8 b 1,r8 b 2,r8 b 3,r8 b 4,r8 b 5,256 * r8 b 6+r8 b 7,0,0,noB⟩ ?_;unfold BJ;rw[aur (by rw[e];exact avb)]
 ·rw[aus (by simp;omega),aur (by simp;omega)]
def CN{b:List Int}(h:(dj b).2=true):km (dj b).1=true:=by
 unfold dj at h ⊢;split
 ·rename_i h1;rw[aus h1]at h;split
  ·rename_i h2;have h2:=auv h2;unfold gO at h2;split at h2
   ·assumption
   ·have h3:(eS b).size=b.length:=by simp[eS,ay0]
    have h4:(eS ([]:List Int)).size=0:=rfl;rw[← h2,h4]at h3;rw[← h3]at h1;cases h1
  ·rename_i h2;rw[aur h2]at h;cases h
 ·rename_i h1;rw[aur h1]at h;cases h
end Go.VS
end
