/- An evaluator of the program's own code with its soundness, the printed texts of the functions, and plain laws of them (part 19). -/
import Derived.Lib.ItoaMem
import Derived.Test.YtimdnaklfelapaaGreatDoorQAR
set_option linter.unusedVariables false
set_option linter.unusedSimpArgs false
set_option linter.defProp false
open BitVec renaming eq_of_toNat_eq→auK,ofInt→arR,toNat_ofInt→ate
open Bool renaming and_eq_true→aqt,and_false→aqV,and_self→ar6,and_true→auf,eq_iff_iff→atb,false_and→aqz,false_ne_true→aq3,false_or→aqX,not_eq_true'→aro,not_false→aqv,not_true→aqu,or_eq_false_iff→as0,or_eq_true→aq8,or_false→arJ,or_self→ash,or_true→arA,true_and→aqB,true_or→aq5
open ByteArray renaming size→auI
open Classical renaming choose→as3,choose_spec→arV
open Eq renaming trans→atA
open Go.IntKind renaming wrap→au7
open Go.Lib renaming cut→asA
open Int renaming emod_eq_of_lt→auh,eq_ofNat_of_zero_le→arz,le_refl→as2,mul_comm→atZ,mul_le_mul_of_nonneg_right→atf,mul_nonneg→auN,tdiv→aqU,tdiv_eq_ediv_of_nonneg→arf,tmod→arh,tmod_eq_emod_of_nonneg→ar4,toNat→aqy,toNat_natCast→aqJ
open List renaming all_eq_true→arp,append_assoc→aqP,append_cancel_left→aus,append_nil→aq6,concat_eq_append→auH,cons_append→asv,count_cons_self→auT,drop→aq9,dropWhile_cons→at4,drop_append_of_le_length→at2,drop_drop→asP,drop_eq_getElem_cons→asZ,drop_eq_nil_of_le→asm,drop_left'→atd,drop_zero→asn,eq_nil_of_length_eq_zero→aq2,eq_nil_or_concat→auG,filter_append→aud,filter_cons→asd,filter_nil→aut,flatMap_append→au0,foldlM_cons→atp,foldl_cons→ars,foldl_nil→asQ,getD_eq_getElem?_getD→aqE,getElem?_append_left→arO,getElem?_append_right→arj,getElem?_drop→ar5,getElem?_eq_getElem→aqC,getElem?_eq_none→arW,getElem?_eq_some_iff→aqF,getElem?_map→ari,getElem?_range→arP,getElem?_replicate→as6,getElem?_set→atG,getElem_mem→ark,getElem_of_mem→arn,length→asG,length_append→aqD,length_cons→aqM,length_drop→aru,length_eq_one_iff→auA,length_filter_le→arM,length_map→ary,length_nil→aq0,length_set→arZ,length_singleton→arN,length_take→arm,length_zipWith→at5,map_append→arG,map_congr_left→arK,map_cons→arx,map_id→avd,map_map→ast,map_nil→asI,mem_append→aqL,mem_append_left→aqH,mem_cons→aqS,mem_cons_of_mem→aqx,mem_cons_self→aqA,mem_filter→ar3,mem_iff_getElem→at0,mem_map→arv,mem_of_getElem?→aqT,mem_of_mem_drop→asx,mem_of_mem_take→arS,mem_range→arl,mem_singleton→aq4,mem_singleton_self→arX,nil_append→arF,not_mem_nil→auq,range→aqW,range_succ→asz,replicate→aqQ,replicate_succ→au2,take→aqR,takeWhile_append_dropWhile→asF,takeWhile_cons→asN,takeWhile_sublist→auz,take_add_one→ati,take_append_drop→ass,take_left'→as8,take_length→arC,take_of_length_le→asc,take_take→auJ,zipWith_cons_cons→aso
open List.cons renaming injEq→as9
open Nat renaming add_assoc→arw,add_comm→aty,add_zero→asB,le_refl→aqG,le_trans→ara,lt_of_lt_of_le→arU,lt_or_ge→asi,lt_trichotomy→asf,mod_eq_of_lt→as4,mod_lt→atT,pow_succ→atY,sub_self→atX,sub_zero→asK,zero_add→arI,zero_le→arB
open Ne renaming symm→atu
open Option renaming bind_eq_some_iff→aqw,bind_some→aqs,filter_eq_some_iff→asr,getD_some→are,isSome_some→aq7
open Option.some renaming injEq→aqI
open Or renaming inl→auM,inr→auL
open Prod.mk renaming injEq→arb
open UInt8 renaming ofNat→asR,toNat_inj→atc
noncomputable section
namespace Go.VS
open Go
def ahA{A R:Type}{t:(A→Option R)→A→Option R}{x:A}{v:R}(hv: ∀ k r,dQ t k x=some r→r=v)(he: ∃ k,dQ t k x=some v):YG t x=some v:=by
 cases h:YG t x with
 | none=>
  exfalso;obtain⟨k,hk⟩:=he;unfold YG at h;rw[dif_pos ⟨k,v,hk⟩]at h;cases h
 | some r=>
  obtain⟨k,hk⟩:=VP h;rw[hv k r hk]
def LO{σ β γ:Type}{b:σ→Option (σ ⊕ (β ⊕ γ))}(st:Nat→σ)(n:Nat)(p:Nat→Bool)(r:β)(fin:γ)
  (h: ∀ i,i < n→(∀ j,j < i→p j=true)→b (st i)=some (if p i then .inl (st (i+1)) else .inr (.inl r)))
  (hn:(∀ j,j < n→p j=true)→b (st n)=some (.inr (.inr fin))):aR b (st 0)=some (if db n p then .inr fin else .inl r):=by
 have: ∀ k,k≤n→(∀ j,j < n - k→p j=true)→aR b (st (n - k))=some (if sG p k (n - k) then .inr fin else .inl r):=by
  intro k
  induction k with
  | zero=>intro _ hp;exact an (hn hp)
  | succ k ih=>
   intro hk hp;have h1:=h (n - (k+1)) (by omega) hp;unfold sG;rcases tf (p (n - (k+1))) with hq | hq
   ·rw[hq]at h1;rw[hq,aqB];refine ai h1 ?_;rw[show n - (k+1)+1=n - k by omega];exact ih (by omega) (fun j hj=>by
     rcases asi j (n - (k+1)) with h2 | h2
     ·exact hp j h2
     ·rw[show j=n - (k+1) by omega];exact hq)
   ·rw[hq]at h1;rw[hq,aqz];exact an h1
 have:=this n (aqG _) (fun j hj=>by omega);rwa[atX]at this
abbrev dcm(u:Nat):List UInt8:=Lib.decDigits u
def jc{u:Nat}(h:u < 10):dcm u=[asR (48+u)]:=Lib.decDigits_one h
def uS{u:Nat}(h: ¬ u < 10):dcm u=dcm (u / 10)++[asR (48+u % 10)]:=by rw[dcm,Lib.decDigits,dif_neg h]
def sD: ∀ (k u:Nat),1≤k→u < 10 ^ k→(dcm u).length≤k
 | 0,_,h,_=>by omega
 | 1,u,_,h=>by rw[jc (by omega)];simp
 | k+2,u,_,h=>by
  by_cases h1:u < 10
  ·rw[jc h1];simp
  ·rw[uS h1];have:=sD (k+1) (u / 10) (by omega) (by rw[atY]at h;omega);simp;omega
def iR(u:Nat):Lib.itoa (u:Int)=dcm u:=Lib.itoa_nonneg u
def cj(n:Int):aqp:=⟨(Lib.itoa n).toArray⟩
def PX{n:Nat}(h:n < 10):dR [w8 (w64 (48+(n:Int)))]=⟨(dcm n).toArray⟩:=by
 rw[jc h,ah (by omega) (by omega),M7,show(48+(n:Int)) % 256=((48+n:Nat):Int) by omega];rfl
def XD(u:Nat):aqU (u:Int) 10=((u / 10:Nat):Int):=rfl
def Xy(u:Nat):arh (u:Int) 10=((u % 10:Nat):Int):=rfl
def PY(u:Nat):dR [w8 (w64 (48+((u % 10:Nat):Int)))]=⟨[asR (48+u % 10)].toArray⟩:=by
 rw[PX (by omega),jc (by omega)]
def aag(a b:List UInt8):(⟨a.toArray⟩:aqp)++⟨b.toArray⟩=⟨(a++b).toArray⟩:=by
 apply oX;rw[rp]
def YU:Lib.decDigits 9223372036854775808=[57,50,50,51,51,55,50,48,51,54,56,53,52,55,55,53,56,48,56]:=by
 show dcm _=_
 repeat (first | rw[jc (by omega)] | rw[uS (by omega)])
 rfl
def EF: ∀ (k:Nat) (n:Int),-9223372036854775808≤n→n≤9223372036854775807→ ∀ r,dQ (fun g=>bw g) k (n,())=some r→r=((cj n,()),())
 | 0,_,_,_,r,h=>by cases h
 | k+1,n,h0,h1,r,h=>by
  have ih:=EF k
  replace h:bw (dQ (fun g=>bw g) k) (n,())=some r:=h
  generalize dQ (fun g=>bw g) k=G at ih h;unfold bw at h;by_cases hn:n < -9223372036854775807
  ·simp only[hn,aqn,aqm]at h;cases h;obtain rfl:n= -9223372036854775808:=by omega
   have:cj (-9223372036854775808)=B [45,57,50,50,51,51,55,50,48,51,54,56,53,52,55,55,53,56,48,56]:=by
    apply oX;show Lib.itoa (-9223372036854775808)=_;rw[show(-9223372036854775808:Int)= -((9223372036854775808:Nat):Int) by rfl,Lib.itoa_neg _ (by omega)];rw[L_B];rw[YU]
   rw[this]
  ·rw[aqg (by simpa using hn)]at h;by_cases amp:n < 0
   ·rw[aqh (by simpa using amp)]at h;simp only at h;rw[ah (by omega) (by omega)]at h;obtain⟨r4,e4,h⟩:=aqw.1 h;have:=ih (0 - n) (by omega) (by omega) r4 e4;subst this;split at h
    ·cases h;obtain⟨u,hu⟩:=arz (show 0≤ -n by omega);obtain rfl:n= -(u:Int):=by omega
     have:cj (-(u:Int))=B [45]++cj (0 - -(u:Int)):=by
      unfold cj;rw[Lib.itoa_neg _ (by omega),show(0:Int) - -(u:Int)=(u:Int) by omega,iR];rw[B,aag];rfl
     rw[this]
    ·cases h
   ·rw[aqg (by simpa using amp)]at h;obtain⟨u,hu⟩:=arz (show 0≤n by omega);obtain rfl:n=(u:Int):=hu;by_cases hs:u < 10
    ·rw[aqh (by simp;omega)]at h;simp only at h;cases h;rw[PX hs,cj,iR]
    ·rw[aqg (by simp;omega)]at h;simp only[XD,Xy]at h;rw[ah (by omega) (by omega)]at h;obtain⟨r7,e7,h⟩:=aqw.1 h;have:=ih ((u / 10:Nat):Int) (by omega) (by omega) r7 e7;subst this;split at h
     ·cases h;rw[PY,cj,cj,iR,iR,aag,← uS hs]
     ·cases h
def Lt: ∀ (k u:Nat),1≤k→k≤19→u < 10 ^ k→u≤9223372036854775807→dQ (fun g=>bw g) k ((u:Int),())=some ((⟨(dcm u).toArray⟩,()),())
 | 0,_,h,_,_,_=>by omega
 | k+1,u,_,hk,h,h63=>by
  have e1:decide ((u:Int) < -9223372036854775807)=false:=by simp
  have e2:decide ((u:Int) < 0)=false:=by simp
  have ih:=Lt k (u / 10);show bw (dQ (fun g=>bw g) k) _=_;generalize dQ (fun g=>bw g) k=G at ih;unfold bw;simp only[e1,e2,XD,Xy,aqr];by_cases hs:u < 10
  ·rw[aqh (by simp;omega),PX hs]
  ·rw[aqg (by simp;omega),ah (by omega) (by omega)];have hk0:1≤k:=by
    rcases Nat.eq_zero_or_pos k with rfl | h'
    ·simp at h;omega
    ·exact h'
   have hlt:u / 10 < 10 ^ k:=by rw[atY]at h;omega
   have hl:=sD k (u / 10) hk0 hlt;rw[ih hk0 (by omega) hlt (by omega)];simp only[aqs];rw[aqh,PY,aag,← uS hs];have:(⟨(dcm (u / 10)).toArray⟩:aqp).size=(dcm (u / 10)).length:=rfl;rw[decide_eq_true_eq,this,PY];show _+1≤_;omega
def ba{n:Int}(h0: -9223372036854775808≤n)(h1:n≤9223372036854775807):aC (n,())=some ((cj n,()),()):=by
 refine ahA (fun k r h=>EF k n h0 h1 r h) ?_;have anz: ∀ u:Nat,u≤9223372036854775807→u < 10 ^ 19:=fun u hu=>by omega
 by_cases hn:n < -9223372036854775807
 ·refine⟨1, ?_⟩;cases h:dQ (fun g=>bw g) 1 (n,()) with
  | none=>simp only[dQ]at h;unfold bw at h;rw[aqh (by simpa using hn)]at h;cases h
  | some r=>rw[EF 1 n h0 h1 r h]
 ·by_cases amp:n < 0
  ·refine⟨20, ?_⟩;cases h:dQ (fun g=>bw g) 20 (n,()) with
   | none=>
    obtain⟨u,hu⟩:=arz (show 0≤ -n by omega);have ih:=Lt 19 u (by omega) (by omega) (anz u (by omega)) (by omega)
    replace h:bw (dQ (fun g=>bw g) 19) (n,())=none:=h
    generalize dQ (fun g=>bw g) 19=G at ih h;unfold bw at h;rw[aqg (by simpa using hn),aqh (by simpa using amp)]at h;simp only at h;rw[ah (by omega) (by omega),show 0 - n=(u:Int) by omega,ih]at h;simp only[aqs]at h;rw[aqh]at h
    ·cases h
    ·have hl:=sD 19 u (by omega) (anz u (by omega));have e:(⟨(dcm u).toArray⟩:aqp).size=(dcm u).length:=rfl;rw[decide_eq_true_eq,e];show 1+_≤_;omega
   | some r=>rw[EF 20 n h0 h1 r h]
  ·obtain⟨u,hu⟩:=arz (show 0≤n by omega);obtain rfl:n=(u:Int):=hu;exact⟨19,by rw[Lt 19 u (by omega) (by omega) (anz u (by omega)) (by omega),cj,iR]⟩
def rF{n:Int}(h0: -9223372036854775808≤n)(h1:n≤9223372036854775807):bM (n,())=some ((cj n,()),()):=by
 show Yq _=_;unfold Yq;rw[aqh ⟨h0,h1⟩];rfl
def dig(b:UInt8):Bool:=inB (b.toNat:Int) 48 57
def val(l:List UInt8):Nat:=l.foldl (fun a b=>10 * a+(b.toNat - 48)) 0
def Ie(l:List UInt8)(b:UInt8):val (l++[b])=10 * val l+(b.toNat - 48):=by simp[val]
def ab7{l:List UInt8}{i:Nat}(h:i < l.length):l.take (i+1)=l.take i++[l.getD i 0]:=by
 rw[ati,aqC h];simp[h]
def Wh: ∀ (k:Nat) (l:List UInt8),l.length≤k→(∀ b∈l,dig b=true)→val l < 10 ^ k:=by
 intro k
 induction k with
 | zero=>
  intro l hl _;obtain rfl:l=[]:=aq2 (by omega);decide
 | succ k ih=>
  intro l hl hd;rcases auG l with rfl | ⟨m,b,rfl⟩
  ·exact Nat.pow_pos (by decide)
  ·simp at hl hd;have h1:=ih m (by omega) (fun x hx=>hd x (.inl hx));have h2:=hd b (.inr rfl);rw[auH,Ie,atY];have h3:=ae.1 h2;omega
def agC{m:List UInt8}: ∀ {b:UInt8},dig b=true→b≠48→(∀ x∈m,dig x=true)→1≤val (b::m):=by
 intro b hb hne hd;have h0:1≤val [b]:=by
  have:=ae.1 hb;have hn:b.toNat≠48:=fun h=>hne (atc.1 h);simp[val];omega
 have: ∀ (m:List UInt8) (a:Nat),1≤a→1≤m.foldl (fun a b=>10 * a+(b.toNat - 48)) a:=by
  intro m
  induction m with
  | nil=>intro a h;exact h
  | cons x m ih=>intro a h;exact ih _ (show 1≤10 * a+(x.toNat - 48) by omega)
 exact this m _ (by simpa[val] using h0)
def NR(l:List UInt8):Bool:=match l with
 | []=>false
 | [_]=>true
 | b::_::_=> !decide (b=48)
def abM: ∀ (k:Nat) (l:List UInt8),l.length=k→(∀ b∈l,dig b=true)→NR l=true→dcm (val l)=l:=by
 intro k
 induction k with
 | zero=>intro l hl _ h;obtain rfl:l=[]:=aq2 hl;cases h
 | succ k ih=>
  intro l hl hd anp;rcases auG l with rfl | ⟨m,b,rfl⟩
  ·cases anp
  ·rw[auH]at *;simp at hl;have hb:=hd b (by simp);have hb2:=ae.1 hb;have hof: ∀ n,b.toNat=n→asR n=b:=fun n h=>by rw[← h];simp
   cases m with
   | nil=>
    have:val ([]++[b])=b.toNat - 48:=by simp[val]
    rw[this,jc (by omega),hof _ (by omega)];rfl
   | cons c m=>
    have hc:c≠48:=by
     cases m<;>simpa[NR] using anp
    have h1:=agC (m:=m) (hd c (by simp)) hc (fun x hx=>hd x (by simp[hx]));rw[Ie,uS (by omega),show(10 * val (c::m)+(b.toNat - 48)) / 10=val (c::m) by omega,show(10 * val (c::m)+(b.toNat - 48)) % 10=b.toNat - 48 by omega,
     ih (c::m) hl (fun x hx=>hd x (aqH _ hx)) (by cases m<;>simp[NR,hc]),hof _ (by omega)]
def PD: ∀ (k u:Nat),u < k→ ∀ b∈dcm u,dig b=true:=by
 intro k
 induction k with
 | zero=>intro u h;omega
 | succ k ih=>
  intro u h b hb;have hd: ∀ n,n < 10→dig (asR (48+n))=true:=fun n hn=>by
   have:(asR (48+n)).toNat=48+n:=by simp;omega
   unfold dig;rw[this];exact ae.2 ⟨by omega,by omega⟩
  by_cases hu:u < 10
  ·rw[jc hu]at hb;obtain rfl:=aq4.1 hb;exact hd u hu
  ·rw[uS hu]at hb;rcases aqL.1 hb with hb | hb
   ·exact ih (u / 10) (by omega) b hb
   ·obtain rfl:=aq4.1 hb;exact hd _ (by omega)
def Pp: ∀ (k u:Nat),u < k→val (dcm u)=u:=by
 intro k
 induction k with
 | zero=>intro u h;omega
 | succ k ih=>
  intro u h;by_cases hu:u < 10
  ·rw[jc hu];have:(asR (48+u)).toNat=48+u:=by simp;omega
   simp only[val,ars,asQ,this];omega
  ·rw[uS hu,Ie,ih (u / 10) (by omega)];have:(asR (48+u % 10)).toNat=48+u % 10:=by simp;omega
   rw[this];omega
def aaN(u:Nat):dcm u≠[]:=by
 by_cases hu:u < 10
 ·rw[jc hu];simp
 ·rw[uS hu];simp
def YV: ∀ (k u:Nat),u < k→NR (dcm u)=true∧(1≤u→ ∃ b m,dcm u=b::m∧b≠48):=by
 intro k
 induction k with
 | zero=>intro u h;omega
 | succ k ih=>
  intro u h;by_cases hu:u < 10
  ·rw[jc hu];refine⟨rfl,fun h1=>⟨_,_,rfl,fun h2=> ?_⟩⟩;have:(asR (48+u)).toNat=48+u:=by simp;omega
   rw[h2]at this;simp at this;omega
  ·obtain⟨b,m,h1,h2⟩:=(ih (u / 10) (by omega)).2 (by omega);rw[uS hu,h1];refine⟨?_,fun _=>⟨b,_,rfl,h2⟩⟩;cases m<;>simp[NR,h2]
def QP(l:List UInt8):Option Nat:=if l.all dig&&NR l then some (val l) else none
def zc{l:List UInt8}{n:Nat}:QP l=some n↔l=dcm n:=by
 unfold QP;constructor
 ·intro h;split at h
  ·rename_i hc;simp at hc;cases h;exact(abM _ l rfl hc.1 hc.2).symm
  ·cases h
 ·rintro rfl;rw[aqh,Pp (n+1) n (by omega)];simp only[aqt,arp];exact⟨PD (n+1) n (by omega),(YV (n+1) n (by omega)).1⟩
def ajk{s:aqp}{i:Nat}:inB (bt s i) 48 57=dig ((L s).getD i 0):=rfl
def abS{l:List UInt8}{f:UInt8→Bool}:db l.length (fun i=>f (l.getD i 0))=l.all f:=by
 rw[atb,cw,arp];constructor
 ·intro h x hx;obtain⟨i,hi,rfl⟩:=arn hx;have:=h i hi;simpa[hi] using this
 ·intro h i hi;simpa[hi] using h _ (ark hi)
def Nv{s:aqp}{i:Nat}(h: ∀ j,j < i→inB (bt s j) 48 57=true)(hi:i≤s.size): ∀ b∈(L s).take i,dig b=true:=by
 intro b hb;obtain⟨j,hj,rfl⟩:=arn hb;simp at hj;have h1:=h j (by omega);rw[ajk]at h1;have h2:j < (L s).length:=by rw[aN];omega
 rw[List.getElem_take];have e:(L s).getD j 0=(L s)[j]:=by rw[aqE,aqC h2];rfl
 rwa[e]at h1
def Xs{s:aqp}{i:Nat}(hi:i < s.size):val ((L s).take (i+1))=10 * val ((L s).take i)+(((L s).getD i 0).toNat - 48):=by
 rw[ab7 (by rw[aN];exact hi),Ie]
def bf(s:aqp):Int×Bool:=if s.size≤5 then(match QP (L s) with | some n=>((n:Int),true) | none=>(0,false)) else(0,false)
def ahh{s:aqp}(h:1≤s.size):NR (L s)= !(decide (bt s 0=48)&&decide (1 < (s.size:Int))):=by
 rw[show s.size=(L s).length from rfl]at *;unfold bt;show _= !(decide ((((L s).getD 0 0).toNat:Int)=48)&&_);generalize L s=l at *
 match l with
 | []=>simp at h
 | [b]=>simp[NR]
 | b::c::m=>
  have:(((b:UInt8).toNat:Int)=48)↔b=48:=⟨fun h=>atc.1 (by show b.toNat=48;omega),fun h=>by subst h;rfl⟩;simp only[NR,List.getD_cons_zero,this];simp;omega
def NH(s:aqp):(L s).take s.size=L s:=asc (by rw[aN];exact aqG _)
def ql{s:aqp}(hs:s.size≤9223372036854775807):fQ (s,())=some (((bf s).1,(bf s).2,()),()):=by
 unfold fQ bf;simp only[bO,aqs];by_cases h5:s.size≤5
 ·by_cases h1:1≤s.size
  ·have e1:inB (s.size:Int) 1 5=true:=ae.2 ⟨by omega,by omega⟩;have e2:inb 0 s.size=true:=by have:=ak (show 0 < s.size by omega);simpa using this
   have akv:oC (s,0,0,())=some (if db s.size (fun i=>inB (bt s i) 48 57) then .inr ((val (L s):Int),()) else .inl (0,false,())):=by
    rw[← NH s];refine LO (fun i=>(s,(val ((L s).take i):Int),(i:Int),())) s.size (fun i=>inB (bt s i) 48 57) (0,false,()) ((val ((L s).take s.size):Int),()) (fun i hi hp=> ?_) (fun _=>by simp[nO]);unfold nO;simp only[ak hi,bp hi,aek,bO,aqs,aG hi (by omega:s.size≤9223372036854775807)];rcases tf (inB (bt s i) 48 57) with h | h
    ·have hv:=Wh 5 _ (by simp;omega) (Nv hp (by omega));have hb:=ae.1 h;have e:w64 (w64 (10 * (val ((L s).take i):Int))+w64 (w8 (bt s i - 48)))=(val ((L s).take (i+1)):Int):=by
      rw[Xs hi,M7,ah (n:=10 * _) (by omega) (by omega),auh (by omega) (by omega),ah (n:=bt s i - 48) (by omega) (by omega),ah (by omega) (by omega)];rw[wE]at hb ⊢;omega
     simp only[h,e];rfl
    ·simp only[h];rfl
   rw[e1,e2,aqh h5];simp only[akv,aqu,aqv,aqX,eL,aqm];have alF:db s.size (fun i=>inB (bt s i) 48 57)=(L s).all dig:=abS (l:=L s) (f:=dig);rw[alF];unfold QP;rw[ahh h1];rcases tf (decide (bt s 0=48)&&decide (1 < (s.size:Int))) with h | h
   ·rw[h];simp
   ·rw[h];rcases tf ((L s).all dig) with h' | h'
    ·rw[h'];rfl
    ·rw[h'];rfl
  ·have e1:inB (s.size:Int) 1 5=false:=by simp[inB];omega
   have:L s=[]:=aq2 (by rw[aN];omega);rw[e1,aqh h5,this];simp[QP,NR]
 ·have e1:inB (s.size:Int) 1 5=false:=by simp[inB];omega
  rw[e1,aqg h5];simp
def aV(s:aqp):Int:=if s.size≤4 then(match QP (L s) with | some n=>(n:Int) | none=> -1) else -1
def YW(u:Nat):cj (u:Int)=⟨(dcm u).toArray⟩:=by rw[cj,iR]
def Am{s:aqp}(hs:s.size≤9223372036854775807):jn (s,())=some ((aV s,()),()):=by
 unfold jn aV;by_cases h5:s.size≤4
 ·by_cases h1:1≤s.size
  ·have e1:(decide ((s.size:Int) < 1)||decide (4 < (s.size:Int)))=false:=by simp;omega
   have akv:rz (s,0,0,())=some (if db s.size (fun i=>inB (bt s i) 48 57) then .inr (s,(val (L s):Int),()) else .inl (-1,())):=by
    rw[← NH s];refine LO (fun i=>(s,(val ((L s).take i):Int),(i:Int),())) s.size (fun i=>inB (bt s i) 48 57) (-1,()) (s,(val ((L s).take s.size):Int),()) (fun i hi hp=> ?_) (fun _=>by simp[rX]);unfold rX;simp only[ak hi,bp hi,aG hi (by omega:s.size≤9223372036854775807)];rcases tf (inB (bt s i) 48 57) with h | h
    ·have hv:=Wh 5 _ (by simp;omega) (Nv hp (by omega));have hb:=ae.1 h;have e:w64 (w64 ((val ((L s).take i):Int) * 10)+w64 (w8 (bt s i - 48)))=(val ((L s).take (i+1)):Int):=by
      rw[Xs hi,M7,ah (n:=_ * 10) (by omega) (by omega),auh (by omega) (by omega),ah (n:=bt s i - 48) (by omega) (by omega),ah (by omega) (by omega)];rw[wE]at hb ⊢;omega
     have e2:decide (bt s i < 48)=false:=by simp;omega
     have e3:decide (57 < bt s i)=false:=by simp;omega
     simp only[h,e,e2,e3];rfl
    ·have hb:bt s i < 48∨57 < bt s i:=by
      have:=mt ae.2 (by rw[h];simp);omega
     simp only[h];rcases hb with hb | hb
     ·simp[hb]
     ·have: ¬ bt s i < 48:=by omega
      simp[hb,this]
   rw[e1,aqh h5];simp only[akv,aqr];have alF:db s.size (fun i=>inB (bt s i) 48 57)=(L s).all dig:=abS (l:=L s) (f:=dig);rw[alF];unfold QP;rcases tf ((L s).all dig) with h' | h'
   ·have hd:=arp.1 h';have hv:=Wh 5 (L s) (by rw[aN];omega) hd;simp only[h',aqm,dO,aqB,ba (n:=(val (L s):Int)) (by omega) (by omega),aqs,YW];rcases tf (NR (L s)) with hl | hl
    ·have:(⟨(dcm (val (L s))).toArray⟩:aqp)=s:=by
      apply oX;rw[ajn,abM _ _ rfl hd hl]
     simp[this,hl]
    ·have: ¬ (⟨(dcm (val (L s))).toArray⟩:aqp)=s:=fun h=>by
      have h2:=congrArg L h;rw[ajn]at h2;rw[← h2,(YV (val (L s)+1) _ (by omega)).1]at hl;cases hl
     simp[this,hl]
   ·rw[h'];rfl
  ·have e1:(decide ((s.size:Int) < 1)||decide (4 < (s.size:Int)))=true:=by simp;omega
   have:L s=[]:=aq2 (by rw[aN];omega);rw[e1,aqh h5,this];simp[QP,NR]
 ·have e1:(decide ((s.size:Int) < 1)||decide (4 < (s.size:Int)))=true:=by simp;omega
  rw[e1,aqg h5];simp
def ae6{s:aqp}{n:Nat}:bf s=((n:Int),true)↔s.size≤5∧L s=dcm n:=by
 unfold bf;by_cases h:s.size≤5
 ·rw[aqh h];constructor
  ·intro h2;cases h3:QP (L s) with
   | none=>rw[h3]at h2;cases h2
   | some m=>
    rw[h3]at h2;simp at h2;exact⟨h,by rw[zc.1 h3,show m=n by omega]⟩
  ·rintro⟨_,h2⟩;rw[zc.2 h2]
 ·rw[aqg h];constructor
  ·intro h2;cases h2
  ·rintro⟨h2,_⟩;exact absurd h2 h
def rD(s:aqp):bf s=(0,false)∨ ∃ n:Nat,bf s=((n:Int),true)∧s.size≤5∧L s=dcm n:=by
 unfold bf;by_cases h:s.size≤5
 ·rw[aqh h];cases h2:QP (L s) with
  | none=>exact .inl rfl
  | some n=>exact .inr ⟨n,rfl,h,zc.1 h2⟩
 ·rw[aqg h];exact .inl rfl
def rP(s:aqp):(aV s= -1∧ ∀ n,L s=dcm n→4 < s.size)∨ ∃ n:Nat,aV s=(n:Int)∧s.size≤4∧L s=dcm n:=by
 unfold aV;by_cases h:s.size≤4
 ·rw[aqh h];cases h2:QP (L s) with
  | none=>exact .inl ⟨rfl,fun n hn=>by rw[zc.2 hn]at h2;cases h2⟩
  | some n=>exact .inr ⟨n,rfl,h,zc.1 h2⟩
 ·rw[aqg h];exact .inl ⟨rfl,fun n _=>by omega⟩
def R8{s:aqp}{n:Nat}(h:s.size≤4)(hn:L s=dcm n):aV s=(n:Int):=by
 unfold aV;rw[aqh h,zc.2 hn]
def Lj{s:aqp}{n:Nat}(h:s.size≤5)(hn:L s=dcm n):bf s=((n:Int),true):=ae6.2 ⟨h,hn⟩
section
variable {α:Type} (f:α→Bool)
def ins(l:List α)(n:α):List α:=l.takeWhile f++n::l.dropWhile f
abbrev tw(l:List α):Nat:=(l.takeWhile f).length
def U2(l:List α):tw f l≤l.length:=by
 exact(auz f).length_le
def Pq(l:List α):l.take (tw f l)=l.takeWhile f:=by
 have:=List.take_left (l₁:=l.takeWhile f) (l₂:=l.dropWhile f);rwa[asF]at this
def Pr(l:List α):l.drop (tw f l)=l.dropWhile f:=by
 have:=List.drop_left (l₁:=l.takeWhile f) (l₂:=l.dropWhile f);rwa[asF]at this
def Xv: ∀ {l:List α} {i:Nat} {x:α},i < tw f l→l[i]? =some x→f x=true
 | [],i,x,h,hx=>by simp at hx
 | y::l,i,x,h,hx=>by
  unfold tw at h;rw[asN]at h;split at h
  ·rename_i hy;cases i with
   | zero=>simp at hx;subst hx;exact hy
   | succ i=>exact Xv (l:=l) (i:=i) (by simpa using h) (by simpa using hx)
  ·simp at h
def Xw: ∀ {l:List α} {x:α},l[tw f l]? =some x→f x=false
 | [],x,hx=>by simp at hx
 | y::l,x,hx=>by
  unfold tw at hx;rw[asN]at hx;split at hx
  ·exact Xw (l:=l) (by simpa using hx)
  ·rename_i hy;simp at hx;subst hx;simpa using hy
def AI(l:List α)(n:α):(ins f l n).length=l.length+1:=by
 have:=congrArg asG (asF (p:=f) (l:=l));rw[aqD]at this;simp only[ins,aqD,aqM];omega
def Ju{l:List α}{n x:α}(h:x∈ins f l n):x=n∨x∈l:=by
 unfold ins at h;rw[aqL,aqS]at h;rcases h with h | h | h
 ·exact .inr ((auz f).mem h)
 ·exact .inl h
 ·exact .inr ((List.dropWhile_sublist f).mem h)
def ahd{l:List α}{n x:α}(h:x=n∨x∈l):x∈ins f l n:=by
 unfold ins;rw[aqL,aqS];rcases h with h | h
 ·exact .inr (.inl h)
 ·rw[← asF (p:=f) (l:=l),aqL]at h;rcases h with h | h
  ·exact .inl h
  ·exact .inr (.inr h)
end
def PT{α:Type}{f g:α→Bool}: ∀ {l:List α},(∀ x∈l,f x=g x)→l.takeWhile f=l.takeWhile g∧l.dropWhile f=l.dropWhile g
 | [],_=>⟨rfl,rfl⟩
 | x::l,h=>by
  have ih:=PT (l:=l) (fun y hy=>h y (aqx _ hy));rw[asN,asN,at4,at4,h x aqA,ih.1,ih.2];exact⟨rfl,rfl⟩
def VD{α:Type}{f g:α→Bool}{l:List α}{n:α}(h: ∀ x∈l,f x=g x):ins f l n=ins g l n:=by
 unfold ins;rw[(PT h).1,(PT h).2]
def iM{l:List ajT}{i:Nat}{x:ajT}(h:l[i]? =some x):nA l i=x:=EJ h
def tb{l:List Mark}{i:Nat}{x:Mark}(h:l[i]? =some x):mA l i=x:=EJ h
def tJ(l:List ajT)(n:ajT):List ajT:=ins (fun x=>bef x.fr x.nu n.fr n.nu) l n
def zi(l:List Mark)(n:Mark):List Mark:=ins (fun x=>bef x.mf x.mn n.mf n.mn) l n
def Ep{α:Type}{l:List α}{i:Nat}{x:α}(h:l[i]? =some x):l.take i++[x]=l.take (i+1):=by
 rw[ati,h];rfl
def U7{α:Type}{l:List α}{i j:Nat}{x:α}(h:l[i]? =some x)(hj:j≤i):(l.take i).drop j++[x]=(l.take (i+1)).drop j:=by
 have hi:=(aqF.1 h).1;rw[← Ep h,at2 (by simp;omega)]
def fj{α:Type}(g:α→Bool)(l:List α)(n:α)(i:Nat):List α:=if i≤tw g l then l.take i else l.take (tw g l)++n::(l.take i).drop (tw g l)
def Ev{α:Type}(g:α→Bool)(l:List α)(n:α)(i:Nat):(fj g l n i).length≤l.length+1:=by
 have:=U2 g l;unfold fj;split<;>simp<;>omega
def Vd{α:Type}(g:α→Bool)(l:List α)(n:α):(if tw g l < l.length then fj g l n l.length else fj g l n l.length++[n])=ins g l n:=by
 have h:=U2 g l;unfold fj ins;split
 ·rw[aqg (by omega),arC,Pq,Pr]
 ·rw[aqh (by omega),arC];have:tw g l=l.length:=by omega
  rw[← Pq,← Pr,this];simp
def XY{α:Type}{g:α→Bool}{l:List α}{n x:α}{i:Nat}(h:l[i]? =some x)(hi:i < tw g l):fj g l n i++[x]=fj g l n (i+1):=by
 unfold fj;rw[aqh (by omega),aqh (by omega),Ep h]
def X0{α:Type}{g:α→Bool}{l:List α}{n x:α}{i:Nat}(h:l[i]? =some x)(hi:i=tw g l):fj g l n i++[n]++[x]=fj g l n (i+1):=by
 subst hi;unfold fj;rw[aqh (aqG _),aqg (by omega),← U7 h (aqG _)];simp
def XZ{α:Type}{g:α→Bool}{l:List α}{n x:α}{i:Nat}(h:l[i]? =some x)(hi:tw g l < i):fj g l n i++[x]=fj g l n (i+1):=by
 unfold fj;rw[aqg (by omega),aqg (by omega),← U7 h (by omega)];simp
def sr{l:List ajT}{fr nu tt un:Int}{tx:aqp}(hl:l.length≤1048576):gW (l,(fr,nu,tt,un,tx,()),())=some ((tJ l ⟨fr,nu,tt,un,tx⟩,()),()):=by
 have ht:=U2 (fun x:ajT=>bef x.fr x.nu fr nu) l;have h:qh (l,(fr,nu,tt,un,tx,()),0,())=some (.inr (l,(fr,nu,tt,un,tx,()),((tw (fun x:ajT=>bef x.fr x.nu fr nu) l:Nat):Int),())):=
  cO (fun i=>(l,(fr,nu,tt,un,tx,()),(i:Int),())) (tw (fun x:ajT=>bef x.fr x.nu fr nu) l) (fun i hi=>by
   have hi':i < l.length:=by omega
   have hx:=aqC hi';unfold qi;simp only[ak hi',bp hi',cL,ka,aG hi' (by omega:l.length≤9223372036854775807),iM hx,Xv (fun x:ajT=>bef x.fr x.nu fr nu) hi hx];rfl) (by
   unfold qi;generalize ht2:tw (fun x:ajT=>bef x.fr x.nu fr nu) l=t at *;rcases asi t l.length with hlt | hge
   ·have hx:=aqC hlt;have:=Xw (fun x:ajT=>bef x.fr x.nu fr nu) (l:=l) (x:=l[t]) (by rw[ht2];exact hx);simp only[ak hlt,bp hlt,cL,ka,iM hx,this];rfl
   ·have e:decide ((t:Int) < (l.length:Int))=false:=by simp;omega
    simp only[e,c9,aqm,aqz,aqr])
 unfold gW;have hb:(decide (0≤((tw (fun x:ajT=>bef x.fr x.nu fr nu) l:Nat):Int))&&decide (((tw (fun x:ajT=>bef x.fr x.nu fr nu) l:Nat):Int)≤(l.length:Int)))=true:=by simp;omega
 simp only[h,dO,hb,aqm,aqJ,arF,aq0,arI,aqD,aqM,arm,aru];rw[aqh (aF (by omega)),aqh (aF (by omega)),aqh (aF (by omega)),Pq,Pr];simp[tJ,ins]
def ZX(l:List ajT)(n:ajT):List ajT:=ins (fun x=> !bef n.fr n.nu x.fr x.nu) l n
def kD{l:List ajT}{fr nu tt un:Int}{tx:aqp}(hl:l.length≤1048576):dw (l,(fr,nu,tt,un,tx,()),())=some ((ZX l ⟨fr,nu,tt,un,tx⟩,()),()):=by
 let g:ajT→Bool:=fun x=> !bef fr nu x.fr x.nu
 have ht:=U2 g l;have h:kc (l,(fr,nu,tt,un,tx,()),[],false,0,())=some (.inr ((fr,nu,tt,un,tx,()),fj g l ⟨fr,nu,tt,un,tx⟩ l.length,decide (tw g l < l.length),())):=by
  refine cO (fun i=>(l,(fr,nu,tt,un,tx,()),fj g l ⟨fr,nu,tt,un,tx⟩ i,decide (tw g l < i),(i:Int),())) l.length (fun i hi=> ?_) (by simp[jo]);have hx:=aqC hi;have hr:=Ev g l ⟨fr,nu,tt,un,tx⟩ i;unfold jo;simp only[ak hi,bp hi,cL,wM,aG hi (by omega:l.length≤9223372036854775807),iM hx,aqM,aq0,arI,aF (show(fj g l ⟨fr,nu,tt,un,tx⟩ i).length+1≤4294967296 by omega)];rcases asf i (tw g l) with hlt | heq | hgt
  ·have h1:bef fr nu l[i].fr l[i].nu=false:=by simpa[g] using Xv g hlt hx
   have h2:decide (tw g l < i)=false:=by simp;omega
   have h3:decide (tw g l < i+1)=false:=by simp;omega
   simp only[h1,h2,h3,eL,aqv,aqm,aq7,are,aqV,aqr,aS,cL,iM hx,ak hi,aF (show(fj g l ⟨fr,nu,tt,un,tx⟩ i).length+1≤4294967296 by omega),XY hx hlt,aG hi (by omega:l.length≤9223372036854775807)]
  ·have hx2:l[tw g l]? =some l[i]:=by rw[← heq];exact hx
   have h1:bef fr nu l[i].fr l[i].nu=true:=by simpa[g] using Xw g hx2
   have h2:decide (tw g l < i)=false:=by simp;omega
   have h3:decide (tw g l < i+1)=true:=by simp;omega
   have h4:fj g l ⟨fr,nu,tt,un,tx⟩ i++[⟨fr,nu,tt,un,tx⟩]++[l[i]]=fj g l ⟨fr,nu,tt,un,tx⟩ (i+1):=X0 hx heq;simp only[h1,h2,h3,h4,eL,aqv,aqm,aq7,are,ar6,aS,cL,iM hx,ak hi,aqD,aqM,aq0,arI,aF (show(fj g l ⟨fr,nu,tt,un,tx⟩ i).length+1+1≤4294967296 by omega),aG hi (by omega:l.length≤9223372036854775807)]
  ·have h2:decide (tw g l < i)=true:=by simp;omega
   have h3:decide (tw g l < i+1)=true:=by simp;omega
   simp only[h2,h3,c9,aqu,aqm,aqz,aqr,aS,cL,iM hx,ak hi,aF (show(fj g l ⟨fr,nu,tt,un,tx⟩ i).length+1≤4294967296 by omega),XZ hx hgt,aG hi (by omega:l.length≤9223372036854775807)]
 unfold dw;simp only[h,dO];have he:=Vd g l ⟨fr,nu,tt,un,tx⟩;have hr:=Ev g l ⟨fr,nu,tt,un,tx⟩ l.length;unfold ZX;show _=some ((ins g l _,()),());rw[← he];by_cases hc:tw g l < l.length
 ·simp[hc]
 ·simp[hc,aF (show(fj g l ⟨fr,nu,tt,un,tx⟩ l.length).length+1≤4294967296 by omega)]
def sV(t:Int)(l:List ajT):List ajT:=l.filter fun x=>decide (t < x.un)
def yh{l:List Mark}{mf mn mu:Int}(hl:l.length≤1048576):jY (l,(mf,mn,mu,()),())=some ((zi l ⟨mf,mn,mu⟩,()),()):=by
 have ht:=U2 (fun x:Mark=>bef x.mf x.mn mf mn) l;have h:qo (l,(mf,mn,mu,()),0,())=some (.inr (l,(mf,mn,mu,()),((tw (fun x:Mark=>bef x.mf x.mn mf mn) l:Nat):Int),())):=
  cO (fun i=>(l,(mf,mn,mu,()),(i:Int),())) (tw (fun x:Mark=>bef x.mf x.mn mf mn) l) (fun i hi=>by
   have hi':i < l.length:=by omega
   have hx:=aqC hi';unfold qp;simp only[ak hi',bp hi',dM,ka,aG hi' (by omega:l.length≤9223372036854775807),tb hx,Xv (fun x:Mark=>bef x.mf x.mn mf mn) hi hx];rfl) (by
   unfold qp;generalize ht2:tw (fun x:Mark=>bef x.mf x.mn mf mn) l=t at *;rcases asi t l.length with hlt | hge
   ·have hx:=aqC hlt;have:=Xw (fun x:Mark=>bef x.mf x.mn mf mn) (l:=l) (x:=l[t]) (by rw[ht2];exact hx);simp only[ak hlt,bp hlt,dM,ka,tb hx,this];rfl
   ·have e:decide ((t:Int) < (l.length:Int))=false:=by simp;omega
    simp only[e,c9,aqm,aqz,aqr])
 unfold jY;have hb:(decide (0≤((tw (fun x:Mark=>bef x.mf x.mn mf mn) l:Nat):Int))&&decide (((tw (fun x:Mark=>bef x.mf x.mn mf mn) l:Nat):Int)≤(l.length:Int)))=true:=by simp;omega
 simp only[h,dO,hb,aqm,aqJ,arF,aq0,arI,aqD,aqM,arm,aru];rw[aqh (aF (by omega)),aqh (aF (by omega)),aqh (aF (by omega)),Pq,Pr];simp[zi,ins]
def ZY(l:List Mark)(n:Mark):List Mark:=ins (fun x=> !bef n.mf n.mn x.mf x.mn) l n
def pw{l:List Mark}{mf mn mu:Int}(hl:l.length≤1048576):ew (l,(mf,mn,mu,()),())=some ((ZY l ⟨mf,mn,mu⟩,()),()):=by
 let g:Mark→Bool:=fun x=> !bef mf mn x.mf x.mn
 have ht:=U2 g l;have h:kg (l,(mf,mn,mu,()),[],false,0,())=some (.inr ((mf,mn,mu,()),fj g l ⟨mf,mn,mu⟩ l.length,decide (tw g l < l.length),())):=by
  refine cO (fun i=>(l,(mf,mn,mu,()),fj g l ⟨mf,mn,mu⟩ i,decide (tw g l < i),(i:Int),())) l.length (fun i hi=> ?_) (by simp[jq]);have hx:=aqC hi;have hr:=Ev g l ⟨mf,mn,mu⟩ i;unfold jq;simp only[ak hi,bp hi,dM,wM,aG hi (by omega:l.length≤9223372036854775807),tb hx,aqM,aq0,arI,aF (show(fj g l ⟨mf,mn,mu⟩ i).length+1≤4294967296 by omega)];rcases asf i (tw g l) with hlt | heq | hgt
  ·have h1:bef mf mn l[i].mf l[i].mn=false:=by simpa[g] using Xv g hlt hx
   have h2:decide (tw g l < i)=false:=by simp;omega
   have h3:decide (tw g l < i+1)=false:=by simp;omega
   simp only[h1,h2,h3,eL,aqv,aqm,aq7,are,aqV,aqr,aS,dM,tb hx,ak hi,aF (show(fj g l ⟨mf,mn,mu⟩ i).length+1≤4294967296 by omega),XY hx hlt,aG hi (by omega:l.length≤9223372036854775807)]
  ·have hx2:l[tw g l]? =some l[i]:=by rw[← heq];exact hx
   have h1:bef mf mn l[i].mf l[i].mn=true:=by simpa[g] using Xw g hx2
   have h2:decide (tw g l < i)=false:=by simp;omega
   have h3:decide (tw g l < i+1)=true:=by simp;omega
   have h4:fj g l ⟨mf,mn,mu⟩ i++[⟨mf,mn,mu⟩]++[l[i]]=fj g l ⟨mf,mn,mu⟩ (i+1):=X0 hx heq;simp only[h1,h2,h3,h4,eL,aqv,aqm,aq7,are,ar6,aS,dM,tb hx,ak hi,aqD,aqM,aq0,arI,aF (show(fj g l ⟨mf,mn,mu⟩ i).length+1+1≤4294967296 by omega),aG hi (by omega:l.length≤9223372036854775807)]
  ·have h2:decide (tw g l < i)=true:=by simp;omega
   have h3:decide (tw g l < i+1)=true:=by simp;omega
   simp only[h2,h3,c9,aqu,aqm,aqz,aqr,aS,dM,tb hx,ak hi,aF (show(fj g l ⟨mf,mn,mu⟩ i).length+1≤4294967296 by omega),XZ hx hgt,aG hi (by omega:l.length≤9223372036854775807)]
 unfold ew;simp only[h,dO];have he:=Vd g l ⟨mf,mn,mu⟩;have hr:=Ev g l ⟨mf,mn,mu⟩ l.length;unfold ZY;show _=some ((ins g l _,()),());rw[← he];by_cases hc:tw g l < l.length
 ·simp[hc]
 ·simp[hc,aF (show(fj g l ⟨mf,mn,mu⟩ l.length).length+1≤4294967296 by omega)]
def CO(t:Int)(l:List Mark):List Mark:=l.filter fun x=>decide (t < x.mu)
def xE{α:Type}{l:List α}{f:α→Bool}{i:Nat}{x:α}(h:l[i]? =some x):(l.take (i+1)).filter f=(l.take i).filter f++(if f x then [x] else []):=by
 rw[← Ep h,aud];congr 1;cases hf:f x<;>simp[hf]
def AU{α:Type}{l:List α}{f:α→Bool}{i:Nat}:((l.take i).filter f).length≤l.length:=by
 have:=arM f (l.take i);simp at this;omega
def RF{id ti nx t:Int}{held:List ajT}{marks:List Mark}{inbox:List ajT}(sm:aj7 held marks inbox):qD ((id,ti,nx,held,marks,inbox,()),t,())=some (((id,t,nx,sV t held,CO t marks,inbox,()),()),()):=by
 have hl:=sm.hl;have ml:=sm.ml;have h0:oH (t,(id,ti,nx,held,marks,inbox,()),(0,0,0,[],[],[],()),(id,t,nx,[],[],inbox,()),held,(held.length:Int),0,())=some (.inr (t,(id,ti,nx,held,marks,inbox,()),(0,0,0,[],[],[],()),(id,t,nx,sV t held,[],inbox,()),())):=by
  rw[show sV t held=(held.take held.length).filter (fun x=>decide (t < x.un)) by rw[arC];rfl];refine cO (fun i=>(t,(id,ti,nx,held,marks,inbox,()),(0,0,0,[],[],[],()),(id,t,nx,(held.take i).filter (fun x=>decide (t < x.un)),[],inbox,()),held,(held.length:Int),(i:Int),())) held.length (fun i hi=> ?_) (by simp[nS]);have hx:=aqC hi;have hr:=AU (l:=held) (f:=fun x=>decide (t < x.un)) (i:=i);unfold nS;simp only[ak hi,bp hi,cL,iM hx,aG hi (by omega:held.length≤9223372036854775807),xE hx,aqM,aq0,arI,aF (show((held.take i).filter (fun x=>decide (t < x.un))).length+1≤4294967296 by omega)];by_cases hc:t < held[i].un<;>simp[hc]
 have h1:oG (t,(0,0,0,[],[],[],()),(id,t,nx,sV t held,[],inbox,()),marks,(marks.length:Int),0,())=some (.inr ((0,0,0,[],[],[],()),(id,t,nx,sV t held,CO t marks,inbox,()),())):=by
  rw[show CO t marks=(marks.take marks.length).filter (fun x=>decide (t < x.mu)) by rw[arC];rfl];refine cO (fun i=>(t,(0,0,0,[],[],[],()),(id,t,nx,sV t held,(marks.take i).filter (fun x=>decide (t < x.mu)),inbox,()),marks,(marks.length:Int),(i:Int),())) marks.length (fun i hi=> ?_) (by simp[nR]);have hx:=aqC hi;have hr:=AU (l:=marks) (f:=fun x=>decide (t < x.mu)) (i:=i);unfold nR;simp only[ak hi,bp hi,dM,tb hx,aG hi (by omega:marks.length≤9223372036854775807),xE hx,aqM,aq0,arI,aF (show((marks.take i).filter (fun x=>decide (t < x.mu))).length+1≤4294967296 by omega)];by_cases hc:t < marks[i].mu<;>simp[hc]
 unfold qD;simp only[h0,h1,dO]
def P5{id ti nx t:Int}{held:List ajT}{marks:List Mark}{inbox:List ajT}(sm:aj7 held marks inbox):pv ((id,ti,nx,held,marks,inbox,()),t,())=some (((id,t,nx,sV t held,CO t marks,inbox,()),()),()):=by
 have hl:=sm.hl;have ml:=sm.ml;have h0:oe (t,(id,ti,nx,held,marks,inbox,()),(0,0,0,[],[],[],()),[],0,())=some (.inr (t,(id,ti,nx,held,marks,inbox,()),(0,0,0,[],[],[],()),sV t held,())):=by
  rw[show sV t held=(held.take held.length).filter (fun x=>decide (t < x.un)) by rw[arC];rfl];refine cO (fun i=>(t,(id,ti,nx,held,marks,inbox,()),(0,0,0,[],[],[],()),(held.take i).filter (fun x=>decide (t < x.un)),(i:Int),())) held.length (fun i hi=> ?_) (by simp[nD]);have hx:=aqC hi;have hr:=AU (l:=held) (f:=fun x=>decide (t < x.un)) (i:=i);unfold nD;simp only[ak hi,bp hi,cL,iM hx,aG hi (by omega:held.length≤9223372036854775807),xE hx,aqM,aq0,arI,aF (show((held.take i).filter (fun x=>decide (t < x.un))).length+1≤4294967296 by omega)];by_cases hc:t < held[i].un<;>simp[hc]
 have h1:od (t,(id,ti,nx,held,marks,inbox,()),(0,0,0,[],[],[],()),sV t held,[],0,())=some (.inr (t,(id,ti,nx,held,marks,inbox,()),(0,0,0,[],[],[],()),sV t held,CO t marks,())):=by
  rw[show CO t marks=(marks.take marks.length).filter (fun x=>decide (t < x.mu)) by rw[arC];rfl];refine cO (fun i=>(t,(id,ti,nx,held,marks,inbox,()),(0,0,0,[],[],[],()),sV t held,(marks.take i).filter (fun x=>decide (t < x.mu)),(i:Int),())) marks.length (fun i hi=> ?_) (by simp[nC]);have hx:=aqC hi;have hr:=AU (l:=marks) (f:=fun x=>decide (t < x.mu)) (i:=i);unfold nC;simp only[ak hi,bp hi,dM,tb hx,aG hi (by omega:marks.length≤9223372036854775807),xE hx,aqM,aq0,arI,aF (show((marks.take i).filter (fun x=>decide (t < x.mu))).length+1≤4294967296 by omega)];by_cases hc:t < marks[i].mu<;>simp[hc]
 unfold pv;simp only[h0,h1,dO]
def IW(l:List ajT)(i:Nat):List ajT:=l.take i++l.drop (i+1)
def RB{l:List ajT}{i:Nat}(hl:l.length≤1048576)(hi:i < l.length):iS (l,(i:Int),())=some ((IW l i,()),()):=by
 unfold iS;have h1:(decide (0≤(i:Int))&&decide ((i:Int)≤(l.length:Int)))=true:=by simp;omega
 have h2:(decide (0≤((i+1:Nat):Int))&&decide (((i+1:Nat):Int)≤(l.length:Int)))=true:=by simp;omega
 simp only[aG hi (by omega:l.length≤9223372036854775807),h1,h2,aqm,aqJ,arF,aq0,arI,arm,aru];rw[aqh (aF (by omega)),aqh (aF (by omega))];rfl
end Go.VS
namespace Go.VS
open Go
def B_L(s:aqp):B (L s)=s:=oX rfl
def mL(l:List UInt8):Prop:= ∀ b∈l,b≠32
def mV: ∀ (l:List UInt8),mL l∨ ∃ w r,mL w∧l=w++32::r
 | []=> .inl (fun _ h=>by cases h)
 | b::l=>by
  by_cases h:b=32
  ·exact .inr ⟨[],l,(fun _ h=>by cases h),by rw[h];rfl⟩
  ·rcases mV l with h1 | ⟨w,r,h1,h2⟩
   ·refine .inl (fun x hx=> ?_);rcases aqS.1 hx with rfl | hx
    ·exact h
    ·exact h1 x hx
   ·refine .inr ⟨b::w,r,fun x hx=> ?_,by rw[h2];rfl⟩;rcases aqS.1 hx with rfl | hx
    ·exact h
    ·exact h1 x hx
def Ry: ∀ {l:List UInt8},mL l→Lib.index l [32]= -1
 | [],_=>rfl
 | b::l,h=>by
  rw[Lib.index_one];unfold Lib.indexByte;have h1:=h b aqA;rw[aqg (by simpa using h1),← Lib.index_one,Ry (fun x hx=>h x (aqx _ hx))];rfl
def Rz: ∀ {w r:List UInt8},mL w→Lib.index (w++32::r) [32]=w.length
 | [],r,_=>by rw[Lib.index_one];rfl
 | b::w,r,h=>by
  rw[Lib.index_one,asv];unfold Lib.indexByte;have h1:=h b aqA;rw[aqg (by simpa using h1),← Lib.index_one,Rz (fun x hx=>h x (aqx _ hx)),aqg (by simp)];simp
def ajh{l:List UInt8}(h:mL l):asA l [32]=(l,[],false):=by
 unfold asA;rw[Ry h,aqg (by omega)]
def aji{w r:List UInt8}(h:mL w):asA (w++32::r) [32]=(w,r,true):=by
 unfold asA;rw[Rz h,aqh (by omega)];simp
def agb{s:aqp}(hs:s.size≤1048576)(h:mL (L s)):mR (s,B [32],())=some ((s,noB,false,()),()):=by
 show aaQ _=_;unfold aaQ;rw[aqh (by show s.size < _;omega)];show some ((B (asA (L s) [32]).1,B (asA (L s) [32]).2.1,(asA (L s) [32]).2.2,()),())=_;rw[ajh h];show some ((B (L s),noB,false,()),())=_;rw[B_L]
def agc{s:aqp}{w r:List UInt8}(hs:s.size≤1048576)(h:mL w)(e:L s=w++32::r):mR (s,B [32],())=some ((B w,B r,true,()),()):=by
 show aaQ _=_;unfold aaQ;rw[aqh (by show s.size < _;omega)];show some ((B (asA (L s) [32]).1,B (asA (L s) [32]).2.1,(asA (L s) [32]).2.2,()),())=_;rw[e,aji h]
def agl{s:aqp}{i:Nat}:decide (bt s i=32)=decide ((L s).getD i 0=32):=by
 rw[decide_eq_decide,wE];exact⟨fun h=>atc.1 (by show _=32;omega),fun h=>by rw[h];rfl⟩
def U0{s:aqp}(hs:s.size≤1048576):ph (s,0,())=some (if oV s.size (fun i=>decide (bt s i=32)) < 0 then .inr (s,()) else
  .inl (s.extract 0 (oV s.size (fun i=>decide (bt s i=32))).toNat,s.extract ((oV s.size (fun i=>decide (bt s i=32))).toNat+1) s.size,())):=
 rG (fun i=>(s,(i:Int),())) s.size (fun i=>decide (bt s i=32)) (fun i=>(s.extract 0 i.toNat,s.extract (i.toNat+1) s.size,())) (s,()) (fun i hi=>by
  have h1:(decide (0≤(i:Int))&&decide ((i:Int)≤(s.size:Int)))=true:=by simp;omega
  have h2:(decide (0≤((i+1:Nat):Int))&&decide (((i+1:Nat):Int)≤(s.size:Int)))=true:=by simp;omega
  unfold pj;simp only[ak hi,bp hi,aG hi (by omega:s.size≤9223372036854775807),h1,h2,aqm,aqJ];cases decide (bt s i=32)<;>rfl) (by simp[pj])
def afT{n:Nat}{p:Nat→Bool}(h: ∀ i,i < n→p i=false):oV n p= -1:=by
 rcases bF n p with⟨h1,_⟩ | ⟨i,h1,h2,h3,_⟩
 ·exact h1
 ·rw[h i h2]at h3;cases h3
def YK{n i:Nat}{p:Nat→Bool}(hi:i < n)(hp:p i=true)(h: ∀ j,j < i→p j=false):oV n p=i:=by
 rcases bF n p with⟨_,h1⟩ | ⟨j,h1,h2,h3,h4⟩
 ·rw[h1 i hi]at hp;cases hp
 ·rcases asf i j with h5 | h5 | h5
  ·rw[h4 i h5]at hp;cases hp
  ·rw[h1,h5]
  ·rw[h j h5]at h3;cases h3
def afL{w r:List UInt8}{b:UInt8}:(w++b::r).getD w.length 0=b:=by simp
def abD{w r:List UInt8}{j:Nat}(h:j < w.length):(w++r).getD j 0∈w:=by
 rw[aqE,arO h,aqC h];exact ark h
def afK{l:List UInt8}{j:Nat}(h:j < l.length):l.getD j 0∈l:=by
 rw[aqE,aqC h];exact ark h
def ab1{s:aqp}(hs:s.size≤1048576)(h:mL (L s)):fg (s,())=some ((s,noB,()),()):=by
 unfold fg;simp only[U0 hs];rw[afT (fun i hi=>by rw[agl];simpa using h _ (afK (by rw[aN];exact hi)))];rfl
def ab2{s:aqp}{w r:List UInt8}(hs:s.size≤1048576)(h:mL w)(e:L s=w++32::r):fg (s,())=some ((B w,B r,()),()):=by
 have hl:s.size=w.length+1+r.length:=by
  have:=congrArg asG e;rw[aN]at this;simp at this;omega
 unfold fg;simp only[U0 hs];rw[YK (i:=w.length) (by omega) (by rw[agl,e,afL];rfl) (fun j hj=>by rw[agl,e];simpa using h _ (abD hj)),aqg (by omega)];have e1:s.extract 0 w.length=B w:=oX (by rw[jd,e,L_B];simp);have e2:s.extract (w.length+1) s.size=B r:=oX (by rw[jd,e,L_B,hl,show w++32::r=(w++[32])++r by simp,atd (by simp),show w.length+1+r.length - (w.length+1)=r.length by omega,arC]);simp only[yG,aqJ,e1,e2]
def wr(n:ajT):aqp:=((((((((cj n.fr++B [32])++cj n.nu)++B [32])++cj n.to)++B [32])++cj n.un)++B [32])++n.tx)
def wrL(n:ajT):List UInt8:=Lib.itoa n.fr++32::(Lib.itoa n.nu++32::(Lib.itoa n.to++32::(Lib.itoa n.un++32::L n.tx)))
def Tv(n:Int):L (cj n)=Lib.itoa n:=rfl
def ad1(n:ajT):L (wr n)=wrL n:=by
 unfold wr wrL;simp only[rp,Tv,L_B,aqP,asv,arF]
def aap{n:Int}{k:Nat}(h0:0≤n)(h1:n < 10 ^ k)(hk:1≤k):Lib.itoa n=dcm n.toNat∧(Lib.itoa n).length≤k:=by
 obtain⟨u,rfl⟩:=arz h0;rw[iR];refine⟨rfl,sD k u hk ?_⟩;have:((10 ^ k:Nat):Int)=(10:Int) ^ k:=by simp
 omega
structure akQ (n:ajT):Prop where
 f0:0≤n.fr
 f1:n.fr≤3
 t0:0≤n.to
 t1:n.to≤3
 n0:1≤n.nu
 n1:n.nu≤99
 u0:1≤n.un
 u1:n.un≤999
 s0:1≤n.tx.size
 s1:n.tx.size≤24
def kI{n:ajT}(h:aB n=true):akQ n:=by
 unfold aB Tx at h;simp only[aqt,ae]at h;obtain⟨⟨a,b⟩,⟨c,d⟩,⟨e,f⟩,⟨g,i⟩,⟨j,k⟩,_⟩:=h;exact⟨a,b,c,d,e,f,g,i,by omega,by omega⟩
def de{n:Int}{k:Nat}(h0:0≤n)(h1:n < 10 ^ k)(hk:1≤k):(cj n).size≤k:=(aap h0 h1 hk).2
def ma{fr nu tt un:Int}{tx:aqp}(hs:tx.size≤1048576):dj ((fr,nu,tt,un,tx,()),())=some ((if aB ⟨fr,nu,tt,un,tx⟩ then wr ⟨fr,nu,tt,un,tx⟩ else noB,()),()):=by
 unfold dj;simp only[sw hs,aqs];rcases tf (aB ⟨fr,nu,tt,un,tx⟩) with h | h
 ·have hf:=kI h;obtain⟨f0,f1,t0,t1,n0,n1,u0,u1,s0,s1⟩:=hf;simp only at f0 f1 t0 t1 n0 n1 u0 u1 s0 s1;have a1:=de (n:=fr) (k:=1) f0 (by omega) (by omega);have a2:=de (n:=nu) (k:=2) (by omega) (by omega) (by omega);have a3:=de (n:=tt) (k:=1) t0 (by omega) (by omega);have a4:=de (n:=un) (k:=3) (by omega) (by omega) (by omega);have b:(B [32]).size=1:=rfl;simp only[h,aqu,aqr,rF (n:=fr) (by omega) (by omega),rF (n:=nu) (by omega) (by omega),rF (n:=tt) (by omega) (by omega),rF (n:=un) (by omega) (by omega),aqs,ay,b]
  repeat rw[aqh (by rw[decide_eq_true_eq];omega)]
  rfl
 ·simp only[h,aqv,aqm,aqr]
def fq{fr nu tt un:Int}{tx:aqp}(hs:tx.size≤1048576):bN ((fr,nu,tt,un,tx,()),())=some ((if aB ⟨fr,nu,tt,un,tx⟩ then wr ⟨fr,nu,tt,un,tx⟩ else noB,()),()):=by
 unfold bN;simp only[x4 hs,aqs];rcases tf (aB ⟨fr,nu,tt,un,tx⟩) with h | h
 ·have hf:=kI h;obtain⟨f0,f1,t0,t1,n0,n1,u0,u1,s0,s1⟩:=hf;simp only at f0 f1 t0 t1 n0 n1 u0 u1 s0 s1;have a1:=de (n:=fr) (k:=1) f0 (by omega) (by omega);have a2:=de (n:=nu) (k:=2) (by omega) (by omega) (by omega);have a3:=de (n:=tt) (k:=1) t0 (by omega) (by omega);have a4:=de (n:=un) (k:=3) (by omega) (by omega) (by omega);have b:(B [32]).size=1:=rfl;simp only[h,aqu,aqr,ba (n:=fr) (by omega) (by omega),ba (n:=nu) (by omega) (by omega),ba (n:=tt) (by omega) (by omega),ba (n:=un) (by omega) (by omega),aqs,ay,b]
  repeat rw[aqh (by rw[decide_eq_true_eq];omega)]
  rfl
 ·simp only[h,aqv,aqm,aqr]
end Go.VS
namespace Go.VS
open Go
def YX:List UInt8→Option (List UInt8×List UInt8)
 | []=>none
 | b::l=>if b=32 then some ([],l) else(YX l).map fun p=>(b::p.1,p.2)
def Ku: ∀ {l:List UInt8},mL l→YX l=none
 | [],_=>rfl
 | b::l,h=>by
  unfold YX;rw[aqg (h b aqA),Ku (fun x hx=>h x (aqx _ hx))];rfl
def Kv: ∀ {w r:List UInt8},mL w→YX (w++32::r)=some (w,r)
 | [],r,_=>rfl
 | b::w,r,h=>by
  rw[asv];unfold YX;rw[aqg (h b aqA),Kv (fun x hx=>h x (aqx _ hx))];rfl
def wd(s:aqp):aqp×aqp:=match YX (L s) with
 | some p=>(B p.1,B p.2)
 | none=>(s,noB)
def Xr{s:aqp}(h:mL (L s)):wd s=(s,noB):=by unfold wd;rw[Ku h]
def FA{s:aqp}{w r:List UInt8}(h:mL w)(e:L s=w++32::r):wd s=(B w,B r):=by unfold wd;rw[e,Kv h]
def Ia(s:aqp):(wd s).1.size≤s.size∧(wd s).2.size≤s.size:=by
 rcases mV (L s) with h | ⟨w,r,h,e⟩
 ·rw[Xr h];exact⟨aqG _,arB _⟩
 ·rw[FA h e];have:=congrArg asG e;rw[aN]at this;simp at this;rw[aO,aO];exact⟨by show w.length≤_;omega,by show r.length≤_;omega⟩
def aec{s:aqp}(hs:s.size≤1048576):fg (s,())=some (((wd s).1,(wd s).2,()),()):=by
 rcases mV (L s) with h | ⟨w,r,h,e⟩
 ·rw[Xr h,ab1 hs h]
 ·rw[FA h e,ab2 hs h e]
def ajA{s:aqp}(hs:s.size≤1048576):mR (s,B [32],())=some (((wd s).1,(wd s).2,(YX (L s)).isSome,()),()):=by
 rcases mV (L s) with h | ⟨w,r,h,e⟩
 ·rw[Xr h,agb hs h,Ku h];rfl
 ·rw[FA h e,agc hs h e,e,Kv h];rfl
def iK(s:aqp):Nat→aqp
 | 0=>s
 | i+1=>(wd (iK s i)).2
def az(s:aqp)(i:Nat):aqp:=(wd (iK s i)).1
def Aw(s:aqp): ∀ i,(iK s i).size≤s.size
 | 0=>aqG _
 | i+1=>ara (Ia (iK s i)).2 (Aw s i)
def Zs(s:aqp)(i:Nat):(az s i).size≤s.size:=ara (Ia _).1 (Aw s i)
def ae2{s:aqp}{n:Nat}(hs:s.size≤1048576)(hn:n≤10):gR (s,(n:Int),())=some (((aqW n).map (fun i=>aV (az s i)),iK s n,()),()):=by
 have h:pn (s,(n:Int),[],0,())=some (.inr (iK s n,(aqW n).map (fun i=>aV (az s i)),())):=by
  refine cO (fun i=>(iK s i,(n:Int),(aqW i).map (fun i=>aV (az s i)),(i:Int),())) n (fun i hi=> ?_) (by simp[po]);have h1:=Aw s i;have h2:=Zs s i;unfold po;simp only[bp hi,aec (show(iK s i).size≤1048576 by omega),aqs,aqm,Am (show(wd (iK s i)).1.size≤9223372036854775807 by have:=(Ia (iK s i)).1;omega),
   ary,List.length_range,aqM,aq0,arI,aF (show i+1≤4294967296 by omega),aG hi (by omega:n≤9223372036854775807),asz,arG,arx,asI]
  rfl
 unfold gR;simp only[h,dO]
def QO{ws:List aqp}(hl:ws.length≤1048577)(hw: ∀ w∈ws,w.size≤1048576):
  gj (ws,())=some ((if db ws.length (fun i=>(bf (ws.getD i noB)).2) then(ws.map (fun w=>(bf w).1),true,()) else([],false,())),()):=by
 have h:mN ([],ws,(ws.length:Int),0,())=some (if db ws.length (fun i=>(bf (ws.getD i noB)).2) then .inr (ws.map (fun w=>(bf w).1),()) else .inl ([],false,())):=by
  rw[show ws.map (fun w=>(bf w).1)=(ws.take ws.length).map (fun w=>(bf w).1) by rw[arC]];refine LO (fun i=>((ws.take i).map (fun w=>(bf w).1),ws,(ws.length:Int),(i:Int),())) ws.length (fun i=>(bf (ws.getD i noB)).2) ([],false,()) ((ws.take ws.length).map (fun w=>(bf w).1),()) (fun i hi _=> ?_) (fun _=>by simp[l7]);have hx:=aqC hi;have hs:=hw _ (ark hi);unfold l7;simp only[ak hi,bp hi,G7,EJ hx,ql (show ws[i].size≤9223372036854775807 by omega),aqs,ary,arm,aqM,aq0,arI,
   aF (show min i ws.length+1≤4294967296 by omega),aG hi (by omega:ws.length≤9223372036854775807)]
  rw[← Ep hx,arG];rcases tf (bf ws[i]).2 with h | h<;>simp[h]
 unfold gj;simp only[h];cases db ws.length (fun i=>(bf (ws.getD i noB)).2)<;>rfl
def jS{w r:List UInt8}{k:Nat}(h:mL w):Lib.splitK [32] 0 (k+1) (w++32::r)=w::Lib.splitK [32] 0 k r:=by
 conv=>lhs;unfold Lib.splitK
 rw[Rz h,aqg (by simp)];show(w++32::r).take (w.length+0)::Lib.splitK [32] 0 k ((w++32::r).drop (w.length+1))=_;rw[asB,as8 rfl,show w++32::r=(w++[32])++r by simp,atd (by simp)]
def Eo{l:List UInt8}{k:Nat}(h:mL l):Lib.splitK [32] 0 k l=[l]:=by
 cases k with
 | zero=>rfl
 | succ k=>
  unfold Lib.splitK;rw[Ry h];rfl
def join:List (List UInt8)→List UInt8
 | []=>[]
 | [x]=>x
 | x::y::l=>x++32::join (y::l)
def acm(k:Nat)(l:List UInt8): ∃ x m,Lib.splitK [32] 0 k l=x::m:=by
 cases k with
 | zero=>exact⟨l,[],rfl⟩
 | succ k=>
  rcases mV l with h | ⟨w,r,h,rfl⟩
  ·exact⟨l,[],Eo h⟩
  ·exact⟨w,_,jS h⟩
def Cu: ∀ (k:Nat) (l:List UInt8),join (Lib.splitK [32] 0 k l)=l
 | 0,_=>rfl
 | k+1,l=>by
  rcases mV l with h | ⟨w,r,h,rfl⟩
  ·rw[Eo h];rfl
  ·rw[jS h];have ih:=Cu k r;obtain⟨x,m,e⟩:=acm k r;rw[e]at ih ⊢;show w++32::join (x::m)=_;rw[ih]
def ajt{ps:List aqp}{ls:List (List UInt8)}(h:ps.map (·.data.toList)=ls):ps=ls.map B:=by
 subst h;rw[ast]
 conv=>lhs;rw[← avd ps]
 exact arK fun s _=>(B_L s).symm
def XK(k:Nat)(s:aqp):Lib.splitB (B [32]) 0 k s=(Lib.splitK [32] 0 k (L s)).map B:=ajt (Lib.splitB_data (B [32]) 0 k s)
def agI{s:aqp}(hs:s.size≤1048576):nq (s,B [32],())=some (((Lib.splitK [32] 0 ((L s).count 32) (L s)).map B,()),()):=by
 show P2 _=_;unfold P2;rw[aqh ⟨by show s.size < _;omega,by show 1≤1;omega⟩];show some ((Lib.splitB (B [32]) 0 (Lib.count (L s) [32]) s,()),())=_;rw[XK,Lib.count_one]
def aeA{s:aqp}(hs:s.size≤1048576):rq (s,B [32],5,())=some (((Lib.splitK [32] 0 (min 5 (s.size+1) - 1) (L s)).map B,()),()):=by
 show Ik _=_;unfold Ik;rw[aqh ⟨by show s.size < _;omega,by show 1≤1;omega,by show(1:Int)≤5;omega,by show(5:Int)≤_;omega⟩];show some ((Lib.splitB (B [32]) 0 (min 5 (s.size+1) - 1) s,()),())=_;rw[XK]
def ae5(u:Nat):mL (dcm u):=fun b hb h=>by
 have:=ae.1 (PD (u+1) u (by omega) b hb);subst h;simp at this
def dF{n:Int}(h0:0≤n):mL (Lib.itoa n):=by
 obtain⟨u,rfl⟩:=arz h0;rw[iR];exact ae5 u
def mr{n:Int}(h0:0≤n)(h1:n < 10000):aV (B (Lib.itoa n))=n:=by
 obtain⟨u,rfl⟩:=arz h0;rw[iR];exact R8 (by rw[aO];exact sD 4 u (by omega) (by omega)) (L_B _)
def fv{n:Int}(h0:0≤n)(h1:n < 100000):bf (B (Lib.itoa n))=(n,true):=by
 obtain⟨u,rfl⟩:=arz h0;rw[iR];exact Lj (by rw[aO];exact sD 5 u (by omega) (by omega)) (L_B _)
open Classical in
def cH (s:aqp):Option ajT:=if h: ∃ n,aB n=true∧wr n=s then some (as3 h) else none
def np{s t:aqp}{x:Int}{r:List UInt8}(h:wd s=(B (Lib.itoa x),B r)):(wd s).1=B (Lib.itoa x)∧L (wd s).2=r:=by rw[h];exact⟨rfl,rfl⟩
def PN{n:ajT}(hf:akQ n){s:aqp}(e:L s=wrL n):az s 0=B (Lib.itoa n.fr)∧az s 1=B (Lib.itoa n.nu)∧az s 2=B (Lib.itoa n.to)∧az s 3=B (Lib.itoa n.un)∧iK s 4=n.tx:=by
 obtain⟨f0,f1,t0,t1,n0,n1,u0,u1,s0,s1⟩:=hf;unfold wrL at e;have e0:=FA (dF f0) e;have c1:L (iK s 1)=_:=(np (t:=s) e0).2;have e1:=FA (dF (show 0≤n.nu by omega)) c1;have c2:L (iK s 2)=_:=(np (t:=s) e1).2;have e2:=FA (dF t0) c2;have c3:L (iK s 3)=_:=(np (t:=s) e2).2;have e3:=FA (dF (show 0≤n.un by omega)) c3;have c4:L (iK s 4)=_:=(np (t:=s) e3).2;exact⟨(np (t:=s) e0).1,(np (t:=s) e1).1,(np (t:=s) e2).1,(np (t:=s) e3).1,oX c4⟩
def ad6{n:ajT}(hf:akQ n):az (wr n) 0=B (Lib.itoa n.fr)∧az (wr n) 1=B (Lib.itoa n.nu)∧az (wr n) 2=B (Lib.itoa n.to)∧az (wr n) 3=B (Lib.itoa n.un)∧iK (wr n) 4=n.tx:=PN hf (ad1 n)
def ae3{n m:ajT}(h1:n.fr=m.fr)(h2:n.nu=m.nu)(h3:n.to=m.to)(h4:n.un=m.un)(h5:n.tx=m.tx):n=m:=by
 cases n;cases m;simp only at h1 h2 h3 h4 h5;subst h1 h2 h3 h4 h5;rfl
def Jt{x y:Int}(h0:0≤x)(h1:x < 10000)(h2:0≤y)(h3:y < 10000)(h:B (Lib.itoa x)=B (Lib.itoa y)):x=y:=by
 rw[← mr h0 h1,← mr h2 h3,h]
def air{n m:ajT}(hn:aB n=true)(hm:aB m=true)(h:wr n=wr m):n=m:=by
 have fn:=kI hn;have fm:=kI hm;have a:=PN fn (s:=wr n) (ad1 n);have b:=PN fm (s:=wr n) (by rw[h];exact ad1 m);clear h hn hm;generalize wr n=s at a b;obtain⟨a0,a1,a2,a3,a4⟩:=a;obtain⟨b0,b1,b2,b3,b4⟩:=b;obtain⟨f0,f1,t0,t1,n0,n1,u0,u1,s0,s1⟩:=fn;obtain⟨g0,g1,v0,v1,m0,m1,w0,w1,z0,z1⟩:=fm;exact ae3 (Jt (by omega) (by omega) (by omega) (by omega) (a0.symm.trans b0)) (Jt (by omega) (by omega) (by omega) (by omega) (a1.symm.trans b1)) (Jt (by omega) (by omega) (by omega) (by omega) (a2.symm.trans b2))
  (Jt (by omega) (by omega) (by omega) (by omega) (a3.symm.trans b3)) (a4.symm.trans b4)
def uY{n:ajT}(h:aB n=true):cH (wr n)=some n:=by
 unfold cH;have hex: ∃ m,aB m=true∧wr m=wr n:=⟨n,h,rfl⟩;rw[dif_pos hex];have:=arV hex;rw[air this.1 h this.2]
def dJ{s:aqp}{n:ajT}(h:cH s=some n):aB n=true∧wr n=s:=by
 unfold cH at h;split at h
 ·rename_i hex;cases h;exact arV hex
 ·cases h
def We{n:ajT}(hf:akQ n):9≤(wr n).size:=by
 obtain⟨f0,f1,t0,t1,n0,n1,u0,u1,s0,s1⟩:=hf;have h: ∀ {x:Int},0≤x→1≤(Lib.itoa x).length:=fun {x} h0=>by
  obtain⟨u,rfl⟩:=arz h0;rw[iR];exact List.length_pos_iff.2 (aaN u)
 rw[← aN,ad1];unfold wrL;have a:=h f0;have b:=h (show 0≤n.nu by omega);have c:=h t0;have d:=h (show 0≤n.un by omega);have e:(L n.tx).length=n.tx.size:=rfl;simp only[aqD,aqM];omega
def Yb(o:Option ajT):(Int×Int×Int×Int×aqp×aqq)×Bool×aqq:=match o with
 | some n=>((n.fr,n.nu,n.to,n.un,n.tx,()),true,())
 | none=>((0,0,0,0,noB,()),false,())
def Bj{s:aqp}(hs:s.size≤1048576):gb (s,())=some (Yb (cH s),()):=by
 unfold gb;have e4:gR (s,4,())=some (([aV (az s 0),aV (az s 1),aV (az s 2),aV (az s 3)],iK s 4,()),()):=ae2 (n:=4) hs (by omega);have hr:=Aw s 4;have i0:inb 0 [aV (az s 0),aV (az s 1),aV (az s 2),aV (az s 3)].length=true:=rfl;have i1:inb 1 [aV (az s 0),aV (az s 1),aV (az s 2),aV (az s 3)].length=true:=rfl;have i2:inb 2 [aV (az s 0),aV (az s 1),aV (az s 2),aV (az s 3)].length=true:=rfl;have i3:inb 3 [aV (az s 0),aV (az s 1),aV (az s 2),aV (az s 3)].length=true:=rfl;have r0: @rd Int (dfl .int) [aV (az s 0),aV (az s 1),aV (az s 2),aV (az s 3)] 0=aV (az s 0):=rfl;have r1: @rd Int (dfl .int) [aV (az s 0),aV (az s 1),aV (az s 2),aV (az s 3)] 1=aV (az s 1):=rfl;have r2: @rd Int (dfl .int) [aV (az s 0),aV (az s 1),aV (az s 2),aV (az s 3)] 2=aV (az s 2):=rfl;have r3: @rd Int (dfl .int) [aV (az s 0),aV (az s 1),aV (az s 2),aV (az s 3)] 3=aV (az s 3):=rfl;simp only[e4,aqs,i0,i1,i2,i3,r0,r1,r2,r3,fq (show(iK s 4).size≤1048576 by omega),aq7,are,aqm,show ∀ c,bg c true=true from fun c=>rfl];generalize hx:(⟨aV (az s 0),aV (az s 1),aV (az s 2),aV (az s 3),iK s 4⟩:ajT)=x at *;by_cases hc:s≠noB∧(if aB x then wr x else noB)=s
 ·obtain⟨h1,h2⟩:=hc;have hok:aB x=true:=by
   rcases tf (aB x) with h | h
   ·exact h
   ·rw[h]at h2;exact absurd h2.symm h1
  rw[hok]at h2;simp only[aqm]at h2;rw[aqg (by simp[h1,hok,h2]),← h2,uY hok];subst hx;simp only[h2];rfl
 ·rw[aqh (by
   by_cases h1:s=noB
   ·simp[h1]
   ·have h2: ¬ (if aB x then wr x else noB)=s:=fun h=>hc ⟨h1,h⟩;simp[h1,h2])]
  cases h:cH s with
  | none=>rfl
  | some n=>
   exfalso;obtain⟨h1,h2⟩:=dJ h;have hf:=kI h1;obtain⟨a0,a1,a2,a3,a4⟩:=ad6 hf;have hsz:=We hf;obtain⟨f0,f1,t0,t1,n0,n1,u0,u1,s0,s1⟩:=hf;rw[h2]at a0 a1 a2 a3 a4;rw[a0,a1,a2,a3,a4,mr (by omega) (by omega),mr (by omega) (by omega),mr (by omega) (by omega),mr (by omega) (by omega)]at hx;have hx:n=x:=hx;subst hx;refine hc ⟨fun e=> ?_,by rw[h1];exact h2⟩;rw[h2,e]at hsz;exact absurd hsz (by decide)
def ack{n:ajT}(hf:akQ n):Lib.splitK [32] 0 4 (wrL n)=[Lib.itoa n.fr,Lib.itoa n.nu,Lib.itoa n.to,Lib.itoa n.un,L n.tx]:=by
 obtain⟨f0,f1,t0,t1,n0,n1,u0,u1,s0,s1⟩:=hf;unfold wrL;rw[jS (dF f0),jS (dF (by omega)),jS (dF t0),jS (dF (by omega))];rfl
def Ct: ∀ (k:Nat) (l:List UInt8),∀ p∈Lib.splitK [32] 0 k l,p.length≤l.length
 | 0,l,p,hp=>by
  obtain rfl:=aq4.1 hp;exact aqG _
 | k+1,l,p,hp=>by
  rcases mV l with h | ⟨w,r,h,rfl⟩
  ·rw[Eo h]at hp;obtain rfl:=aq4.1 hp;exact aqG _
  ·rw[jS h]at hp;rcases aqS.1 hp with rfl | hp
   ·simp
   ·have:=Ct k r p hp;simp;omega
def GO: ∀ (k:Nat) (l:List UInt8),(Lib.splitK [32] 0 k l).length≤k+1
 | 0,l=>aqG _
 | k+1,l=>by
  rcases mV l with h | ⟨w,r,h,rfl⟩
  ·rw[Eo h];simp
  ·rw[jS h];have:=GO k r;simp;omega
def Ol{s:aqp}(hs:s.size≤1048576):jM (s,())=some (Yb (cH s),()):=by
 unfold jM;simp only[aeA hs,aqs];generalize hk:min 5 (s.size+1) - 1=k;have hsz:=Ct k (L s);have hln:=GO k (L s);have hwr: ∀ n,cH s=some n→Lib.splitK [32] 0 k (L s)=[Lib.itoa n.fr,Lib.itoa n.nu,Lib.itoa n.to,Lib.itoa n.un,L n.tx]:=fun n hn=>by
  obtain⟨h1,h2⟩:=dJ hn;have:=We (kI h1);rw[h2]at this;obtain rfl:k=4:=by omega
  rw[← h2,ad1];exact ack (kI h1)
 generalize Lib.splitK [32] 0 k (L s)=ps at *;by_cases h5:ps.length=5
 ·match ps,h5 with
  | [p0,p1,p2,p3,p4],_=>
   have hb: ∀ p∈[p0,p1,p2,p3,p4],(B p).size≤1048576:=fun p hp=>by
    have:=hsz p hp;rw[aN]at this;rw[aO];omega
   have e5:(!decide (((([p0,p1,p2,p3,p4]:List (List UInt8)).map B).length:Int)=5))=false:=rfl;have e6:(decide (0≤4)&&decide ((4:Int)≤((([p0,p1,p2,p3,p4]:List (List UInt8)).map B).length:Int)))=true:=rfl;have e7:aqR (aqy 4) (([p0,p1,p2,p3,p4]:List (List UInt8)).map B)=[B p0,B p1,B p2,B p3]:=rfl;simp only[e5,e6,e7,aqm,aqr];rw[QO (by simp) (fun w hw=>by
    simp only[aqS,auq,or_false]at hw;rcases hw with rfl | rfl | rfl | rfl
    ·exact hb p0 (by simp)
    ·exact hb p1 (by simp)
    ·exact hb p2 (by simp)
    ·exact hb p3 (by simp))]
   have aoA:db [B p0,B p1,B p2,B p3].length (fun i=>(bf ([B p0,B p1,B p2,B p3].getD i noB)).2)=((bf (B p0)).2&&((bf (B p1)).2&&((bf (B p2)).2&&((bf (B p3)).2&&true)))):=rfl;rw[aoA];rcases tf ((bf (B p0)).2&&((bf (B p1)).2&&((bf (B p2)).2&&((bf (B p3)).2&&true)))) with ha | ha
   ·rw[ha];simp only[aqm,aqs,aqu,aqr,arx,asI];have i0:inb 0 [(bf (B p0)).1,(bf (B p1)).1,(bf (B p2)).1,(bf (B p3)).1].length=true:=rfl;have i1:inb 1 [(bf (B p0)).1,(bf (B p1)).1,(bf (B p2)).1,(bf (B p3)).1].length=true:=rfl;have i2:inb 2 [(bf (B p0)).1,(bf (B p1)).1,(bf (B p2)).1,(bf (B p3)).1].length=true:=rfl;have i3:inb 3 [(bf (B p0)).1,(bf (B p1)).1,(bf (B p2)).1,(bf (B p3)).1].length=true:=rfl;have i4:inb 4 [B p0,B p1,B p2,B p3,B p4].length=true:=rfl;have r0: @rd Int (dfl .int) [(bf (B p0)).1,(bf (B p1)).1,(bf (B p2)).1,(bf (B p3)).1] 0=(bf (B p0)).1:=rfl;have r1: @rd Int (dfl .int) [(bf (B p0)).1,(bf (B p1)).1,(bf (B p2)).1,(bf (B p3)).1] 1=(bf (B p1)).1:=rfl;have r2: @rd Int (dfl .int) [(bf (B p0)).1,(bf (B p1)).1,(bf (B p2)).1,(bf (B p3)).1] 2=(bf (B p2)).1:=rfl;have r3: @rd Int (dfl .int) [(bf (B p0)).1,(bf (B p1)).1,(bf (B p2)).1,(bf (B p3)).1] 3=(bf (B p3)).1:=rfl;have r4: @rd aqp (dfl .str) [B p0,B p1,B p2,B p3,B p4] 4=B p4:=rfl;have hp4:=hb p4 (by simp);simp only[i0,i1,i2,i3,i4,r0,r1,r2,r3,r4,aqm,sw hp4,ma hp4,aqs,aq7,are,show ∀ c,bg c true=true from fun c=>rfl];generalize hx:(⟨(bf (B p0)).1,(bf (B p1)).1,(bf (B p2)).1,(bf (B p3)).1,B p4⟩:ajT)=x at *;by_cases hc:aB x=true∧wr x=s
    ·obtain⟨h1,h2⟩:=hc;rw[aqg (by simp[h1,h2]),← h2,uY h1];subst hx;rfl
    ·rw[aqh (by
      rcases tf (aB x) with h1 | h1
      ·have h2: ¬ wr x=s:=fun h=>hc ⟨h1,h⟩;simp[h1,h2]
      ·simp[h1])]
     cases h:cH s with
     | none=>rfl
     | some n=>
      exfalso;obtain⟨h1,h2⟩:=dJ h;have hf:=kI h1;have hp:=hwr n h;simp only[as9,and_true]at hp;obtain⟨rfl,rfl,rfl,rfl,rfl⟩:=hp;obtain⟨f0,f1,t0,t1,n0,n1,u0,u1,s0,s1⟩:=hf;rw[fv (by omega) (by omega),fv (by omega) (by omega),fv (by omega) (by omega),fv (by omega) (by omega),B_L]at hx;have hx:n=x:=hx;subst hx;exact hc ⟨h1,h2⟩
   ·rw[ha];simp only[aqs,aqv,aqm,aqr];cases h:cH s with
    | none=>rfl
    | some n=>
     exfalso;obtain⟨h1,h2⟩:=dJ h;have hf:=kI h1;have hp:=hwr n h;simp only[as9,and_true]at hp;obtain⟨rfl,rfl,rfl,rfl,rfl⟩:=hp;obtain⟨f0,f1,t0,t1,n0,n1,u0,u1,s0,s1⟩:=hf;rw[fv (by omega) (by omega),fv (by omega) (by omega),fv (by omega) (by omega),fv (by omega) (by omega)]at ha;cases ha
 ·have e5:(!decide (((ps.map B).length:Int)=5))=true:=by simp;omega
  simp only[e5,aqm];cases h:cH s with
  | none=>rfl
  | some n=>
   have:=congrArg asG (hwr n h);simp at this;exact absurd this h5
end Go.VS
namespace Go.VS
open Go
abbrev KL:=Int×Int×Int×List ajT×List Mark×List ajT×aqq
abbrev tK(k:ajZ):KL:=(k.id,k.ti,k.nx,k.held,k.marks,k.inbox,())
def aka(r:Option ((KL×Bool×aqq)×aqq))(o:Option ajZ):Prop:=match o with
 | some k=>r=some ((tK k,true,()),())
 | none=> ∃ t,r=some ((t,false,()),())
def aka.no{t:KL}:aka (some ((t,false,()),())) none:=⟨t,rfl⟩
def aka.eta{r:Option ((KL×Bool×aqq)×aqq)}{o:Option ajZ}(h:aka r o):
  aka (r.bind fun r=>some (((r.1.1.1,r.1.1.2.1,r.1.1.2.2.1,r.1.1.2.2.2.1,r.1.1.2.2.2.2.1,r.1.1.2.2.2.2.2.1,()),r.1.2.1,()),())) o:=by
 cases o with
 | some k=>
  have:r=_:=h;subst this;rfl
 | none=>
  obtain⟨t,rfl⟩:=h;exact⟨t,rfl⟩
def aka.ite{c:Bool}{a b:Option ((KL×Bool×aqq)×aqq)}{x y:Option ajZ}(h1:c=true→aka a x)(h2:c=false→aka b y):aka (if c then a else b) (if c then x else y):=by
 cases c
 ·exact h2 rfl
 ·exact h1 rfl
def aka.neg{c:Bool}{t:KL}{b:Option ((KL×Bool×aqq)×aqq)}{y:Option ajZ}(h2:c=false→aka b y):aka (if c then some ((t,false,()),()) else b) (if c then none else y):=aka.ite (fun _=>aka.no) h2
def Ek(k:ajZ)(n:ajT):Option ajZ:=
 if !aB n then none else if decide (n.un≤k.ti) then none else if decide (0≤aP k.held n.fr n.nu) then none else if decide (0≤aP k.inbox n.fr n.nu) then none else if decide (0≤gH k.marks n.fr n.nu) then none else
 if decide (12 < (k.held.length:Int)+k.marks.length+1) then none else
 if decide (n.to=k.id) then some ⟨k.id,k.ti,k.nx,k.held,zi k.marks ⟨n.fr,n.nu,n.un⟩,tJ k.inbox n⟩ else some ⟨k.id,k.ti,k.nx,tJ k.held n,k.marks,k.inbox⟩
def FX{id ti nx fr nu tt un:Int}{tx:aqp}{held:List ajT}{marks:List Mark}{inbox:List ajT}(sm:aj7 held marks inbox)(hs:tx.size≤1048576):
  aka (mZ ((id,ti,nx,held,marks,inbox,()),(fr,nu,tt,un,tx,()),())) (Ek ⟨id,ti,nx,held,marks,inbox⟩ ⟨fr,nu,tt,un,tx⟩):=by
 have hl:=sm.hl;have ml:=sm.ml;unfold mZ Ek;simp only[sw hs,dY sm.hl,dY sm.il,jZ sm.ml,sr sm.hl,sr sm.il,yh sm.ml,aqs,
  ah (n:=(held.length:Int)+marks.length) (by omega) (by omega),ah (n:=(held.length:Int)+marks.length+1) (by omega) (by omega)]
 exact aka.neg fun _=>aka.neg fun _=>aka.neg fun _=>aka.neg fun _=>aka.neg fun _=>aka.neg fun _=>aka.ite (fun _=>rfl) (fun _=>rfl)
def Pv{l:List ajT}{n:ajT}(h:aP l n.fr n.nu < 0):ZX l n=tJ l n:=by
 refine VD fun x hx=> ?_;have hne: ¬ (x.fr=n.fr∧x.nu=n.nu):=fun hc=>by
  rcases bF l.length (fun i=>decide ((nA l i).fr=n.fr)&&decide ((nA l i).nu=n.nu)) with⟨_,h2⟩ | ⟨i,h1,_⟩
  ·obtain⟨j,hj,rfl⟩:=arn hx;have:=h2 j hj;rw[iM (aqC hj)]at this;simp[hc.1,hc.2]at this
  ·unfold aP at h;omega
 unfold bef;rw[atb];simp;omega
def Qp{l:List Mark}{n:Mark}(h:gH l n.mf n.mn < 0):ZY l n=zi l n:=by
 refine VD fun x hx=> ?_;have hne: ¬ (x.mf=n.mf∧x.mn=n.mn):=fun hc=>by
  rcases bF l.length (fun i=>decide ((mA l i).mf=n.mf)&&decide ((mA l i).mn=n.mn)) with⟨_,h2⟩ | ⟨i,h1,_⟩
  ·obtain⟨j,hj,rfl⟩:=arn hx;have:=h2 j hj;rw[tb (aqC hj)]at this;simp[hc.1,hc.2]at this
  ·unfold gH at h;omega
 unfold bef;rw[atb];simp;omega
def M8{id ti nx fr nu tt un:Int}{tx:aqp}{held:List ajT}{marks:List Mark}{inbox:List ajT}(sm:aj7 held marks inbox)(hs:tx.size≤1048576):
  aka (k9 ((id,ti,nx,held,marks,inbox,()),(fr,nu,tt,un,tx,()),())) (Ek ⟨id,ti,nx,held,marks,inbox⟩ ⟨fr,nu,tt,un,tx⟩):=by
 have hl:=sm.hl;have ml:=sm.ml;have ans:nH ((id,ti,nx,held,marks,inbox,()),(fr,nu,tt,un,tx,()),())=
   some ((aB ⟨fr,nu,tt,un,tx⟩&&(decide (ti < un)&&(decide (aP held fr nu < 0)&&(decide (gH marks fr nu < 0)&&decide (aP inbox fr nu < 0)))),()),()):=by
  unfold nH;simp only[x4 hs,bX sm.hl,bX sm.il,iF sm.ml,aqs,aq7,are,show ∀ c,bg c true=true from fun c=>rfl,aqm];rcases tf (aB ⟨fr,nu,tt,un,tx⟩) with h1 | h1<;>rcases tf (decide (ti < un)) with h2 | h2<;>rcases tf (decide (aP held fr nu < 0)) with h3 | h3<;>simp only[h1,h2,h3,aqm,aqr,aqB,aqz]
 unfold k9 Ek;have akT:=kD (l:=held) (fr:=fr) (nu:=nu) (tt:=tt) (un:=un) (tx:=tx) sm.hl;have amf:=kD (l:=inbox) (fr:=fr) (nu:=nu) (tt:=tt) (un:=un) (tx:=tx) sm.il;have aod:=pw (l:=marks) (mf:=fr) (mn:=nu) (mu:=un) sm.ml;simp only[ans,akT,amf,aod,aqs];rcases tf (aB ⟨fr,nu,tt,un,tx⟩) with h1 | h1
 ·rcases p9 un ti with h2 | h2
  ·simp only[h1,h2,aqn,aqo,aqB,aqz,aqv,aqu,aqm,aqr];exact aka.no
  ·rcases sgn (aP held fr nu) with h3 | h3
   ·rcases sgn (gH marks fr nu) with h4 | h4
    ·rcases sgn (aP inbox fr nu) with h5 | h5
     ·have q1:aP held fr nu < 0:=of_eq_true h3.1;have q2:gH marks fr nu < 0:=of_eq_true h4.1;have q3:aP inbox fr nu < 0:=of_eq_true h5.1;have lN:=AI (fun x:ajT=>bef x.fr x.nu fr nu) held ⟨fr,nu,tt,un,tx⟩;have lM:=AI (fun x:Mark=>bef x.mf x.mn fr nu) marks ⟨fr,nu,un⟩;have eN:ZX held ⟨fr,nu,tt,un,tx⟩=tJ held ⟨fr,nu,tt,un,tx⟩:=Pv q1;have eI:ZX inbox ⟨fr,nu,tt,un,tx⟩=tJ inbox ⟨fr,nu,tt,un,tx⟩:=Pv q3;have eM:ZY marks ⟨fr,nu,un⟩=zi marks ⟨fr,nu,un⟩:=Qp q2;have l1:((tJ held ⟨fr,nu,tt,un,tx⟩).length:Int)=held.length+1:=by unfold tJ;rw[lN];omega
      have l2:((zi marks ⟨fr,nu,un⟩).length:Int)=marks.length+1:=by unfold zi;rw[lM];omega
      simp only[h1,h2,h3,h4,h5,eN,eI,eM,l1,l2,aqn,aqo,aqB,aqu,aqr,
       ah (n:=(held.length:Int)+1+marks.length) (by omega) (by omega),ah (n:=(held.length:Int)+(marks.length+1)) (by omega) (by omega)]
      rcases p9 ((held.length:Int)+marks.length+1) 12 with h6 | h6
      ·have a1:decide ((held.length:Int)+1+marks.length≤12)=true:=by have:=of_eq_true h6.1;simp;omega
       have a2:decide ((held.length:Int)+(marks.length+1)≤12)=true:=by have:=of_eq_true h6.1;simp;omega
       simp only[a1,a2,h6,aqo,aqr];by_cases h7:tt=id
       ·simp only[h7,aqn,aqu,aqr,aqm];rfl
       ·simp only[h7,aqo,aqv,aqr,aqm];rfl
      ·have a1:decide ((held.length:Int)+1+marks.length≤12)=false:=by have:=of_eq_true h6.2;simp;omega
       have a2:decide ((held.length:Int)+(marks.length+1)≤12)=false:=by have:=of_eq_true h6.2;simp;omega
       simp only[a1,a2,h6,aqn,aqm];by_cases h7:tt=id
       ·simp only[h7,aqn,aqu,aqr];exact aka.no
       ·simp only[h7,aqo,aqv,aqm];exact aka.no
     ·simp only[h1,h2,h3,h4,h5,aqn,aqo,aqB,aqz,aqv,aqu,aqm,aqr];exact aka.no
    ·simp only[h1,h2,h3,h4,aqn,aqo,aqB,aqz,aqv,aqu,aqm,aqr,ite_self];exact aka.no
   ·simp only[h1,h2,h3,aqn,aqo,aqB,aqz,aqv,aqu,aqm,aqr];exact aka.no
 ·simp only[h1,aqz,aqv,aqm];exact aka.no
abbrev jf:aqp:=B [116,105,109,101]
abbrev ku:aqp:=B [110,101,120,116]
abbrev q9:aqp:=B [111,119,110]
abbrev jg:aqp:=B [116,97,107,101]
abbrev jh:aqp:=B [104,101,108,100]
abbrev eT:aqp:=B [105,110,98,111,120]
abbrev lG:aqp:=B [108,101,116]
abbrev lH:aqp:=B [101,97,116]
abbrev fa:aqp:=B [109,97,114,107]
def IZ(k:ajZ)(w:aqp)(n:Int):Option ajZ:=
 if decide (w=jf)&&decide (k.ti < n) then some ⟨k.id,n,k.nx,sV n k.held,CO n k.marks,k.inbox⟩ else if decide (w=ku)&&decide (k.nx < n) then some ⟨k.id,k.ti,n,k.held,k.marks,k.inbox⟩ else none
def WV{id ti nx n:Int}{w:aqp}{held:List ajT}{marks:List Mark}{inbox:List ajT}(sm:aj7 held marks inbox):
  aka (qA ((id,ti,nx,held,marks,inbox,()),w,n,())) (IZ ⟨id,ti,nx,held,marks,inbox⟩ w n):=by
 unfold qA IZ;simp only[RF sm,aqs];exact aka.ite (fun _=>rfl) fun _=>aka.ite (fun _=>rfl) fun _=>aka.no
def gO(k:ajZ)(w:aqp)(n:ajT):Option ajZ:=
 if decide (w=q9)&&(decide (n.fr=k.id)&&decide (n.nu=k.nx)) then Ek ⟨k.id,k.ti,k.nx+1,k.held,k.marks,k.inbox⟩ n else if decide (w=jg)&& !decide (n.fr=k.id) then Ek k n else
 if decide (0≤aP k.held n.fr n.nu)||decide (0≤aP k.inbox n.fr n.nu) then none else if decide (w=jh) then some ⟨k.id,k.ti,k.nx,tJ k.held n,k.marks,k.inbox⟩ else if decide (w=eT) then some ⟨k.id,k.ti,k.nx,k.held,k.marks,tJ k.inbox n⟩ else none
def Ue{id ti nx fr nu tt un:Int}{w tx:aqp}{held:List ajT}{marks:List Mark}{inbox:List ajT}(sm:aj7 held marks inbox)(hs:tx.size≤1048576)(h0:0≤nx)(h1:nx≤1000):
  aka (mX ((id,ti,nx,held,marks,inbox,()),w,(fr,nu,tt,un,tx,()),())) (gO ⟨id,ti,nx,held,marks,inbox⟩ w ⟨fr,nu,tt,un,tx⟩):=by
 have hj:(if decide (w=q9) then(some (.inr (w,(id,ti,nx,held,marks,inbox,()),(fr,nu,tt,un,tx,()),(0,0,0,([]:List ajT),([]:List Mark),([]:List ajT),()),decide (fr=id)&&decide (nu=nx),())):Option (((KL×Bool×aqq)×aqq) ⊕ (aqp×KL×(Int×Int×Int×Int×aqp×aqq)×KL×Bool×aqq))) else
   some (.inr (w,(id,ti,nx,held,marks,inbox,()),(fr,nu,tt,un,tx,()),(0,0,0,([]:List ajT),([]:List Mark),([]:List ajT),()),false,())))=
   some (.inr (w,(id,ti,nx,held,marks,inbox,()),(fr,nu,tt,un,tx,()),(0,0,0,([]:List ajT),([]:List Mark),([]:List ajT),()),decide (w=q9)&&(decide (fr=id)&&decide (nu=nx)),())):=by
  cases decide (w=q9)<;>rfl
 unfold mX gO;simp only[hj,aS];refine aka.ite (fun _=> ?_) fun _=> ?_
 ·rw[ah (by omega) (by omega)];exact(FX sm hs).eta
 refine aka.ite (fun _=>(FX sm hs).eta) fun _=> ?_;simp only[dY sm.hl,dY sm.il,aqs,aq7,are,show ∀ c,bg c true=true from fun c=>rfl,aqm];refine aka.neg fun _=> ?_;simp only[sr sm.hl,sr sm.il,aqs];exact aka.ite (fun _=>rfl) fun _=>aka.ite (fun _=>rfl) fun _=>aka.no
end Go.VS
namespace Go.VS
open Go
def nL{l:List ajT}{f n:Int}(h:0≤aP l f n):(aP l f n).toNat < l.length∧((aP l f n).toNat:Int)=aP l f n∧(nA l (aP l f n).toNat).fr=f∧(nA l (aP l f n).toNat).nu=n:=by
 rcases bF l.length (fun i=>decide ((nA l i).fr=f)&&decide ((nA l i).nu=n)) with⟨h1,_⟩ | ⟨i,h1,h2,h3,_⟩
 ·unfold aP at h;omega
 ·have e:aP l f n=(i:Int):=h1;rw[e];simp at h3;exact⟨h2,rfl,h3.1,h3.2⟩
def th{l:List ajT}{f n:Int}(h:0≤aP l f n):inb (aP l f n) l.length=true:=by
 obtain⟨h1,h2,_⟩:=nL h;rw[← h2];exact ak h1
def VG{l:List ajT}{f n:Int}:bg (decide (0≤aP l f n)) (inb (aP l f n) l.length)=true:=by
 rcases tf (decide (0≤aP l f n)) with h | h
 ·rw[h,eL,th (aqk h)]
 ·rw[h,c9]
def Cl(l:List ajT)(m:Mark):Bool:=decide (0≤aP l m.mf m.mn)&&decide ((nA l (aP l m.mf m.mn).toNat).un=m.mu)
def eP(k:ajZ)(w:aqp)(m:Mark):Option ajZ:=
 if decide (w=lG)&&Cl k.held m then some ⟨k.id,k.ti,k.nx,IW k.held (aP k.held m.mf m.mn).toNat,zi k.marks m,k.inbox⟩ else
 if decide (w=lH)&&Cl k.inbox m then some ⟨k.id,k.ti,k.nx,k.held,k.marks,IW k.inbox (aP k.inbox m.mf m.mn).toNat⟩ else
 if decide (w=fa)&& !decide (0≤gH k.marks m.mf m.mn) then some ⟨k.id,k.ti,k.nx,k.held,zi k.marks m,k.inbox⟩ else none
def aid{l:List ajT}{f n:Int}(hl:l.length≤1048576)(h:0≤aP l f n):iS (l,aP l f n,())=some ((IW l (aP l f n).toNat,()),()):=by
 obtain⟨h1,h2,_⟩:=nL h
 conv=>lhs;rw[← h2]
 exact RB hl h1
def Uf{id ti nx a b c:Int}{w:aqp}{held:List ajT}{marks:List Mark}{inbox:List ajT}(sm:aj7 held marks inbox):
  aka (mY ((id,ti,nx,held,marks,inbox,()),w,(a,b,c,()),())) (eP ⟨id,ti,nx,held,marks,inbox⟩ w ⟨a,b,c⟩):=by
 unfold mY eP;simp only[dY sm.hl,dY sm.il,jZ sm.ml,aqs,VG,c9,aqm];have hj:(if decide (w=lG) then(some (.inr (w,(id,ti,nx,held,marks,inbox,()),(a,b,c,()),(0,0,0,([]:List ajT),([]:List Mark),([]:List ajT),()),aP held a b,aP inbox a b,decide (0≤gH marks a b),decide (0≤aP held a b)&&decide ((@rd ajT (dfl .note) held (aP held a b)).un=c),())):Option (((KL×Bool×aqq)×aqq) ⊕ (aqp×KL×(Int×Int×Int×aqq)×KL×Int×Int×Bool×Bool×aqq))) else
   some (.inr (w,(id,ti,nx,held,marks,inbox,()),(a,b,c,()),(0,0,0,([]:List ajT),([]:List Mark),([]:List ajT),()),aP held a b,aP inbox a b,decide (0≤gH marks a b),false,())))=
   some (.inr (w,(id,ti,nx,held,marks,inbox,()),(a,b,c,()),(0,0,0,([]:List ajT),([]:List Mark),([]:List ajT),()),aP held a b,aP inbox a b,decide (0≤gH marks a b),decide (w=lG)&&Cl held ⟨a,b,c⟩,())):=by
  cases decide (w=lG)<;>rfl
 simp only[hj,aS];refine aka.ite (fun h=> ?_) fun _=> ?_
 ·simp only[Cl,aqt,decide_eq_true_eq]at h;simp only[aid sm.hl h.2.1,yh sm.ml,aqs];rfl
 simp only[VG,c9,aqm];have hj2:(if decide (w=lH) then(some (.inr (w,(id,ti,nx,held,marks,inbox,()),(a,b,c,()),(0,0,0,([]:List ajT),([]:List Mark),([]:List ajT),()),aP inbox a b,decide (0≤gH marks a b),decide (0≤aP inbox a b)&&decide ((@rd ajT (dfl .note) inbox (aP inbox a b)).un=c),())):Option (((KL×Bool×aqq)×aqq) ⊕ (aqp×KL×(Int×Int×Int×aqq)×KL×Int×Bool×Bool×aqq))) else
   some (.inr (w,(id,ti,nx,held,marks,inbox,()),(a,b,c,()),(0,0,0,([]:List ajT),([]:List Mark),([]:List ajT),()),aP inbox a b,decide (0≤gH marks a b),false,())))=
   some (.inr (w,(id,ti,nx,held,marks,inbox,()),(a,b,c,()),(0,0,0,([]:List ajT),([]:List Mark),([]:List ajT),()),aP inbox a b,decide (0≤gH marks a b),decide (w=lH)&&Cl inbox ⟨a,b,c⟩,())):=by
  cases decide (w=lH)<;>rfl
 simp only[hj2,aS];refine aka.ite (fun h=> ?_) fun _=> ?_
 ·simp only[Cl,aqt,decide_eq_true_eq]at h;simp only[aid sm.il h.2.1,aqs];rfl
 simp only[yh sm.ml,aqs];exact aka.ite (fun _=>rfl) fun _=>aka.no
structure aj5 (k:ajZ):Prop where
 id0:0≤k.id
 id1:k.id≤3
 t0:0≤k.ti
 t1:k.ti≤999
 n0:1≤k.nx
 n1:k.nx≤100
 hl:k.held.length≤6
 h:dA k.held=true
 ml:k.marks.length≤12
 m:ir k.marks=true
 il:k.inbox.length≤6
 i:dA k.inbox=true
 ho: ∀ i,i < k.held.length→oK k.id k.ti k.nx k.held k.marks i=true
 mo: ∀ i,i < k.marks.length→jL k.id k.ti k.nx k.marks i=true
 io: ∀ i,i < k.inbox.length→nM k.id k.ti k.nx k.marks k.inbox i=true
def bH{k:ajZ}(h:aE k=true):aj5 k:=by
 unfold aE at h;simp only[aqt,ae,decide_eq_true_eq,cw]at h;obtain⟨⟨a,b⟩,⟨c,d⟩,⟨e,f⟩,⟨g,i⟩,⟨j,l⟩,⟨m,n⟩,o,p,q⟩:=h;exact⟨a,b,c,d,e,f,by omega,i,by omega,l,by omega,n,o,p,q⟩
def cG{l:List ajT}(h:dA l=true){i:Nat}(hi:i < l.length):aB (nA l i)=true:=by
 have:=cw.1 h i hi;simp only[aqt]at this;exact this.1
def vJ{l:List Mark}(h:ir l=true){i:Nat}(hi:i < l.length):AF (mA l i)=true:=by
 have:=cw.1 h i hi;simp only[aqt]at this;exact this.1
def Nh{l:List ajT}(h:dA l=true){x:ajT}(hx:x∈l):aB x=true:=by
 obtain⟨i,hi,rfl⟩:=arn hx;have:=cG h hi;rwa[iM (aqC hi)]at this
def Ye{l:List Mark}(h:ir l=true){x:Mark}(hx:x∈l):AF x=true:=by
 obtain⟨i,hi,rfl⟩:=arn hx;have:=vJ h hi;rwa[tb (aqC hi)]at this
def iL{n:ajT}(h:aB n=true):mJ n:=by
 have:=(kI h).s1;unfold mJ;omega
def aj5.sm{k:ajZ}(h:aj5 k):aj7 k.held k.marks k.inbox:=by
 obtain⟨id0,id1,t0,t1,n0,n1,hl,hh,ml,m,il,hi,ho,mo,io⟩:=h;exact⟨by omega,fun x hx=>iL (Nh hh hx),by omega,by omega,fun x hx=>iL (Nh hi hx)⟩
def EH{l:List ajT}{n:ajT}(hl:l.length≤6)(h: ∀ x∈l,mJ x)(hn:mJ n):(tJ l n).length≤1048576∧ ∀ x∈tJ l n,mJ x:=by
 refine⟨by unfold tJ;rw[AI];omega,fun x hx=> ?_⟩;rcases Ju _ hx with rfl | hx
 ·exact hn
 ·exact h x hx
def Jv{l:List Mark}{n:Mark}(hl:l.length≤12):(zi l n).length≤1048576:=by unfold zi;rw[AI];omega
def Pw{l:List ajT}{i:Nat}(hl:l.length≤6)(h: ∀ x∈l,mJ x):(IW l i).length≤1048576∧ ∀ x∈IW l i,mJ x:=by
 refine⟨by unfold IW;simp;omega,fun x hx=> ?_⟩;unfold IW at hx;rcases aqL.1 hx with hx | hx
 ·exact h x (arS hx)
 ·exact h x (asx hx)
abbrev SmK(k:ajZ):Prop:=aj7 k.held k.marks k.inbox
def PG{k k':ajZ}{n:ajT}(hf:aj5 k)(hk:k'.held=k.held∧k'.marks=k.marks∧k'.inbox=k.inbox){o:ajZ}(h:Ek k' n=some o):SmK o:=by
 have sm:=hf.sm;have l1:=hf.hl;have l2:=hf.ml;have l3:=hf.il;unfold Ek at h;rw[hk.1,hk.2.1,hk.2.2]at h;split at h
 ·cases h
 rename_i hn;have hn:mJ n:=iL (by simpa using hn)
 iterate 5 (split at h;· cases h)
 split at h<;>cases h
 ·have a:=EH l3 sm.i hn;exact⟨sm.hl,sm.h,Jv l2,a.1,a.2⟩
 ·have a:=EH l1 sm.h hn;exact⟨a.1,a.2,sm.ml,sm.il,sm.i⟩
def ag6{k:ajZ}{w:aqp}{n:Int}(hf:aj5 k){o:ajZ}(h:IZ k w n=some o):SmK o:=by
 have sm:=hf.sm;have l1:=hf.hl;have l2:=hf.ml;unfold IZ at h;split at h
 ·cases h;have a:=arM (fun x:ajT=>decide (n < x.un)) k.held;have b:=arM (fun x:Mark=>decide (n < x.mu)) k.marks;exact⟨by unfold sV;simp only;omega,fun x hx=>sm.h x (ar3.1 hx).1,by unfold CO;simp only;omega,sm.il,sm.i⟩
 ·split at h<;>cases h;exact sm
def aaG{k:ajZ}{w:aqp}{n:ajT}(hf:aj5 k)(hn:aB n=true){o:ajZ}(h:gO k w n=some o):SmK o:=by
 have sm:=hf.sm;unfold gO at h;split at h
 ·exact PG (k':=⟨k.id,k.ti,k.nx+1,k.held,k.marks,k.inbox⟩) hf ⟨rfl,rfl,rfl⟩ h
 split at h
 ·exact PG (k':=k) hf ⟨rfl,rfl,rfl⟩ h
 split at h
 ·cases h
 split at h
 ·cases h;have a:=EH hf.hl sm.h (iL hn);exact⟨a.1,a.2,sm.ml,sm.il,sm.i⟩
 split at h<;>cases h;have a:=EH hf.il sm.i (iL hn);exact⟨sm.hl,sm.h,sm.ml,a.1,a.2⟩
def aaJ{k:ajZ}{w:aqp}{m:Mark}(hf:aj5 k){o:ajZ}(h:eP k w m=some o):SmK o:=by
 have sm:=hf.sm;unfold eP at h;split at h
 ·cases h;have a:=Pw (i:=(aP k.held m.mf m.mn).toNat) hf.hl sm.h;exact⟨a.1,a.2,Jv hf.ml,sm.il,sm.i⟩
 split at h
 ·cases h;have a:=Pw (i:=(aP k.inbox m.mf m.mn).toNat) hf.il sm.i;exact⟨sm.hl,sm.h,sm.ml,a.1,a.2⟩
 split at h<;>cases h;exact⟨sm.hl,sm.h,Jv hf.ml,sm.il,sm.i⟩
def DX{k:ajZ}{w:aqp}{m:Mark}(hf:aj5 k)(hm:AF m=false):eP k w m=none∨ ∃ o,eP k w m=some o∧aE o=false:=by
 have hit: ∀ l,dA l=true→Cl l m=false:=fun l hl=>by
  unfold Cl;rcases tf (decide (0≤aP l m.mf m.mn)) with h | h
  ·obtain⟨h1,_,h2,h3⟩:=nL (aqk h);rw[h,aqB,decide_eq_false_iff_not];intro h4;have h5:=kI (cG hl h1);have:AF m=true:=by
    unfold AF;simp only[aqt,ae];have:=h5.f0;have:=h5.f1;have:=h5.n0;have:=h5.n1;have:=h5.u0;have:=h5.u1;omega
   rw[this]at hm;cases hm
  ·rw[h];rfl
 unfold eP;rw[hit _ hf.h,hit _ hf.i,aqV,aqV,aqr,aqr];split
 ·refine .inr ⟨_,rfl, ?_⟩;rcases tf (aE ⟨k.id,k.ti,k.nx,k.held,zi k.marks m,k.inbox⟩) with h | h
  ·have:=Ye (bH h).m (ahd (fun x=>bef x.mf x.mn m.mf m.mn) (l:=k.marks) (n:=m) (.inl rfl));rw[hm]at this;cases this
  ·exact h
 ·exact .inl rfl
end Go.VS
namespace Go.VS
open Go
def nZ(r:aqp):Option Mark:=match Lib.splitK [32] 0 ((L r).count 32) (L r) with
 | [p,q,t]=>if(bf (B p)).2&&((bf (B q)).2&&((bf (B t)).2&&true)) then some ⟨(bf (B p)).1,(bf (B q)).1,(bf (B t)).1⟩ else none
 | _=>none
def ck(k:ajZ)(w r:aqp):Option ajZ:=
 if decide (w=jf)||decide (w=ku) then(if(bf r).2 then IZ k w (bf r).1 else none) else
 if decide (w=q9)||(decide (w=jg)||(decide (w=jh)||decide (w=eT))) then(match cH r with | some n=>gO k w n | none=>none) else
 if decide (w=lG)||(decide (w=lH)||decide (w=fa)) then(match nZ r with | some m=>eP k w m | none=>none) else none
def o4(k:ajZ)(rec:aqp):Option ajZ:=if !(YX (L rec)).isSome then none else ck k (wd rec).1 (wd rec).2
def aeo{id ti nx:Int}{w r:aqp}{held:List ajT}{marks:List Mark}{inbox:List ajT}(sm:aj7 held marks inbox)(hr:r.size≤1048576):
  aka ((nq (r,B [32],())).bind fun r46=>(gj (r46.1.1,())).bind fun r47=>
   if r47.1.2.1&&decide ((r47.1.1.length:Int)=3) then(if inb 0 r47.1.1.length then(if inb 1 r47.1.1.length then(if inb 2 r47.1.1.length then
    (mY ((id,ti,nx,held,marks,inbox,()),w,((@rd Int (dfl .int) r47.1.1 0),(@rd Int (dfl .int) r47.1.1 1),(@rd Int (dfl .int) r47.1.1 2),()),())).bind fun r48=>some (((r48.1.1.1,r48.1.1.2.1,r48.1.1.2.2.1,r48.1.1.2.2.2.1,r48.1.1.2.2.2.2.1,r48.1.1.2.2.2.2.2.1,()),r48.1.2.1,()),())
    else none) else none) else none)
   else some (((id,ti,nx,held,marks,inbox,()),false,()),())) (match nZ r with | some m=>eP ⟨id,ti,nx,held,marks,inbox⟩ w m | none=>none):=by
 unfold nZ;simp only[agI hr,aqs];have hsz:=Ct ((L r).count 32) (L r);have hln:=GO ((L r).count 32) (L r);have aqc:(L r).count 32≤r.size:=List.count_le_length;generalize Lib.splitK [32] 0 ((L r).count 32) (L r)=ps at *;have hb: ∀ p∈ps,(B p).size≤1048576:=fun p hp=>by
  have:=hsz p hp;rw[aN]at this;rw[aO];omega
 rw[QO (by simp;omega) (fun w hw=>by
  obtain⟨p,hp,rfl⟩:=arv.1 hw;exact hb p hp)]
 simp only[aqs];by_cases h3:ps.length=3
 ·match ps,h3 with
  | [p,q,t],_=>
   have aoA:db (([p,q,t]:List (List UInt8)).map B).length (fun i=>(bf ((([p,q,t]:List (List UInt8)).map B).getD i noB)).2)=((bf (B p)).2&&((bf (B q)).2&&((bf (B t)).2&&true))):=rfl;rw[aoA];rcases tf ((bf (B p)).2&&((bf (B q)).2&&((bf (B t)).2&&true))) with h | h
   ·simp only[h,aqm];exact(Uf sm).eta
   ·simp only[h,aqr,aqz];exact aka.no
 ·have e1: ∀ c:Bool,(((if c then(((ps.map B).map (fun w=>(bf w).1)),true,()) else(([]:List Int),false,())).2.1&&decide ((((if c then(((ps.map B).map (fun w=>(bf w).1)),true,()) else(([]:List Int),false,())):List Int×Bool×aqq).1.length:Int)=3))=false):=by
   intro c;cases c
   ·rfl
   ·simp;omega
  rw[aqg (by rw[e1];simp)];have e2:(match ps with | [p,q,t]=>if(bf (B p)).2&&((bf (B q)).2&&((bf (B t)).2&&true)) then some (⟨(bf (B p)).1,(bf (B q)).1,(bf (B t)).1⟩:Mark) else none | _=>none)=none:=by
   split
   ·exact absurd rfl h3
   ·rfl
  rw[e2];exact aka.no
def ai0{id ti nx:Int}{w r:aqp}{held:List ajT}{marks:List Mark}{inbox:List ajT}(sm:aj7 held marks inbox)(hr:r.size≤1048576){t:KL}:
  aka ((fQ (r,())).bind fun r33=>if r33.1.2.1 then(qA ((id,ti,nx,held,marks,inbox,()),w,r33.1.1,())).bind fun r34=>some (((r34.1.1.1,r34.1.1.2.1,r34.1.1.2.2.1,r34.1.1.2.2.2.1,r34.1.1.2.2.2.2.1,r34.1.1.2.2.2.2.2.1,()),r34.1.2.1,()),())
   else some ((t,false,()),())) (if(bf r).2 then IZ ⟨id,ti,nx,held,marks,inbox⟩ w (bf r).1 else none):=by
 simp only[ql (show r.size≤9223372036854775807 by omega),aqs];exact aka.ite (fun _=>(WV sm).eta) fun _=>aka.no
def ajs{id ti nx:Int}{w r:aqp}{held:List ajT}{marks:List Mark}{inbox:List ajT}(sm:aj7 held marks inbox)(hr:r.size≤1048576)(h0:0≤nx)(h1:nx≤1000){t:KL}:
  aka ((jM (r,())).bind fun r40=>if r40.1.2.1 then(mX ((id,ti,nx,held,marks,inbox,()),w,(r40.1.1.1,r40.1.1.2.1,r40.1.1.2.2.1,r40.1.1.2.2.2.1,r40.1.1.2.2.2.2.1,()),())).bind fun r41=>
    some (((r41.1.1.1,r41.1.1.2.1,r41.1.1.2.2.1,r41.1.1.2.2.2.1,r41.1.1.2.2.2.2.1,r41.1.1.2.2.2.2.2.1,()),r41.1.2.1,()),())
   else some ((t,false,()),())) (match cH r with | some n=>gO ⟨id,ti,nx,held,marks,inbox⟩ w n | none=>none):=by
 simp only[Ol hr,aqs];cases h:cH r with
 | none=>exact aka.no
 | some n=>
  have:=iL (dJ h).1;exact(Ue sm this h0 h1).eta
def or3{a b c:Bool}{Ω X:Type}{f:Bool→X}:(if a then(some (.inr (f a)):Option (Ω ⊕ X)) else if b then some (.inr (f b)) else some (.inr (f c)))=some (.inr (f (a||(b||c)))):=by cases a<;>cases b<;>rfl
def or2{a b:Bool}{Ω X:Type}{f:Bool→X}:(if a then(some (.inr (f a)):Option (Ω ⊕ X)) else some (.inr (f b)))=some (.inr (f (a||b))):=by cases a<;>rfl
def or4{a b c d:Bool}{Ω X:Type}{f:Bool→X}:(if a then(some (.inr (f a)):Option (Ω ⊕ X)) else if b then some (.inr (f b)) else if c then some (.inr (f c)) else some (.inr (f d)))=some (.inr (f (a||(b||(c||d))))):=by cases a<;>cases b<;>cases c<;>rfl
def Vz{a b:Bool}{Ω X:Type}{f:Bool→X}{g:X→Option Ω}{m:Option (Ω ⊕ X)}(h:m=(if a then(some (.inr (f a)):Option (Ω ⊕ X)) else some (.inr (f b)))):bB g m=g (f (a||b)):=by rw[h,or2];rfl
def adb{a b c:Bool}{Ω X:Type}{f:Bool→X}{g:X→Option Ω}{m:Option (Ω ⊕ X)}(h:m=(if a then(some (.inr (f a)):Option (Ω ⊕ X)) else if b then some (.inr (f b)) else some (.inr (f c)))):bB g m=g (f (a||(b||c))):=by rw[h,or3];rfl
def ada{a b c d:Bool}{Ω X:Type}{f:Bool→X}{g:X→Option Ω}{m:Option (Ω ⊕ X)}(h:m=(if a then(some (.inr (f a)):Option (Ω ⊕ X)) else if b then some (.inr (f b)) else if c then some (.inr (f c)) else some (.inr (f d)))):bB g m=g (f (a||(b||(c||d)))):=by rw[h,or4];rfl
def WW{id ti nx:Int}{rec:aqp}{held:List ajT}{marks:List Mark}{inbox:List ajT}(sm:aj7 held marks inbox)(hr:rec.size≤1048576)(h0:0≤nx)(h1:nx≤1000):
  aka (qC ((id,ti,nx,held,marks,inbox,()),rec,())) (o4 ⟨id,ti,nx,held,marks,inbox⟩ rec):=by
 have hr2:(wd rec).2.size≤1048576:=by have:=(Ia rec).2;omega
 unfold qC o4 ck;simp only[ajA hr,aqs];refine aka.neg fun _=> ?_;rw[Vz (a:=decide ((wd rec).1=jf)) (b:=decide ((wd rec).1=ku)) (f:=fun v=>((id,ti,nx,held,marks,inbox,()),(0,0,0,[],[],[],()),(wd rec).1,(wd rec).2,(wd rec).1,v,())) rfl];refine aka.ite (fun _=>ai0 sm hr2) fun _=> ?_;simp only;rw[ada (a:=decide ((wd rec).1=q9)) (b:=decide ((wd rec).1=jg)) (c:=decide ((wd rec).1=jh)) (d:=decide ((wd rec).1=eT)) (f:=fun v=>((id,ti,nx,held,marks,inbox,()),(0,0,0,[],[],[],()),(wd rec).1,(wd rec).2,(wd rec).1,v,())) rfl];refine aka.ite (fun _=>ajs sm hr2 h0 h1) fun _=> ?_;simp only;rw[adb (a:=decide ((wd rec).1=lG)) (b:=decide ((wd rec).1=lH)) (c:=decide ((wd rec).1=fa)) (f:=fun v=>((id,ti,nx,held,marks,inbox,()),(0,0,0,[],[],[],()),(wd rec).1,(wd rec).2,v,())) rfl];exact aka.ite (fun _=>aeo sm hr2) fun _=>aka.no
def aey{k:ajZ}{rec:aqp}(hf:aj5 k){o:ajZ}(h:o4 k rec=some o):SmK o:=by
 unfold o4 at h;split at h
 ·cases h
 unfold ck at h;split at h
 ·split at h
  ·exact ag6 hf h
  ·cases h
 split at h
 ·cases hn:cH (wd rec).2 with
  | none=>rw[hn]at h;cases h
  | some n=>rw[hn]at h;exact aaG hf (dJ hn).1 h
 split at h
 ·cases hn:nZ (wd rec).2 with
  | none=>rw[hn]at h;cases h
  | some n=>rw[hn]at h;exact aaJ hf h
 ·cases h
def ga(k:ajZ)(rec:aqp):ajZ×Bool:=
 if aE k then(match (o4 k rec).filter aE with | some k'=>(k',true) | none=>(k,false)) else(⟨0,0,0,[],[],[]⟩,false)
def FY{id ti nx:Int}{rec:aqp}{held:List ajT}{marks:List Mark}{inbox:List ajT}(sm:aj7 held marks inbox)(hr:rec.size≤1048576):
  kb ((id,ti,nx,held,marks,inbox,()),rec,())=some ((tK (ga ⟨id,ti,nx,held,marks,inbox⟩ rec).1,(ga ⟨id,ti,nx,held,marks,inbox⟩ rec).2,()),()):=by
 unfold kb ga;simp only[yl sm,BB sm,aqs];rcases tf (aE ⟨id,ti,nx,held,marks,inbox⟩) with h | h
 ·have hf:=bH h;have ha:=WW (id:=id) (ti:=ti) (nx:=nx) sm hr (by have:=hf.n0;simp only at this;omega) (by have:=hf.n1;simp only at this;omega);simp only[h,aqu,aqr,aqm];cases hst:o4 ⟨id,ti,nx,held,marks,inbox⟩ rec with
  | none=>
   rw[hst]at ha;obtain⟨t,ht⟩:=ha;simp only[ht,aqs,aqv,aqu,c9,aqm,aq5];rfl
  | some o=>
   rw[hst]at ha;have sm':=aey hf hst;rw[show qC ((id,ti,nx,held,marks,inbox,()),rec,())=some ((tK o,true,()),()) from ha];simp only[aqs,aqu,aqv,eL,yl sm',BB sm',aq7,are,aqm,aqX,Option.filter_some];rcases tf (aE o) with h2 | h2
   ·simp only[h2,aqu,aqr,aqm]
   ·simp only[h2,aqv,aqr,aqm]
 ·simp only[h,aqv,aqr,aqm]
end Go.VS
namespace Go.VS
open Go
def ZQ{id ti nx a b:Int}{held:List ajT}{marks:List Mark}{inbox:List ajT}(sm:aj7 held marks inbox)(h:0≤aP held a b):
  sb ((id,ti,nx,held,marks,inbox,()),a,b,())=some (((id,ti,nx,IW held (aP held a b).toNat,ZY marks ⟨a,b,(nA held (aP held a b).toNat).un⟩,inbox,()),true,()),()):=by
 obtain⟨h1,h2,_⟩:=nL h;have hl:=sm.hl;unfold sb;have amp:decide (aP held a b < 0)=false:=by simp;omega
 simp only[bX sm.hl,aqs,amp,aqr,th h,aqm];generalize hi:(aP held a b).toNat=i at *;rw[← h2];have e1:(decide (0≤(i:Int))&&decide ((i:Int)≤(held.length:Int)))=true:=by simp;omega
 have e2:(decide (0≤((i+1:Nat):Int))&&decide (((i+1:Nat):Int)≤(held.length:Int)))=true:=by simp;omega
 simp only[aG h1 (by omega:held.length≤9223372036854775807),e1,e2,aqm,aqJ,arF,aq0,arI,arm,aru,cL,pw sm.ml,aqs];rw[aqh (aF (by omega)),aqh (aF (by omega))];rfl
def ZR{id ti nx a b:Int}{held:List ajT}{marks:List Mark}{inbox:List ajT}(sm:aj7 held marks inbox)(h:0≤aP inbox a b):
  sd ((id,ti,nx,held,marks,inbox,()),a,b,())=some (((id,ti,nx,held,marks,IW inbox (aP inbox a b).toNat,()),true,()),()):=by
 obtain⟨h1,h2,_⟩:=nL h;have hl:=sm.il;unfold sd;have amp:decide (aP inbox a b < 0)=false:=by simp;omega
 simp only[bX sm.il,aqs,amp,aqr];generalize hi:(aP inbox a b).toNat=i at *;rw[← h2];have e1:(decide (0≤(i:Int))&&decide ((i:Int)≤(inbox.length:Int)))=true:=by simp;omega
 have e2:(decide (0≤((i+1:Nat):Int))&&decide (((i+1:Nat):Int)≤(inbox.length:Int)))=true:=by simp;omega
 simp only[aG h1 (by omega:inbox.length≤9223372036854775807),e1,e2,aqm,aqJ,arF,aq0,arI,arm,aru];rw[aqh (aF (by omega)),aqh (aF (by omega))];rfl
def Uw(r:aqp):Bool:= !decide (iK r 3=noB)|| !decide (r=((((cj (aV (az r 0))++B [32])++cj (aV (az r 1)))++B [32])++cj (aV (az r 2))))
def mk3(r:aqp):Mark:=⟨aV (az r 0),aV (az r 1),aV (az r 2)⟩
def gF(k:ajZ)(w r:aqp):Option ajZ:=
 if decide (w=jf) then(if decide (aV r≤k.ti) then none else some ⟨k.id,aV r,k.nx,sV (aV r) k.held,CO (aV r) k.marks,k.inbox⟩) else
 if decide (w=q9) then(match cH r with | some n=>if !decide (n.fr=k.id) then none else if !decide (n.nu=k.nx) then none else Ek ⟨k.id,k.ti,k.nx+1,k.held,k.marks,k.inbox⟩ n | none=>none) else
 if decide (w=jg) then(match cH r with | some n=>if decide (n.fr=k.id) then none else Ek k n | none=>none) else
 if decide (w=ku) then(if decide (aV r≤k.nx) then none else some ⟨k.id,k.ti,aV r,k.held,k.marks,k.inbox⟩) else
 if decide (w=jh)||decide (w=eT) then(match cH r with | some n=>if decide (0≤aP k.held n.fr n.nu) then none else if decide (0≤aP k.inbox n.fr n.nu) then none else if decide (w=jh) then some ⟨k.id,k.ti,k.nx,tJ k.held n,k.marks,k.inbox⟩ else some ⟨k.id,k.ti,k.nx,k.held,k.marks,tJ k.inbox n⟩ | none=>none) else
 if Uw r then none else
 if decide (w=lG) then(if !Cl k.held (mk3 r) then none else some ⟨k.id,k.ti,k.nx,IW k.held (aP k.held (mk3 r).mf (mk3 r).mn).toNat,zi k.marks (mk3 r),k.inbox⟩) else
 if decide (w=lH) then(if !Cl k.inbox (mk3 r) then none else some ⟨k.id,k.ti,k.nx,k.held,k.marks,IW k.inbox (aP k.inbox (mk3 r).mf (mk3 r).mn).toNat⟩) else
 if decide (w=fa) then(if decide (0≤gH k.marks (mk3 r).mf (mk3 r).mn) then none else some ⟨k.id,k.ti,k.nx,k.held,zi k.marks (mk3 r),k.inbox⟩) else none
def A5(s:aqp): -1≤aV s∧aV s < 10000:=by
 rcases rP s with⟨h,_⟩ | ⟨n,h,h1,h2⟩
 ·omega
 ·have:n < 10000:=by
   have hv:=Wh 4 (L s) (by rw[aN];omega) (by rw[h2];exact PD (n+1) n (by omega));rw[h2,Pp (n+1) n (by omega)]at hv;omega
  omega
def G5{n:Int}(h0: -1≤n)(h1:n < 10000):(cj n).size≤4:=by
 by_cases h:0≤n
 ·exact de h (by omega) (by omega)
 ·obtain rfl:n= -1:=by omega
  have:cj (-1)=B [45,49]:=by
   apply oX;show Lib.itoa (-1)=_;rw[show(-1:Int)= -((1:Nat):Int) by rfl,Lib.itoa_neg _ (by omega)];show 45::dcm 1=_;rw[jc (by omega)];rfl
  rw[this];decide
def afw{l:List ajT}{m:Mark}:(decide (aP l m.mf m.mn < 0)|| !decide ((@rd ajT (dfl .note) l (aP l m.mf m.mn)).un=m.mu))= !Cl l m:=by
 unfold Cl;rcases sgn (aP l m.mf m.mn) with h | h
 ·simp only[h,aqn,aqo,aq5,aqz,aqv]
 ·simp only[h,aqn,aqo,aqX,aqB];rfl
def afs{l:List ajT}{f n:Int}:bg (!(decide (aP l f n < 0))) (inb (aP l f n) l.length)=true:=by
 rcases sgn (aP l f n) with h | h
 ·simp only[h,aqn,aqu,c9]
 ·simp only[h,aqo,aqv,eL,th (of_eq_true h.2)]
def ZO{id ti nx:Int}{rec:aqp}{held:List ajT}{marks:List Mark}{inbox:List ajT}(hf:aj5 ⟨id,ti,nx,held,marks,inbox⟩)(hr:rec.size≤1048576):
  aka (mT ((id,ti,nx,held,marks,inbox,()),rec,())) (gF ⟨id,ti,nx,held,marks,inbox⟩ (wd rec).1 (wd rec).2):=by
 have sm:aj7 held marks inbox:=hf.sm;have hn0:1≤nx:=hf.n0;have hn1:nx≤100:=hf.n1;have hr2:(wd rec).2.size≤1048576:=by have:=(Ia rec).2;omega
 unfold mT gF;simp only[aec hr,aqs];generalize (wd rec).1=w;generalize (wd rec).2=r at *;simp only[Am (show r.size≤9223372036854775807 by omega),Bj hr2,P5 sm,aqs];refine aka.ite (fun _=>aka.neg fun _=>rfl) fun _=> ?_;refine aka.ite (fun _=> ?_) fun _=> ?_
 ·cases h:cH r with
  | none=>exact aka.no
  | some n=>
   have:=iL (dJ h).1;simp only[Yb,aqu,aqr];refine aka.neg fun _=>aka.neg fun _=> ?_;rw[ah (by omega) (by omega)];exact(M8 sm this).eta
 refine aka.ite (fun _=> ?_) fun _=> ?_
 ·cases h:cH r with
  | none=>exact aka.no
  | some n=>
   have:=iL (dJ h).1;simp only[Yb,aqu,aqX];exact aka.neg fun _=>(M8 sm this).eta
 refine aka.ite (fun _=>aka.neg fun _=>rfl) fun _=> ?_;rw[Vz (a:=decide (w=jh)) (b:=decide (w=eT)) (f:=fun v=>((id,ti,nx,held,marks,inbox,()),(0,0,0,[],[],[],()),w,r,v,())) rfl];refine aka.ite (fun _=> ?_) fun _=> ?_
 ·simp only[Bj hr2,aqs];cases h:cH r with
  | none=>exact aka.no
  | some n=>
   have:=iL (dJ h).1;simp only[Yb,aqu,aqr,bX sm.hl,bX sm.il,aqs];refine aka.neg fun h1=>aka.neg fun h2=> ?_;have e1:ZX held n=tJ held n:=Pv (by simpa using h1);have e2:ZX inbox n=tJ inbox n:=Pv (by simpa using h2);have akT:=kD (l:=held) (fr:=n.fr) (nu:=n.nu) (tt:=n.to) (un:=n.un) (tx:=n.tx) sm.hl;have amf:=kD (l:=inbox) (fr:=n.fr) (nu:=n.nu) (tt:=n.to) (un:=n.un) (tx:=n.tx) sm.il;rw[show(⟨n.fr,n.nu,n.to,n.un,n.tx⟩:ajT)=n from rfl]at akT amf;simp only[akT,amf,e1,e2,aqs];exact aka.ite (fun _=>rfl) fun _=>rfl
 have e3:gR (r,3,())=some (([aV (az r 0),aV (az r 1),aV (az r 2)],iK r 3,()),()):=ae2 (n:=3) hr2 (by omega);have i0:inb 0 [aV (az r 0),aV (az r 1),aV (az r 2)].length=true:=rfl;have i1:inb 1 [aV (az r 0),aV (az r 1),aV (az r 2)].length=true:=rfl;have i2:inb 2 [aV (az r 0),aV (az r 1),aV (az r 2)].length=true:=rfl;have r0: @rd Int (dfl .int) [aV (az r 0),aV (az r 1),aV (az r 2)] 0=aV (az r 0):=rfl;have r1: @rd Int (dfl .int) [aV (az r 0),aV (az r 1),aV (az r 2)] 1=aV (az r 1):=rfl;have r2: @rd Int (dfl .int) [aV (az r 0),aV (az r 1),aV (az r 2)] 2=aV (az r 2):=rfl;have q0:=A5 (az r 0);have q1:=A5 (az r 1);have q2:=A5 (az r 2);have z0:=G5 q0.1 q0.2;have z1:=G5 q1.1 q1.2;have z2:=G5 q2.1 q2.2;have zb:(B [32]).size=1:=rfl;have d1:decide ((cj (aV (az r 0))).size+(B [32]).size≤4611686018427387904)=true:=by rw[zb,decide_eq_true_eq];omega
 have d2:decide ((cj (aV (az r 0))++B [32]).size+(cj (aV (az r 1))).size≤4611686018427387904)=true:=by rw[ay,zb,decide_eq_true_eq];omega
 have d3:decide (((cj (aV (az r 0))++B [32])++cj (aV (az r 1))).size+(B [32]).size≤4611686018427387904)=true:=by rw[ay,ay,zb,decide_eq_true_eq];omega
 have d4:decide ((((cj (aV (az r 0))++B [32])++cj (aV (az r 1)))++B [32]).size+(cj (aV (az r 2))).size≤4611686018427387904)=true:=by rw[ay,ay,ay,zb,decide_eq_true_eq];omega
 simp only[e3,aqs,i0,i1,i2,r0,r1,r2,ba (n:=aV (az r 0)) (by omega) (by omega),ba (n:=aV (az r 1)) (by omega) (by omega),ba (n:=aV (az r 2)) (by omega) (by omega),
  aq7,are,show ∀ c,bg c true=true from fun c=>rfl,aqm,d1,d2,d3,d4]
 refine aka.neg fun _=> ?_;have hmk:mk3 r=⟨aV (az r 0),aV (az r 1),aV (az r 2)⟩:=rfl;generalize aV (az r 0)=a at *;generalize aV (az r 1)=b at *;generalize aV (az r 2)=c at *;rw[hmk];simp only[bX sm.hl,bX sm.il,iF sm.ml,aqs,afs,aqm];refine aka.ite (fun _=> ?_) fun _=> ?_
 ·rw[afw (m:=⟨a,b,c⟩)];refine aka.neg fun h=> ?_;have hh:Cl held ⟨a,b,c⟩=true:=by simpa using h
  simp only[Cl,aqt,decide_eq_true_eq]at hh;obtain⟨g1,g2,g3,g4⟩:=nL hh.1;have ho:=hf.ho _ g1;unfold oK at ho;simp only[aqt,decide_eq_true_eq]at ho;have hm:gH marks a b < 0:=by
   have:=ho.2.2.2;simp only[g3,g4]at this;exact this
  have hM:ZY marks ⟨a,b,c⟩=zi marks ⟨a,b,c⟩:=Qp hm;simp only[ZQ sm hh.1,aqs,hh.2,hM];rfl
 refine aka.ite (fun _=> ?_) fun _=> ?_
 ·rw[afw (m:=⟨a,b,c⟩)];refine aka.neg fun h=> ?_;have hh:Cl inbox ⟨a,b,c⟩=true:=by simpa using h
  simp only[Cl,aqt,decide_eq_true_eq]at hh;simp only[ZR sm hh.1,aqs];rfl
 refine aka.ite (fun _=> ?_) fun _=>aka.no;refine aka.neg fun h=> ?_;have hM:ZY marks ⟨a,b,c⟩=zi marks ⟨a,b,c⟩:=Qp (by simpa using h);simp only[pw sm.ml,aqs,hM];rfl
end Go.VS
namespace Go.VS
open Go
def QD:decide (jf=ku)=false:=by decide
def TH:decide (jf=q9)=false:=by decide
def QC:decide (jf=jg)=false:=by decide
def QF:decide (jf=jh)=false:=by decide
def NN:decide (jf=eT)=false:=by decide
def TI:decide (jf=lG)=false:=by decide
def TJ:decide (jf=lH)=false:=by decide
def QE:decide (jf=fa)=false:=by decide
def C2:decide (ku=jf)=false:=by decide
def TR:decide (ku=q9)=false:=by decide
def QI:decide (ku=jg)=false:=by decide
def QK:decide (ku=jh)=false:=by decide
def NO:decide (ku=eT)=false:=by decide
def TS:decide (ku=lG)=false:=by decide
def TT:decide (ku=lH)=false:=by decide
def QJ:decide (ku=fa)=false:=by decide
def TM:decide (q9=jf)=false:=by decide
def TO:decide (q9=ku)=false:=by decide
def TN:decide (q9=jg)=false:=by decide
def TQ:decide (q9=jh)=false:=by decide
def QH:decide (q9=eT)=false:=by decide
def WE:decide (q9=lG)=false:=by decide
def WG:decide (q9=lH)=false:=by decide
def TP:decide (q9=fa)=false:=by decide
def vB:decide (jg=jf)=false:=by decide
def vC:decide (jg=ku)=false:=by decide
def yb:decide (jg=q9)=false:=by decide
def vD:decide (jg=jh)=false:=by decide
def tH:decide (jg=eT)=false:=by decide
def TK:decide (jg=lG)=false:=by decide
def TL:decide (jg=lH)=false:=by decide
def QG:decide (jg=fa)=false:=by decide
def C5:decide (jh=jf)=false:=by decide
def C7:decide (jh=ku)=false:=by decide
def FM:decide (jh=q9)=false:=by decide
def C6:decide (jh=jg)=false:=by decide
def NQ:decide (jh=eT)=false:=by decide
def TU:decide (jh=lG)=false:=by decide
def TV:decide (jh=lH)=false:=by decide
def QN:decide (jh=fa)=false:=by decide
def Bs:decide (eT=jf)=false:=by decide
def Bu:decide (eT=ku)=false:=by decide
def C4:decide (eT=q9)=false:=by decide
def Bt:decide (eT=jg)=false:=by decide
def Bv:decide (eT=jh)=false:=by decide
def QL:decide (eT=lG)=false:=by decide
def QM:decide (eT=lH)=false:=by decide
def NP:decide (eT=fa)=false:=by decide
def FH:decide (lG=jf)=false:=by decide
def FJ:decide (lG=ku)=false:=by decide
def I4:decide (lG=q9)=false:=by decide
def FI:decide (lG=jg)=false:=by decide
def FL:decide (lG=jh)=false:=by decide
def C3:decide (lG=eT)=false:=by decide
def I5:decide (lG=lH)=false:=by decide
def FK:decide (lG=fa)=false:=by decide
def FN:decide (lH=jf)=false:=by decide
def FP:decide (lH=ku)=false:=by decide
def I6:decide (lH=q9)=false:=by decide
def FO:decide (lH=jg)=false:=by decide
def FR:decide (lH=jh)=false:=by decide
def C8:decide (lH=eT)=false:=by decide
def I7:decide (lH=lG)=false:=by decide
def FQ:decide (lH=fa)=false:=by decide
def vE:decide (fa=jf)=false:=by decide
def vG:decide (fa=ku)=false:=by decide
def yc:decide (fa=q9)=false:=by decide
def vF:decide (fa=jg)=false:=by decide
def vH:decide (fa=jh)=false:=by decide
def tI:decide (fa=eT)=false:=by decide
def yd:decide (fa=lG)=false:=by decide
def ye:decide (fa=lH)=false:=by decide
abbrev flt(o:Option ajZ):Option ajZ:=o.filter aE
def JR{o:Option ajZ}(h:o=none∨ ∃ k,o=some k∧aE k=false):flt o=none:=by
 rcases h with rfl | ⟨k,rfl,h⟩
 ·rfl
 ·simp[flt,Option.filter,h]
def aac:cH noB=none:=by
 cases h:cH noB with
 | none=>rfl
 | some n=>
  obtain⟨h1,h2⟩:=dJ h;have:=We (kI h1);rw[h2]at this;exact absurd this (by decide)
def aga:aV noB= -1:=by
 rcases rP noB with⟨h,_⟩ | ⟨n,_,_,h⟩
 ·exact h
 ·exact absurd h.symm (aaN n)
def Vo(r:aqp):(bf r=(0,false)∧aV r= -1)∨ ∃ n:Nat,bf r=((n:Int),true)∧(aV r=n∨(aV r= -1∧10000≤n)):=by
 rcases rD r with h | ⟨n,h1,h2,h3⟩
 ·refine .inl ⟨h, ?_⟩;rcases rP r with⟨h4,_⟩ | ⟨n,_,h5,h6⟩
  ·exact h4
  ·rw[Lj (by omega) h6]at h;cases h
 ·refine .inr ⟨n,h1, ?_⟩;rcases rP r with⟨h4,h5⟩ | ⟨m,h4,_,h6⟩
  ·refine .inr ⟨h4, ?_⟩;have h7:=h5 n h3;rcases asi n 10000 with h8 | h8
   ·have:=sD 4 n (by omega) (by omega);rw[← h3,aN]at this;omega
   ·exact h8
  ·left;have e:dcm n=dcm m:=h3.symm.trans h6;have:=congrArg val e;rw[Pp (n+1) n (by omega),Pp (m+1) m (by omega)]at this;omega
def abX(a b c:Int):L ((((cj a++B [32])++cj b)++B [32])++cj c)=Lib.itoa a++32::(Lib.itoa b++32::Lib.itoa c):=by
 simp only[rp,Tv,L_B,aqP,asv,arF]
def SV{l:List UInt8}(h:mL l):l.count 32=0:=List.count_eq_zero.2 fun hm=>h 32 hm rfl
def aa8{r:aqp}{a b c:Int}(ha:0≤a)(ha2:a < 100000)(hb:0≤b)(hb2:b < 100000)(hc:0≤c)(hc2:c < 100000)(e:L r=Lib.itoa a++32::(Lib.itoa b++32::Lib.itoa c)):nZ r=some ⟨a,b,c⟩:=by
 unfold nZ;have h2:(L r).count 32=1+1:=by
  rw[e,List.count_append,auT,List.count_append,auT,SV (dF ha),SV (dF hb),SV (dF hc)]
 rw[h2,e,jS (dF ha),jS (dF hb)];show(if(bf (B (Lib.itoa a))).2&&((bf (B (Lib.itoa b))).2&&((bf (B (Lib.itoa c))).2&&true)) then some (⟨(bf (B (Lib.itoa a))).1,(bf (B (Lib.itoa b))).1,(bf (B (Lib.itoa c))).1⟩:Mark) else none)=_;rw[fv ha ha2,fv hb hb2,fv hc hc2];rfl
def WH{p:List UInt8}(h:(bf (B p)).2=true):0≤(bf (B p)).1∧p=Lib.itoa (bf (B p)).1:=by
 rcases rD (B p) with h1 | ⟨n,h1,_,h3⟩
 ·rw[h1]at h;cases h
 ·rw[h1];exact⟨by simp,by rw[iR];exact h3⟩
def aa9{r:aqp}{m:Mark}(h:nZ r=some m):0≤m.mf∧0≤m.mn∧0≤m.mu∧L r=Lib.itoa m.mf++32::(Lib.itoa m.mn++32::Lib.itoa m.mu):=by
 unfold nZ at h;have hj:=Cu ((L r).count 32) (L r);split at h
 ·rename_i p q t hp;rw[hp]at hj;split at h
  ·rename_i hc;simp only[aqt]at hc;cases h;have h1:=WH hc.1;have h2:=WH hc.2.1;have h3:=WH hc.2.2.1;refine⟨h1.1,h2.1,h3.1, ?_⟩;simp only;rw[← h1.2,← h2.2,← h3.2];exact hj.symm
  ·cases h
 ·cases h
def U3{r:aqp}{a b c:Int}(ha:0≤a)(ha2:a < 10000)(hb:0≤b)(hb2:b < 10000)(hc:0≤c)(hc2:c < 10000)(e:L r=Lib.itoa a++32::(Lib.itoa b++32::Lib.itoa c)):Uw r=false∧mk3 r=⟨a,b,c⟩:=by
 have e0:=FA (dF ha) e;have c1:L (iK r 1)=_:=(np (t:=r) e0).2;have e1:=FA (dF hb) c1;have c2:L (iK r 2)=_:=(np (t:=r) e1).2;have e2:=Xr (s:=iK r 2) (by rw[c2];exact dF hc);have w0:az r 0=B (Lib.itoa a):=(np (t:=r) e0).1;have w1:az r 1=B (Lib.itoa b):=(np (t:=r) e1).1;have w2:az r 2=B (Lib.itoa c):=by
  show(wd (iK r 2)).1=_;rw[e2];apply oX;rw[c2,L_B]
 have t3:iK r 3=noB:=by
  show(wd (iK r 2)).2=_;rw[e2]
 have d0:=mr ha ha2;have d1:=mr hb hb2;have d2:=mr hc hc2;refine⟨?_, ?_⟩
 ·unfold Uw;rw[t3,w0,w1,w2,d0,d1,d2];have:r=((((cj a++B [32])++cj b)++B [32])++cj c):=oX (by rw[e,abX]);rw[← this];simp
 ·unfold mk3;rw[w0,w1,w2,d0,d1,d2]
def vI{m:Mark}(h:AF m=true):0≤m.mf∧m.mf≤3∧1≤m.mn∧m.mn≤99∧1≤m.mu∧m.mu≤999:=by
 unfold AF at h;simp only[aqt,ae]at h;omega
def PU{k:ajZ}(hf:aj5 k)(w r:aqp):flt (if Uw r then none else eP k w (mk3 r))=flt (match nZ r with | some m=>eP k w m | none=>none):=by
 rcases tf (AF (mk3 r)) with hm | hm
 ·obtain⟨a0,a1,b0,b1,c0,c1⟩:=vI hm;rcases tf (Uw r) with hc | hc
  ·rw[hc];simp only[aqm];cases h:nZ r with
   | none=>rfl
   | some m=>
    simp only;rcases tf (AF m) with h2 | h2
    ·obtain⟨p0,p1,q0,q1,s0,s1⟩:=vI h2;obtain⟨_,_,_,e⟩:=aa9 h;rw[(U3 (by omega) (by omega) (by omega) (by omega) (by omega) (by omega) e).1]at hc;cases hc
    ·exact(JR (DX hf h2)).symm
  ·have hc2:=hc;unfold Uw at hc;simp only[as0,Bool.not_eq_false',decide_eq_true_eq]at hc;have e:L r=_:=(congrArg L hc.2).trans (abX _ _ _);have:=aa8 (a:=(mk3 r).mf) (b:=(mk3 r).mn) (c:=(mk3 r).mu) (by omega) (by omega) (by omega) (by omega) (by omega) (by omega) e;rw[hc2,this];rfl
 ·have hL:flt (if Uw r then none else eP k w (mk3 r))=none:=by
   cases Uw r
   ·exact JR (DX hf hm)
   ·rfl
  rw[hL];cases h:nZ r with
  | none=>rfl
  | some m=>
   simp only;rcases tf (AF m) with h2 | h2
   ·obtain⟨p0,p1,q0,q1,s0,s1⟩:=vI h2;obtain⟨_,_,_,e⟩:=aa9 h;have:=(U3 (by omega) (by omega) (by omega) (by omega) (by omega) (by omega) e).2;rw[this]at hm;have hm:AF m=false:=hm;rw[h2]at hm;cases hm
   ·exact(JR (DX hf h2)).symm
def aix{k:ajZ}{n nx:Int}{a b:List ajT}{m:List Mark}(hn:999 < n):aE ⟨k.id,n,nx,a,m,b⟩=false:=by
 rcases tf (aE ⟨k.id,n,nx,a,m,b⟩) with h | h
 ·have:=(bH h).t1;simp only at this;omega
 ·exact h
def aiX{k:ajZ}{n ti:Int}{a b:List ajT}{m:List Mark}(hn:100 < n):aE ⟨k.id,ti,n,a,m,b⟩=false:=by
 rcases tf (aE ⟨k.id,ti,n,a,m,b⟩) with h | h
 ·have:=(bH h).n1;simp only at this;omega
 ·exact h
def ach{k:ajZ}(hf:aj5 k)(r:aqp):flt (gF k jf r)=flt (ck k jf r):=by
 have h0:=hf.t0;unfold gF ck IZ;simp only[QD,TH,QC,QF,NN,TI,TJ,QE,aqn,aqV,arJ,arA,aqX,aq5,aqz,aqB,aqm,aqr];rcases Vo r with⟨h1,h2⟩ | ⟨n,h1,h2 | ⟨h2,h3⟩⟩
 ·rw[h1,h2,aqh (by simp;omega)];rfl
 ·rw[h1,h2];rcases p9 (n:Int) k.ti with h4 | h4<;>simp only[h4,aqn,aqo,aqm,aqr]
 ·rw[h1,h2,aqh (by simp;omega)];rcases p9 (n:Int) k.ti with h4 | h4<;>simp only[h4,aqn,aqo,aqm,aqr];exact(JR (.inr ⟨_,rfl,aix (by omega)⟩)).symm
def aci{k:ajZ}(hf:aj5 k)(r:aqp):flt (gF k ku r)=flt (ck k ku r):=by
 have h0:=hf.n0;unfold gF ck IZ;simp only[C2,TR,QI,QK,NO,TS,TT,QJ,aqn,aqV,arJ,arA,aqX,aq5,aqz,aqB,aqm,aqr];rcases Vo r with⟨h1,h2⟩ | ⟨n,h1,h2 | ⟨h2,h3⟩⟩
 ·rw[h1,h2,aqh (by simp;omega)];rfl
 ·rw[h1,h2];rcases p9 (n:Int) k.nx with h4 | h4<;>simp only[h4,aqn,aqo,aqm,aqr]
 ·rw[h1,h2,aqh (by simp;omega)];rcases p9 (n:Int) k.nx with h4 | h4<;>simp only[h4,aqn,aqo,aqm,aqr];exact(JR (.inr ⟨_,rfl,aiX (by omega)⟩)).symm
def ace{k:ajZ}(r:aqp):gF k q9 r=ck k q9 r:=by
 unfold gF ck gO;simp only[TM,TO,TN,TQ,QH,WE,WG,TP,aqn,aqV,arJ,arA,aqX,aq5,aqz,aqB,aqm,aqr];cases cH r with
 | none=>rfl
 | some n=>
  simp only;rcases tf (decide (n.fr=k.id)) with h1 | h1<;>rcases tf (decide (n.nu=k.nx)) with h2 | h2<;>simp only[h1,h2,aqu,aqv,ite_self,aqn,aqV,arJ,arA,aqX,aq5,aqz,aqB,aqm,aqr]
def ZC{k:ajZ}(r:aqp):gF k jg r=ck k jg r:=by
 unfold gF ck gO;simp only[vB,vC,yb,vD,tH,TK,TL,QG,aqn,aqV,arJ,arA,aqX,aq5,aqz,aqB,aqm,aqr];cases cH r with
 | none=>rfl
 | some n=>
  simp only;rcases tf (decide (n.fr=k.id)) with h1 | h1<;>simp only[h1,aqu,aqv,ite_self,aqn,aqV,arJ,arA,aqX,aq5,aqz,aqB,aqm,aqr]
def ZE{k:ajZ}(r:aqp):gF k jh r=ck k jh r:=by
 unfold gF ck gO;simp only[C5,C7,FM,C6,NQ,TU,TV,QN,aqn,aqV,arJ,arA,aqX,aq5,aqz,aqB,aqm,aqr];cases cH r with
 | none=>rfl
 | some n=>
  simp only;rcases tf (decide (0≤aP k.held n.fr n.nu)) with h1 | h1<;>rcases tf (decide (0≤aP k.inbox n.fr n.nu)) with h2 | h2<;>simp only[h1,h2,aqu,aqv,ite_self,aqn,aqV,arJ,arA,aqX,aq5,aqz,aqB,aqm,aqr]
def XG{k:ajZ}(r:aqp):gF k eT r=ck k eT r:=by
 unfold gF ck gO;simp only[Bs,Bu,C4,Bt,Bv,QL,QM,NP,aqn,aqV,arJ,arA,aqX,aq5,aqz,aqB,aqm,aqr];cases cH r with
 | none=>rfl
 | some n=>
  simp only;rcases tf (decide (0≤aP k.held n.fr n.nu)) with h1 | h1<;>rcases tf (decide (0≤aP k.inbox n.fr n.nu)) with h2 | h2<;>simp only[h1,h2,aqu,aqv,ite_self,aqn,aqV,arJ,arA,aqX,aq5,aqz,aqB,aqm,aqr]
def acf{k:ajZ}(hf:aj5 k)(r:aqp):flt (gF k lG r)=flt (ck k lG r):=by
 have h:=PU hf lG r;unfold gF ck;simp only[FH,FJ,I4,FI,FL,C3,I5,FK,aqn,aqV,arJ,arA,aqX,aq5,aqz,aqB,aqm,aqr];refine atA ?_ h;unfold eP;simp only[FH,FJ,I4,FI,FL,C3,I5,FK,aqn,aqV,arJ,arA,aqX,aq5,aqz,aqB,aqm,aqr];congr 1;refine ite_congr rfl (fun _=>rfl) fun _=> ?_;cases Cl k.held (mk3 r)<;>rfl
def acg{k:ajZ}(hf:aj5 k)(r:aqp):flt (gF k lH r)=flt (ck k lH r):=by
 have h:=PU hf lH r;unfold gF ck;simp only[FN,FP,I6,FO,FR,C8,I7,FQ,aqn,aqV,arJ,arA,aqX,aq5,aqz,aqB,aqm,aqr];refine atA ?_ h;unfold eP;simp only[FN,FP,I6,FO,FR,C8,I7,FQ,aqn,aqV,arJ,arA,aqX,aq5,aqz,aqB,aqm,aqr];congr 1;refine ite_congr rfl (fun _=>rfl) fun _=> ?_;cases Cl k.inbox (mk3 r)<;>rfl
def ZD{k:ajZ}(hf:aj5 k)(r:aqp):flt (gF k fa r)=flt (ck k fa r):=by
 have h:=PU hf fa r;unfold gF ck;simp only[vE,vG,yc,vF,vH,tI,yd,ye,aqn,aqV,arJ,arA,aqX,aq5,aqz,aqB,aqm,aqr];refine atA ?_ h;unfold eP;simp only[vE,vG,yc,vF,vH,tI,yd,ye,aqn,aqV,arJ,arA,aqX,aq5,aqz,aqB,aqm,aqr];congr 1;refine ite_congr rfl (fun _=>rfl) fun _=> ?_;cases decide (0≤gH k.marks (mk3 r).mf (mk3 r).mn)<;>rfl
def agF{k:ajZ}(hf:aj5 k)(w r:aqp):flt (gF k w r)=flt (ck k w r):=by
 by_cases alL:w=jf
 ·subst alL;exact ach hf r
 by_cases alN:w=ku
 ·subst alN;exact aci hf r
 by_cases amF:w=q9
 ·subst amF;exact congrArg flt (ace r)
 by_cases alM:w=jg
 ·subst alM;exact congrArg flt (ZC r)
 by_cases alP:w=jh
 ·subst alP;exact congrArg flt (ZE r)
 by_cases alj:w=eT
 ·subst alj;exact congrArg flt (XG r)
 by_cases amG:w=lG
 ·subst amG;exact acf hf r
 by_cases amH:w=lH
 ·subst amH;exact acg hf r
 by_cases alO:w=fa
 ·subst alO;exact ZD hf r
 have e1:gF k w r=none:=by
  unfold gF;simp only[alL,alN,amF,alM,alP,alj,amG,amH,alO,aqo,aqn,aqV,arJ,arA,aqX,aq5,aqz,aqB,aqm,aqr,ite_self]
 have e2:ck k w r=none:=by
  unfold ck;simp only[alL,alN,amF,alM,alP,alj,amG,amH,alO,aqo,aqn,aqV,arJ,arA,aqX,aq5,aqz,aqB,aqm,aqr]
 rw[e1,e2]
def acq{k:ajZ}(hf:aj5 k)(w:aqp):gF k w noB=none:=by
 have h0:=hf.t0;have h1:=hf.n0;have hc:Uw noB=true:=by
  unfold Uw;have: ¬ noB=((((cj (aV (az noB 0))++B [32])++cj (aV (az noB 1)))++B [32])++cj (aV (az noB 2))):=fun h=>by
   have:=congrArg auI h;rw[ay,ay,ay,ay]at this;have e:noB.size=0:=rfl;have e2:(B [32]).size=1:=rfl;omega
  simp[this]
 unfold gF;rw[aga,aac,hc];have a1:decide (-1≤k.ti)=true:=by simp;omega
 have a2:decide (-1≤k.nx)=true:=by simp;omega
 simp only[a1,a2,aqm,ite_self]
def aiJ{k:ajZ}(hf:aj5 k)(rec:aqp):flt (gF k (wd rec).1 (wd rec).2)=flt (o4 k rec):=by
 unfold o4;rcases mV (L rec) with h | ⟨w,r,h,e⟩
 ·rw[Xr h,Ku h,acq hf];rfl
 ·rw[e,Kv h];exact agF hf _ _
def agJ{k:ajZ}{w r:aqp}(hf:aj5 k){o:ajZ}(h:gF k w r=some o):SmK o:=by
 have sm:=hf.sm;unfold gF at h;split at h
 ·split at h<;>cases h;have a:=arM (fun x:ajT=>decide (aV r < x.un)) k.held;have b:=arM (fun x:Mark=>decide (aV r < x.mu)) k.marks;have l1:=hf.hl;have l2:=hf.ml;exact⟨by unfold sV;simp only;omega,fun x hx=>sm.h x (ar3.1 hx).1,by unfold CO;simp only;omega,sm.il,sm.i⟩
 split at h
 ·cases hn:cH r with
  | none=>rw[hn]at h;cases h
  | some n=>
   rw[hn]at h;simp only at h;split at h
   ·cases h
   split at h
   ·cases h
   exact PG (k':=⟨k.id,k.ti,k.nx+1,k.held,k.marks,k.inbox⟩) hf ⟨rfl,rfl,rfl⟩ h
 split at h
 ·cases hn:cH r with
  | none=>rw[hn]at h;cases h
  | some n=>
   rw[hn]at h;simp only at h;split at h
   ·cases h
   exact PG (k':=k) hf ⟨rfl,rfl,rfl⟩ h
 split at h
 ·split at h<;>cases h;exact sm
 split at h
 ·cases hn:cH r with
  | none=>rw[hn]at h;cases h
  | some n=>
   have hok:=iL (dJ hn).1;rw[hn]at h;simp only at h;split at h
   ·cases h
   split at h
   ·cases h
   split at h<;>cases h
   ·have a:=EH hf.hl sm.h hok;exact⟨a.1,a.2,sm.ml,sm.il,sm.i⟩
   ·have a:=EH hf.il sm.i hok;exact⟨sm.hl,sm.h,sm.ml,a.1,a.2⟩
 split at h
 ·cases h
 split at h
 ·split at h<;>cases h;have a:=Pw (i:=(aP k.held (mk3 r).mf (mk3 r).mn).toNat) hf.hl sm.h;exact⟨a.1,a.2,Jv hf.ml,sm.il,sm.i⟩
 split at h
 ·split at h<;>cases h;have a:=Pw (i:=(aP k.inbox (mk3 r).mf (mk3 r).mn).toNat) hf.il sm.i;exact⟨sm.hl,sm.h,sm.ml,a.1,a.2⟩
 split at h
 ·split at h<;>cases h;exact⟨sm.hl,sm.h,Jv hf.ml,sm.il,sm.i⟩
 ·cases h
def FD{id ti nx:Int}{rec:aqp}{held:List ajT}{marks:List Mark}{inbox:List ajT}(sm:aj7 held marks inbox)(hr:rec.size≤1048576):
  jV ((id,ti,nx,held,marks,inbox,()),rec,())=some ((tK (ga ⟨id,ti,nx,held,marks,inbox⟩ rec).1,(ga ⟨id,ti,nx,held,marks,inbox⟩ rec).2,()),()):=by
 unfold jV ga;simp only[x6 sm,CC sm,aqs];rcases tf (aE ⟨id,ti,nx,held,marks,inbox⟩) with h | h
 ·have hf:=bH h;have ha:=ZO hf hr;have hko:=aiJ hf rec;unfold flt at hko;simp only[h,aqu,aqr,aqm];rw[← hko];cases hst:gF ⟨id,ti,nx,held,marks,inbox⟩ (wd rec).1 (wd rec).2 with
  | none=>
   rw[hst]at ha;obtain⟨t,ht⟩:=ha;simp only[ht,aqs,aqv,aqu,c9,aqm,aq5];rfl
  | some o=>
   rw[hst]at ha;have sm':=agJ hf hst;rw[show mT ((id,ti,nx,held,marks,inbox,()),rec,())=some ((tK o,true,()),()) from ha];simp only[aqs,aqu,aqv,eL,x6 sm',CC sm',aq7,are,aqm,aqX,Option.filter_some];rcases tf (aE o) with h2 | h2
   ·simp only[h2,aqu,aqr,aqm]
   ·simp only[h2,aqv,aqr,aqm]
 ·simp only[h,aqv,aqr,aqm]
end Go.VS
namespace Go.VS
open Go
def Xk{s:aqp}{a i:Nat}(h:a+i < s.size):bt (s.extract a s.size) i=bt s ((a+i:Nat):Int):=by
 rw[wE,wE,jd];congr 2;rw[aqE,aqE,List.getElem?_take_of_lt (by omega),ar5]
def abJ{s:aqp}{a i j:Nat}(h:a+j≤s.size):(s.extract a s.size).extract i j=s.extract (a+i) (a+j):=by
 apply oX;rw[jd,jd,jd];rw[List.drop_take,asP,auJ];congr 1;omega
def dz{s:aqp}{a b:Nat}(hb:b≤s.size):(s.extract a b).size=b - a:=by
 rw[← aN,jd,arm,aru,aN];omega
def Za(s:aqp):Int:=oV (min s.size 3) fun i=>decide (bt s i=58)
def oY(s:aqp):Option (aqp×Nat):=
 if Za s < 0 then none else
 let c:=(Za s).toNat
 let n:=aV (s.extract 0 c)
 if n < 1 then none else if 60 < n then none else
 if(s.size:Int) < c+2+n then none else
 if !decide (bt s ((c+1+n.toNat:Nat):Int)=59) then none else some (s.extract (c+1) (c+1+n.toNat),c+2+n.toNat)
def xS(s:aqp):(Za s= -1∧ ∀ i,i < min s.size 3→bt s (i:Int)≠58)∨ ∃ c:Nat,Za s=c∧c < s.size∧c < 3∧bt s (c:Int)=58∧ ∀ i,i < c→bt s (i:Int)≠58:=by
 rcases bF (min s.size 3) (fun i=>decide (bt s i=58)) with⟨h1,h2⟩ | ⟨c,h1,h2,h3,h4⟩
 ·exact .inl ⟨h1,fun i hi=>by simpa using h2 i hi⟩
 ·exact .inr ⟨c,h1,by omega,by omega,by simpa using h3,fun i hi=>by simpa using h4 i hi⟩
def ZP{s:aqp}(hs:s.size≤1048576):sg (s,())=some ((match oY s with | some p=>(p.1,(p.2:Int),()) | none=>(noB,0,())),()):=by
 have hb: ∀ i,i < min s.size 3→ec (s,(i:Int),())=if decide (bt s (i:Int)=58) then ec (s,(i:Int),()) else some (.inl (s,((i+1:Nat):Int),())):=fun i hi=>by
  have hi2:i < s.size:=by omega
  rcases tf (decide (bt s (i:Int)=58)) with h | h
  ·rw[h];rfl
  ·rw[h];have e1:decide ((i:Int) < 3)=true:=by simp;omega
   unfold ec;simp only[ak hi2,bp hi2,h,aG hi2 (by omega:s.size≤9223372036854775807),e1];rfl
 have akv: ∃ y,px (s,0,())=some y∧((oY s=none∧(y= .inl (noB,0,())∨y= .inr ()))∨ ∃ p,oY s=some p∧y= .inl (p.1,(p.2:Int),())):=by
  rcases xS s with⟨h1,h2⟩ | ⟨c,h1,h2,h3,h4,h5⟩
  ·refine⟨.inr (), ?_,.inl ⟨by unfold oY;rw[h1,aqh (by omega)],.inr rfl⟩⟩;refine cO (fun i=>(s,(i:Int),())) (min s.size 3) (fun i hi=> ?_) ?_
   ·rw[hb i hi,show decide (bt s (i:Int)=58)=false by simpa using h2 i hi];rfl
   ·unfold ec;have e:(decide (((min s.size 3:Nat):Int) < (s.size:Int))&&decide (((min s.size 3:Nat):Int) < 3))=false:=by
     rw[Bool.eq_false_iff];simp only[ne_eq,aqt,decide_eq_true_eq];omega
    simp only[e];rfl
  ·have akr:oY s=(let n:=aV (s.extract 0 c);if n < 1 then none else if 60 < n then none else if(s.size:Int) < c+2+n then none else
     if !decide (bt s ((c+1+n.toNat:Nat):Int)=59) then none else some (s.extract (c+1) (c+1+n.toNat),c+2+n.toNat)):=by
    unfold oY;rw[h1,aqg (by omega)];rfl
   have anf: ∃ y,ec (s,(c:Int),())=some (.inr y)∧((oY s=none∧(y= .inl (noB,0,())∨y= .inr ()))∨ ∃ p,oY s=some p∧y= .inl (p.1,(p.2:Int),())):=by
    rw[akr];unfold ec;have e1:decide ((c:Int) < 3)=true:=by simp;omega
    have e2:(decide (0≤(c:Int))&&decide ((c:Int)≤(s.size:Int)))=true:=by simp;omega
    have e3:(!decide (bt s (c:Int)=58))=false:=by simp[h4]
    have hse:(s.extract 0 c).size=c:=dz (by omega);simp only[ak h2,bp h2,e1,e2,e3,aqJ,aqr,ar6,aqm,Am (show(s.extract 0 c).size≤9223372036854775807 by omega),aqs];have hrg:=A5 (s.extract 0 c);generalize aV (s.extract 0 c)=n at *;by_cases k1:n < 1
    ·exact⟨.inl (noB,0,()),by simp[k1],.inl ⟨by simp[k1],.inl rfl⟩⟩
    by_cases k2:60 < n
    ·exact⟨.inl (noB,0,()),by simp[k1,k2],.inl ⟨by simp[k1,k2],.inl rfl⟩⟩
    obtain⟨m,hm⟩:=arz (show 0≤n by omega);subst hm;have w1:w64 ((c:Int)+2)=(c:Int)+2:=ah (by omega) (by omega);have w2:w64 ((c:Int)+1)=((c+1:Nat):Int):=by rw[ah (by omega) (by omega)];omega
    have w3:w64 ((c:Int)+2+(m:Int))=((c+2+m:Nat):Int):=by rw[ah (by omega) (by omega)];omega
    have w4:w64 (((c+1:Nat):Int)+(m:Int))=((c+1+m:Nat):Int):=by rw[ah (by omega) (by omega)];omega
    simp only[w1,w2,w3,w4,aqJ];by_cases k3:(s.size:Int) < (c:Int)+2+m
    ·have k3':(s.size:Int) < ((c+2+m:Nat):Int):=by omega
     exact⟨.inl (noB,0,()),by simp only[k1,k2,k3',aqn,aqo,aqm,aqr],.inl ⟨by simp[k1,k2,k3],.inl rfl⟩⟩
    have k3': ¬ (s.size:Int) < ((c+2+m:Nat):Int):=by omega
    have k4:c+1+m < s.size:=by omega
    have e5:((decide (0≤((c+1+m:Nat):Int))&&decide (((c+1+m:Nat):Int)≤(s.size:Int)))&&(decide (0≤((c+1:Nat):Int))&&decide (((c+1:Nat):Int)≤((c+1+m:Nat):Int))))=true:=by
     simp only[aqt,decide_eq_true_eq];omega
    simp only[k1,k2,k3,k3',aqo,aqr,if_false,ak k4,aqm,e5];rcases tf (!decide (bt s ((c+1+m:Nat):Int)=59)) with k5 | k5
    ·exact⟨.inl (noB,0,()),by simp only[k5,aqm],.inl ⟨by simp only[k5,aqm],.inl rfl⟩⟩
    ·exact⟨.inl (s.extract (c+1) (c+1+m),((c+2+m:Nat):Int),()),by simp only[k5,aqr],.inr ⟨(s.extract (c+1) (c+1+m),c+2+m),by simp only[k5,aqr],rfl⟩⟩
   obtain⟨y,hy,hy2⟩:=anf;refine⟨y, ?_,hy2⟩;refine cO (fun i=>(s,(i:Int),())) c (fun i hi=> ?_) hy;rw[hb i (by omega),show decide (bt s (i:Int)=58)=false by simpa using h5 i hi];rfl
 obtain⟨y,hy,hy2⟩:=akv;unfold sg;simp only[hy];rcases hy2 with⟨h1,rfl | rfl⟩ | ⟨p,h1,rfl⟩<;>rw[h1]<;>rfl
def za{s:aqp}{p:aqp×Nat}(h:oY s=some p):3≤p.2∧p.2≤s.size∧p.1.size≤60∧1≤p.1.size:=by
 unfold oY at h;split at h
 ·cases h
 rename_i hc;rcases xS s with⟨h1,_⟩ | ⟨c,h1,h2,h3,h4,h5⟩
 ·omega
 rw[h1]at h;simp only[aqJ]at h;split at h
 ·cases h
 split at h
 ·cases h
 split at h
 ·cases h
 split at h
 ·cases h
 cases h;simp only;rw[dz (by omega)];omega
def kH(log:aqp):Nat→List aqp→Nat→List aqp×Nat
 | 0,out,at_=>(out,at_)
 | f+1,out,at_=>if at_ < log.size then(match oY (log.extract at_ log.size) with
  | none=>(out,at_)
  | some p=>kH log f (out++[p.1]) (at_+p.2)) else(out,at_)
def Ql{log:aqp}: ∀ (f:Nat) (out:List aqp) (at_:Nat),at_≤log.size→out.length≤at_→(∀ r∈out,r.size≤60∧1≤r.size)→
  (kH log f out at_).2≤log.size∧(kH log f out at_).1.length≤(kH log f out at_).2∧ ∀ r∈(kH log f out at_).1,r.size≤60∧1≤r.size
 | 0,out,at_,h1,h2,h3=>⟨h1,h2,h3⟩
 | f+1,out,at_,h1,h2,h3=>by
  unfold kH;split
  ·rename_i hlt;cases h:oY (log.extract at_ log.size) with
   | none=>exact⟨h1,h2,h3⟩
   | some p=>
    obtain⟨a,b,c,d⟩:=za h;rw[dz (aqG _)]at b;exact Ql f _ _ (by omega) (by simp;omega) (fun r hr=>by
     rcases aqL.1 hr with hr | hr
     ·exact h3 r hr
     ·obtain rfl:=aq4.1 hr;exact⟨c,d⟩)
  ·exact⟨h1,h2,h3⟩
def eC(log:aqp):List aqp×Nat:=kH log (log.size+1) [] 0
def ou(log:aqp):(eC log).2≤log.size∧(eC log).1.length≤log.size∧ ∀ r∈(eC log).1,r.size≤60∧1≤r.size:=by
 have:=Ql (log:=log) (log.size+1) [] 0 (arB _) (arB _) (fun r hr=>by cases hr);exact⟨this.1,ara this.2.1 this.1,this.2.2⟩
def Lc{ρ:Type}{log:aqp}{b:(aqp×List aqp×Int×aqq)→Option ((aqp×List aqp×Int×aqq) ⊕ ρ)}(ok:List aqp→Nat→ρ→Prop)
  (h: ∀ (out:List aqp) (at_:Nat),at_ < log.size→out.length≤at_→match oY (log.extract at_ log.size) with
   | some p=>b (log,out,(at_:Int),())=some (.inl (log,out++[p.1],((at_+p.2:Nat):Int),()))
   | none=> ∃ y,b (log,out,(at_:Int),())=some (.inr y)∧ok out at_ y)
  (hn: ∀ (out:List aqp) (at_:Nat),log.size≤at_→ ∃ y,b (log,out,(at_:Int),())=some (.inr y)∧ok out at_ y):
  ∀ (f:Nat) (out:List aqp) (at_:Nat),log.size < at_+f→at_≤log.size→out.length≤at_→ ∃ y,aR b (log,out,(at_:Int),())=some y∧ok (kH log f out at_).1 (kH log f out at_).2 y
 | 0,out,at_,h1,h2,h3=>by omega
 | f+1,out,at_,h1,h2,h3=>by
  unfold kH;by_cases hlt:at_ < log.size
  ·rw[aqh hlt];have hb:=h out at_ hlt h3;cases akr:oY (log.extract at_ log.size) with
   | none=>
    rw[akr]at hb;obtain⟨y,h4,h5⟩:=hb;exact⟨y,an h4,h5⟩
   | some p=>
    rw[akr]at hb;obtain⟨a,c,_,_⟩:=za akr;rw[dz (aqG _)]at c;obtain⟨y,h4,h5⟩:=Lc ok h hn f (out++[p.1]) (at_+p.2) (by omega) (by omega) (by simp;omega);exact⟨y,ai hb h4,h5⟩
  ·rw[aqg hlt];obtain⟨y,h4,h5⟩:=hn out at_ (by omega);exact⟨y,an h4,h5⟩
def iH{log:aqp}(hs:log.size≤1048576):bY (log,())=some (((eC log).1,((eC log).2:Int),()),()):=by
 obtain⟨y,h1,h2⟩:=Lc (log:=log) (b:=ey) (fun out at_ y=>y= .inl (out,(at_:Int),())∨y= .inr (out,(at_:Int),())) (fun out at_ hlt hl=>by
  have hse:(log.extract at_ log.size).size=log.size - at_:=dz (aqG _);have e1:(decide (0≤(at_:Int))&&decide ((at_:Int)≤(log.size:Int)))=true:=by simp;omega
  have hb:ey (log,out,(at_:Int),())=(match oY (log.extract at_ log.size) with | some p=>some (.inl (log,out++[p.1],((at_+p.2:Nat):Int),())) | none=>some (.inr (.inl (out,(at_:Int),())))):=by
   unfold ey;simp only[bp hlt,e1,aqm,aqJ,ZP (show(log.extract at_ log.size).size≤1048576 by omega),aqs];cases akr:oY (log.extract at_ log.size) with
   | none=>rfl
   | some p=>
    obtain⟨a,c,_,_⟩:=za akr;have e2:decide (((p.2:Nat):Int)=0)=false:=by simp;omega
    have e3:w64 ((at_:Int)+(p.2:Int))=((at_+p.2:Nat):Int):=by rw[ah (by omega) (by omega)];omega
    simp only[e2,e3,aqr,aqM,aq0,arI,aF (show out.length+1≤4294967296 by omega),aqm]
  rw[hb];cases oY (log.extract at_ log.size) with
  | none=>exact⟨_,rfl,.inl rfl⟩
  | some p=>rfl) (fun out at_ hge=>by
  refine⟨.inr (out,(at_:Int),()), ?_,.inr rfl⟩;unfold ey;have e:decide ((at_:Int) < (log.size:Int))=false:=by simp;omega
  simp only[e];rfl) (log.size+1) [] 0 (by omega) (arB _) (arB _)
 unfold bY;rw[show lb (log,[],0,())=some y from h1];rcases h2 with rfl | rfl<;>rfl
end Go.VS
namespace Go.VS
open Go
def Ts{log:aqp}{out:List aqp}{at_ n:Nat}(hs:log.size≤1048576)(h: ∀ i,i < n→at_+i < log.size∧bt log ((at_+i:Nat):Int)≠58)(hn:n≤3)(hle:at_+n≤log.size)
  (aov:log.size≤at_+n∨n=3∨bt log ((at_+n:Nat):Int)=58):lx (log,out,(at_:Int),(at_:Int),())=some (.inr (log,out,(at_:Int),((at_+n:Nat):Int),())):=by
 have e3:w64 ((at_:Int)+3)=((at_+3:Nat):Int):=by rw[ah (by omega) (by omega)];omega
 refine cO (fun i=>(log,out,(at_:Int),((at_+i:Nat):Int),())) n (fun i hi=> ?_) ?_
 ·obtain⟨h1,h2⟩:=h i hi;unfold kL;have e2:decide (bt log ((at_+i:Nat):Int)=58)=false:=by simpa using h2
  simp only[bp h1,ak h1,e3,bp (show at_+i < at_+3 by omega),e2,aG h1 (by omega:log.size≤9223372036854775807)];rfl
 ·unfold kL;by_cases h1:at_+n < log.size
  ·simp only[bp h1,ak h1,e3];rcases aov with h2 | h2 | h2
   ·omega
   ·have:decide (((at_+n:Nat):Int) < ((at_+3:Nat):Int))=false:=by simp;omega
    rw[this];rfl
   ·rw[show decide (bt log ((at_+n:Nat):Int)=58)=true by simpa using h2];cases decide (((at_+n:Nat):Int) < ((at_+3:Nat):Int))<;>rfl
  ·have e1:decide (((at_+n:Nat):Int) < (log.size:Int))=false:=by simp;omega
   simp only[e1,aqr,c9,aqm]
def Ok{log:aqp}{out:List aqp}{at_:Nat}(hs:log.size≤1048576)(hlt:at_ < log.size)(hl:out.length≤at_):
  eJ (log,out,(at_:Int),())=some (match oY (log.extract at_ log.size) with | some p=> .inl (log,out++[p.1],((at_+p.2:Nat):Int),()) | none=> .inr (.inr (out,(at_:Int),()))):=by
 have hse:(log.extract at_ log.size).size=log.size - at_:=dz (aqG _);unfold eJ;simp only[bp hlt,aqm];rcases xS (log.extract at_ log.size) with⟨h1,h2⟩ | ⟨c,h1,h2,h3,h4,h5⟩
 ·have akr:oY (log.extract at_ log.size)=none:=by unfold oY;rw[h1,aqh (by omega)]
  have hb: ∀ i,i < min (log.size - at_) 3→at_+i < log.size∧bt log ((at_+i:Nat):Int)≠58:=fun i hi=>by
   refine⟨by omega, ?_⟩;rw[← Xk (by omega)];exact h2 i (by rw[hse];exact hi)
  rw[akr,Ts (n:=min (log.size - at_) 3) hs hb (by omega) (by omega) (by omega)];simp only[dO];by_cases h6:log.size≤at_+min (log.size - at_) 3
  ·have e:decide ((log.size:Int)≤((at_+min (log.size - at_) 3:Nat):Int))=true:=by simp;omega
   simp only[e,aqu,c9,aqm,aq5]
  ·have e:decide ((log.size:Int)≤((at_+min (log.size - at_) 3:Nat):Int))=false:=by simp;omega
   have hm:min (log.size - at_) 3=3:=by omega
   rw[hm]at e h6 ⊢;simp only[e,ak (show at_+3 < log.size by omega),aqv,eL,aqm,aqX];rcases tf (decide (bt log ((at_+3:Nat):Int)=58)) with h7 | h7
   ·simp only[h7,aqu,aqr];have e4:((decide (0≤((at_+3:Nat):Int))&&decide (((at_+3:Nat):Int)≤(log.size:Int)))&&(decide (0≤(at_:Int))&&decide ((at_:Int)≤((at_+3:Nat):Int))))=true:=by simp;omega
    simp only[e4,aqm,aqJ];have hz:(log.extract at_ (at_+3)).size=3:=by rw[dz (by omega)];omega
    rw[ql (by omega)];simp only[aqs];rcases rD (log.extract at_ (at_+3)) with h8 | ⟨n,h8,h9,h10⟩
    ·simp only[h8];rfl
    ·have h11:100≤n:=by
      rcases asi n 100 with h12 | h12
      ·have:=sD 2 n (by omega) (by omega);rw[← h10,aN]at this;omega
      ·exact h12
     have e5:inB (n:Int) 1 60=false:=by simp[inB];omega
     simp only[h8,bO,aqs,e5];rfl
   ·simp only[h7];rfl
 ·have hb: ∀ i,i < c→at_+i < log.size∧bt log ((at_+i:Nat):Int)≠58:=fun i hi=>by
   refine⟨by omega, ?_⟩;rw[← Xk (by omega)];exact h5 i hi
  have h4':bt log ((at_+c:Nat):Int)=58:=by rw[← Xk (by omega)];exact h4
  have hc:at_+c < log.size:=by omega
  rw[Ts (n:=c) hs hb (by omega) (by omega) (.inr (.inr h4'))];simp only[dO];have e:decide ((log.size:Int)≤((at_+c:Nat):Int))=false:=by simp;omega
  have e4:((decide (0≤((at_+c:Nat):Int))&&decide (((at_+c:Nat):Int)≤(log.size:Int)))&&(decide (0≤(at_:Int))&&decide ((at_:Int)≤((at_+c:Nat):Int))))=true:=by simp;omega
  simp only[e,ak hc,aqv,eL,aqm,aqX,show decide (bt log ((at_+c:Nat):Int)=58)=true by simpa using h4',aqu,aqr,e4,aqJ];have hz:(log.extract at_ (at_+c)).size=c:=by rw[dz (by omega)];omega
  have hz2:(log.extract at_ log.size).extract 0 c=log.extract at_ (at_+c):=by rw[abJ (by omega)];simp
  rw[ql (by omega)];have akr:oY (log.extract at_ log.size)=(let n:=aV (log.extract at_ (at_+c));if n < 1 then none else if 60 < n then none else if((log.extract at_ log.size).size:Int) < c+2+n then none else
    if !decide (bt (log.extract at_ log.size) ((c+1+n.toNat:Nat):Int)=59) then none else some ((log.extract at_ log.size).extract (c+1) (c+1+n.toNat),c+2+n.toNat)):=by
   unfold oY;rw[h1,aqg (by omega),aqJ];simp only[hz2]
  rw[akr];simp only[aqs];rcases rD (log.extract at_ (at_+c)) with h8 | ⟨n,h8,h9,h10⟩
  ·have hd:aV (log.extract at_ (at_+c))= -1:=by
    rcases rP (log.extract at_ (at_+c)) with⟨h9,_⟩ | ⟨n,h9,h10,h11⟩
    ·exact h9
    ·rw[Lj (by omega) h11]at h8;cases h8
   simp only[h8,hd];rfl
  ·rw[R8 (by omega) h10];simp only[h8,bO,aqs,aqu,aqr,aqJ,hse];by_cases h11:(n:Int) < 1
   ·rw[aqh h11,show inB (n:Int) 1 60=false by simp[inB];omega];rfl
   ·rw[aqg h11];by_cases h12:60 < (n:Int)
    ·rw[aqh h12,show inB (n:Int) 1 60=false by simp[inB];omega];rfl
    ·rw[aqg h12,show inB (n:Int) 1 60=true by simp[inB];omega];have e5:w64 (((at_+c:Nat):Int)+1)=((at_+c+1:Nat):Int):=by rw[ah (by omega) (by omega)];omega
     have e6:w64 (((at_+c+1:Nat):Int)+(n:Int))=((at_+c+1+n:Nat):Int):=by rw[ah (by omega) (by omega)];omega
     simp only[e5,e6,aqu,aqr];by_cases h13:at_+c+1+n < log.size
     ·rw[aqg (show ¬ (((log.size - at_:Nat):Int) < c+2+n) by omega)];have e7:decide ((log.size:Int)≤((at_+c+1+n:Nat):Int))=false:=by simp;omega
      simp only[e7,aqr,ak h13,aqm];have e10:bt (log.extract at_ log.size) ((c+1+n:Nat):Int)=bt log ((at_+c+1+n:Nat):Int):=by rw[Xk (show at_+(c+1+n) < log.size by omega),show at_+(c+1+n)=at_+c+1+n by omega]
      simp only[e10];rcases tf (decide (bt log ((at_+c+1+n:Nat):Int)=59)) with h14 | h14
      ·have e8:((decide (0≤((at_+c+1+n:Nat):Int))&&decide (((at_+c+1+n:Nat):Int)≤(log.size:Int)))&&(decide (0≤((at_+c+1:Nat):Int))&&decide (((at_+c+1:Nat):Int)≤((at_+c+1+n:Nat):Int))))=true:=by simp;omega
       have e9:w64 (((at_+c+1+n:Nat):Int)+1)=((at_+(c+2+n):Nat):Int):=by rw[ah (by omega) (by omega)];omega
       simp only[h14,aqu,aqr,e8,aqm,aqM,aq0,arI,aF (show out.length+1≤4294967296 by omega),aqJ,e9,abJ (show at_+(c+1+n)≤log.size by omega)];rw[show at_+(c+1)=at_+c+1 by omega,show at_+(c+1+n)=at_+c+1+n by omega]
      ·simp only[h14,aqv,aqm]
     ·rw[aqh (show(((log.size - at_:Nat):Int) < c+2+n) by omega)];have e7:decide ((log.size:Int)≤((at_+c+1+n:Nat):Int))=true:=by simp;omega
      simp only[e7,aqm]
def l8{log:aqp}(hs:log.size≤1048576):dT (log,())=some (((eC log).1,((eC log).2:Int),()),()):=by
 obtain⟨y,h1,h2⟩:=Lc (log:=log) (b:=eJ) (fun out at_ y=>y= .inr (out,(at_:Int),())) (fun out at_ hlt hl=>by
  rw[Ok hs hlt hl];cases oY (log.extract at_ log.size) with
  | none=>exact⟨_,rfl,rfl⟩
  | some p=>rfl) (fun out at_ hge=>by
  refine⟨.inr (out,(at_:Int),()), ?_,rfl⟩;unfold eJ;have e:decide ((at_:Int) < (log.size:Int))=false:=by simp;omega
  simp only[e];rfl) (log.size+1) [] 0 (by omega) (arB _) (arB _)
 unfold dT;rw[show ly (log,[],0,())=some y from h1];subst h2;have h3:=ou log;simp only[dO];rw[show(kH log (log.size+1) [] 0)=eC log from rfl,lu (by omega)];rfl
abbrev zK:ajZ:=⟨0,0,0,[],[],[]⟩
def cg(k:ajZ)(r:aqp):Option ajZ:=if(ga k r).2 then some (ga k r).1 else none
def eF(k:ajZ)(rs:List aqp):Option ajZ:=rs.foldlM cg k
def ct(id:Int)(rs:List aqp):Option ajZ:=if isN id then eF ⟨id,0,1,[],[],[]⟩ rs else none
def VC{σ β γ κ α:Type}{b:σ→Option (σ ⊕ (β ⊕ γ))}(st:Nat→κ→σ)(l:List α)(f:κ→α→Option κ)(bad:β)(fin:κ→γ)(I:κ→Prop)
  (h: ∀ i k x,l[i]? =some x→I k→b (st i k)=some (match f k x with | some k'=> .inl (st (i+1) k') | none=> .inr (.inl bad)))
  (hn: ∀ k,I k→b (st l.length k)=some (.inr (.inr (fin k))))(hI: ∀ k x k',I k→f k x=some k'→I k'):
  ∀ k,I k→aR b (st 0 k)=some (match l.foldlM f k with | some k'=> .inr (fin k') | none=> .inl bad):=by
 have: ∀ (m i:Nat),i+m=l.length→ ∀ k,I k→aR b (st i k)=some (match (l.drop i).foldlM f k with | some k'=> .inr (fin k') | none=> .inl bad):=by
  intro m
  induction m with
  | zero=>
   intro i hi k hk;rw[List.drop_of_length_le (by omega),show i=l.length by omega];exact an (hn k hk)
  | succ m ih=>
   intro i hi k hk;have hlt:i < l.length:=by omega
   rw[asZ hlt,atp];have hb:=h i k l[i] (aqC hlt) hk;cases hf:f k l[i]with
   | none=>rw[hf]at hb;exact an hb
   | some k'=>rw[hf]at hb;exact ai hb (ih (i+1) (by omega) k' (hI k _ k' hk hf))
 intro k hk;have:=this l.length 0 (by omega) k hk;rwa[asn]at this
def ac9{k:ajZ}{r:aqp}(h:(ga k r).2=true):aE (ga k r).1=true:=by
 unfold ga at h ⊢;split at h<;>rename_i hk
 ·rw[aqh hk];cases hs:(o4 k r).filter aE with
  | none=>rw[hs]at h;cases h
  | some o=>exact(asr.1 hs).2
 ·cases h
def Df{k o:ajZ}{r:aqp}(h:cg k r=some o):aE o=true:=by
 unfold cg at h;split at h
 ·cases h;exact ac9 (by assumption)
 ·cases h
def Vv{k:ajZ}(h:aE k=true):SmK k:=by
 have hf:=bH h;have hn: ∀ {l:List ajT},dA l=true→ ∀ x∈l,mJ x:=fun {l} hl x hx=>by
  obtain⟨i,hi,rfl⟩:=arn hx;have:=cG hl hi;rw[iM (aqC hi)]at this;exact iL this
 exact⟨by have:=hf.hl;omega,hn hf.h,by have:=hf.ml;omega,by have:=hf.il;omega,hn hf.i⟩
def l5{id:Int}(h:isN id=true):aE ⟨id,0,1,[],[],[]⟩=true:=by
 unfold aE;simp only[h];rfl
def Q1: ∀ {rs:List aqp} {k o:ajZ},aE k=true→eF k rs=some o→aE o=true
 | [],k,o,hk,h=>by cases h;exact hk
 | r::rs,k,o,hk,h=>by
  unfold eF at h;rw[atp]at h;cases hs:cg k r with
  | none=>rw[hs]at h;cases h
  | some k'=>rw[hs]at h;exact Q1 (rs:=rs) (Df hs) h
def EG{id:Int}{rs:List aqp}{o:ajZ}(h:ct id rs=some o):aE o=true:=by
 unfold ct at h;split at h
 ·exact Q1 (l5 (by assumption)) h
 ·cases h
def Uh{id:Int}{rs:List aqp}(hl:rs.length≤1048576)(hr: ∀ r∈rs,r.size≤1048576):sy (id,rs,())=some ((tK ((ct id rs).getD zK),(ct id rs).isSome,()),()):=by
 unfold sy ct;simp only[dr,aqs,LX];rcases tf (isN id) with h | h
 ·simp only[h,aqu,aqr,aqm];have:=VC (b:=lB) (fun i (k:ajZ)=>(tK zK,tK k,rs,(rs.length:Int),(i:Int),())) rs cg (tK zK,false,()) (fun k=>(tK zK,tK k,())) (fun k=>aE k=true) (fun i k x hx hk=>by
   have hi:=(aqF.1 hx).1;have hxs:=hr x (aqT hx);unfold lB;simp only[bp hi,ak hi,G7,EJ hx,aqm];rw[FY (Vv hk) hxs];unfold cg;simp only[aqs];rcases tf (ga k x).2 with h2 | h2
   ·simp only[h2,aqu,aqr,aqm,aG hi (by omega:rs.length≤9223372036854775807)]
   ·simp only[h2,aqv,aqr,aqm]) (fun k hk=>by simp[lB]) (fun k x k' _ hs=>Df hs) ⟨id,0,1,[],[],[]⟩ (l5 h)
  rw[show qQ ((0,0,0,[],[],[],()),(id,0,1,[],[],[],()),rs,(rs.length:Int),0,())=_ from this];unfold eF;cases rs.foldlM cg ⟨id,0,1,[],[],[]⟩<;>rfl
 ·simp only[h,aqv,aqr,aqm];rfl
def FC{id:Int}{rs:List aqp}(hl:rs.length≤1048576)(hr: ∀ r∈rs,r.size≤1048576):jU (id,rs,())=some ((tK ((ct id rs).getD zK),(ct id rs).isSome,()),()):=by
 unfold jU ct;simp only[cQ,aqs,K5];rcases tf (isN id) with h | h
 ·simp only[h,aqu,aqr,aqm];have:=VC (b:=ld) (fun i (k:ajZ)=>(rs,tK zK,tK k,(i:Int),())) rs cg (tK zK,false,()) (fun k=>(tK zK,tK k,())) (fun k=>aE k=true) (fun i k x hx hk=>by
   have hi:=(aqF.1 hx).1;have hxs:=hr x (aqT hx);unfold ld;simp only[bp hi,ak hi,G7,EJ hx,aqm];rw[FD (Vv hk) hxs];unfold cg;simp only[aqs];rcases tf (ga k x).2 with h2 | h2
   ·simp only[h2,aqu,aqr,aqm,aG hi (by omega:rs.length≤9223372036854775807)]
   ·simp only[h2,aqv,aqr,aqm]) (fun k hk=>by simp[ld]) (fun k x k' _ hs=>Df hs) ⟨id,0,1,[],[],[]⟩ (l5 h)
  rw[show pQ (rs,(0,0,0,[],[],[],()),(id,0,1,[],[],[],()),0,())=_ from this];unfold eF;cases rs.foldlM cg ⟨id,0,1,[],[],[]⟩<;>rfl
 ·simp only[h,aqv,aqr,aqm];rfl
def bR(id:Int)(log:aqp):Option ajZ:=ct id (eC log).1
def qf{id:Int}{log:aqp}(hs:log.size≤1048576):cT (id,log,())=some ((tK ((bR id log).getD zK),(bR id log).isSome,()),()):=by
 have h:=ou log;unfold cT bR;rw[l8 hs];simp only[aqs];rw[Uh (by omega) (fun r hr=>by have:=h.2.2 r hr;omega)];rfl
def G0{id fo:Int}{up:Bool}{log:aqp}{hv:List ajY}(hs:log.size≤1048576):bd ((id,up,log,fo,hv,()),())=some ((tK ((bR id log).getD zK),(bR id log).isSome,()),()):=by
 have h:=ou log;unfold bd bR;rw[iH hs];simp only[aqs];rw[FC (by omega) (fun r hr=>by have:=h.2.2 r hr;omega)];rfl
def bS(lg:aqp)(fo:Int):Bool:=decide (lg.size≤2400)&&(inB fo 0 lg.size&&(decide (((eC lg).2:Int)=lg.size)&&decide (((eC (lg.extract 0 fo.toNat)).2:Int)=fo)))
def lz{lg:aqp}{fo:Int}(hs:lg.size≤1048576):et ((lg,fo,()),())=some ((bS lg fo,()),()):=by
 unfold et bS;simp only[bO,l8 hs,aqs,aq7,are];by_cases h1:lg.size≤2400
 ·have e1:decide (2400 < (lg.size:Int))=false:=by simp;omega
  simp only[e1,h1,aqv,eL,aqm,aqX,aqn,aqB];rcases tf (inB fo 0 lg.size) with h2 | h2
  ·have h3:=ae.1 h2;have e2:(decide (0≤fo)&&decide (fo≤(lg.size:Int)))=true:=by simp;omega
   simp only[h2,aqu,aqr,e2,aqm,aqB];rw[l8 (by rw[dz (by omega)];omega)];rfl
  ·simp only[h2,aqv,aqm,aqz]
 ·have e1:decide (2400 < (lg.size:Int))=true:=by simp;omega
  simp only[e1,h1,aqu,c9,aqm,aq5,aqo,aqz]
def lc{lg:aqp}{fo:Int}(hs:lg.size≤1048576):ed ((lg,fo,()),())=some ((bS lg fo,()),()):=by
 unfold ed bS;simp only[dE,iH hs,aqs,aq7,are];by_cases h1:lg.size≤2400
 ·have e1:decide (2400 < (lg.size:Int))=false:=by simp;omega
  simp only[e1,h1,aqv,eL,aqm,aqX,aqn,aqB];rcases tf (inB fo 0 lg.size) with h2 | h2
  ·have h3:=ae.1 h2;have e2:(decide (0≤fo)&&decide (fo≤(lg.size:Int)))=true:=by simp;omega
   simp only[h2,aqu,aqr,e2,aqm,aqB];rw[iH (by rw[dz (by omega)];omega)];rfl
  ·simp only[h2,aqv,aqm,aqz]
 ·have e1:decide (2400 < (lg.size:Int))=true:=by simp;omega
  simp only[e1,h1,aqu,c9,aqm,aq5,aqo,aqz]
end Go.VS
namespace Go.VS
open Go
def eY(p:Bool):bg p true=true:=by cases p<;>rfl
def ag7{k o:ajZ}{w:aqp}{n:Int}(h:IZ k w n=some o):o.id=k.id:=by
 unfold IZ at h
 repeat' split at h
 all_goals first | (cases h;done) | (cases h;rfl)
def abV{k o:ajZ}{n:ajT}(h:Ek k n=some o):o.id=k.id:=by
 unfold Ek at h
 repeat' split at h
 all_goals first | (cases h;done) | (cases h;rfl)
def aaH{k o:ajZ}{w:aqp}{n:ajT}(h:gO k w n=some o):o.id=k.id:=by
 unfold gO at h;split at h
 ·exact(abV h).trans rfl
 split at h
 ·exact abV h
 split at h
 ·cases h
 repeat' split at h
 all_goals first | (cases h;done) | (cases h;rfl)
def aaK{k o:ajZ}{w:aqp}{m:Mark}(h:eP k w m=some o):o.id=k.id:=by
 unfold eP at h
 repeat' split at h
 all_goals first | (cases h;done) | (cases h;rfl)
def aew{k o:ajZ}{w r:aqp}(h:ck k w r=some o):o.id=k.id:=by
 unfold ck at h;split at h
 ·split at h
  ·exact ag7 h
  ·cases h
 split at h
 ·split at h
  ·exact aaH h
  ·cases h
 split at h
 ·split at h
  ·exact aaK h
  ·cases h
 ·cases h
def afl{k o:ajZ}{r:aqp}(h:cg k r=some o)(hk:aE k=true):o.id=k.id:=by
 unfold cg at h;split at h
 case isFalse=>cases h
 rename_i h2;cases h;unfold ga at h2 ⊢;simp only[hk,aqm]at h2 ⊢;cases hs:(o4 k r).filter aE with
 | none=>rfl
 | some o=>
  simp only;have:=(asr.1 hs).1;unfold o4 at this;split at this
  ·cases this
  ·exact aew this
def Q2: ∀ {rs:List aqp} {k o:ajZ},aE k=true→eF k rs=some o→o.id=k.id
 | [],k,o,_,h=>by cases h;rfl
 | r::rs,k,o,hk,h=>by
  unfold eF at h;rw[atp]at h;cases hs:cg k r with
  | none=>rw[hs]at h;cases h
  | some k'=>rw[hs]at h;exact(Q2 (rs:=rs) (Df hs) h).trans (afl hs hk)
def Lu{id:Int}{rs:List aqp}{o:ajZ}(h:ct id rs=some o):o.id=id:=by
 unfold ct at h;split at h
 ·exact Q2 (k:=⟨id,0,1,[],[],[]⟩) (l5 (by assumption)) h
 ·cases h
def xA(l:List ajV)(i:Nat):ajV:=l.getD i (dfl .mixed)
def hA(l:List ajY)(i:Nat):ajY:=l.getD i (dfl .half)
def IN(l:List ajV)(i:Nat): @rd ajV (dfl .mixed) l (i:Int)=xA l i:=rfl
def Pu(l:List ajY)(i:Nat): @rd ajY (dfl .half) l (i:Int)=hA l i:=rfl
def agy{l:List ajV}{i j:Nat}(h:j < i):xA (l.take i) j=xA l j:=by
 unfold xA;simp[aqE,h]
def xC(l:List ajV)(i:Nat):Bool:=(inB (xA l i).nu 0 999&&decide (((xA l i).da.size:Int)=4))&&db i fun j=> !decide ((xA l j).nu=(xA l i).nu)
def iW(h:ajY):Bool:=isN h.fr&&(isN h.to&&(inB h.nu 1 99&&(inB h.un 1 999&&(inB h.sz 1 24&&(decide ((h.got.length:Int)≤14)&&db h.got.length (xC h.got))))))
def Ud{h:ajY}(sm:K6 h):su ((h.fr,h.nu,h.to,h.un,h.sz,h.got,()),())=some ((iW h,()),()):=by
 have hl:h.got.length≤9223372036854775807:=by have:=sm.1;omega
 have akv:qw ((h.fr,h.nu,h.to,h.un,h.sz,h.got,()),h.got,(h.got.length:Int),0,())=some (if db h.got.length (xC h.got) then .inr () else .inl (false,())):=
  cS (fun i=>((h.fr,h.nu,h.to,h.un,h.sz,h.got,()),h.got,(h.got.length:Int),(i:Int),())) h.got.length (xC h.got) (false,()) () (fun i hi=>by
   unfold qy xC;simp only[bp hi,ak hi,aqm,IN,bO,aqs];rcases tf (inB (xA h.got i).nu 0 999) with e | e<;>rcases tfp (((xA h.got i).da.size:Int)=4) with e' | e'
   rotate_left
   ·simp only[e,e',aqo,aqV,aqv,arA,aqz,aqm,aqr]
   ·simp only[e,aqz,aqv,aq5,aqm,aqr]
   ·simp only[e,aqz,aqv,aq5,aqm,aqr]
   ·have e2:(decide (0≤(i:Int))&&decide ((i:Int)≤(h.got.length:Int)))=true:=by simp;omega
    have e3:(aqR i h.got).length=i:=by simp;omega
    simp only[e,e',aqn,aqu,ash,aqr,e2,aqm,aqJ,e3,aqB];have hin:qv ((h.fr,h.nu,h.to,h.un,h.sz,h.got,()),((xA h.got i).nu,(xA h.got i).da,()),h.got,(h.got.length:Int),(i:Int),aqR i h.got,(i:Int),0,())=
      some (if db i (fun j=> !decide ((xA h.got j).nu=(xA h.got i).nu)) then .inr ((h.fr,h.nu,h.to,h.un,h.sz,h.got,()),h.got,(h.got.length:Int),(i:Int),()) else .inl (false,())):=
     cS (fun j=>((h.fr,h.nu,h.to,h.un,h.sz,h.got,()),((xA h.got i).nu,(xA h.got i).da,()),h.got,(h.got.length:Int),(i:Int),aqR i h.got,(i:Int),(j:Int),())) i (fun j=> !decide ((xA h.got j).nu=(xA h.got i).nu)) (false,()) _ (fun j hj=>by
      unfold qx;simp only[bp hj,e3,ak hj,aqm,IN,agy hj,aG hj (by omega:i≤9223372036854775807)];rcases tfp ((xA h.got j).nu=(xA h.got i).nu) with e4 | e4<;>simp only[e4,aqn,aqo]<;>rfl) (by simp[qx])
    rw[hin];rcases tf (db i (fun j=> !decide ((xA h.got j).nu=(xA h.got i).nu))) with e4 | e4
    ·simp only[e4,aqm,dO,aG hi hl]
    ·simp only[e4,aqr,yG]) (by simp[qy])
 unfold su iW;simp only[dr,bO,aqs,akv];rcases tf (isN h.fr) with e | e<;>simp only[e,aqu,aqv,aqm,aqr,aqB,aqz];rcases tf (isN h.to) with e | e<;>simp only[e,aqu,aqv,aqm,aqr,aqB,aqz];rcases tf (inB h.nu 1 99) with e | e<;>simp only[e,aqu,aqv,aqm,aqr,aqB,aqz];rcases tf (inB h.un 1 999) with e | e<;>simp only[e,aqu,aqv,aqm,aqr,aqB,aqz];rcases tf (inB h.sz 1 24) with e | e<;>simp only[e,aqu,aqv,aqm,aqr,aqB,aqz];rcases p9 (h.got.length:Int) 14 with⟨e1,e2⟩ | ⟨e1,e2⟩<;>simp only[e1,e2,aqn,aqo,aqm,aqr,aqB,aqz];rcases tf (db h.got.length (xC h.got)) with e | e<;>simp only[e,aqm,aqr]<;>rfl
def adS{sz:Int}(h:inB sz 1 24=true):inB (w64 (aqU (w64 (w64 (sz+4) - 1)) 4)) 1 6=true:=by
 have h:=ae.1 h;rw[ah (n:=sz+4) (by omega) (by omega),ah (n:=sz+4 - 1) (by omega) (by omega)];have e:aqU (sz+4 - 1) 4=(sz+4 - 1) / 4:=arf (by omega);rw[e,ah (by omega) (by omega),ae];omega
def TC{h:ajY}(sm:K6 h):lK ((h.fr,h.nu,h.to,h.un,h.sz,h.got,()),())=some ((iW h,()),()):=by
 have hl:h.got.length≤9223372036854775807:=by have:=sm.1;omega
 have akv:inB h.sz 1 24=true→k8 ((h.fr,h.nu,h.to,h.un,h.sz,h.got,()),0,())=some (if db h.got.length (xC h.got) then .inr () else .inl (false,())):=fun hz=>
  cS (fun i=>((h.fr,h.nu,h.to,h.un,h.sz,h.got,()),(i:Int),())) h.got.length (xC h.got) (false,()) () (fun i hi=>by
   unfold ky xC cy iE gu;simp only[bp hi,ak hi,aqm,IN,dE,aqs,adS hz,eL,aq7,are,aqB];rcases tf (inB (xA h.got i).nu 0 999) with e | e<;>rcases tfp (((xA h.got i).da.size:Int)=4) with e' | e'
   rotate_left
   ·simp only[e,e',aqo,aqV,aqv,aqz,aqm,aqr]
   ·simp only[e,aqz,aqv,aqm,aqr]
   ·simp only[e,aqz,aqv,aqm,aqr]
   ·simp only[e,e',aqn,ar6,aqu,aqr,aqB];have hin:k0 ((h.fr,h.nu,h.to,h.un,h.sz,h.got,()),(i:Int),0,())=
      some (if db i (fun j=> !decide ((xA h.got j).nu=(xA h.got i).nu)) then .inr ((h.fr,h.nu,h.to,h.un,h.sz,h.got,()),(i:Int),()) else .inl (false,())):=
     cS (fun j=>((h.fr,h.nu,h.to,h.un,h.sz,h.got,()),(i:Int),(j:Int),())) i (fun j=> !decide ((xA h.got j).nu=(xA h.got i).nu)) (false,()) _ (fun j hj=>by
      unfold kx;simp only[bp hj,ak hi,ak (Nat.lt_trans hj hi),aqm,IN,aG hj (by omega:i≤9223372036854775807)];rcases tfp ((xA h.got j).nu=(xA h.got i).nu) with e4 | e4<;>simp only[e4,aqn,aqo]<;>rfl) (by simp[kx])
    rw[hin];rcases tf (db i (fun j=> !decide ((xA h.got j).nu=(xA h.got i).nu))) with e4 | e4
    ·simp only[e4,aqm,dO,aG hi hl]
    ·simp only[e4,aqr,yG]) (by simp[ky])
 unfold lK iW;simp only[cQ,dE,aqs];rcases tf (isN h.fr) with e | e<;>simp only[e,aqu,aqv,aqm,aqr,aqB,aqz];rcases tf (isN h.to) with e | e<;>simp only[e,aqu,aqv,aqm,aqr,aqB,aqz];rcases tf (inB h.nu 1 99) with e | e<;>simp only[e,aqu,aqv,aqm,aqr,aqB,aqz];rcases tf (inB h.un 1 999) with e | e<;>simp only[e,aqu,aqv,aqm,aqr,aqB,aqz];rcases tf (inB h.sz 1 24) with e | e<;>simp only[e,aqu,aqv,aqm,aqr,aqB,aqz];rw[akv e];rcases p9 (h.got.length:Int) 14 with⟨e1,e2⟩ | ⟨e1,e2⟩<;>simp only[e1,e2,aqn,aqo,aqm,aqr,aqB,aqz];rcases tf (db h.got.length (xC h.got)) with e | e<;>simp only[e,aqm,aqr]<;>rfl
def rK(l:List ajY)(f n:Int):Int:=oV l.length fun i=>decide ((hA l i).fr=f)&&decide ((hA l i).nu=n)
def FV{l:List ajY}{f n:Int}(hl:l.length≤1048576):j0 (l,f,n,())=some ((rK l f n,()),()):=by
 unfold j0;have:=rG (b:=lr) (fun i=>(f,n,l,(l.length:Int),(i:Int),())) l.length (fun i=>decide ((hA l i).fr=f)&&decide ((hA l i).nu=n)) (fun r=>(r,())) () (fun i hi=>by
  unfold lr;simp only[bp hi,ak hi,aqm,Pu,aG hi (by omega:l.length≤9223372036854775807)];rcases tfp ((hA l i).fr=f) with e | e<;>rcases tfp ((hA l i).nu=n) with e2 | e2<;>simp only[e,e2,aqn,aqo]<;>rfl) (by simp[lr])
 rw[show qz (f,n,l,(l.length:Int),0,())=_ from this];exact yH
def afU{n:Nat}{p:Nat→Bool}{i:Nat}(hi:i < n)(hp:p i=true):decide (oV n p < (i:Int))= !(db i fun j=> !p j):=by
 rcases bF n p with⟨_,h2⟩ | ⟨c,h1,h2,h3,h4⟩
 ·rw[h2 i hi]at hp;cases hp
 ·rw[h1];by_cases hc:c < i
  ·have:db i (fun j=> !p j)=false:=by
    rw[Bool.eq_false_iff];intro h;have:=cw.1 h c hc;simp[h3]at this
   rw[this];simpa using hc
  ·have:db i (fun j=> !p j)=true:=cw.2 fun j hj=>by rw[h4 j (by omega)];rfl
   rw[this];simp;omega
def AR(l:List ajY)(i:Nat):Bool:=iW (hA l i)&&db i fun j=> !(decide ((hA l j).fr=(hA l i).fr)&&decide ((hA l j).nu=(hA l i).nu))
def aj(k:ajR):Bool:=isN k.id&&(bS k.log k.fo&&(decide ((k.ajS.length:Int)≤3)&&((k.up||decide (k.ajS.length=0))&&(((bR k.id k.log).isSome&&(bR k.id (k.log.extract 0 k.fo.toNat)).isSome)&&db k.ajS.length (AR k.ajS)))))
abbrev tKp(k:ajR):Int×Bool×aqp×Int×List ajY×aqq:=(k.id,k.up,k.log,k.fo,k.ajS,())
def ah7{l:List ajY}(h: ∀ x∈l,K6 x)(i:Nat):K6 (hA l i):=by
 unfold hA;rcases asi i l.length with hi | hi
 ·rw[EJ (aqC hi)];exact h _ (ark hi)
 ·rw[aqE,arW hi];exact⟨by decide,fun m hm=>by cases hm⟩
def gp{k:ajR}(sm:dy k):cZ (tKp k,())=some ((aj k,()),()):=by
 obtain⟨id,up,lg,fo,hv⟩:=k;obtain⟨sl,hl,hs⟩:=sm;simp only at sl hl hs;have akv:iu ((id,up,lg,fo,hv,()),hv,(hv.length:Int),0,())=some (if db hv.length (AR hv) then .inr () else .inl (false,())):=
  cS (fun i=>((id,up,lg,fo,hv,()),hv,(hv.length:Int),(i:Int),())) hv.length (AR hv) (false,()) () (fun i hi=>by
   unfold me AR;simp only[bp hi,ak hi,aqm,Pu,Ud (ah7 hs i),FV hl,aqs,aq7,are,eY,aG hi (by omega:hv.length≤9223372036854775807)];rcases tf (iW (hA hv i)) with e | e
   ·have hf:=afU (p:=fun j=>decide ((hA hv j).fr=(hA hv i).fr)&&decide ((hA hv j).nu=(hA hv i).nu)) hi (by simp);unfold rK;simp only[e,aqu,aqX,aqB,hf];cases db i (fun j=> !(decide ((hA hv j).fr=(hA hv i).fr)&&decide ((hA hv j).nu=(hA hv i).nu)))<;>rfl
   ·simp only[e,aqv,aq5,aqm,aqz,aqr]) (by simp[me])
 unfold cZ aj;simp only[dr,aqs,lz sl];rcases tf (isN id) with e | e<;>simp only[e,aqu,aqv,aqm,aqr,aqB,aqz,oT];rcases tf (bS lg fo) with e2 | e2<;>simp only[e2,aqu,aqv,aqm,aqr,aqB,aqz,oT];have e3:0≤fo∧fo≤(lg.size:Int):=by
  unfold bS at e2;simp only[aqt]at e2;exact ae.1 e2.2.1
 have e4:(decide (0≤fo)&&decide (fo≤(lg.size:Int)))=true:=by simp;omega
 rcases p9 (hv.length:Int) 3 with⟨e5,e6⟩ | ⟨e5,e6⟩<;>simp only[e5,e6,aqn,aqo,aqm,aqr,aqB,aqz,oT];have akM: ∀ b:Bool,(b=true)→bB (X:=(Int×Bool×aqp×Int×List ajY×aqq)×aqq) (fun j5=>
   (cT (j5.1.1,j5.1.2.2.1,())).bind fun r8=>
   (if(decide (0≤j5.1.2.2.2.1)&&decide (j5.1.2.2.2.1≤(j5.1.2.2.1.size:Int))) then
   (cT (j5.1.1,(j5.1.2.2.1.extract (0) (aqy j5.1.2.2.2.1)),())).bind fun r9=>
   (if((!r8.1.2.1)||(!r9.1.2.1)) then
   some ((false,()),())
   else
   (aJ (iu (j5.1,j5.1.2.2.2.2.1,(j5.1.2.2.2.2.1.length:Int),0,()))
   (fun y56=>some (y56,()))
   (fun y56=>some ((true,()),()))))
   else none)) (some (.inr ((id,up,lg,fo,hv,()),())))=some ((b&&(((bR id lg).isSome&&(bR id (lg.extract 0 fo.toNat)).isSome)&&db hv.length (AR hv)),()),()):=by
  rintro b rfl;simp only[aS,qf sl,aqs,e4,aqm];rw[qf (by rw[dz (by omega)];omega)];simp only[aqs,akv,aqB];rcases tf (bR id lg).isSome with e | e<;>rcases tf (bR id (lg.extract 0 fo.toNat)).isSome with e2 | e2<;>simp only[e,e2,aqu,aqv,ash,aq5,arA,aqm,aqr,ar6,aqV,aqz,aqB];rcases tf (db hv.length (AR hv)) with e | e<;>simp only[e,aqm,aqr]<;>rfl
 rcases tf up with e7 | e7
 ·simp only[e7,aqu,aqr,aq5];rw[e7]at akM;exact akM true rfl
 ·simp only[e7,aqv,aqm,aqX];rw[e7]at akM;by_cases e8:hv.length=0
  ·have e9:decide (0 < (hv.length:Int))=false:=by rw[e8];rfl
   simp only[e9,aqr,e8,aqn];rw[e8]at akM;exact akM true rfl
  ·have e9:decide (0 < (hv.length:Int))=true:=by simp;omega
   simp only[e9,aqm,e8,aqo,aqz,oT]
def cY{k:ajR}(sm:dy k):bJ (tKp k,())=some ((aj k,()),()):=by
 obtain⟨id,up,lg,fo,hv⟩:=k;obtain⟨sl,hl,hs⟩:=sm;simp only at sl hl hs;have akv:ig ((id,up,lg,fo,hv,()),0,())=some (if db hv.length (AR hv) then .inr () else .inl (false,())):=
  cS (fun i=>((id,up,lg,fo,hv,()),(i:Int),())) hv.length (AR hv) (false,()) () (fun i hi=>by
   unfold lU AR;simp only[bp hi,ak hi,aqm,Pu,TC (ah7 hs i),aqs,aG hi (by omega:hv.length≤9223372036854775807)];rcases tf (iW (hA hv i)) with e | e
   ·simp only[e,aqu,aqr,aqB];have hin:mI ((id,up,lg,fo,hv,()),(i:Int),0,())=some (if db i (fun j=> !(decide ((hA hv j).fr=(hA hv i).fr)&&decide ((hA hv j).nu=(hA hv i).nu))) then .inr ((id,up,lg,fo,hv,()),(i:Int),()) else .inl (false,())):=
     cS (fun j=>((id,up,lg,fo,hv,()),(i:Int),(j:Int),())) i (fun j=> !(decide ((hA hv j).fr=(hA hv i).fr)&&decide ((hA hv j).nu=(hA hv i).nu))) (false,()) _ (fun j hj=>by
      unfold lT;simp only[bp hj,ak hi,ak (Nat.lt_trans hj hi),aqm,Pu,eY,aG hj (by omega:i≤9223372036854775807)];rcases tfp ((hA hv j).fr=(hA hv i).fr) with e | e<;>rcases tfp ((hA hv j).nu=(hA hv i).nu) with e2 | e2<;>simp only[e,e2,aqn,aqo]<;>rfl) (by simp[lT])
    rw[hin];rcases tf (db i (fun j=> !(decide ((hA hv j).fr=(hA hv i).fr)&&decide ((hA hv j).nu=(hA hv i).nu)))) with e4 | e4
    ·simp only[e4,aqm,dO,aG hi (by omega:hv.length≤9223372036854775807)]
    ·simp only[e4,aqr,yG]
   ·simp only[e,aqv,aqm,aqz,aqr]) (by simp[lU])
 unfold bJ aj;simp only[cQ,aqs,lc sl];rcases tf (isN id) with e | e<;>simp only[e,aqu,aqv,aqm,aqr,aqB,aqz,oT];rcases tf (bS lg fo) with e2 | e2<;>simp only[e2,aqu,aqv,aqm,aqr,aqB,aqz,oT];have e3:0≤fo∧fo≤(lg.size:Int):=by
  unfold bS at e2;simp only[aqt]at e2;exact ae.1 e2.2.1
 have e4:(decide (0≤fo)&&decide (fo≤(lg.size:Int)))=true:=by simp;omega
 rcases p9 (hv.length:Int) 3 with⟨e5,e6⟩ | ⟨e5,e6⟩<;>simp only[e5,e6,aqn,aqo,aqm,aqr,aqB,aqz,oT];have akM: ∀ b:Bool,(b=true)→bB (X:=(Int×Bool×aqp×Int×List ajY×aqq)×aqq) (fun j5=>
   (if(decide (0≤j5.1.2.2.2.1)&&decide (j5.1.2.2.2.1≤(j5.1.2.2.1.size:Int))) then
   (bY ((j5.1.2.2.1.extract (0) (aqy j5.1.2.2.2.1)),())).bind fun r8=>
   (jU (j5.1.1,r8.1.1,())).bind fun r9=>
   (bd j5).bind fun r10=>
   (if((!r10.1.2.1)||(!r9.1.2.1)) then
   some ((false,()),())
   else
   (aJ (ig (j5.1,0,()))
   (fun y27=>some (y27,()))
   (fun y27=>some ((true,()),()))))
   else none)) (some (.inr ((id,up,lg,fo,hv,()),())))=some ((b&&(((bR id lg).isSome&&(bR id (lg.extract 0 fo.toNat)).isSome)&&db hv.length (AR hv)),()),()):=by
  rintro b rfl;have hz:(lg.extract 0 fo.toNat).size≤1048576:=by rw[dz (by omega)];omega
  have hg:=ou (lg.extract 0 fo.toNat);simp only[aS,e4,aqm,iH hz,aqs,FC (id:=id) (show(eC (lg.extract 0 fo.toNat)).1.length≤1048576 by omega) (fun r hr=>by have:=hg.2.2 r hr;omega),G0 sl,akv,aqB];rw[show ct id (eC (lg.extract 0 fo.toNat)).1=bR id (lg.extract 0 fo.toNat) from rfl];rcases tf (bR id lg).isSome with e | e<;>rcases tf (bR id (lg.extract 0 fo.toNat)).isSome with e2 | e2<;>simp only[e,e2,aqu,aqv,ash,aq5,arA,aqm,aqr,ar6,aqV,aqz,aqB];rcases tf (db hv.length (AR hv)) with e | e<;>simp only[e,aqm,aqr]<;>rfl
 rcases tf up with e7 | e7
 ·simp only[e7,aqu,aqr,aq5];rw[e7]at akM;exact akM true rfl
 ·simp only[e7,aqv,aqm,aqX];rw[e7]at akM;by_cases e8:hv.length=0
  ·have e9:decide (0 < (hv.length:Int))=false:=by rw[e8];rfl
   simp only[e9,aqr,e8,aqn];rw[e8]at akM;exact akM true rfl
  ·have e9:decide (0 < (hv.length:Int))=true:=by simp;omega
   simp only[e9,aqm,e8,aqo,aqz,oT]
end Go.VS
namespace Go.VS
open Go
def kA(l:List ajR)(i:Nat):ajR:=l.getD i (dfl .ajU)
def pA(l:List ajW)(i:Nat):ajW:=l.getD i (dfl .aj4)
def bA(l:List Bool)(i:Nat):Bool:=l.getD i (dfl .bool)
def ajE(l:List ajT):Bool:=db l.length fun i=>aB (nA l i)
def CY(p:ajW):Bool:=isN p.src&&(isN p.dst&&((decide (p.src - p.dst=1)||decide (p.dst - p.src=1))&&decide ((p.data.size:Int)≤40)))
def l6{n:Int}(h:isN n=true):0≤n∧n≤3:=ae.1 h
def cM(a t:Int):Int:=if !isN a||(!isN t||decide (a=t)) then -1 else if a < t then a+1 else a - 1
def Ib{a:Int}(h:isN a=true):w64 (a+1)=a+1∧w64 (a - 1)=a - 1:=by
 have:=l6 h;exact⟨ah (by omega) (by omega),ah (by omega) (by omega)⟩
def BG{a t:Int}:bK (a,t,())=some ((cM a t,()),()):=by
 unfold bK cM;simp only[dr,aqs];rcases tf (isN a) with e | e
 ·rcases tf (isN t) with e2 | e2
  ·rcases tfp (a=t) with e3 | e3
   ·simp only[e,e2,e3,aqn];rfl
   ·rcases tfp (a < t) with e4 | e4<;>simp only[e,e2,e3,e4,aqo,aqn,aqu,aqr,aS,aqm,if_false,ash,(Ib e).1,(Ib e).2]
  ·simp only[e,e2];rfl
 ·simp only[e];rfl
def tD{a t:Int}:gf (a,t,())=some ((cM a t,()),()):=by
 unfold gf cM;simp only[cQ,aqs];rcases tf (isN a) with e | e
 ·rcases tf (isN t) with e2 | e2
  ·rcases tfp (a=t) with e3 | e3
   ·simp only[e,e2,e3,aqn];rfl
   ·rcases tfp (a < t) with e4 | e4<;>simp only[e,e2,e3,e4,aqo,aqn,aqu,aqr,aS,aqm,if_false,ash,(Ib e).1,(Ib e).2]
  ·simp only[e,e2];rfl
 ·simp only[e];rfl
def acY{a t:Int}(ha:isN a=true)(ht:isN t=true)(hne:a≠t):isN (cM a t)=true:=by
 have:=l6 ha;have:=l6 ht;have e3:decide (a=t)=false:=by simpa using hne
 unfold cM;simp only[ha,ht,e3,aqu,ash,aqr];rw[ae];split<;>omega
end Go.VS
namespace Go.VS
open Go
def stT(k:ajR):ajZ:=(bR k.id k.log).getD zK
def G8(l:List ajR)(i:Int): @rd ajR (dfl .ajU) l i=kA l i.toNat:=rfl
structure aoE (k:ajR):Prop where
 id:isN k.id=true
 sh:bS k.log k.fo=true
 hl:k.ajS.length≤3
 up:k.up=true∨k.ajS.length=0
 st:bR k.id k.log=some (stT k)
 ok:aE (stT k)=true
 sid:(stT k).id=k.id
 fo:(bR k.id (k.log.extract 0 k.fo.toNat)).isSome=true
 hv: ∀ i,i < k.ajS.length→AR k.ajS i=true
def bZ{k:ajR}(h:aj k=true):aoE k:=by
 unfold aj at h;simp only[aqt,aq8,decide_eq_true_eq,cw]at h;obtain⟨a,b,c,d,⟨e,f⟩,g⟩:=h;have hs:bR k.id k.log=some (stT k):=by
  unfold stT;cases hh:bR k.id k.log with
  | none=>rw[hh]at e;cases e
  | some o=>rfl
 exact⟨a,b,by omega,d,hs,EG hs,Lu hs,f,g⟩
structure ap5 (ti:Int) (ks:List ajR) (ls:List Bool) (ra:List ajW) (se go:List ajT):Prop where
 t0:0≤ti
 t1:ti≤99999
 kl:ks.length=4
 ll:ls.length=3
 rl:ra.length≤30
 s:ajE se=true
 sl:se.length≤6
 g:ajE go=true
 gl:go.length≤6
 k: ∀ i,i < 4→(kA ks i).id=(i:Int)∧aj (kA ks i)=true
 r: ∀ i,i < ra.length→CY (pA ra i)=true
def VI{k:ajZ}{n:ajT}(h:aE k=true)(hn:n∈k.held):isN (cM k.id n.to)=true:=by
 have hf:=bH h;obtain⟨i,hi,rfl⟩:=arn hn;have h1:=cG hf.h hi;rw[iM (aqC hi)]at h1;have h2:=kI h1;have h3:=hf.ho i hi;unfold oK mw at h3;rw[iM (aqC hi)]at h3;simp only[aqt,aro,decide_eq_false_iff_not]at h3;exact acY (ae.2 ⟨hf.id0,hf.id1⟩) (ae.2 ⟨h2.t0,h2.t1⟩) h3.2.2.1.1
section
variable {ti:Int} {ks:List ajR} {ls:List Bool} {ra:List ajW} {se go:List ajT}
def ae7{l:List ajT}{j:Nat}(h:j < l.length):nA l j∈l:=by
 rw[iM (aqC h)];exact ark h
end
end Go.VS
namespace Go.VS
open Go
def V4{a b c d e f:Int}(h:bef a b c d=true)(k:bef c d e f=true):bef a b e f=true:=by
 unfold bef at *;simp only[aq8,aqt,decide_eq_true_eq]at *;omega
def Tk{a b:Int}:bef a b a b=false:=by
 unfold bef;simp
def s8{l:List ajT}(h:dA l=true): ∀ (j i:Nat),i < j→j < l.length→bef (nA l i).fr (nA l i).nu (nA l j).fr (nA l j).nu=true
 | j+1,i,hij,hj=>by
  have h1:=cw.1 h (j+1) hj;simp only[aqt,aq8,decide_eq_true_eq]at h1;have h2:bef (nA l j).fr (nA l j).nu (nA l (j+1)).fr (nA l (j+1)).nu=true:=h1.2.resolve_left (by omega);rcases asi i j with h3 | h3
  ·exact V4 (s8 h j i h3 (by omega)) h2
  ·rwa[show i=j by omega]
def X9{l:List ajT}(h:dA l=true){i j:Nat}(hi:i < l.length)(hj:j < l.length)(h1:(nA l i).fr=(nA l j).fr)(h2:(nA l i).nu=(nA l j).nu):i=j:=by
 rcases asf i j with h3 | h3 | h3
 ·have:=s8 h j i h3 hj;rw[h1,h2,Tk]at this;cases this
 ·exact h3
 ·have:=s8 h i j h3 hi;rw[h1,h2,Tk]at this;cases this
end Go.VS
namespace Go.VS
open Go
def bV(r:aqp):aqp:=((cj (r.size:Int)++B [58])++r)++B [59]
def Tt(r:aqp):L (bV r)=dcm r.size++58::(L r++[59]):=by
 unfold bV;rw[YW];simp only[rp,L_B,ajn,aqP,asv,arF]
def xh(r:aqp):(bV r).size=(dcm r.size).length+2+r.size:=by
 rw[← aN,Tt];simp only[aqD,aqM,aq0,aN];omega
def cat(rs:List aqp):List UInt8:=rs.flatMap fun r=>L (bV r)
def qZ:cat []=[]:=rfl
def gP(r:aqp)(rs:List aqp):cat (r::rs)=L (bV r)++cat rs:=rfl
def ib(rs ts:List aqp):cat (rs++ts)=cat rs++cat ts:=au0
def ot(rs:List aqp):Prop:= ∀ r∈rs,1≤r.size∧r.size≤60
def ajf(b:UInt8)(h:dig b=true):b≠58:=by
 rintro rfl;revert h;decide
def abN{n:Nat}(h:n≤60):(dcm n).length≤2:=sD 2 n (by omega) (by omega)
def abO(n:Nat):1≤(dcm n).length:=by
 have:=aaN n;cases h:dcm n with
 | nil=>exact absurd h this
 | cons b l=>simp
def abE{l m:List UInt8}{b:UInt8}{i:Nat}(h:i=l.length):(l++b::m).getD i 0=b:=by
 subst h;simp
def IX{s r:aqp}{t:List UInt8}(h:L s=L (bV r)++t)(h1:1≤r.size)(h2:r.size≤60):oY s=some (r,(bV r).size):=by
 rw[Tt]at h;have hs:s.size=(dcm r.size).length+2+r.size+t.length:=by
  rw[← aN,h];simp only[aqD,aqM,aq0,aN];omega
 have hd:=abN h2;have hp:=abO r.size;generalize hc:(dcm r.size).length=c at *;have hL:L s=dcm r.size++58::(L r++59::t):=by rw[h];simp
 have apV:Za s=(c:Int):=by
  refine YK (by omega) ?_ (fun j hj=> ?_)
  ·rw[decide_eq_true_eq,wE,hL,abE hc.symm];rfl
  ·rw[decide_eq_false_iff_not,wE,hL];have hlt:j < (dcm r.size).length:=by omega
   have hm:(dcm r.size++58::(L r++59::t)).getD j 0∈dcm r.size:=abD hlt;have hdg:=PD (r.size+1) r.size (by omega) _ hm;have hne:=ajf _ hdg;generalize (dcm r.size++58::(L r++59::t)).getD j 0=b at *;intro e;apply hne;have e:b.toNat=58:=by omega
   exact atc.1 e
 have he:L (s.extract 0 c)=dcm r.size:=by
  rw[jd,hL];simp[← hc]
 have hn:aV (s.extract 0 c)=(r.size:Int):=R8 (by rw[← aN,he];omega) he;have h59:bt s ((c+1+r.size:Nat):Int)=59:=by
  have e:(L s).getD (c+1+r.size) 0=59:=by
   have:dcm r.size++58::(L r++59::t)=(dcm r.size++58::L r)++59::t:=by simp
   rw[hL,this];exact abE (by simp[hc];omega)
  rw[wE,e];rfl
 have hx:s.extract (c+1) (c+1+r.size)=r:=by
  refine oX ?_;rw[jd,hL];have:(dcm r.size++58::(L r++59::t)).drop (c+1)=L r++59::t:=by
   have e:dcm r.size++58::(L r++59::t)=(dcm r.size++[58])++(L r++59::t):=by simp
   rw[e,atd (by simp[hc])]
  rw[this,show c+1+r.size - (c+1)=(L r).length by rw[aN];omega,as8 rfl]
 unfold oY;rw[apV];simp only[aqJ,hn];rw[aqg (by omega),aqg (by omega),aqg (by omega),aqg (by omega),h59];simp only[aqn,aqu,aqr,hx];rw[xh,hc]
def ag2{s r:aqp}{n:Nat}(h:oY s=some (r,n)):1≤r.size∧r.size≤60∧n=(bV r).size∧ ∃ t,L s=L (bV r)++t:=by
 have hsm:=za h;unfold oY at h;split at h
 ·cases h
 rename_i hc0;rcases xS s with⟨h1,_⟩ | ⟨c,h1,h2,h3,h4,_⟩
 ·omega
 rw[h1]at h;simp only[aqJ]at h;split at h
 ·cases h
 rename_i hn1;split at h
 ·cases h
 rename_i hn2;split at h
 ·cases h
 rename_i hn3;split at h
 ·cases h
 rename_i hn4;cases h;have hz:(s.extract 0 c).size=c:=by rw[dz (by omega)];omega
 rcases rP (s.extract 0 c) with⟨h9,_⟩ | ⟨k,h9,h10,h11⟩
 ·omega
 simp only[h9,aqJ]at hn1 hn2 hn3 hn4 hsm ⊢;have hrs:(s.extract (c+1) (c+1+k)).size=k:=by rw[dz (by omega)];omega
 have h5:bt s ((c+1+k:Nat):Int)=59:=by
  cases hd:decide (bt s ((c+1+k:Nat):Int)=59) with
  | true=>simpa using hd
  | false=>rw[hd]at hn4;exact absurd rfl hn4
 have g1:(L s).getD c 0=58:=by
  rw[wE]at h4;exact atc.1 (by have:(58:UInt8).toNat=58:=rfl;omega)
 have g2:(L s).getD (c+1+k) 0=59:=by
  rw[wE]at h5;exact atc.1 (by have:(59:UInt8).toNat=59:=rfl;omega)
 have hlen:(L s).length=s.size:=aN s;have t1:(L s).take c=dcm k:=by
  rw[← h11,jd];simp
 have hcl:(dcm k).length=c:=by rw[← t1,arm];omega
 have hsp:L s=dcm k++58::((L (s.extract (c+1) (c+1+k)))++59::(L s).drop (c+1+k+1)):=by
  conv=>lhs;rw[← ass c (L s),t1]
  congr 1;rw[asZ (by omega)];congr 1
  ·rw[← g1,aqE,aqC (by omega)];rfl
  ·rw[jd]
   conv=>lhs;rw[← ass k ((L s).drop (c+1))]
   rw[show c+1+k - (c+1)=k by omega];congr 1;rw[asP,asZ (by omega)];congr 1;rw[← g2,aqE,aqC (by omega)];rfl
 refine⟨by omega,by omega, ?_,(L s).drop (c+1+k+1), ?_⟩
 ·rw[xh,hrs,hcl]
 ·rw[Tt,hrs]
  conv=>lhs;rw[hsp]
  simp
def GK(r:aqp):3≤(bV r).size:=by
 rw[xh];have:=abO r.size;omega
def XU{log:aqp}: ∀ (rs:List aqp) (f:Nat) (out:List aqp) (at_:Nat),ot rs→(L log).drop at_=cat rs→at_≤log.size→log.size < at_+f→kH log f out at_=(out++rs,log.size)
 | [],0,out,at_,_,_,h3,h4=>by omega
 | [],f+1,out,at_,_,h2,h3,h4=>by
  have:log.size≤at_:=by
   have e:=congrArg asG h2;rw[aru,aN,qZ]at e;simp at e;omega
  unfold kH;rw[aqg (by omega),aq6];rw[show at_=log.size by omega]
 | r::rs,0,out,at_,_,_,h3,h4=>by omega
 | r::rs,f+1,out,at_,h1,h2,h3,h4=>by
  have hr:=h1 r aqA;rw[gP]at h2;have hlen:log.size - at_=(bV r).size+(cat rs).length:=by
   have e:=congrArg asG h2;rwa[aru,aN,aqD,aN]at e
  have hp:=GK r;have akr:oY (log.extract at_ log.size)=some (r,(bV r).size):=by
   refine IX (t:=cat rs) ?_ hr.1 hr.2;rw[jd,h2];refine asc ?_;rw[aqD,aN];omega
  unfold kH;rw[aqh (by omega),akr];simp only;have:=XU (log:=log) rs f (out++[r]) (at_+(bV r).size) (fun x hx=>h1 x (aqx _ hx)) (by
   rw[← asP,h2,atd (by rw[aN])]) (by omega) (by omega)
  rw[this];simp
def Eu{log:aqp}{rs:List aqp}(h1:ot rs)(h2:L log=cat rs):eC log=(rs,log.size):=by
 have:=XU (log:=log) rs (log.size+1) [] 0 h1 (by simpa using h2) (arB _) (by omega);exact this
def Qk{log:aqp}: ∀ (f:Nat) (out:List aqp) (at_:Nat),at_≤log.size→ ∃ rs,(kH log f out at_).1=out++rs∧ot rs∧ ∃ t,(L log).drop at_=cat rs++t∧(kH log f out at_).2=at_+(cat rs).length
 | 0,out,at_,_=>⟨[],by simp[kH],(fun r hr=>nomatch hr),(L log).drop at_,rfl,rfl⟩
 | f+1,out,at_,h=>by
  unfold kH;split
  ·rename_i hlt;cases akr:oY (log.extract at_ log.size) with
   | none=>exact⟨[],by simp,(fun r hr=>nomatch hr),(L log).drop at_,rfl,rfl⟩
   | some p=>
    obtain⟨r,n⟩:=p;obtain⟨k1,k2,k3,t,k4⟩:=ag2 akr;have hsm:=za akr;rw[dz (aqG _)]at hsm;simp only at hsm ⊢;obtain⟨rs,g1,g2,t',g3,g4⟩:=Qk (log:=log) f (out++[r]) (at_+n) (by omega);have e:L (log.extract at_ log.size)=(L log).drop at_:=by
     rw[jd];exact asc (by rw[aru,aN];omega)
    rw[e]at k4;have ht:t=cat rs++t':=by
     rw[← g3,← asP,k4,k3,atd (by rw[aN])]
    refine⟨r::rs,by rw[g1];simp,fun x hx=> ?_,t',by rw[k4,ht,gP,aqP], ?_⟩
    ·rcases aqS.1 hx with rfl | hx
     ·exact⟨k1,k2⟩
     ·exact g2 x hx
    ·rw[g4,gP,aqD,aN,k3];omega
  ·exact⟨[],by simp,(fun r hr=>nomatch hr),(L log).drop at_,rfl,rfl⟩
def Ld(log:aqp):ot (eC log).1∧(eC log).2=(cat (eC log).1).length∧ ∃ t,L log=cat (eC log).1++t:=by
 obtain⟨rs,g1,g2,t,g3,g4⟩:=Qk (log:=log) (log.size+1) [] 0 (arB _);have e:(eC log).1=rs:=by
  show(kH log (log.size+1) [] 0).1=rs;simpa using g1
 rw[e];refine⟨g2, ?_,t,by simpa using g3⟩;show(kH log (log.size+1) [] 0).2=_;rw[g4,arI]
def Xd: ∀ (rs ts:List aqp) (t:List UInt8),ot rs→ot ts→cat rs=cat ts++t→ ∃ us,rs=ts++us
 | rs,[],t,_,_,_=>⟨rs,rfl⟩
 | [],s::ts,t,_,_,h=>by
  have e:=congrArg asG h;rw[gP,qZ]at e;have:=GK s;simp only[aq0,aqD,aN]at e;omega
 | r::rs,s::ts,t,h1,h2,h=>by
  rw[gP,gP,aqP]at h;have hr:=h1 r aqA;have hs:=h2 s aqA;have o1:=IX (s:=B (L (bV r)++cat rs)) (r:=r) (t:=cat rs) (L_B _) hr.1 hr.2;have o2:=IX (s:=B (L (bV r)++cat rs)) (r:=s) (t:=cat ts++t) (by rw[L_B,h]) hs.1 hs.2;rw[o1]at o2;simp only[aqI,arb]at o2;obtain⟨rfl,_⟩:=o2;obtain⟨us,hu⟩:=Xd rs ts t (fun x hx=>h1 x (aqx _ hx)) (fun x hx=>h2 x (aqx _ hx)) (aus h);exact⟨us,by rw[hu];rfl⟩
def U8{lg:aqp}{fo:Int}:bS lg fo=true↔lg.size≤2400∧ ∃ rs ts,ot (rs++ts)∧L lg=cat (rs++ts)∧fo=((cat rs).length:Int):=by
 unfold bS;simp only[aqt,decide_eq_true_eq];constructor
 ·rintro⟨h1,h2,h3,h4⟩;have h2:=ae.1 h2;obtain⟨a1,a2,t,a3⟩:=Ld lg;obtain⟨b1,b2,t',b3⟩:=Ld (lg.extract 0 fo.toNat);have ht:t=[]:=by
   have e:=congrArg asG a3;rw[aN,aqD]at e;exact aq2 (by omega)
  rw[ht,aq6]at a3;have hz:(lg.extract 0 fo.toNat).size=fo.toNat:=by rw[dz (by omega)];omega
  have ht':t'=[]:=by
   have e:=congrArg asG b3;rw[aN,aqD,hz]at e;exact aq2 (by omega)
  rw[ht',aq6]at b3;have hp:cat (eC lg).1=cat (eC (lg.extract 0 fo.toNat)).1++(L lg).drop fo.toNat:=by
   rw[← a3,← b3,jd,asK,asn,ass]
  obtain⟨us,hu⟩:=Xd _ _ _ a1 b1 hp;refine⟨h1,(eC (lg.extract 0 fo.toNat)).1,us,by rw[← hu];exact a1,by rw[← hu];exact a3, ?_⟩;rw[← b2];exact h4.symm
 ·rintro⟨h1,rs,ts,h2,h3,rfl⟩;have hsz:lg.size=(cat rs).length+(cat ts).length:=by rw[← aN,h3,ib,aqD]
  have hrs:ot rs:=fun r hr=>h2 r (aqH _ hr);have he:L (lg.extract 0 (cat rs).length)=cat rs:=by
   rw[jd,h3,ib,asK,asn,as8 rfl]
  have e1:=Eu h2 h3;have e2:=Eu hrs he;refine⟨h1,ae.2 ⟨by omega,by omega⟩,by rw[e1], ?_⟩;rw[aqJ,e2];simp only;rw[← aN,he]
end Go.VS
namespace Go.VS
open Go
def Dj(k:ajZ):Prop:= ∀ n∈k.held,∀ m∈k.inbox,¬ (n.fr=m.fr∧n.nu=m.nu)
def I8{l:List ajT}{f n:Int}(h:aP l f n < 0): ∀ x∈l,¬ (x.fr=f∧x.nu=n):=by
 intro x hx hc;rcases bF l.length (fun i=>decide ((nA l i).fr=f)&&decide ((nA l i).nu=n)) with⟨_,h2⟩ | ⟨i,h1,_⟩
 ·obtain⟨j,hj,rfl⟩:=arn hx;have:=h2 j hj;rw[iM (aqC hj)]at this;simp[hc.1,hc.2]at this
 ·unfold aP at h;omega
def EA{l:List ajT}{f n:Int}(h: ∀ x∈l,¬ (x.fr=f∧x.nu=n)):aP l f n= -1:=by
 rcases aaf l f n with h1 | h1
 ·exact h1
 ·obtain⟨h2,_,h3,h4⟩:=nL h1;exact absurd ⟨h3,h4⟩ (h _ (ae7 h2))
def Yk{l:List Mark}{f n:Int}(h:gH l f n < 0): ∀ x∈l,¬ (x.mf=f∧x.mn=n):=by
 intro x hx hc;rcases bF l.length (fun i=>decide ((mA l i).mf=f)&&decide ((mA l i).mn=n)) with⟨_,h2⟩ | ⟨i,h1,_⟩
 ·obtain⟨j,hj,rfl⟩:=arn hx;have:=h2 j hj;rw[tb (aqC hj)]at this;simp[hc.1,hc.2]at this
 ·unfold gH at h;omega
def ai1{l:List Mark}{j:Nat}(h:j < l.length):mA l j∈l:=by
 rw[tb (aqC h)];exact ark h
def Vr{l:List Mark}{f n:Int}(h: ∀ x∈l,¬ (x.mf=f∧x.mn=n)):gH l f n= -1:=by
 rcases bF l.length (fun i=>decide ((mA l i).mf=f)&&decide ((mA l i).mn=n)) with⟨h1,_⟩ | ⟨i,_,h2,h3,_⟩
 ·exact h1
 ·simp only[aqt,decide_eq_true_eq]at h3;exact absurd h3 (h _ (ai1 h2))
def abW{k o:ajZ}{n:ajT}(h:Ek k n=some o)(hd:Dj k):Dj o:=by
 unfold Ek at h;split at h
 ·cases h
 split at h
 ·cases h
 split at h
 ·cases h
 rename_i h1;split at h
 ·cases h
 rename_i h2;split at h
 ·cases h
 split at h
 ·cases h
 have a1:=I8 (l:=k.held) (f:=n.fr) (n:=n.nu) (by simpa using h1);have a2:=I8 (l:=k.inbox) (f:=n.fr) (n:=n.nu) (by simpa using h2);split at h<;>cases h
 ·intro x hx m hm;rcases Ju _ hm with rfl | hm
  ·exact a1 x hx
  ·exact hd x hx m hm
 ·intro x hx m hm;rcases Ju _ hx with rfl | hx
  ·exact fun hc=>a2 m hm ⟨hc.1.symm,hc.2.symm⟩
  ·exact hd x hx m hm
def X6{l:List ajT}{i:Nat}{x:ajT}(h:x∈IW l i):x∈l:=by
 unfold IW at h;rcases aqL.1 h with h | h
 ·exact arS h
 ·exact asx h
def ag8{k o:ajZ}{w:aqp}{n:Int}(h:IZ k w n=some o)(hd:Dj k):Dj o:=by
 unfold IZ at h;split at h
 ·cases h;intro x hx m hm;exact hd x (ar3.1 hx).1 m hm
 split at h
 ·cases h;exact hd
 ·cases h
def aaI{k o:ajZ}{w:aqp}{n:ajT}(h:gO k w n=some o)(hd:Dj k):Dj o:=by
 unfold gO at h;split at h
 ·exact abW h hd
 split at h
 ·exact abW h hd
 split at h
 ·cases h
 rename_i hn;simp only[aq8,decide_eq_true_eq,not_or]at hn;have a1:=I8 (l:=k.held) (f:=n.fr) (n:=n.nu) (by omega);have a2:=I8 (l:=k.inbox) (f:=n.fr) (n:=n.nu) (by omega);split at h
 ·cases h;intro x hx m hm;rcases Ju _ hx with rfl | hx
  ·exact fun hc=>a2 m hm ⟨hc.1.symm,hc.2.symm⟩
  ·exact hd x hx m hm
 split at h
 ·cases h;intro x hx m hm;rcases Ju _ hm with rfl | hm
  ·exact a1 x hx
  ·exact hd x hx m hm
 ·cases h
def aaL{k o:ajZ}{w:aqp}{m:Mark}(h:eP k w m=some o)(hd:Dj k):Dj o:=by
 unfold eP at h;split at h
 ·cases h;exact fun x hx m hm=>hd x (X6 hx) m hm
 split at h
 ·cases h;exact fun x hx m hm=>hd x hx m (X6 hm)
 split at h
 ·cases h;exact hd
 ·cases h
def aex{k o:ajZ}{w r:aqp}(h:ck k w r=some o)(hd:Dj k):Dj o:=by
 unfold ck at h;split at h
 ·split at h
  ·exact ag8 h hd
  ·cases h
 split at h
 ·split at h
  ·exact aaI h hd
  ·cases h
 split at h
 ·split at h
  ·exact aaL h hd
  ·cases h
 ·cases h
def jX{k o:ajZ}{r:aqp}(hk:aE k=true):cg k r=some o↔o4 k r=some o∧aE o=true:=by
 unfold cg ga;simp only[hk,aqm];constructor
 ·intro h;cases hf:(o4 k r).filter aE with
  | none=>rw[hf]at h;cases h
  | some o'=>
   rw[hf]at h;cases h;exact asr.1 hf
 ·intro h;rw[asr.2 h];rfl
def afn{k o:ajZ}{r:aqp}(hk:aE k=true)(h:cg k r=some o)(hd:Dj k):Dj o:=by
 have h1:=((jX hk).1 h).1;unfold o4 at h1;split at h1
 ·cases h1
 ·exact aex h1 hd
def Q3: ∀ {rs:List aqp} {k o:ajZ},aE k=true→Dj k→eF k rs=some o→Dj o
 | [],k,o,_,hd,h=>by cases h;exact hd
 | r::rs,k,o,hk,hd,h=>by
  unfold eF at h;rw[atp]at h;cases hs:cg k r with
  | none=>rw[hs]at h;cases h
  | some k'=>rw[hs]at h;exact Q3 (rs:=rs) (Df hs) (afn hk hs hd) h
def Vw{id:Int}{rs:List aqp}{o:ajZ}(h:ct id rs=some o):Dj o:=by
 unfold ct at h;split at h
 ·exact Q3 (l5 (by assumption)) (fun n hn=>by cases hn) h
 ·cases h
def er(k:ajZ)(rs ts:List aqp):eF k (rs++ts)=(eF k rs).bind fun o=>eF o ts:=List.foldlM_append
def oS(k:ajZ)(r:aqp):eF k [r]=cg k r:=by
 unfold eF;rw[atp];cases cg k r<;>rfl
def eB(t:Int):aqp:=B [116,105,109,101,32]++cj t
def pV(n:Int):aqp:=B [110,101,120,116,32]++cj n
def dn(w:aqp)(a b c:Int):aqp:=((((((w++B [32])++cj a)++B [32])++cj b)++B [32])++cj c)
def uI(n:ajT):aqp:=B [104,101,108,100,32]++wr n
def pW(n:ajT):aqp:=B [105,110,98,111,120,32]++wr n
def aY(k:ajZ):List aqp:=
 ((((if 0 < k.ti then [eB k.ti] else [])++(if 1 < k.nx then [pV k.nx] else []))++k.marks.map fun m=>dn fa m.mf m.mn m.mu)++k.held.map uI)++k.inbox.map pW
def rV{k:ajZ}{rec:aqp}{w r:List UInt8}(hw:mL w)(e:L rec=w++32::r):o4 k rec=ck k (B w) (B r):=by
 unfold o4;rw[e,Kv hw,FA hw e];rfl
def GM{k:ajZ}{t:Int}(h0:0≤t)(h1:t < 100000)(h:k.ti < t):ck k jf (B (Lib.itoa t))=some ⟨k.id,t,k.nx,sV t k.held,CO t k.marks,k.inbox⟩:=by
 unfold ck IZ;simp only[fv h0 h1,aq5,aqm,aqB,h,aqn]
def ZG{k:ajZ}{n:Int}(h0:0≤n)(h1:n < 100000)(h:k.nx < n):ck k ku (B (Lib.itoa n))=some ⟨k.id,k.ti,n,k.held,k.marks,k.inbox⟩:=by
 unfold ck IZ;simp[C2,fv h0 h1,arA,aqm,aqz,aqB,h,aqn,aqr]
def ZH{k:ajZ}{m:Mark}{r:aqp}(ht:nZ r=some m)(h:gH k.marks m.mf m.mn < 0):ck k fa r=some ⟨k.id,k.ti,k.nx,k.held,zi k.marks m,k.inbox⟩:=by
 have e:decide (0≤gH k.marks m.mf m.mn)=false:=by simp;omega
 unfold ck eP;simp[vE,vG,yc,vF,vH,tI,yd,ye,ash,aqX,arA,aqm,aqr,ht,aqz,aqB,e,aqv]
def ZI{k:ajZ}{n:ajT}(hn:aB n=true)(h1:aP k.held n.fr n.nu < 0)(h2:aP k.inbox n.fr n.nu < 0):ck k jh (wr n)=some ⟨k.id,k.ti,k.nx,tJ k.held n,k.marks,k.inbox⟩:=by
 have e1:decide (0≤aP k.held n.fr n.nu)=false:=by simp;omega
 have e2:decide (0≤aP k.inbox n.fr n.nu)=false:=by simp;omega
 unfold ck gO;simp[C5,C7,FM,C6,ash,aqX,aq5,aqm,aqr,uY hn,aqz,e1,e2]
def XH{k:ajZ}{n:ajT}(hn:aB n=true)(h1:aP k.held n.fr n.nu < 0)(h2:aP k.inbox n.fr n.nu < 0):ck k eT (wr n)=some ⟨k.id,k.ti,k.nx,k.held,k.marks,tJ k.inbox n⟩:=by
 have e1:decide (0≤aP k.held n.fr n.nu)=false:=by simp;omega
 have e2:decide (0≤aP k.inbox n.fr n.nu)=false:=by simp;omega
 unfold ck gO;simp[Bs,Bu,C4,Bt,Bv,ash,aqX,arA,aqm,aqr,uY hn,aqz,e1,e2]
def Li:mL [116,105,109,101]:=by unfold mL;decide
def acV:mL [110,101,120,116]:=by unfold mL;decide
def acW:mL [109,97,114,107]:=by unfold mL;decide
def acX:mL [104,101,108,100]:=by unfold mL;decide
def aad:mL [105,110,98,111,120]:=by unfold mL;decide
def ES(t:Int):L (eB t)=[116,105,109,101]++32::Lib.itoa t:=by unfold eB;simp only[rp,L_B,Tv];rfl
def V8(t:Int):L (pV t)=[110,101,120,116]++32::Lib.itoa t:=by unfold pV;simp only[rp,L_B,Tv];rfl
def V9(w:aqp)(a b c:Int):L (dn w a b c)=L w++32::(Lib.itoa a++32::(Lib.itoa b++32::Lib.itoa c)):=by
 unfold dn;simp only[rp,L_B,Tv,aqP,asv,arF]
def Wa(n:ajT):L (uI n)=[104,101,108,100]++32::L (wr n):=by unfold uI;simp only[rp,L_B];rfl
def Tu(n:ajT):L (pW n)=[105,110,98,111,120]++32::L (wr n):=by unfold pW;simp only[rp,L_B];rfl
def oR{k:ajZ}(h:aj5 k):aE k=true:=by
 have a:=h.hl;have b:=h.ml;have c:=h.il;unfold aE;simp only[aqt,ae,decide_eq_true_eq,cw];exact⟨⟨h.id0,h.id1⟩,⟨h.t0,h.t1⟩,⟨h.n0,h.n1⟩,⟨by omega,h.h⟩,⟨by omega,h.m⟩,⟨by omega,h.i⟩,h.ho,h.mo,h.io⟩
def Py{l:List ajT}{a i:Nat}(h:i < a):nA (l.take a) i=nA l i:=by
 unfold nA;simp[aqE,h]
def WM{l:List Mark}{a i:Nat}(h:i < a):mA (l.take a) i=mA l i:=by
 unfold mA;simp[aqE,h]
def I0{l:List ajT}(h:dA l=true)(a:Nat):dA (l.take a)=true:=by
 refine cw.2 fun i hi=> ?_;rw[arm]at hi;have:=cw.1 h i (by omega);rw[Py (by omega),Py (by omega)];exact this
def WL{l:List Mark}(h:ir l=true)(a:Nat):ir (l.take a)=true:=by
 refine cw.2 fun i hi=> ?_;rw[arm]at hi;have:=cw.1 h i (by omega);rw[WM (by omega),WM (by omega)];exact this
def Nn{l:List Mark}(h:ir l=true): ∀ (j i:Nat),i < j→j < l.length→bef (mA l i).mf (mA l i).mn (mA l j).mf (mA l j).mn=true
 | j+1,i,hij,hj=>by
  have h1:=cw.1 h (j+1) hj;simp only[aqt,aq8,decide_eq_true_eq]at h1;have h2:bef (mA l j).mf (mA l j).mn (mA l (j+1)).mf (mA l (j+1)).mn=true:=h1.2.resolve_left (by omega);rcases asi i j with h3 | h3
  ·exact V4 (Nn h j i h3 (by omega)) h2
  ·rwa[show i=j by omega]
def zI{k:ajZ}(hf:aj5 k)(a b c:Nat)(hc:c=0∨k.marks.length≤b):aj5 ⟨k.id,k.ti,k.nx,k.held.take a,k.marks.take b,k.inbox.take c⟩:=by
 have hl:=hf.hl;have ml:=hf.ml;have il:=hf.il;refine⟨hf.id0,hf.id1,hf.t0,hf.t1,hf.n0,hf.n1,by simp;omega,I0 hf.h a,by simp;omega,WL hf.m b,by simp;omega,I0 hf.i c,fun i hi=> ?_,fun i hi=> ?_,fun i hi=> ?_⟩
 ·simp only[arm]at hi;have:=hf.ho i (by omega);unfold oK at this ⊢;simp only[aqt,decide_eq_true_eq]at this ⊢;rw[Py (by omega)];refine⟨this.1,this.2.1,this.2.2.1, ?_⟩;rw[Vr fun x hx=>Yk this.2.2.2 x (arS hx)];omega
 ·simp only[arm]at hi;have:=hf.mo i (by omega);unfold jL at this ⊢;rw[WM (by omega)];exact this
 ·simp only[arm]at hi;rcases hc with hc | hc
  ·omega
  ·have:=hf.io i (by omega);simp only;rw[asc hc];unfold nM at this ⊢;rw[Py (by omega)];exact this
def WQ{α:Type}{f:α→Bool}{l:List α}{n:α}(h: ∀ x∈l,f x=true):ins f l n=l++[n]:=by
 unfold ins;have h1:l.takeWhile f=l:=by
  induction l with
  | nil=>rfl
  | cons x l ih=>rw[asN,h x aqA];simp only[aqm];rw[ih fun y hy=>h y (aqx _ hy)]
 have h2:l.dropWhile f=[]:=by
  induction l with
  | nil=>rfl
  | cons x l ih=>rw[at4,h x aqA];simp only[aqm];exact ih (fun y hy=>h y (aqx _ hy)) (by
    have:=h1;rw[asN,h x aqA]at this;simpa using this)
 rw[h1,h2]
def lI{α:Type}{l:List α}{j:Nat}(h:j < l.length):l.take (j+1)=l.take j++[l[j]]:=by
 rw[ati,aqC h];rfl
def zh{k:ajZ}(hk:aE k=true)(hd:Dj k):ct k.id (aY k)=some k:=by
 have hf:=bH hk;have hid:isN k.id=true:=ae.2 ⟨hf.id0,hf.id1⟩;have t0:=hf.t0;have t1:=hf.t1;have n0:=hf.n0;have n1:=hf.n1;have kT:aE ⟨k.id,k.ti,1,[],[],[]⟩=true:=by
  refine oR ⟨hf.id0,hf.id1,t0,t1,(by decide:(1:Int)≤1),(by decide:(1:Int)≤100),by simp,rfl,by simp,rfl,by simp,rfl,fun i hi=>by simp at hi,fun i hi=>by simp at hi,fun i hi=>by simp at hi⟩
 have kN:aE ⟨k.id,k.ti,k.nx,[],[],[]⟩=true:=by
  refine oR ⟨hf.id0,hf.id1,t0,t1,n0,n1,by simp,rfl,by simp,rfl,by simp,rfl,fun i hi=>by simp at hi,fun i hi=>by simp at hi,fun i hi=>by simp at hi⟩
 have s1:eF ⟨k.id,0,1,[],[],[]⟩ (if 0 < k.ti then [eB k.ti] else [])=some ⟨k.id,k.ti,1,[],[],[]⟩:=by
  by_cases h:0 < k.ti
  ·rw[aqh h,oS,(jX (l5 hid)).2 ⟨?_,kT⟩];rw[rV Li (ES _)];exact GM t0 (by omega) h
  ·rw[aqg h,show k.ti=0 by omega];rfl
 have s2:eF ⟨k.id,k.ti,1,[],[],[]⟩ (if 1 < k.nx then [pV k.nx] else [])=some ⟨k.id,k.ti,k.nx,[],[],[]⟩:=by
  by_cases h:1 < k.nx
  ·rw[aqh h,oS,(jX kT).2 ⟨?_,kN⟩];rw[rV acV (V8 _)];exact ZG (by omega) (by omega) h
  ·rw[aqg h,show k.nx=1 by omega];rfl
 have s3: ∀ j,j≤k.marks.length→eF ⟨k.id,k.ti,k.nx,[],[],[]⟩ ((k.marks.take j).map fun m=>dn fa m.mf m.mn m.mu)=some ⟨k.id,k.ti,k.nx,[],k.marks.take j,[]⟩:=by
  intro j
  induction j with
  | zero=>intro _;rfl
  | succ j ih=>
   intro hj;have hjl:j < k.marks.length:=by omega
   have hm:=vJ hf.m hjl;rw[tb (aqC hjl)]at hm;have hr:=vI hm;have g1:=oR (zI hf 0 j 0 (.inl rfl));have g2:=oR (zI hf 0 (j+1) 0 (.inl rfl));have g3:aE ⟨k.id,k.ti,k.nx,[],k.marks.take j++[k.marks[j]'hjl],[]⟩=true:=by
    rw[← lI hjl];simpa using g2
   have amq: ∀ x∈k.marks.take j,bef x.mf x.mn k.marks[j].mf k.marks[j].mn=true:=fun x hx=>by
    obtain⟨i,hi,rfl⟩:=arn hx;rw[arm]at hi;have:=Nn hf.m j i (by omega) hjl;rw[tb (aqC hjl),tb (aqC (by omega:i < k.marks.length))]at this;simpa using this
   rw[lI hjl,arG,er,ih (by omega)];simp only[aqs,arx,asI];rw[oS,(jX (by simpa using g1)).2 ⟨?_,g3⟩];have h3:=aa8 (r:=B (Lib.itoa (k.marks[j]'hjl).mf++32::(Lib.itoa (k.marks[j]'hjl).mn++32::Lib.itoa (k.marks[j]'hjl).mu))) (a:=(k.marks[j]'hjl).mf) (b:=(k.marks[j]'hjl).mn) (c:=(k.marks[j]'hjl).mu) (by omega) (by omega) (by omega) (by omega) (by omega) (by omega) (L_B _);rw[rV acW (V9 _ _ _ _),ZH h3 ?_]
   ·simp only;rw[show zi (k.marks.take j) k.marks[j]=k.marks.take j++[k.marks[j]] from WQ amq]
   ·simp only;rw[Vr fun x hx hc=>by
     have:=amq x hx;rw[hc.1,hc.2,Tk]at this;cases this]
    omega
 have s4: ∀ j,j≤k.held.length→eF ⟨k.id,k.ti,k.nx,[],k.marks,[]⟩ ((k.held.take j).map uI)=some ⟨k.id,k.ti,k.nx,k.held.take j,k.marks,[]⟩:=by
  intro j
  induction j with
  | zero=>intro _;rfl
  | succ j ih=>
   intro hj;have hjl:j < k.held.length:=by omega
   have hm:=cG hf.h hjl;rw[iM (aqC hjl)]at hm;have g1:=oR (zI hf j k.marks.length 0 (.inl rfl));have g2:=oR (zI hf (j+1) k.marks.length 0 (.inl rfl));rw[arC]at g1 g2;have g3:aE ⟨k.id,k.ti,k.nx,k.held.take j++[k.held[j]'hjl],k.marks,[]⟩=true:=by
    rw[← lI hjl];simpa using g2
   have amq: ∀ x∈k.held.take j,bef x.fr x.nu k.held[j].fr k.held[j].nu=true:=fun x hx=>by
    obtain⟨i,hi,rfl⟩:=arn hx;rw[arm]at hi;have:=s8 hf.h j i (by omega) hjl;rw[iM (aqC hjl),iM (aqC (by omega:i < k.held.length))]at this;simpa using this
   rw[lI hjl,arG,er,ih (by omega)];simp only[aqs,arx,asI];rw[oS,(jX (by simpa using g1)).2 ⟨?_,g3⟩];rw[rV acX (Wa _),B_L,ZI hm ?_ ?_]
   ·simp only;rw[show tJ (k.held.take j) k.held[j]=k.held.take j++[k.held[j]] from WQ amq]
   ·simp only;rw[EA fun x hx hc=>by
     have:=amq x hx;rw[hc.1,hc.2,Tk]at this;cases this]
    omega
   ·simp only;rw[EA fun x hx=>by cases hx];omega
 have s5: ∀ j,j≤k.inbox.length→eF ⟨k.id,k.ti,k.nx,k.held,k.marks,[]⟩ ((k.inbox.take j).map pW)=some ⟨k.id,k.ti,k.nx,k.held,k.marks,k.inbox.take j⟩:=by
  intro j
  induction j with
  | zero=>intro _;rfl
  | succ j ih=>
   intro hj;have hjl:j < k.inbox.length:=by omega
   have hm:=cG hf.i hjl;rw[iM (aqC hjl)]at hm;have g1:=oR (zI hf k.held.length k.marks.length j (.inr (aqG _)));have g2:=oR (zI hf k.held.length k.marks.length (j+1) (.inr (aqG _)));rw[arC,arC]at g1 g2;have g3:aE ⟨k.id,k.ti,k.nx,k.held,k.marks,k.inbox.take j++[k.inbox[j]'hjl]⟩=true:=by
    rw[← lI hjl];simpa using g2
   have amq: ∀ x∈k.inbox.take j,bef x.fr x.nu k.inbox[j].fr k.inbox[j].nu=true:=fun x hx=>by
    obtain⟨i,hi,rfl⟩:=arn hx;rw[arm]at hi;have:=s8 hf.i j i (by omega) hjl;rw[iM (aqC hjl),iM (aqC (by omega:i < k.inbox.length))]at this;simpa using this
   rw[lI hjl,arG,er,ih (by omega)];simp only[aqs,arx,asI];rw[oS,(jX (by simpa using g1)).2 ⟨?_,g3⟩];rw[rV aad (Tu _),B_L,XH hm ?_ ?_]
   ·simp only;rw[show tJ (k.inbox.take j) k.inbox[j]=k.inbox.take j++[k.inbox[j]] from WQ amq]
   ·simp only;rw[EA fun x hx=>hd x hx _ (ark hjl)];omega
   ·simp only;rw[EA fun x hx hc=>by
     have:=amq x hx;rw[hc.1,hc.2,Tk]at this;cases this]
    omega
 have e3:=s3 k.marks.length (aqG _);have e4:=s4 k.held.length (aqG _);have e5:=s5 k.inbox.length (aqG _);rw[arC]at e3 e4 e5;unfold ct aY;rw[aqh hid,er,er,er,er,s1];simp only[aqs,s2,e3,e4,e5]
end Go.VS
namespace Go.VS
open Go
structure aky (lg:aqp) (fo:Int) (rs ts:List aqp):Prop where
 ok:ot (rs++ts)
 sz:lg.size≤2400
 eq:L lg=cat (rs++ts)
 fo:fo=((cat rs).length:Int)
def aii{lg:aqp}{fo:Int}(h:bS lg fo=true): ∃ rs ts,aky lg fo rs ts:=by
 obtain⟨h1,rs,ts,h2,h3,h4⟩:=U8.1 h;exact⟨rs,ts,h2,h1,h3,h4⟩
def aky.amt{lg:aqp}{fo:Int}{rs ts:List aqp}(h:aky lg fo rs ts):bS lg fo=true:=
 U8.2 ⟨h.sz,rs,ts,h.ok,h.eq,h.fo⟩
def aky.read{lg:aqp}{fo:Int}{rs ts:List aqp}(h:aky lg fo rs ts):eC lg=(rs++ts,lg.size):=Eu h.ok h.eq
def Nc{rs ts:List aqp}(h:ot (rs++ts)):ot rs:=fun r hr=>h r (aqH _ hr)
def aky.ap7{lg:aqp}{fo:Int}{rs ts:List aqp}(h:aky lg fo rs ts):L (lg.extract 0 fo.toNat)=cat rs:=by
 rw[jd,h.eq,h.fo,aqJ,ib,asK,asn,as8 rfl]
def aky.amx{lg:aqp}{fo:Int}{rs ts:List aqp}(h:aky lg fo rs ts):(eC (lg.extract 0 fo.toNat)).1=rs:=by
 rw[Eu (Nc h.ok) h.ap7]
def aky.state{lg:aqp}{fo:Int}{rs ts:List aqp}(h:aky lg fo rs ts)(id:Int):bR id lg=ct id (rs++ts):=by
 unfold bR;rw[h.read]
def aky.al9{lg:aqp}{fo:Int}{rs ts:List aqp}(h:aky lg fo rs ts)(id:Int):bR id (lg.extract 0 fo.toNat)=ct id rs:=by
 unfold bR;rw[h.amx]
def No(id:Int)(rs ts:List aqp):ct id (rs++ts)=(ct id rs).bind fun k=>eF k ts:=by
 unfold ct;split
 ·exact er _ _ _
 ·rfl
def Q0(id:Int)(rs:List aqp)(r:aqp):ct id (rs++[r])=(ct id rs).bind fun k=>cg k r:=by
 rw[No];congr 1;funext k;exact oS k r
def Np{id:Int}{rs ts:List aqp}(h:(ct id (rs++ts)).isSome=true):(ct id rs).isSome=true:=by
 rw[No]at h;cases e:ct id rs with
 | none=>rw[e]at h;exact h
 | some k=>rfl
def aky.add{lg r:aqp}{fo:Int}{rs ts:List aqp}(h:aky lg fo rs ts)(h1:1≤r.size)(h2:r.size≤60)(h3:lg.size+(bV r).size≤2400):aky (lg++bV r) fo rs (ts++[r]):=by
 refine⟨?_, ?_, ?_,h.fo⟩
 ·intro x hx;rw[← aqP]at hx;rcases aqL.1 hx with hx | hx
  ·exact h.ok x hx
  ·rw[aq4.1 hx];exact⟨h1,h2⟩
 ·rw[← aN,rp,aqD,aN,aN];exact h3
 ·rw[rp,h.eq,← aqP,ib (rs++ts) [r]];congr 1;rw[gP,qZ,aq6]
def aky.force{lg:aqp}{fo:Int}{rs ts:List aqp}(h:aky lg fo rs ts):aky lg (lg.size:Int) (rs++ts) []:=by
 refine⟨by simpa using h.ok,h.sz,by simpa using h.eq, ?_⟩;rw[← aN,h.eq]
def aky.pack{lg:aqp}{rs:List aqp}(h:ot rs)(e:L lg=cat rs)(hz:lg.size≤2400):aky lg (lg.size:Int) rs []:=by
 refine⟨by simpa using h,hz,by simpa using e, ?_⟩;rw[← aN,e]
def XT{log:aqp}: ∀ (qs:List aqp) (f:Nat) (out:List aqp) (at_:Nat) (t:List UInt8),ot qs→(L log).drop at_=cat qs++t→at_≤log.size→log.size < at_+f→
  ∃ f',kH log f out at_=kH log f' (out++qs) (at_+(cat qs).length)∧at_+(cat qs).length≤log.size
 | [],f,out,at_,t,_,_,h3,_=>⟨f,by simp[qZ],by simpa[qZ] using h3⟩
 | r::qs,0,out,at_,t,_,_,h3,h4=>by omega
 | r::qs,f+1,out,at_,t,h1,h2,h3,h4=>by
  have hr:=h1 r aqA;rw[gP,aqP]at h2;have hlen:log.size - at_=(bV r).size+(cat qs++t).length:=by
   have e:=congrArg asG h2;rwa[aru,aN,aqD,aN]at e
  have hp:=GK r;have akr:oY (log.extract at_ log.size)=some (r,(bV r).size):=by
   refine IX (t:=cat qs++t) ?_ hr.1 hr.2;rw[jd,h2];refine asc ?_;rw[aqD,aN];omega
  obtain⟨f',g1,g2⟩:=XT (log:=log) qs f (out++[r]) (at_+(bV r).size) t (fun x hx=>h1 x (aqx _ hx)) (by
   rw[← asP,h2,atd (by rw[aN])]) (by omega) (by omega)
  refine⟨f', ?_, ?_⟩
  ·conv=>lhs;unfold kH
   rw[aqh (by omega),akr];simp only;rw[g1];simp only[gP,aqD,aN,aqP,asv,arF,arw]
  ·simp only[gP,aqD,aN];omega
def acG{log:aqp}{qs:List aqp}{t:List UInt8}(h:ot qs)(e:L log=cat qs++t): ∃ us,(eC log).1=qs++us:=by
 obtain⟨f',g1,g2⟩:=XT (log:=log) qs (log.size+1) [] 0 t h (by simpa using e) (arB _) (by omega);obtain⟨us,k1,_⟩:=Qk (log:=log) f' ([]++qs) (0+(cat qs).length) g2;refine⟨us, ?_⟩;show(kH log (log.size+1) [] 0).1=_;rw[g1,k1];rfl
def aky.anP{lg:aqp}{fo:Int}{rs ts:List aqp}(h:aky lg fo rs ts)(n:Nat)(hn:(cat rs).length≤n):
  ∃ us vs,ts=us++vs∧aky ((lg.extract 0 n).extract 0 (eC (lg.extract 0 n)).2) ((eC (lg.extract 0 n)).2:Int) (rs++us) []:=by
 obtain⟨a1,a2,t,a3⟩:=Ld (lg.extract 0 n);have e0:L (lg.extract 0 n)=(cat (rs++ts)).take n:=by rw[jd,h.eq,asK,asn]
 have e:cat (rs++ts)=cat (eC (lg.extract 0 n)).1++(t++(cat (rs++ts)).drop n):=by
  rw[← aqP,← a3,e0,ass]
 obtain⟨vs,hv⟩:=Xd _ _ _ h.ok a1 e;obtain⟨us,hu⟩:=acG (log:=lg.extract 0 n) (qs:=rs) (t:=(cat ts).take (n - (cat rs).length)) (Nc h.ok) (by
  rw[e0,ib,List.take_append,asc hn])
 rw[hu]at hv a1 a2 a3;rw[aqP]at hv;refine⟨us,vs,aus hv,by simpa using a1, ?_, ?_,by rw[a2]⟩
 ·have:=h.sz;rw[← aN,jd,jd];simp only[arm,aru,aN];omega
 ·rw[jd,a3,a2,asK,asn,as8 rfl,aq6]
end Go.VS
namespace Go.VS
open Go
def mW{x:Int}(h0:0≤x)(k:Nat)(hk:1≤k)(h:x < (10 ^ k:Nat)):(Lib.itoa x).length≤k:=by
 obtain⟨u,rfl⟩:=arz h0;rw[iR];exact sD k u hk (by exact_mod_cast h)
def UZ{n:ajT}(h:aB n=true):(wr n).size≤35:=by
 obtain⟨f0,f1,t0,t1,n0,n1,u0,u1,s0,s1⟩:=kI h;have a:=mW f0 1 (by omega) (by omega);have b:=mW (show 0≤n.nu by omega) 2 (by omega) (by omega);have c:=mW t0 1 (by omega) (by omega);have d:=mW (show 0≤n.un by omega) 3 (by omega) (by omega);rw[← aN,ad1];unfold wrL;simp only[aqD,aqM,aN];omega
def aen{r:aqp}{m:Mark}(h:nZ r=some m):r.size≤17:=by
 unfold nZ at h;have hj:=Cu ((L r).count 32) (L r);have hn: ∀ {p:List UInt8},(bf (B p)).2=true→p.length≤5:=fun {p} hp=>by
  rcases rD (B p) with h1 | ⟨n,_,h2,_⟩
  ·rw[h1]at hp;cases hp
  ·exact h2
 split at h
 ·rename_i p q t hp;rw[hp]at hj;split at h
  ·rename_i hc;simp only[aqt]at hc;have h1:=hn hc.1;have h2:=hn hc.2.1;have h3:=hn hc.2.2.1;have hj2:p++32::(q++32::t)=L r:=hj;rw[← aN,← hj2];simp only[aqD,aqM];omega
  ·cases h
 ·cases h
def aev{k o:ajZ}{w r:aqp}(h:ck k w r=some o):w.size≤5∧r.size≤35:=by
 unfold ck at h;split at h
 ·rename_i hw;simp only[aq8,decide_eq_true_eq]at hw;split at h
  ·rename_i hr;refine⟨by rcases hw with rfl | rfl<;>decide, ?_⟩;rcases rD r with h1 | ⟨n,_,h2,_⟩
   ·rw[h1]at hr;cases hr
   ·omega
  ·cases h
 split at h
 ·rename_i hw;simp only[aq8,decide_eq_true_eq]at hw;cases hn:cH r with
  | none=>rw[hn]at h;cases h
  | some n=>
   obtain⟨h1,h2⟩:=dJ hn;refine⟨by rcases hw with rfl | rfl | rfl | rfl<;>decide, ?_⟩;rw[← h2];exact UZ h1
 split at h
 ·rename_i hw;simp only[aq8,decide_eq_true_eq]at hw;cases hn:nZ r with
  | none=>rw[hn]at h;cases h
  | some n=>
   refine⟨by rcases hw with rfl | rfl | rfl<;>decide, ?_⟩;have:=aen hn;omega
 ·cases h
def Yp{k o:ajZ}{r:aqp}(hk:aE k=true)(h:cg k r=some o):1≤r.size∧r.size≤60:=by
 have h:=((jX hk).1 h).1;rcases mV (L r) with hs | ⟨w,t,hs,e⟩
 ·unfold o4 at h;rw[Ku hs]at h;cases h
 ·rw[rV hs e]at h;have:=aev h;have hw:(B w).size=w.length:=rfl;have ht:(B t).size=t.length:=rfl;rw[← aN,e];simp only[aqD,aqM];omega
def SZ{rs:List aqp}{c:Nat}(h: ∀ r∈rs,(bV r).size≤c):(cat rs).length≤rs.length * c:=by
 induction rs with
 | nil=>simp[qZ]
 | cons r rs ih=>
  have:=ih fun x hx=>h x (aqx _ hx);have:=h r aqA;rw[gP,aqD,aN,aqM,Nat.succ_mul];omega
def rr{r:aqp}(h:r.size≤60):(bV r).size≤r.size+4:=by
 rw[xh];have:=abN h;omega
def td{k:ajZ}(hk:aE k=true):ot (aY k)∧(cat (aY k)).length≤800:=by
 have hf:=bH hk;have t1:=hf.t1;have n1:=hf.n1;have hl:=hf.hl;have ml:=hf.ml;have il:=hf.il;have sT: ∀ r∈(if 0 < k.ti then [eB k.ti] else []),1≤r.size∧r.size≤8:=by
  intro r hr;split at hr
  ·rw[aq4.1 hr,← aN,ES];have:=mW hf.t0 3 (by omega) (by omega);simp only[aqD,aqM,aq0];omega
  ·cases hr
 have sN: ∀ r∈(if 1 < k.nx then [pV k.nx] else []),1≤r.size∧r.size≤8:=by
  intro r hr;split at hr
  ·rw[aq4.1 hr,← aN,V8];have:=mW (show 0≤k.nx by have:=hf.n0;omega) 3 (by omega) (by omega);simp only[aqD,aqM,aq0];omega
  ·cases hr
 have sM: ∀ r∈k.marks.map (fun m=>dn fa m.mf m.mn m.mu),1≤r.size∧r.size≤13:=by
  intro r hr;obtain⟨m,hm,rfl⟩:=arv.1 hr;obtain⟨i,hi,rfl⟩:=arn hm;have:=vI (vJ hf.m hi);rw[tb (aqC hi)]at this;have a:=mW this.1 1 (by omega) (by omega);have b:=mW (show 0≤k.marks[i].mn by omega) 2 (by omega) (by omega);have c:=mW (show 0≤k.marks[i].mu by omega) 3 (by omega) (by omega);rw[← aN,V9];simp only[aqD,aqM,L_B,aq0];omega
 have sH: ∀ r∈k.held.map uI,1≤r.size∧r.size≤40:=by
  intro r hr;obtain⟨m,hm,rfl⟩:=arv.1 hr;obtain⟨i,hi,rfl⟩:=arn hm;have:=cG hf.h hi;rw[iM (aqC hi)]at this;have:=UZ this;rw[← aN,Wa];simp only[aqD,aqM,aN,aq0];omega
 have sI: ∀ r∈k.inbox.map pW,1≤r.size∧r.size≤41:=by
  intro r hr;obtain⟨m,hm,rfl⟩:=arv.1 hr;obtain⟨i,hi,rfl⟩:=arn hm;have:=cG hf.i hi;rw[iM (aqC hi)]at this;have:=UZ this;rw[← aN,Tu];simp only[aqD,aqM,aN,aq0];omega
 refine⟨?_, ?_⟩
 ·intro r hr;unfold aY at hr;simp only[aqL]at hr;rcases hr with(((hr | hr) | hr) | hr) | hr
  ·have:=sT r hr;omega
  ·have:=sN r hr;omega
  ·have:=sM r hr;omega
  ·have:=sH r hr;omega
  ·have:=sI r hr;omega
 ·unfold aY;simp only[ib,aqD];have a:=SZ (c:=12) fun r hr=>by have:=sT r hr;have:=rr (r:=r) (by omega);omega
  have b:=SZ (c:=12) fun r hr=>by have:=sN r hr;have:=rr (r:=r) (by omega);omega
  have c:=SZ (c:=17) fun r hr=>by have:=sM r hr;have:=rr (r:=r) (by omega);omega
  have d:=SZ (c:=44) fun r hr=>by have:=sH r hr;have:=rr (r:=r) (by omega);omega
  have e:=SZ (c:=45) fun r hr=>by have:=sI r hr;have:=rr (r:=r) (by omega);omega
  rw[ary]at c d e;have a2:(if 0 < k.ti then [eB k.ti] else []).length≤1:=by split<;>simp
  have b2:(if 1 < k.nx then [pV k.nx] else []).length≤1:=by split<;>simp
  omega
def eD(rs:List aqp):aqp:=B (cat rs)
def Wy{k:ajZ}(hk:aE k=true):aky (eD (aY k)) ((eD (aY k)).size:Int) (aY k) []:=by
 have:=td hk;refine aky.pack this.1 (by unfold eD;rw[L_B]) ?_;show(cat (aY k)).length≤2400;omega
def vL(k:ajZ)(lg:aqp)(fo:Int)(r:aqp):aqp×Int:=
 if lg.size+(bV r).size≤2400 then(lg++bV r,fo) else(eD (aY k)++bV r,((eD (aY k)).size:Int))
def abn{k o:ajZ}{id:Int}{lg r:aqp}{fo:Int}{rs ts:List aqp}(h:aky lg fo rs ts)(hs:ct id (rs++ts)=some k)(hr:cg k r=some o):
  ∃ rs' ts',aky (vL k lg fo r).1 (vL k lg fo r).2 rs' ts'∧ct id (rs'++ts')=some o:=by
 have hk:=EG hs;have hz:=Yp hk hr;unfold vL;split
 ·rename_i hc;refine⟨rs,ts++[r],h.add hz.1 hz.2 hc, ?_⟩;rw[← aqP,Q0,hs];exact hr
 ·have hp:=Wy hk;have hsz:=td hk;have hl:=rr hz.2;refine⟨aY k,[]++[r],hp.add hz.1 hz.2 ?_, ?_⟩
  ·show(cat (aY k)).length+_≤2400;omega
  ·rw[arF,Q0];have:=zh hk (Vw hs);rw[Lu hs]at this;rw[this];exact hr
end Go.VS
namespace Go.VS
open Go
structure akt (k:ajR) (st:ajZ):Prop where
 ok:aj k=true
 st:bR k.id k.log=some st
def mM{k:ajR}(h:aj k=true):akt k (stT k):=⟨h,(bZ h).st⟩
def akt.kok{k:ajR}{st:ajZ}(h:akt k st):aE st=true:=EG h.st
def akt.id{k:ajR}{st:ajZ}(h:akt k st):st.id=k.id:=Lu h.st
def akt.stT{k:ajR}{st:ajZ}(h:akt k st):stT k=st:=by
 unfold Go.VS.stT;rw[h.st];rfl
def tc{k:ajR}{rs ts:List aqp}(id:isN k.id=true)(l:aky k.log k.fo rs ts)(hl:k.ajS.length≤3)(up:k.up=true∨k.ajS.length=0)(st:(ct k.id (rs++ts)).isSome=true)(hv: ∀ i,i < k.ajS.length→AR k.ajS i=true):aj k=true:=by
 unfold aj;simp only[aqt,aq8,decide_eq_true_eq,cw];refine⟨id,l.amt,by omega,up,⟨?_, ?_⟩,hv⟩
 ·rw[l.state];exact st
 ·rw[l.al9];exact Np st
def akt.lg{k:ajR}{st:ajZ}(h:akt k st): ∃ rs ts,aky k.log k.fo rs ts∧ct k.id (rs++ts)=some st:=by
 obtain⟨rs,ts,hl⟩:=aii (bZ h.ok).sh;exact⟨rs,ts,hl,by rw[← hl.state];exact h.st⟩
def akt.amw{k:ajR}{st o:ajZ}{lg:aqp}{fo:Int}{rs ts:List aqp}(h:akt k st)(l:aky lg fo rs ts)(e:ct k.id (rs++ts)=some o):akt ⟨k.id,k.up,lg,fo,k.ajS⟩ o:=by
 have hf:=bZ h.ok;refine⟨tc (k:=⟨k.id,k.up,lg,fo,k.ajS⟩) hf.id l hf.hl hf.up ?_ hf.hv, ?_⟩
 ·simp only[e];rfl
 ·simp only[l.state];exact e
def wrM(k:ajR)(r:aqp):ajR:=⟨k.id,k.up,(vL (stT k) k.log k.fo r).1,(vL (stT k) k.log k.fo r).2,k.ajS⟩
def Wf{k:ajR}{st o:ajZ}{r:aqp}(h:akt k st)(hr:cg st r=some o):akt (wrM k r) o:=by
 obtain⟨rs,ts,hl,hs⟩:=h.lg;obtain⟨rs',ts',h1,h2⟩:=abn hl hs hr;have:=h.amw h1 h2;unfold wrM;rw[h.stT];exact this
def foM(k:ajR):ajR:=⟨k.id,k.up,k.log,(k.log.size:Int),k.ajS⟩
def RW{k:ajR}{st:ajZ}(h:akt k st):akt (foM k) st:=by
 obtain⟨rs,ts,hl,hs⟩:=h.lg;exact h.amw hl.force (by simpa using hs)
def pkM(k:ajR):ajR:=⟨k.id,k.up,eD (aY (stT k)),((eD (aY (stT k))).size:Int),k.ajS⟩
def aiL{k:ajR}{st:ajZ}(h:akt k st):akt (pkM k) st:=by
 have:=h.amw (Wy h.kok) (o:=st) (by
  have:=zh h.kok (Vw h.st);rw[h.id]at this;simpa using this)
 unfold pkM;rw[h.stT];exact this
def faM(k:ajR)(keep:Int):ajR:=
 let n:=(k.fo+max 0 (min keep ((k.log.size:Int) - k.fo))).toNat
 ⟨k.id,false,(k.log.extract 0 n).extract 0 (eC (k.log.extract 0 n)).2,((eC (k.log.extract 0 n)).2:Int),[]⟩
def aaD{k:ajR}(h:aj k=true)(keep:Int):aj (faM k keep)=true:=by
 have hf:=bZ h;obtain⟨rs,ts,hl,hs⟩:=(mM h).lg;have hfo:=hl.fo;obtain⟨us,vs,e,l⟩:=hl.anP (k.fo+max 0 (min keep ((k.log.size:Int) - k.fo))).toNat (by omega);refine tc (k:=faM k keep) hf.id l (by show 0≤3;omega) (.inr rfl) ?_ (fun i hi=>by cases hi);show(ct k.id ((rs++us)++[])).isSome=true;rw[aq6];refine Np (ts:=vs) ?_;rw[aqP,← e,hs];rfl
def RY{k:ajR}{st:ajZ}(h:akt k st)(hf:k.fo=(k.log.size:Int))(keep:Int):akt (faM k keep) st∧(faM k keep).log=k.log∧(faM k keep).fo=k.fo:=by
 obtain⟨rs,ts,hl,hs⟩:=h.lg;have e:(k.fo+max 0 (min keep ((k.log.size:Int) - k.fo))).toNat=k.log.size:=by omega
 have e2:k.log.extract 0 k.log.size=k.log:=by
  apply oX;rw[jd,asK,asn];exact asc (by rw[aN];omega)
 have hk:faM k keep=⟨k.id,false,k.log,(k.log.size:Int),[]⟩:=by
  unfold faM;simp only[e,e2,hl.read]
 have ok:=aaD h.ok keep;rw[hk]at ok ⊢;exact⟨⟨ok,h.st⟩,rfl,hf.symm⟩
def riM(k:ajR):ajR:=⟨k.id,true,k.log,k.fo,k.ajS⟩
def aeN{k:ajR}{st:ajZ}(h:akt k st):akt (riM k) st:=by
 have hf:=bZ h.ok;obtain⟨rs,ts,hl,hs⟩:=h.lg;refine⟨tc (k:=riM k) hf.id hl hf.hl (.inl rfl) ?_ hf.hv,h.st⟩;show(ct k.id (rs++ts)).isSome=true;rw[hs];rfl
end Go.VS
namespace Go.VS
open Go
def fD(a b:List UInt8):List UInt8:=List.zipWith (· ^^^ ·) a b
def yE{a b:List UInt8}(h:a.length=b.length):(fD a b).length=a.length:=by
 unfold fD;rw[at5];omega
def En(a b:List UInt8):fD a b=fD b a:=by
 unfold fD
 induction a generalizing b with
 | nil=>cases b<;>rfl
 | cons x a ih=>
  cases b with
  | nil=>rfl
  | cons y b=>rw[aso,aso,ih,UInt8.xor_comm]
def va(a b c:List UInt8):fD (fD a b) c=fD a (fD b c):=by
 unfold fD
 induction a generalizing b c with
 | nil=>cases b<;>cases c<;>rfl
 | cons x a ih=>
  cases b with
  | nil=>cases c<;>rfl
  | cons y b=>
   cases c with
   | nil=>rfl
   | cons z c=>simp only[aso,ih,UInt8.xor_assoc]
def abZ{a b:List UInt8}(h:a.length=b.length):fD (fD a b) b=a:=by
 unfold fD
 induction a generalizing b with
 | nil=>rfl
 | cons x a ih=>
  cases b with
  | nil=>cases h
  | cons y b=>rw[aso,aso,ih (by simpa using h),UInt8.xor_assoc,UInt8.xor_self,UInt8.xor_zero]
def nul(n:Nat):List UInt8:=aqQ n 0
def H8{a:List UInt8}{n:Nat}(h:a.length=n):fD (nul n) a=a:=by
 unfold fD nul
 induction a generalizing n with
 | nil=>subst h;rfl
 | cons x a ih=>
  subst h;rw[aqM,au2,aso,ih rfl,UInt8.zero_xor]
def pZ(n:Nat)(bl:Nat→List UInt8):List Nat→List UInt8
 | []=>nul n
 | k::ks=>fD (bl k) (pZ n bl ks)
def ze{n:Nat}{bl:Nat→List UInt8}: ∀ {ks:List Nat},(∀ k∈ks,(bl k).length=n)→(pZ n bl ks).length=n
 | [],_=>by simp[pZ,nul]
 | k::ks,h=>by
  have a:=h k aqA;have b:=ze fun x hx=>h x (aqx k hx);rw[pZ,yE (by omega),a]
def RU{n:Nat}{bl:Nat→List UInt8}: ∀ {ks:List Nat} {y:List UInt8},y.length=n→ks.foldl (fun x k=>fD x (bl k)) y=fD y (pZ n bl ks)
 | [],y,h=>by
  rw[pZ,En,H8 h];rfl
 | k::ks,y,h=>by
  rw[ars,pZ,← va];by_cases hk:(fD y (bl k)).length=n
  ·exact RU hk
  ·
   have key: ∀ (ks:List Nat) (y z:List UInt8),y.length≤n→ks.foldl (fun x k=>fD x (bl k)) y=fD y (pZ n bl ks):=by
    intro ks
    induction ks with
    | nil=>
     intro y z hy;rw[asQ,pZ,En];unfold fD nul;clear hk h z
     induction y generalizing n with
     | nil=>simp
     | cons x y ih=>
      cases n with
      | zero=>simp at hy
      | succ n=>rw[au2,aso,UInt8.zero_xor,← ih (by simpa using hy)]
    | cons k ks ih=>
     intro y z hy;rw[ars,pZ,← va];refine ih _ z ?_;unfold fD;rw[at5];omega
   refine key ks _ [] ?_;unfold fD;rw[at5];omega
def aeU{n:Nat}{bl:Nat→List UInt8}{p:Nat→Bool}{ks:List Nat}{u:Nat}(hb: ∀ k∈ks,(bl k).length=n)(hf:(ks.filter fun k=> !p k)=[u]):
  ks.foldl (fun x k=>if p k then fD x (bl k) else x) (pZ n bl ks)=bl u:=by
 have h1: ∀ (ks:List Nat) (y:List UInt8),ks.foldl (fun x k=>if p k then fD x (bl k) else x) y=(ks.filter p).foldl (fun x k=>fD x (bl k)) y:=by
  intro ks
  induction ks with
  | nil=>intro y;rfl
  | cons k ks ih=>
   intro y;rw[ars,asd];split<;>simp[ih]
 have h2: ∀ (ks:List Nat),(∀ k∈ks,(bl k).length=n)→pZ n bl ks=fD (pZ n bl (ks.filter fun k=> !p k)) (pZ n bl (ks.filter p)):=by
  intro ks
  induction ks with
  | nil=>intro _;simp[pZ,H8 (n:=n) (a:=nul n) (by simp[nul])]
  | cons k ks ih=>
   intro hb;have:=ih fun x hx=>hb x (aqx _ hx);rw[pZ,this,asd,asd];cases p k
   ·simp only[aqv,aqm,aqr,pZ,va]
   ·simp only[aqu,aqm,aqr,pZ];rw[← va,En (bl k),va]
 have hlen:(pZ n bl (ks.filter p)).length=n:=ze fun k hk=>hb k (ar3.1 hk).1;have hu:(bl u).length=n:=hb u (ar3.1 (hf▸arX u:u∈ks.filter fun k=> !p k)).1;rw[h1,RU (ze hb),h2 ks hb,hf];rw[abZ (by rw[hlen];exact ze fun k hk=>by rw[aq4.1 hk];exact hu)];rw[pZ,pZ,En,H8 hu]
end Go.VS
namespace Go.VS
open Go
def rnd(x:Int):Int:=if inB x 0 65535 then arh (25173 * x+13849) 65536 else 0
def IK(x:Int):0≤rnd x∧rnd x≤65535:=by
 unfold rnd;split
 ·rename_i h;have:=ae.1 h;rw[ar4 (by omega)];omega
 ·omega
def tM(x:Int):eX (x,())=some ((rnd x,()),()):=by
 unfold eX rnd;simp only[bO,aqs];rcases tf (inB x 0 65535) with e | e
 ·have:=ae.1 e;simp only[e,aqu,aqr,aqm];rw[ah (n:=25173 * x) (by omega) (by omega),ah (by omega) (by omega)]
 ·simp only[e,aqv,aqr,aqm]
def tC(x:Int):eU (x,())=some ((rnd x,()),()):=by
 unfold eU rnd;simp only[dE,aqs];rcases tf (inB x 0 65535) with e | e
 ·have:=ae.1 e;simp only[e,aqu,aqr,aqm];rw[ah (n:=x * 25173) (by omega) (by omega),ah (by omega) (by omega),atZ]
 ·simp only[e,aqv,aqr,aqm]
def ow(b n:Int):Bool:=inB b 1 6&&inB n 0 999
def Jy(b n:Int):qm (b,n,())=some ((ow b n,()),()):=by
 unfold qm ow;simp only[bO,aqs,aq7,are];cases inB b 1 6<;>rfl
def wT(b n:Int):gu (b,n,())=some ((ow b n,()),()):=by
 unfold gu ow;simp only[dE,aqs,aq7,are];cases inB b 1 6<;>rfl
def wgt(b d:Int):Int:=if d=1 then aqU 60 b+10 else aqU 60 (d * (d - 1))
def NJ{b d:Int}(hb:inB b 1 6=true)(hd:inB d 1 6=true):ny (b,d,())=some ((wgt b d,()),()):=by
 have h1:=ae.1 hb;have h2:=ae.1 hd;have h3:b=1∨b=2∨b=3∨b=4∨b=5∨b=6:=by omega
 have h4:d=1∨d=2∨d=3∨d=4∨d=5∨d=6:=by omega
 rcases h3 with rfl | rfl | rfl | rfl | rfl | rfl<;>rcases h4 with rfl | rfl | rfl | rfl | rfl | rfl<;>rfl
end Go.VS
namespace Go.VS
open Go
def aeB(b n:Int)(hb:inB b 1 6=true):gy (b,n,0,1,())=some (.inr (b,n,70,())):=by
 have h1:=ae.1 hb;have h3:b=1∨b=2∨b=3∨b=4∨b=5∨b=6:=by omega
 unfold gy;rcases h3 with rfl | rfl | rfl | rfl | rfl | rfl
 ·exact ai rfl (an rfl)
 ·exact ai rfl (ai rfl (an rfl))
 ·exact ai rfl (ai rfl (ai rfl (an rfl)))
 ·exact ai rfl (ai rfl (ai rfl (ai rfl (an rfl))))
 ·exact ai rfl (ai rfl (ai rfl (ai rfl (ai rfl (an rfl)))))
 ·exact ai rfl (ai rfl (ai rfl (ai rfl (ai rfl (ai rfl (an rfl))))))
def wts(b:Int):List Int:=if b=1 then [70] else if b=2 then [40,30] else if b=3 then [30,30,10] else if b=4 then [25,30,10,5] else if b=5 then [22,30,10,5,3] else [20,30,10,5,3,2]
def afp(b n:Int)(hb:inB b 1 6=true):gJ (b,n,[0,w64 (w64 (aqU 60 b)+10)],rd (dfl .int) ([0,w64 (w64 (aqU 60 b)+10)]:List Int) 1,2,())=some (.inr (b,n,0::wts b,70,())):=by
 have h1:=ae.1 hb;have h3:b=1∨b=2∨b=3∨b=4∨b=5∨b=6:=by omega
 unfold gJ;rcases h3 with rfl | rfl | rfl | rfl | rfl | rfl
 ·exact an rfl
 ·exact ai rfl (an rfl)
 ·exact ai rfl (ai rfl (an rfl))
 ·exact ai rfl (ai rfl (ai rfl (an rfl)))
 ·exact ai rfl (ai rfl (ai rfl (ai rfl (an rfl))))
 ·exact ai rfl (ai rfl (ai rfl (ai rfl (ai rfl (an rfl)))))
end Go.VS
namespace Go.VS
open Go
def dN{σ ρ:Type}{b:σ→Option (σ ⊕ ρ)}{x x':σ}{y z:ρ}{c:Bool}(h:b x=if c then some (.inr y) else some (.inl x'))(hz:aR b x'=some z):aR b x=some (if c then y else z):=by
 cases c
 ·exact ai h hz
 ·exact an h
def Uj(b r:Int):List Int→Int→Int→(Int×aqq) ⊕ (Int×aqq)
 | [],_,_=> .inr (b,())
 | w::ws,acc,d=>if decide (r < acc+w) then .inl (d,()) else Uj b r ws (acc+w) (d+1)
def afq(b r:Int)(hb:inB b 1 6=true):gI (b,0::wts b,r,0,1,())=some (Uj b r (wts b) 0 1):=by
 have h1:=ae.1 hb;have h3:b=1∨b=2∨b=3∨b=4∨b=5∨b=6:=by omega
 unfold gI;rcases h3 with rfl | rfl | rfl | rfl | rfl | rfl
 ·exact dN rfl (an rfl)
 ·exact dN rfl (dN rfl (an rfl))
 ·exact dN rfl (dN rfl (dN rfl (an rfl)))
 ·exact dN rfl (dN rfl (dN rfl (dN rfl (an rfl))))
 ·exact dN rfl (dN rfl (dN rfl (dN rfl (dN rfl (an rfl)))))
 ·exact dN rfl (dN rfl (dN rfl (dN rfl (dN rfl (dN rfl (an rfl))))))
end Go.VS
namespace Go.VS
open Go
def aa2{b d:Int}(hb:inB b 1 6=true)(hd:inB d 1 6=true):0≤wgt b d∧wgt b d≤70:=by
 have h1:=ae.1 hb;have h2:=ae.1 hd;have h3:b=1∨b=2∨b=3∨b=4∨b=5∨b=6:=by omega
 have h4:d=1∨d=2∨d=3∨d=4∨d=5∨d=6:=by omega
 rcases h3 with rfl | rfl | rfl | rfl | rfl | rfl<;>rcases h4 with rfl | rfl | rfl | rfl | rfl | rfl<;>decide
def P6{b x d:Int}(hb:inB b 1 6=true)(hd:inB d 1 6=true)(hlt:d < b)(h0: -1000≤x)(h1:x≤1000):
  gz (b,x,d,())=if decide (x - wgt b d < 0) then some (.inr (.inl (d,()))) else some (.inl (b,x - wgt b d,d+1,())):=by
 have hw:=aa2 hb hd;have h2:=ae.1 hd;unfold gz;simp only[aqi hlt,aqm,NJ hb hd,aqs];rw[ah (n:=x - wgt b d) (by omega) (by omega),ah (n:=d+1) (by omega) (by omega)]
end Go.VS
namespace Go.VS
open Go
def W4:(Int×aqq) ⊕ (Int×aqq)→Int
 | .inl y=>y.1
 | .inr y=>y.1
def ahO(b x:Int):Nat→Int→(Int×aqq) ⊕ (Int×aqq)
 | 0,_=> .inr (b,())
 | n+1,d=>if decide (x - wgt b d < 0) then .inl (d,()) else ahO b (x - wgt b d) n (d+1)
def XM{b:Int}(hb:inB b 1 6=true): ∀ (n:Nat) (x d:Int),1≤d→d+n=b→ -70 * d≤x→x≤100→gx (b,x,d,())=some (ahO b x n d)
 | 0,x,d,_,h,_,_=>by
  unfold gx;refine an ?_;unfold gz;simp only[show decide (d < b)=false from aqj (by omega),aqr];rfl
 | n+1,x,d,h1,h,h2,h3=>by
  have hb':=ae.1 hb;have hd:inB d 1 6=true:=ae.2 ⟨h1,by omega⟩;have hw:=aa2 hb hd;exact dN (P6 hb hd (by omega) (by omega) (by omega)) (XM hb n (x - wgt b d) (d+1) (by omega) (by omega) (by omega) (by omega))
end Go.VS
namespace Go.VS
open Go
def ahN: ∀ b:Fin 6,∀ r:Fin 70,W4 (ahO ((b.1+1:Nat):Int) (r.1:Int) b.1 1)=W4 (Uj ((b.1+1:Nat):Int) (r.1:Int) (wts ((b.1+1:Nat):Int)) 0 1):=by decide+kernel
def af7{b r:Int}(hb:inB b 1 6=true)(h0:0≤r)(h1:r < 70):W4 (ahO b r (b - 1).toNat 1)=W4 (Uj b r (wts b) 0 1):=by
 have h2:=ae.1 hb;have:=ahN ⟨(b - 1).toNat,by omega⟩ ⟨r.toNat,by omega⟩;rw[show(((b - 1).toNat+1:Nat):Int)=b by omega,show((r.toNat:Nat):Int)=r by omega]at this;exact this
end Go.VS
namespace Go.VS
open Go
def A4(b n:Int):Int:=if ow b n then(if decide (n < b) then 1 else W4 (Uj b (arh (aqU (rnd (rnd (31 * n+b))) 16) 70) (wts b) 0 1)) else 0
def abb(s:(Int×aqq) ⊕ (Int×aqq)):aJ (some s) (fun y=>some (y,())) (fun y=>some (y,()))=some ((W4 s,()),()):=by
 cases s<;>rfl
def LW(b n:Int):mc (b,n,())=some ((A4 b n,()),()):=by
 unfold mc A4;rw[Jy];simp only[aqs];rcases tf (ow b n) with e | e
 ·have e2:=e;unfold ow at e2;rw[aqt]at e2;have h1:=ae.1 e2.1;have h2:=ae.1 e2.2;simp only[e,aqu,aqr,aqm];rcases tf (decide (n < b)) with e3 | e3
  ·simp only[e3,aqm]
  ·have hr:=IK (rnd (31 * n+b));have hz:aqU (rnd (rnd (31 * n+b))) 16=rnd (rnd (31 * n+b)) / 16:=arf hr.1;simp only[e3,aqr,show decide (b=0)=false from aqj (by omega),aqv,aqm,afp b n e2.1];rw[aqh (by rfl)];simp only[aJ,tM,aqs];rw[ah (n:=31 * n) (by omega) (by omega),ah (n:=31 * n+b) (by omega) (by omega),ah (n:=aqU _ 16) (by omega) (by omega)];rw[afq b _ e2.1];exact abb _
 ·simp only[e,aqv,aqm,aqr]
end Go.VS
namespace Go.VS
open Go
def K1(b n:Int):lS (b,n,())=some ((A4 b n,()),()):=by
 unfold lS A4;rw[wT];simp only[aqs];rcases tf (ow b n) with e | e
 ·have e2:=e;unfold ow at e2;rw[aqt]at e2;have h1:=ae.1 e2.1;have h2:=ae.1 e2.2;simp only[e,aqu,aqr,aqm];rcases tf (decide (n < b)) with e3 | e3
  ·simp only[e3,aqm]
  ·have hr:=IK (rnd (31 * n+b));have hz:aqU (rnd (rnd (31 * n+b))) 16=rnd (rnd (31 * n+b)) / 16:=arf hr.1;have hm:arh (aqU (rnd (rnd (31 * n+b))) 16) 70=(rnd (rnd (31 * n+b)) / 16) % 70:=by rw[hz];exact ar4 (by omega)
   simp only[e3,aqr,aeB b n e2.1];simp only[aJ,tC,aqs];rw[ah (n:=n * 31) (by omega) (by omega),ah (n:=n * 31+b) (by omega) (by omega),atZ n 31,ah (n:=aqU _ 16) (by omega) (by omega)];rw[XM e2.1 (b - 1).toNat _ 1 (by omega) (by omega) (by omega) (by omega),aqh (by rfl)];rw[← af7 e2.1 (by omega) (by omega)];exact abb _
 ·simp only[e,aqv,aqm,aqr]
end Go.VS
namespace Go.VS
open Go
def JD{l:List Int}(hl:l.length≤1048576):qB (l,())=some ((l,()),()):=EN hl
end Go.VS
namespace Go.VS
open Go
def uH(b:Nat)(f:Nat→Bool):Nat→Nat→Nat
 | 0,a=>a
 | k+1,a=>if f a then uH b f k ((a+1) % b) else a
def Rep(u:List Bool)(f:Nat→Bool):Prop:= ∀ i,u.getD i false=f i
def rdB(u:List Bool)(i:Nat): @rd Bool (dfl .bool) u (i:Int)=u.getD i false:=rfl
def IG{b:Nat}{f:Nat→Bool}: ∀ (k a:Nat),a < b→uH b f k a < b
 | 0,_,h=>h
 | k+1,a,h=>by
  unfold uH;split
  ·exact IG k _ (atT _ (by omega))
  ·exact h
def Qe{a b k:Nat}:((a+1) % b+k) % b=(a+(k+1)) % b:=by
 rw[Nat.mod_add_mod,arw,aty 1 k]
def K8{b:Nat}{f:Nat→Bool}: ∀ (k a m:Nat),a < b→f ((a+k) % b)=false→k≤m→uH b f m a=uH b f k a
 | 0,a,m,h,e,_=>by
  rw[asB,as4 h]at e;cases m with
  | zero=>rfl
  | succ m=>
   simp only[uH,e,aqr]
 | k+1,a,m,h,e,hm=>by
  cases m with
  | zero=>omega
  | succ m=>
   rw[uH,uH];rw[K8 k ((a+1) % b) m (atT _ (by omega)) (by rw[Qe];exact e) (by omega)]
def aia{a b j:Nat}(ha:a < b)(hj:j < b): ∃ k,k≤b∧(a+k) % b=j:=by
 by_cases h:a≤j
 ·exact⟨j - a,by omega,by rw[show a+(j - a)=j by omega];exact as4 hj⟩
 ·exact⟨j+b - a,by omega,by rw[show a+(j+b - a)=j+b by omega,Nat.add_mod_right];exact as4 hj⟩
def cnt(f:Nat→Bool):Nat→Nat
 | 0=>0
 | k+1=>cnt f k+(if f k then 1 else 0)
def SY{f:Nat→Bool}: ∀ (k:Nat),cnt f k < k→ ∃ j,j < k∧f j=false
 | 0,h=>by omega
 | k+1,h=>by
  rw[cnt]at h;rcases tf (f k) with e | e
  ·rw[e,aqh rfl]at h;obtain⟨j,h1,h2⟩:=SY (f:=f) k (by omega);exact⟨j,by omega,h2⟩
  ·exact⟨k,by omega,e⟩
def Ig(f:Nat→Bool)(a:Nat):Nat→Bool:=fun j=>if j=a then true else f j
def Xa{f:Nat→Bool}{a:Nat}: ∀ (k:Nat),(k≤a→cnt (Ig f a) k=cnt f k)∧cnt (Ig f a) k≤cnt f k+1
 | 0=>⟨fun _=>rfl,by rw[cnt,cnt];omega⟩
 | k+1=>by
  obtain⟨h1,h2⟩:=Xa (f:=f) (a:=a) k;rw[cnt,cnt];constructor
  ·intro h;rw[h1 (by omega),show Ig f a k=f k from aqg (by omega)]
  ·by_cases h:k=a
   ·rw[h1 (by omega)];unfold Ig;rw[aqh h];cases f k<;>simp
   ·unfold Ig;rw[aqg h];unfold Ig at h2;omega
def SX: ∀ (k:Nat),cnt (fun _=>false) k=0
 | 0=>rfl
 | k+1=>by rw[cnt,SX k];rfl
def Rep.set{u:List Bool}{f:Nat→Bool}{a:Nat}(h:Rep u f)(ha:a < u.length):Rep (u.set a true) (Ig f a):=by
 intro i;unfold Ig;rw[aqE,atG];by_cases e:i=a
 ·subst e;simp[ha]
 ·rw[aqg (atu e),aqg e,← h i,aqE]
def Rep.new(n:Nat):Rep (aqQ n false) (fun _=>false):=by
 intro i;rw[aqE,as6];split<;>rfl
def NI(b:Nat):Nat→(Nat→Bool)→Int→Nat→Bool
 | 0,f,_=>f
 | n+1,f,x=>NI b n (Ig f (uH b f b (arh (aqU (rnd x) 16) (b:Int)).toNat)) (rnd x)
def Xt{b:Nat}(hb:0 < b): ∀ (n:Nat) (f:Nat→Bool) (x:Int),(∀ i,b≤i→f i=false)→ ∀ i,b≤i→NI b n f x i=false
 | 0,_,_,h=>h
 | n+1,f,x,h=>by
  refine Xt hb n _ _ ?_;intro i hi;unfold Ig;rw[aqg,h i hi];have:uH b f b (arh (aqU (rnd x) 16) (b:Int)).toNat < b:=by
   refine IG _ _ ?_;have:=IK x;rw[arf this.1,ar4 (by omega)];have h1:=Int.emod_lt_of_pos (rnd x / 16) (show(0:Int) < b by omega);have h2:=Int.emod_nonneg (rnd x / 16) (show(b:Int)≠0 by omega);omega
  omega
def uu(f:Nat→Bool)(m:Nat):List Nat:=(aqW m).filter f
def Ha(f:Nat→Bool)(m:Nat):uu f (m+1)=uu f m++if f m then [m] else []:=by
 unfold uu;rw[asz,aud];congr 1;simp only[asd,aut]
def IT(f:Nat→Bool)(m:Nat):(uu f m).length≤m:=by
 unfold uu;exact ara (arM _ _) (by simp)
def aeS{f:Nat→Bool}{m k:Nat}(h:k∈uu f m):k < m:=by
 unfold uu at h;exact arl.1 (ar3.1 h).1
def Vj{f:Nat→Bool}{b:Nat}(h: ∀ i,b≤i→f i=false): ∀ (m:Nat),b≤m→uu f m=uu f b
 | 0,hm=>by rw[show b=0 by omega]
 | m+1,hm=>by
  by_cases e:b=m+1
  ·rw[e]
  ·rw[Ha,h m (by omega),aqr,aq6,Vj h m (by omega)]
abbrev bz(l:List Nat):List Int:=l.map fun i:Nat=>(i:Int)
end Go.VS
namespace Go.VS
open Go
def YR{b r:Int}(hb:0≤b): ∀ (ws:List Int) (acc d:Int),0≤d→d+ws.length≤b+1→0≤W4 (Uj b r ws acc d)∧W4 (Uj b r ws acc d)≤b
 | [],_,_,_,_=>by
  show 0≤b∧b≤b;omega
 | w::ws,acc,d,h0,h1=>by
  rw[aqM]at h1;unfold Uj;split
  ·show 0≤d∧d≤b;omega
  ·exact YR hb ws _ _ (by omega) (by omega)
def YS{b n:Int}(h:ow b n=true):0≤A4 b n∧A4 b n≤b:=by
 unfold A4;rw[aqh h];unfold ow at h;rw[aqt]at h;have h1:=ae.1 h.1;split
 ·omega
 ·refine YR (by omega) _ _ _ (by omega) ?_;have h3:b=1∨b=2∨b=3∨b=4∨b=5∨b=6:=by omega
  rcases h3 with rfl | rfl | rfl | rfl | rfl | rfl<;>exact as2 _
def aU(b n:Int):List Nat:=
 if ow b n then(if decide (n < b) then [n.toNat] else uu (NI b.toNat (A4 b n).toNat (fun _=>false) (rnd (7 * n+1))) b.toNat) else []
def iO{b n:Int}{k:Nat}(h:k∈aU b n):(k:Int) < b:=by
 unfold aU at h;split at h
 ·rename_i h0;unfold ow at h0;rw[aqt]at h0;have h1:=ae.1 h0.1;have h2:=ae.1 h0.2;split at h
  ·rename_i h3;have:=aqk h3;have:=aq4.1 h;omega
  ·have:=aeS h;omega
 ·cases h
def AG(b n:Int):(aU b n).length≤6:=by
 unfold aU;split
 ·rename_i h0;unfold ow at h0;rw[aqt]at h0;have h1:=ae.1 h0.1;split
  ·simp
  ·exact ara (IT _ _) (by omega)
 ·simp
section
variable {bn:Nat} (hb:0 < bn) (h6:bn≤6) {u:List Bool} {f:Nat→Bool} (hu:Rep u f) (hl:bn≤u.length)
include hb h6 hu hl
def VE(x n:Int): ∀ (k a:Nat),a < bn→f ((a+k) % bn)=false→
  mb ((bn:Int),u,x,n,(a:Int),())=some (.inr ((bn:Int),u,x,n,((uH bn f k a:Nat):Int),()))
 | 0,a,ha,e=>by
  rw[asB,as4 ha]at e;refine an ?_;unfold nb;simp only[rdB,hu a,e,ak (show a < u.length by omega),aqm,aqr];rfl
 | k+1,a,ha,e=>by
  unfold mb at *;unfold uH;rcases tf (f a) with e1 | e1
  ·rw[e1,aqh rfl];refine ai ?_ (VE x n k ((a+1) % bn) (atT _ hb) (by rw[Qe];exact e));unfold nb;simp only[rdB,hu a,e1,ak (show a < u.length by omega),aqm,show decide ((bn:Int)=0)=false from aqj (by omega),aqv];rw[ah (by omega) (by omega)];rfl
  ·rw[e1,aqr];refine an ?_;unfold nb;simp only[rdB,hu a,e1,ak (show a < u.length by omega),aqm,aqr]
def U5(o:List Int)(x n:Int): ∀ (k a:Nat),a < bn→f ((a+k) % bn)=false→
  lR ((bn:Int),o,u,x,n,(a:Int),())=some (.inr ((bn:Int),o,u,x,n,((uH bn f k a:Nat):Int),()))
 | 0,a,ha,e=>by
  rw[asB,as4 ha]at e;refine an ?_;unfold mU;simp only[rdB,hu a,e,ak (show a < u.length by omega),aqm,aqr];rfl
 | k+1,a,ha,e=>by
  unfold lR at *;unfold uH;rcases tf (f a) with e1 | e1
  ·rw[e1,aqh rfl];refine ai ?_ (U5 o x n k ((a+1) % bn) (atT _ hb) (by rw[Qe];exact e));unfold mU;simp only[rdB,hu a,e1,ak (show a < u.length by omega),aqm,show decide ((bn:Int)=0)=false from aqj (by omega),aqv];rw[ah (by omega) (by omega)];rfl
  ·rw[e1,aqr];refine an ?_;unfold mU;simp only[rdB,hu a,e1,ak (show a < u.length by omega),aqm,aqr]
end
section
variable {bn:Nat} (hb:0 < bn) (h6:bn≤6)
include hb h6
def abe(x:Int): ∃ a:Nat,arh (w64 (aqU (rnd x) 16)) (bn:Int)=(a:Int)∧(arh (aqU (rnd x) 16) (bn:Int)).toNat=a∧a < bn:=by
 have h:=IK x;have hd:aqU (rnd x) 16=rnd x / 16:=arf h.1;rw[hd,ah (by omega) (by omega),ar4 (by omega)];have h1:=Int.emod_lt_of_pos (rnd x / 16) (show(0:Int) < bn by omega);have h2:=Int.emod_nonneg (rnd x / 16) (show(bn:Int)≠0 by omega);exact⟨(rnd x / 16 % (bn:Int)).toNat,by omega,rfl,by omega⟩
def Yt: ∀ (n:Nat) (u:List Bool) (f:Nat→Bool) (x:Int),Rep u f→bn≤u.length→cnt f bn+n≤bn→
  ∃ u',rJ ((bn:Int),u,x,(n:Int),())=some (.inr (u',()))∧Rep u' (NI bn n f x)∧u'.length=u.length
 | 0,u,f,x,hu,_,_=>by
  refine⟨u,an ?_,hu,rfl⟩;rfl
 | n+1,u,f,x,hu,hl,hc=>by
  obtain⟨a,ea,eb,ha⟩:=abe hb h6 x;obtain⟨j,hj,ej⟩:=SY (f:=f) bn (by omega);obtain⟨k,hk,ek⟩:=aia ha hj;have es:=VE hb h6 hu hl (rnd x) ((n+1:Nat):Int) k a ha (by rw[ek];exact ej);have em:=K8 (f:=f) k a bn ha (by rw[ek];exact ej) hk;have hs:uH bn f k a < bn:=IG k a ha;obtain⟨u',h1,h2,h3⟩:=Yt n (u.set (uH bn f k a) true) (Ig f (uH bn f k a)) (rnd x) (hu.set (by omega)) (by rw[arZ];exact hl)
   (by have:=(Xa (f:=f) (a:=uH bn f k a) bn).2;omega)
  refine⟨u',ai ?_ h1, ?_,by rw[h3,arZ]⟩
  ·unfold yk;simp only[tM,aqs,show decide ((0:Int) < ((n+1:Nat):Int))=true from aqi (by omega),aqm,show decide ((bn:Int)=0)=false from aqj (by omega),aqv,ea,es];simp only[aJ,aqs,ak (show uH bn f k a < u.length by omega),aqm,aqJ];rw[ah (by omega) (by omega),show((n+1:Nat):Int) - 1=(n:Int) by omega]
  ·rw[NI,eb,em];exact h2
def XL(o:List Int): ∀ (n:Nat) (u:List Bool) (f:Nat→Bool) (x:Int),Rep u f→bn≤u.length→cnt f bn+n≤bn→
  ∃ u',rC ((bn:Int),o,u,x,(n:Int),())=some (.inr ((bn:Int),o,u',()))∧Rep u' (NI bn n f x)∧u'.length=u.length
 | 0,u,f,x,hu,_,_=>by
  refine⟨u,an ?_,hu,rfl⟩;rfl
 | n+1,u,f,x,hu,hl,hc=>by
  obtain⟨a,ea,eb,ha⟩:=abe hb h6 x;obtain⟨j,hj,ej⟩:=SY (f:=f) bn (by omega);obtain⟨k,hk,ek⟩:=aia ha hj;have es:=U5 hb h6 hu hl o (rnd x) ((n+1:Nat):Int) k a ha (by rw[ek];exact ej);have em:=K8 (f:=f) k a bn ha (by rw[ek];exact ej) hk;have hs:uH bn f k a < bn:=IG k a ha;obtain⟨u',h1,h2,h3⟩:=XL o n (u.set (uH bn f k a) true) (Ig f (uH bn f k a)) (rnd x) (hu.set (by omega)) (by rw[arZ];exact hl)
   (by have:=(Xa (f:=f) (a:=uH bn f k a) bn).2;omega)
  refine⟨u',ai ?_ h1, ?_,by rw[h3,arZ]⟩
  ·unfold x5;simp only[tC,aqs,show decide ((0:Int) < ((n+1:Nat):Int))=true from aqi (by omega),aqm,show decide ((bn:Int)=0)=false from aqj (by omega),aqv,ea,es];simp only[aJ,aqs,ak (show uH bn f k a < u.length by omega),aqm,aqJ];rw[ah (by omega) (by omega),show((n+1:Nat):Int) - 1=(n:Int) by omega]
  ·rw[NI,eb,em];exact h2
end
def adh{u:List Bool}{f:Nat→Bool}(hu:Rep u f)(hl:u.length=6):rI ([],u,0,())=some (.inr (bz (uu f 6),())):=by
 refine cO (fun i=>(bz (uu f i),u,(i:Int),())) 6 ?_ rfl;intro i hi;unfold yj;simp only[rdB,hu i,ak (show i < u.length by omega),ak hi,auf,aqm,show decide ((i:Int) < 6)=true from aqi (by omega)];rw[ah (n:=(i:Int)+1) (by omega) (by omega),Ha];have:=IT f i;rcases tf (f i) with e | e
 ·simp only[e,aqm];rw[aqh (aF (by simp;omega))];simp[bz]
 ·simp only[e,aqr,aq6];rfl
def aco{bn:Nat}(h6:bn≤6){u:List Bool}{f:Nat→Bool}(hu:Rep u f)(hl:u.length=bn):rB ((bn:Int),[],u,0,())=some (.inr (bz (uu f bn),())):=by
 refine cO (fun i=>((bn:Int),bz (uu f i),u,(i:Int),())) bn ?_ ?_
 ·intro i hi;unfold si;simp only[rdB,hu i,ak (show i < u.length by omega),aqm,show decide ((i:Int) < (bn:Int))=true from aqi (by omega)];rw[ah (n:=(i:Int)+1) (by omega) (by omega),Ha];have:=IT f i;rcases tf (f i) with e | e
  ·simp only[e,aqm];rw[aqh (aF (by simp;omega))];simp[bz]
  ·simp only[e,aqr,aq6];rfl
 ·unfold si;simp only[show decide ((bn:Int) < (bn:Int))=false from aqj (by omega),aqr]
def AO(b n:Int):qG (b,n,())=some ((bz (aU b n),()),()):=by
 unfold qG aU;rw[Jy];simp only[aqs];rcases tf (ow b n) with e | e
 ·have e2:=e;unfold ow at e2;rw[aqt]at e2;have h1:=ae.1 e2.1;have h2:=ae.1 e2.2;simp only[e,aqu,aqr,aqm];rcases tf (decide (n < b)) with e3 | e3
  ·simp only[e3,aqm];rw[show bz [n.toNat]=[n] from by simp[bz];omega]
  ·have hd:=YS e;simp only[e3,aqr,tM,LW,aqs];rw[ah (n:=7 * n) (by omega) (by omega),ah (n:=7 * n+1) (by omega) (by omega)];obtain⟨u,g1,g2,g3⟩:=Yt (bn:=b.toNat) (by omega) (by omega) (A4 b n).toNat (aqQ 6 false) (fun _=>false) (rnd (7 * n+1)) (Rep.new 6) (by simp;omega) (by rw[SX];omega);rw[show((b.toNat:Nat):Int)=b by omega,show(((A4 b n).toNat:Nat):Int)=A4 b n by omega]at g1;rw[show(dfl .bool:Bool)=false from rfl,g1];simp only[aJ,aqs];rw[adh g2 (by rw[g3];rfl),Vj (b:=b.toNat) (Xt (by omega) _ _ _ fun _ _=>rfl) 6 (by omega)];simp only[aqs];rw[JD (by have:=IT (NI b.toNat (A4 b n).toNat (fun _=>false) (rnd (7 * n+1))) b.toNat;simp;omega)];rfl
 ·simp only[e,aqv,aqm,aqr];rfl
def Iy(b n:Int):pE (b,n,())=some ((bz (aU b n),()),()):=by
 unfold pE aU;rw[wT];simp only[aqs];rcases tf (ow b n) with e | e
 ·have e2:=e;unfold ow at e2;rw[aqt]at e2;have h1:=ae.1 e2.1;have h2:=ae.1 e2.2;simp only[e,aqu,aqr,aqm];rcases tf (decide (n < b)) with e3 | e3
  ·simp only[e3,aqm];rw[show bz [n.toNat]=[n] from by simp[bz];omega];rfl
  ·have hd:=YS e;simp only[e3,aqr,tC,K1,aqs];rw[aqh (by simp;omega)];rw[ah (n:=n * 7) (by omega) (by omega),ah (n:=n * 7+1) (by omega) (by omega),atZ n 7];obtain⟨u,g1,g2,g3⟩:=XL (bn:=b.toNat) (by omega) (by omega) [] (A4 b n).toNat (aqQ b.toNat false) (fun _=>false) (rnd (7 * n+1)) (Rep.new _) (by simp) (by rw[SX];omega);rw[show((b.toNat:Nat):Int)=b by omega,show(((A4 b n).toNat:Nat):Int)=A4 b n by omega]at g1;rw[show(dfl .bool:Bool)=false from rfl,g1];simp only[aJ,aqs];have g4:=aco (bn:=b.toNat) (by omega) g2 (by rw[g3];simp);rw[show((b.toNat:Nat):Int)=b by omega]at g4;rw[g4];rfl
 ·simp only[e,aqv,aqm,aqr];rfl
end Go.VS
namespace Go.VS
open Go
abbrev bI(l:List UInt8):List Int:=l.map fun b=>(b.toNat:Int)
def EQ(s:aqp):aH s=bI (L s):=rfl
def Ij(l:List UInt8):dR (bI l)=B l:=by
 unfold dR bI B;rw[ast];congr 2;rw[arK (g:=id) (by intro b _;simp),avd]
def abq(a b:UInt8):te .u8 (a.toNat:Int) (b.toNat:Int)=((a ^^^ b).toNat:Int):=by
 have h1: ∀ c:UInt8,arR (IntKind.bits .u8) (c.toNat:Int)=c.toBitVec:=by
  intro c;apply auK;rw[ate];have:=c.toNat_lt;show((c.toNat:Int) % (2 ^ 8:Nat)).toNat=c.toBitVec.toNat;rw[auh (by omega) (by omega)];rfl
 unfold te;rw[h1 a,h1 b];have:=(a ^^^ b).toNat_lt;show au7 .u8 (((a ^^^ b).toNat:Nat):Int)=_;have h3: ∀ n:Int,au7 .u8 n=n % 256:=M7;rw[h3];omega
def ajM{l:List UInt8}(h:l.length=4): ∃ a b c d,l=[a,b,c,d]:=by
 rcases l with _ | ⟨a,_ | ⟨b,_ | ⟨c,_ | ⟨d,_ | ⟨e,l⟩⟩⟩⟩⟩
 all_goals simp at h
 exact⟨a,b,c,d,rfl⟩
def sz4{s:aqp}(h:s.size=4): ∃ a b c d,s=B [a,b,c,d]:=by
 obtain⟨a,b,c,d,e⟩:=ajM (l:=L s) h;exact⟨a,b,c,d,by rw[← e,B_L]⟩
def Jw{a b:aqp}(ha:a.size=4)(hb:b.size=4):qc (a,b,())=some ((B (fD (L a) (L b)),()),()):=by
 obtain⟨a0,a1,a2,a3,rfl⟩:=sz4 ha;obtain⟨b0,b1,b2,b3,rfl⟩:=sz4 hb;unfold qc;rw[aqh (by rfl)];have h:rH (B [b0,b1,b2,b3],aH (B [a0,a1,a2,a3]),((aH (B [a0,a1,a2,a3])).length:Int),0,())=
   some (.inr ([te .u8 (a0.toNat:Int) (b0.toNat:Int),te .u8 (a1.toNat:Int) (b1.toNat:Int),te .u8 (a2.toNat:Int) (b2.toNat:Int),te .u8 (a3.toNat:Int) (b3.toNat:Int)],())):=
  ai rfl (ai rfl (ai rfl (ai rfl (an rfl))))
 rw[h];simp only[abq,aJ,aqs];exact congrArg (fun z=>some ((z,()),())) (Ij [a0 ^^^ b0,a1 ^^^ b1,a2 ^^^ b2,a3 ^^^ b3])
def Io{a b:aqp}(ha:a.size=4)(hb:b.size=4):pq (a,b,())=some ((B (fD (L a) (L b)),()),()):=by
 obtain⟨a0,a1,a2,a3,rfl⟩:=sz4 ha;obtain⟨b0,b1,b2,b3,rfl⟩:=sz4 hb;unfold pq;have h:rA (B [a0,a1,a2,a3],B [b0,b1,b2,b3],[],0,())=
   some (.inr ([te .u8 (a0.toNat:Int) (b0.toNat:Int),te .u8 (a1.toNat:Int) (b1.toNat:Int),te .u8 (a2.toNat:Int) (b2.toNat:Int),te .u8 (a3.toNat:Int) (b3.toNat:Int)],())):=
  ai rfl (ai rfl (ai rfl (ai rfl (an rfl))))
 rw[h];simp only[abq,aJ,aqs];exact congrArg (fun z=>some ((z,()),())) (Ij [a0 ^^^ b0,a1 ^^^ b1,a2 ^^^ b2,a3 ^^^ b3])
def ns{n:Int}(h0:0≤n)(h1:n≤1000):cy (n,())=some ((aqU (n+3) 4,()),()):=by
 unfold cy;simp only;rw[ah (n:=n+4) (by omega) (by omega),ah (n:=n+4 - 1) (by omega) (by omega),show n+4 - 1=n+3 by omega];rw[arf (by omega),ah (by omega) (by omega)]
def Tz:xX ()=some ((B (nul 4),()),()):=rfl
def A9(t:List UInt8)(i:Nat):List UInt8:=(aqW 4).map fun j=>t.getD (4 * i+j) 0
def Eh(t:List UInt8)(i:Nat):(A9 t i).length=4:=by simp[A9]
def mP(t:aqp):List aqp:=if inB t.size 1 24 then(aqW ((t.size+3) / 4)).map fun i=>B (A9 (L t) i) else []
def ahQ(l:List UInt8):aqR (aqQ (aqy 4) (dfl .u8)).length (bI l)++aq9 (bI l).length (aqQ (aqy 4) (dfl .u8))=bI ((aqW 4).map fun j=>l.getD j 0):=by
 rcases l with _ | ⟨a,_ | ⟨b,_ | ⟨c,_ | ⟨d,l⟩⟩⟩⟩
 ·rfl
 ·rfl
 ·rfl
 ·rfl
 ·rw[asm (by simp),aq6];rfl
def adF(l:List UInt8)(k:Nat):(aqW 4).map (fun j=>(l.drop k).getD j 0)=(aqW 4).map fun j=>l.getD (k+j) 0:=by
 refine arK ?_;intro j _;rw[aqE,aqE,ar5]
def ajo(s:aqp)(k:Nat):L (s.extract k s.size)=(L s).drop k:=by
 rw[jd,asc];rw[aru,aN];exact aqG _
def Ug(t:aqp):sx (t,())=some ((mP t,()),()):=by
 unfold sx mP;simp only[bO,aqs];rcases tf (inB t.size 1 24) with e | e
 ·have h1:=ae.1 e;simp only[e,aqu,aqr,aqm];have h:qI (t,[],0,())=some (.inr ((aqW ((t.size+3) / 4)).map (fun i=>B (A9 (L t) i)),())):=by
   refine cO (fun i=>(t,(aqW i).map (fun i=>B (A9 (L t) i)),((4 * i:Nat):Int),())) ((t.size+3) / 4) ?_ ?_
   ·intro i hi;unfold qJ;simp only[show decide (((4 * i:Nat):Int) < (t.size:Int))=true from aqi (by omega),aqm];rw[aqh (by rfl),aqh (by simp;omega),aqh (aF (by simp;omega))];rw[aqJ,EQ,ajo,ahQ,Ij,adF,ah (by omega) (by omega),asz (n:=i),arG];rw[show((4 * i:Nat):Int)+4=((4 * (i+1):Nat):Int) by omega];rfl
   ·unfold qJ;simp only[show decide (((4 * ((t.size+3) / 4):Nat):Int) < (t.size:Int))=false from aqj (by omega),aqr]
  rw[h];simp only[aJ,aqs];rw[lu (by simp;omega)];rfl
 ·simp only[e,aqv,aqm,aqr]
def acA(t:aqp)(o:List aqp)(i:Nat)(hi:i≤100):
  pG (t,o,(i:Int),[],w64 ((i:Int) * 4),())=some (.inr (t,o,(i:Int),bI (A9 (L t) i),())):=by
 rw[ah (by omega) (by omega),show(i:Int) * 4=((4 * i+0:Nat):Int) by omega];refine cO (fun j=>(t,o,(i:Int),bI ((aqW j).map fun m=>(L t).getD (4 * i+m) 0),((4 * i+j:Nat):Int),())) 4 ?_ ?_
 ·intro j hj;unfold pI;simp only;rw[ah (n:=(i:Int)+1) (by omega) (by omega),ah (n:=((i:Int)+1) * 4) (by omega) (by omega)];rw[aqh (aqi (by omega)),ah (n:=((4 * i+j:Nat):Int)+1) (by omega) (by omega)];rw[asz,arG];by_cases h:4 * i+j < t.size
  ·rw[aqh (aqi (by omega)),aqh (ak h),aqh (aF (by simp;omega)),wE];simp only[arG,arx,asI];rfl
  ·rw[aqg (by simp;omega),aqh (aF (by simp;omega))];have:(L t).getD (4 * i+j) 0=0:=by
    rw[aqE,arW (by rw[aN];omega)];rfl
   simp only[arG,arx,asI,this];rfl
 ·unfold pI;simp only;rw[ah (n:=(i:Int)+1) (by omega) (by omega),ah (n:=((i:Int)+1) * 4) (by omega) (by omega)];rw[aqg (by simp;omega)];rfl
def TD(t:aqp):sj (t,())=some ((mP t,()),()):=by
 unfold sj mP;rcases tf (inB t.size 1 24) with e | e
 ·have h1:=ae.1 e;rw[aqg (by simp;omega),aqh e];have h:pH (t,[],0,())=some (.inr ((aqW ((t.size+3) / 4)).map (fun i=>B (A9 (L t) i)),())):=by
   refine cO (fun i=>(t,(aqW i).map (fun i=>B (A9 (L t) i)),(i:Int),())) ((t.size+3) / 4) ?_ ?_
   ·intro i hi;unfold pJ;simp only[ns (n:=(t.size:Int)) (by omega) (by omega),aqs];rw[arf (by omega),aqh (aqi (by omega)),acA t _ i (by omega)];simp only[aJ,aqs];rw[aqh (aF (by simp;omega)),Ij,ah (by omega) (by omega),asz,arG];rfl
   ·unfold pJ;simp only[ns (n:=(t.size:Int)) (by omega) (by omega),aqs];rw[arf (by omega),aqg (by simp)]
  rw[h];rfl
 ·rw[aqh,aqg (by rw[e];exact aq3)];by_cases h:(1:Int)≤t.size∧(t.size:Int)≤24
  ·rw[ae.2 h]at e;cases e
  ·simp;omega
end Go.VS
namespace Go.VS
open Go
abbrev bsA(l:List aqp)(k:Nat):aqp:=l.getD k noB
def G9(l:List aqp)(k:Nat): @rd aqp (dfl .str) l (k:Int)=bsA l k:=rfl
def Ax(pre:List Nat)(k:Nat)(post:List Nat): @rd Int (dfl .int) (bz (pre++k::post)) (pre.length:Int)=(k:Int):=by
 rw[G7,bz,arG,arx,aqE,arj (by simp)];simp
def snoc{α:Type}(pre:List α)(k:α)(post:List α):pre++k::post=(pre++[k])++post:=by simp
def cJ{n m:Nat}(h:n < m)(hm:m≤1048576):w64 ((n:Int)+1)=((n+1:Nat):Int):=aG h (by omega)
section
variable {bs:List aqp} (hbs: ∀ k,k < bs.length→(bsA bs k).size=4)
include hbs
def adj(post:List Nat): ∀ (pre:List Nat) (y:aqp),pre≠[]→y.size=4→(pre++post).length≤1048576→(∀ k∈post,k < bs.length)→
  fT (bs,y,bz (pre++post),((bz (pre++post)).length:Int),(pre.length:Int),())=some (.inr (B (post.foldl (fun x k=>fD x (L (bsA bs k))) (L y)),())):=by
 induction post with
 | nil=>
  intro pre y _ _ _ _;refine an ?_;unfold jP;simp only[aq6,ary,show decide ((pre.length:Int) < (pre.length:Int))=false from aqj (by omega),aqr,asQ,B_L]
 | cons k post ih=>
  intro pre y hp hy hl hk;have h1:=hk k aqA;have hne:pre.length≠0:=fun h=>hp (aq2 h);have hlen:pre.length < (bz (pre++k::post)).length:=by simp
  refine ai (x':=(bs,B (fD (L y) (L (bsA bs k))),bz (pre++k::post),((bz (pre++k::post)).length:Int),((pre++[k]).length:Int),())) ?_ ?_
  ·unfold jP;simp only[show decide ((pre.length:Int) < ((bz (pre++k::post)).length:Int))=true from aqi (by omega),aqm,ak hlen,Ax,show decide ((pre.length:Int)=0)=false from aqj (by omega),aqr,ak h1,G9,Jw hy (hbs k h1),aqs];rw[cJ hlen (by simpa using hl),aqD];rfl
  ·have:=ih (pre++[k]) (B (fD (L y) (L (bsA bs k)))) (by simp) (by rw[aO,yE (by rw[aN,aN,hy,hbs k h1]),aN,hy]) (by rw[← snoc];exact hl) fun x hx=>hk x (aqx k hx);rw[← snoc]at this;exact this
def acr(post:List Nat): ∀ (pre:List Nat) (y:aqp),y.size=4→(pre++post).length≤1048576→(∀ k∈post,k < bs.length)→
  jv (bs,bz (pre++post),y,(pre.length:Int),())=some (.inr (B (post.foldl (fun x k=>fD x (L (bsA bs k))) (L y)),())):=by
 induction post with
 | nil=>
  intro pre y _ _ _;refine an ?_;unfold nK;simp only[aq6,ary,show decide ((pre.length:Int) < (pre.length:Int))=false from aqj (by omega),aqr,asQ,B_L]
 | cons k post ih=>
  intro pre y hy hl hk;have h1:=hk k aqA;have hlen:pre.length < (bz (pre++k::post)).length:=by simp
  refine ai (x':=(bs,bz (pre++k::post),B (fD (L y) (L (bsA bs k))),((pre++[k]).length:Int),())) ?_ ?_
  ·unfold nK;simp only[show decide ((pre.length:Int) < ((bz (pre++k::post)).length:Int))=true from aqi (by omega),aqm,ak hlen,Ax,ak h1,G9,Io hy (hbs k h1),aqs];rw[cJ hlen (by simpa using hl),aqD];rfl
  ·have:=ih (pre++[k]) (B (fD (L y) (L (bsA bs k)))) (by rw[aO,yE (by rw[aN,aN,hy,hbs k h1]),aN,hy]) (by rw[← snoc];exact hl) fun x hx=>hk x (aqx k hx);rw[← snoc]at this;exact this
end
def Kw{t:aqp}{k:Nat}(h:k < (mP t).length):bsA (mP t) k=B (A9 (L t) k):=by
 unfold mP at h ⊢;split
 ·rename_i e;rw[aqh e]at h;simp at h;rw[bsA,aqE,ari,arP h];rfl
 ·rename_i e;rw[aqg e]at h;cases h
def ta(t:aqp)(n:Int):aqp:=
 if(aU (mP t).length n).isEmpty then noB else B (pZ 4 (A9 (L t)) (aU (mP t).length n))
def Yi{t:aqp}{n:Int}{y:List UInt8}{ks:List Nat}(hy:y.length=4)(hk: ∀ k∈ks,k < (mP t).length):
  ks.foldl (fun x k=>fD x (L (bsA (mP t) k))) y=fD y (pZ 4 (A9 (L t)) ks):=by
 rw[← RU hy];have: ∀ (ks:List Nat) (y:List UInt8),(∀ k∈ks,k < (mP t).length)→ks.foldl (fun x k=>fD x (L (bsA (mP t) k))) y=ks.foldl (fun x k=>fD x (A9 (L t) k)) y:=by
  intro ks
  induction ks with
  | nil=>intro _ _;rfl
  | cons k ks ih=>
   intro y h;rw[ars,ars,Kw (h k aqA),ih _ fun x hx=>h x (aqx k hx)];rfl
 exact this ks y hk
def PE{t:aqp}: ∀ k,k < (mP t).length→(bsA (mP t) k).size=4:=by
 intro k h;rw[Kw h,aO,Eh]
def RI(t:aqp)(n:Int):qH (t,n,())=some ((ta t n,()),()):=by
 unfold qH ta;simp only[Ug,AO,aqs];have hk: ∀ k∈aU (mP t).length n,k < (mP t).length:=fun k h=>by
  have:=iO h;omega
 have hl:=AG (mP t).length n;revert hk hl;generalize aU (mP t).length n=ks;intro hk hl;cases ks with
 | nil=>
  rw[show fT (mP t,noB,bz [],((bz []).length:Int),0,())=some (.inr (noB,())) from an rfl];rfl
 | cons k ks=>
  have h1:=hk k aqA;rw[aqg (by simp)];have hlen:0 < (bz (k::ks)).length:=by simp
  have hrd: @rd Int (dfl .int) (bz (k::ks)) 0=(k:Int):=Ax [] k ks;have h:fT (mP t,noB,bz (k::ks),((bz (k::ks)).length:Int),0,())=some (.inr (B (pZ 4 (A9 (L t)) (k::ks)),())):=by
   refine ai (x':=(mP t,bsA (mP t) k,bz ([k]++ks),((bz ([k]++ks)).length:Int),(([k]:List Nat).length:Int),())) ?_ ?_
   ·unfold jP;simp only[show decide ((0:Int) < ((bz (k::ks)).length:Int))=true from aqi (by omega),aqm,ak (i:=0) hlen,show inb 0 (bz (k::ks)).length=true from ak (i:=0) hlen,hrd,show decide ((0:Int)=0)=true from rfl,ak h1,G9];rfl
   ·have:=adj PE ks [k] (bsA (mP t) k) (by simp) (PE k h1) (by simpa using (by simp at hl;omega:ks.length+1≤1048576)) fun x hx=>hk x (aqx k hx);rw[Yi (n:=n) (by rw[aN];exact PE k h1) fun x hx=>hk x (aqx k hx),Kw h1]at this;rw[Kw h1];exact this
  rw[h];rfl
def P9(t:aqp)(n:Int):pF (t,n,())=some ((ta t n,()),()):=by
 unfold pF ta;simp only[TD,Iy,aqs];have hk: ∀ k∈aU (mP t).length n,k < (mP t).length:=fun k h=>by
  have:=iO h;omega
 have hl:=AG (mP t).length n;revert hk hl;generalize aU (mP t).length n=ks;intro hk hl;cases ks with
 | nil=>rw[aqh (by simp),aqh (by simp)]
 | cons k ks=>
  have h1:=hk k aqA;have hc:(mP t).length≠0:=by omega
  rw[aqg (by simp;exact⟨fun h=>hc (by rw[h];rfl),by omega⟩),aqg (by simp),Tz];simp only[aqs];have:=acr (bs:=mP t) PE (k::ks) [] (B (nul 4)) (by rfl) (by simpa using (by simp at hl;omega:ks.length+1≤1048576)) hk;rw[Yi (n:=n) (by rfl) hk]at this;rw[show jv (mP t,bz (k::ks),B (nul 4),0,())=_ from this];simp only[aJ,aqs];rw[L_B,H8 (ze fun x _=>Eh _ x)]
end Go.VS
namespace Go.VS
open Go
def unk(kn:List aqp)(k:Nat):Bool:=decide (bsA kn k=noB)
def eE(kn:List aqp)(of:List Nat):List Nat:=of.filter (unk kn)
def ji(kn:List aqp)(of:List Nat)(y:List UInt8):List UInt8:=of.foldl (fun x k=>if unk kn k then x else fD x (L (bsA kn k))) y
def akj(b:Nat)(kn:List aqp):Prop:=kn.length=b∧ ∀ k,k < b→bsA kn k=noB∨(bsA kn k).size=4
def La{b:Nat}{kn:List aqp}(h:akj b kn): ∀ {of:List Nat} {y:List UInt8},y.length=4→(∀ k∈of,k < b)→(ji kn of y).length=4
 | [],_,hy,_=>hy
 | k::of,y,hy,hk=>by
  unfold ji;rw[ars];refine La (of:=of) h ?_ fun x hx=>hk x (aqx k hx);rcases tf (unk kn k) with e | e
  ·rw[e];exact hy
  ·rw[e,aqr];rcases h.2 k (hk k aqA) with h1 | h1
   ·unfold unk at e;exact absurd h1 (aql e)
   ·rw[yE (by rw[hy,aN,h1]),hy]
def aij(d:Int)(l:List Nat):Int:=l.foldl (fun(_:Int) (k:Nat)=>(k:Int)) d
section
variable {b:Nat} {kn:List aqp} (hkn:akj b kn)
include hkn
def adk(bi:Int)(list l2:List ajV)(ag:Bool)(n i:Int)(post:List Nat): ∀ (pre:List Nat) (y:aqp) (u:Int) (m:Nat),y.size=4→(pre++post).length≤1048576→m≤pre.length→(∀ k∈post,k < b)→
  jC (bi,list,kn,ag,y,u,(m:Int),l2,n,i,bz (pre++post),((bz (pre++post)).length:Int),(pre.length:Int),())=
   some (.inr (bi,list,kn,ag,B (ji kn post (L y)),aij u (eE kn post),((m+(eE kn post).length:Nat):Int),l2,n,i,())):=by
 induction post with
 | nil=>
  intro pre y u m _ _ _ _;refine an ?_;unfold jO;simp only[aq6,ary,show decide ((pre.length:Int) < (pre.length:Int))=false from aqj (by omega),aqr];show _=some (Sum.inr (Sum.inr (bi,list,kn,ag,B (L y),u,(m:Int),l2,n,i,())));rw[B_L]
 | cons k post ih=>
  intro pre y u m hy hl hm hk;have h1:=hk k aqA;have hlen:pre.length < (bz (pre++k::post)).length:=by simp
  have hb:k < kn.length:=by rw[hkn.1];exact h1
  have hl2:(pre++[k]++post).length≤1048576:=by rw[← snoc];exact hl
  rcases tf (unk kn k) with e | e
  ·refine ai (x':=(bi,list,kn,ag,y,(k:Int),((m+1:Nat):Int),l2,n,i,bz (pre++k::post),((bz (pre++k::post)).length:Int),((pre++[k]).length:Int),())) ?_ ?_
   ·unfold jO;simp only[show decide ((pre.length:Int) < ((bz (pre++k::post)).length:Int))=true from aqi (by omega),aqm,ak hlen,Ax,ak hb,G9];rw[aqh (show decide (bsA kn k=noB)=true from e),cJ hlen (by simpa using hl),aqD,ah (n:=(m:Int)+1) (by omega) (by simp at hl;omega)];rfl
   ·have:=ih (pre++[k]) y (k:Int) (m+1) hy hl2 (by simp;omega) fun x hx=>hk x (aqx k hx);rw[← snoc]at this;rw[show eE kn (k::post)=k::eE kn post by unfold eE;rw[asd,e,aqh rfl]];rw[show ji kn (k::post) (L y)=ji kn post (L y) by unfold ji;rw[ars,e,aqh rfl]];rw[aqM,show m+((eE kn post).length+1)=m+1+(eE kn post).length by omega];exact this
  ·have hs:(bsA kn k).size=4:=by
    rcases hkn.2 k h1 with h2 | h2
    ·exact absurd h2 (aql e)
    ·exact h2
   refine ai (x':=(bi,list,kn,ag,B (fD (L y) (L (bsA kn k))),u,(m:Int),l2,n,i,bz (pre++k::post),((bz (pre++k::post)).length:Int),((pre++[k]).length:Int),())) ?_ ?_
   ·unfold jO;simp only[show decide ((pre.length:Int) < ((bz (pre++k::post)).length:Int))=true from aqi (by omega),aqm,ak hlen,Ax,ak hb,G9];rw[aqg (by intro h;unfold unk at e;rw[h]at e;cases e),Jw hy hs,cJ hlen (by simpa using hl),aqD];rfl
   ·have:=ih (pre++[k]) (B (fD (L y) (L (bsA kn k)))) u m (by rw[aO,yE (by rw[aN,aN,hy,hs]),aN,hy]) hl2 (by simp;omega) fun x hx=>hk x (aqx k hx);rw[← snoc]at this;rw[show eE kn (k::post)=eE kn post by unfold eE;rw[asd,e,aqr]];rw[show ji kn (k::post) (L y)=ji kn post (fD (L y) (L (bsA kn k))) by unfold ji;rw[ars,e,aqr]];exact this
def acs(post:List Nat): ∀ (pre:List Nat) (y:aqp) (o:List Nat),y.size=4→(pre++post).length≤1048576→o.length≤pre.length→(∀ k∈post,k < b)→
  kv (kn,bz o,y,bz (pre++post),(pre.length:Int),())=some (.inr (bz (o++eE kn post),B (ji kn post (L y)),())):=by
 induction post with
 | nil=>
  intro pre y o _ _ _ _;refine an ?_;unfold kZ;simp only[aq6,ary,show decide ((pre.length:Int) < (pre.length:Int))=false from aqj (by omega),aqr];show _=some (Sum.inr (Sum.inr (bz (o++[]),B (L y),())));rw[B_L,aq6]
 | cons k post ih=>
  intro pre y o hy hl hm hk;have h1:=hk k aqA;have hlen:pre.length < (bz (pre++k::post)).length:=by simp
  have hb:k < kn.length:=by rw[hkn.1];exact h1
  have hl2:(pre++[k]++post).length≤1048576:=by rw[← snoc];exact hl
  rcases tf (unk kn k) with e | e
  ·refine ai (x':=(kn,bz (o++[k]),y,bz (pre++k::post),((pre++[k]).length:Int),())) ?_ ?_
   ·unfold kZ;simp only[show decide ((pre.length:Int) < ((bz (pre++k::post)).length:Int))=true from aqi (by omega),aqm,ak hlen,Ax,ak hb,G9];rw[aqh (show decide (bsA kn k=noB)=true from e),aqh (aF (by simp;simp at hl;omega)),cJ hlen (by simpa using hl),aqD];simp[bz]
   ·have:=ih (pre++[k]) y (o++[k]) hy hl2 (by simp;omega) fun x hx=>hk x (aqx k hx);rw[← snoc]at this;rw[show eE kn (k::post)=k::eE kn post by unfold eE;rw[asd,e,aqh rfl]];rw[show ji kn (k::post) (L y)=ji kn post (L y) by unfold ji;rw[ars,e,aqh rfl]];rw[snoc o k (eE kn post)];exact this
  ·have hs:(bsA kn k).size=4:=by
    rcases hkn.2 k h1 with h2 | h2
    ·exact absurd h2 (aql e)
    ·exact h2
   refine ai (x':=(kn,bz o,B (fD (L y) (L (bsA kn k))),bz (pre++k::post),((pre++[k]).length:Int),())) ?_ ?_
   ·unfold kZ;simp only[show decide ((pre.length:Int) < ((bz (pre++k::post)).length:Int))=true from aqi (by omega),aqm,ak hlen,Ax,ak hb,G9];rw[aqg (by intro h;unfold unk at e;rw[h]at e;cases e),Io hy hs,cJ hlen (by simpa using hl),aqD];rfl
   ·have:=ih (pre++[k]) (B (fD (L y) (L (bsA kn k)))) o (by rw[aO,yE (by rw[aN,aN,hy,hs]),aN,hy]) hl2 (by simp;omega) fun x hx=>hk x (aqx k hx);rw[← snoc]at this;rw[show eE kn (k::post)=eE kn post by unfold eE;rw[asd,e,aqr]];rw[show ji kn (k::post) (L y)=ji kn post (fD (L y) (L (bsA kn k))) by unfold ji;rw[ars,e,aqr]];exact this
end
def uJ(b:Nat)(kn:List aqp)(m:ajV):Option (List aqp):=
 if inB m.nu 0 999&&decide ((m.da.size:Int)=4) then
  (match eE kn (aU (b:Int) m.nu) with
   | [u]=>some (kn.set u (B (ji kn (aU (b:Int) m.nu) (L m.da))))
   | _=>none)
 else none
def cF(b:Nat)(s:List aqp×Bool)(m:ajV):List aqp×Bool:=match uJ b s.1 m with | some kn=>(kn,true) | none=>s
def pT(b:Nat)(list:List ajV)(kn:List aqp):List aqp×Bool:=list.foldl (cF b) (kn,false)
def pY(b:Nat)(list:List ajV):Nat→List aqp→List aqp
 | 0,kn=>kn
 | n+1,kn=>if(pT b list kn).2 then pY b list n (pT b list kn).1 else(pT b list kn).1
def ER{kn:List aqp}{u:Nat}(v:aqp)(hu:u < kn.length)(k:Nat):bsA (kn.set u v) k=if k=u then v else bsA kn k:=by
 rw[bsA,aqE,atG];by_cases h:u=k
 ·subst h;simp[hu]
 ·rw[aqg h,aqg (atu h),← aqE]
def agh{f g:Nat→Bool}(h: ∀ i,g i=true→f i=true): ∀ k,cnt g k≤cnt f k
 | 0=>aqG _
 | k+1=>by
  have:=agh h k;rw[cnt,cnt];rcases tf (g k) with e | e
  ·rw[e,h k e];omega
  ·rw[e,aqr];omega
def agf{f g:Nat→Bool}(h: ∀ i,g i=true→f i=true){u:Nat}(hf:f u=true)(hg:g u=false): ∀ k,u < k→cnt g k < cnt f k
 | 0,h=>by omega
 | k+1,hk=>by
  rw[cnt,cnt];by_cases e:u=k
  ·subst e;rw[hf,hg,aqh rfl,aqr];have:=agh h u;omega
  ·have:=agf h hf hg k (by omega);rcases tf (g k) with e | e
   ·rw[e,h k e];omega
   ·rw[e,aqr];omega
def Ex{b:Nat}{kn kn':List aqp}{m:ajV}(h:akj b kn)(e:uJ b kn m=some kn'):
  akj b kn'∧(∀ k,unk kn' k=true→unk kn k=true)∧cnt (unk kn') b < cnt (unk kn) b:=by
 unfold uJ at e;split at e
 ·rename_i hc;rw[aqt]at hc;have hs:=aqk hc.2;split at e
  ·rename_i u hu;injection e with e;subst e;have akF:u∈eE kn (aU (b:Int) m.nu):=by rw[hu];exact arX u
   obtain⟨h1,h2⟩:=ar3.1 akF;have h3:=iO h1;have hub:u < b:=by omega
   have hul:u < kn.length:=by rw[h.1];exact hub
   have hlen:(B (ji kn (aU (b:Int) m.nu) (L m.da))).size=4:=by
    rw[aO,La h (by rw[aN];omega) fun k hk=>by have:=iO hk;omega]
   have hno:B (ji kn (aU (b:Int) m.nu) (L m.da))≠noB:=by
    intro hh;rw[hh]at hlen;cases hlen
   have ano: ∀ k,unk (kn.set u (B (ji kn (aU (b:Int) m.nu) (L m.da)))) k=true→unk kn k=true:=by
    intro k hk;unfold unk at hk;rw[ER _ hul]at hk;by_cases ek:k=u
    ·rw[aqh ek]at hk;exact absurd (aqk hk) hno
    ·rw[aqg ek]at hk;exact hk
   refine⟨⟨by rw[arZ,h.1], ?_⟩,ano,agf ano h2 ?_ b hub⟩
   ·intro k hk;rw[ER _ hul];by_cases ek:k=u
    ·rw[aqh ek];exact auL hlen
    ·rw[aqg ek];exact h.2 k hk
   ·unfold unk;rw[ER _ hul,aqh rfl];exact aqj hno
  ·cases e
 ·cases e
def jW{b:Nat}: ∀ (list:List ajV) (s:List aqp×Bool),akj b s.1→
  akj b (list.foldl (cF b) s).1∧(∀ k,unk (list.foldl (cF b) s).1 k=true→unk s.1 k=true)∧cnt (unk (list.foldl (cF b) s).1) b≤cnt (unk s.1) b∧
  ((list.foldl (cF b) s).2=true→s.2=true∨cnt (unk (list.foldl (cF b) s).1) b < cnt (unk s.1) b)
 | [],s,h=>⟨h,fun _ hk=>hk,aqG _,fun hs=>auM hs⟩
 | m::list,s,h=>by
  rw[ars];cases e:uJ b s.1 m with
  | none=>
   rw[show cF b s m=s by unfold cF;rw[e]];exact jW list s h
  | some kn=>
   rw[show cF b s m=(kn,true) by unfold cF;rw[e]];obtain⟨a1,a2,a3⟩:=Ex h e;obtain⟨b1,b2,b3,_⟩:=jW list (kn,true) a1;have b4:cnt (unk (list.foldl (cF b) (kn,true)).1) b≤cnt (unk kn) b:=b3;exact⟨b1,fun k hk=>a2 k (b2 k hk),by omega,fun _=>auL (by omega)⟩
end Go.VS
namespace Go.VS
open Go
def IM(pre:List ajV)(m:ajV)(post:List ajV): @rd ajV (dfl .mixed) (pre++m::post) (pre.length:Int)=m:=by
 rw[G7,aqE,arj (aqG _)];simp
def ac8(u:Nat):aij (-1) [u]=(u:Int):=rfl
def PZ{b:Nat}{kn kn':List aqp}{m:ajV}(ag:Bool)(h:uJ b kn m=some kn'):cF b (kn,ag) m=(kn',true):=by unfold cF;rw[h]
def vc{b:Nat}{kn:List aqp}{m:ajV}(ag:Bool)(h:uJ b kn m=none):cF b (kn,ag) m=(kn,ag):=by unfold cF;rw[h]
def Ym{b:Nat}{kn:List aqp}{n:Int}{u:Nat}(h:eE kn (aU (b:Int) n)=[u]):u < b:=by
 have:u∈eE kn (aU (b:Int) n):=by rw[h];exact arX u
 have:=iO (ar3.1 this).1;omega
def aat{b:Nat}(h6:b≤6)(list:List ajV)(post:List ajV): ∀ (pre:List ajV) (kn:List aqp) (ag:Bool),akj b kn→(pre++post).length≤1048576→
  fS ((b:Int),list,kn,ag,pre++post,((pre++post).length:Int),(pre.length:Int),())=
   some (.inr ((b:Int),list,(post.foldl (cF b) (kn,ag)).1,(post.foldl (cF b) (kn,ag)).2,())):=by
 induction post with
 | nil=>
  intro pre kn ag _ _;refine an ?_;unfold dK;simp only[aq6,show decide ((pre.length:Int) < (pre.length:Int))=false from aqj (by omega),aqr];rfl
 | cons m post ih=>
  intro pre kn ag hk hl;have hlen:pre.length < (pre++m::post).length:=by simp
  have hw:=cJ hlen hl;have nxt: ∀ (kn':List aqp) (ag':Bool),akj b kn'→cF b (kn,ag) m=(kn',ag')→
    dK ((b:Int),list,kn,ag,pre++m::post,((pre++m::post).length:Int),(pre.length:Int),())=some (.inl ((b:Int),list,kn',ag',pre++m::post,((pre++m::post).length:Int),((pre.length+1:Nat):Int),()))→
    fS ((b:Int),list,kn,ag,pre++m::post,((pre++m::post).length:Int),(pre.length:Int),())=
     some (.inr ((b:Int),list,((m::post).foldl (cF b) (kn,ag)).1,((m::post).foldl (cF b) (kn,ag)).2,())):=by
   intro kn' ag' h1 h2 h3;refine ai h3 ?_;have:=ih (pre++[m]) kn' ag' h1 (by rw[← snoc];exact hl);rw[← snoc,@aqD _ pre [m]]at this;rw[ars,h2];exact this
  rcases tf (inB m.nu 0 999) with e1 | e1
  ·by_cases e2:(m.da.size:Int)=4
   ·have hh:uJ b kn m=(match eE kn (aU (b:Int) m.nu) with | [u]=>some (kn.set u (B (ji kn (aU (b:Int) m.nu) (L m.da)))) | _=>none):=by
     unfold uJ;rw[aqh (by rw[e1,aqi e2]<;>rfl)]<;>rfl
    have hlo:(aU (b:Int) m.nu).length≤1048576:=ara (AG _ _) (by omega);have hi:=adk hk (b:Int) list (pre++m::post) ag ((pre++m::post).length:Int) (pre.length:Int) (aU (b:Int) m.nu) [] m.da (-1) 0 (by omega) hlo (aqG _) fun k h=>by have:=iO h;omega
    have hi2:jC ((b:Int),list,kn,ag,m.da,-1,0,pre++m::post,((pre++m::post).length:Int),(pre.length:Int),bz (aU (b:Int) m.nu),((bz (aU (b:Int) m.nu)).length:Int),0,())=_:=hi;by_cases e3:(eE kn (aU (b:Int) m.nu)).length=1
    ·obtain⟨u,hu⟩:=auA.1 e3;rw[hu]at hh;have hub:=Ym hu;refine nxt _ true (Ex hk hh).1 (PZ ag hh) ?_;unfold dK;simp only[show decide ((pre.length:Int) < ((pre++m::post).length:Int))=true from aqi (by omega),aqm,ak hlen,IM,bO,aqs,e1,e2,aqu,aqn,arJ,aqr,AO,hi2,hu];simp only[aJ,aqs,ac8,ak (show u < kn.length by rw[hk.1];exact hub),aqm,aqJ,hw];rfl
    ·have hn:uJ b kn m=none:=by
      rw[hh];split
      ·rename_i u hu;rw[hu]at e3;exact absurd rfl e3
      ·rfl
     refine nxt kn ag hk (vc ag hn) ?_;unfold dK;simp only[show decide ((pre.length:Int) < ((pre++m::post).length:Int))=true from aqi (by omega),aqm,ak hlen,IM,bO,aqs,e1,e2,aqu,aqn,arJ,aqr,AO,hi2];simp only[aJ,aqs,arI,show decide (((eE kn (aU (b:Int) m.nu)).length:Int)=1)=false from aqj (by omega),aqr,hw]
   ·have hn:uJ b kn m=none:=by
     unfold uJ;rw[aqg (by rw[aqj e2,aqV];exact aq3)]
    refine nxt kn ag hk (vc ag hn) ?_;unfold dK;simp only[show decide ((pre.length:Int) < ((pre++m::post).length:Int))=true from aqi (by omega),aqm,ak hlen,IM,bO,aqs,aqj e2,aqv,arA,hw]
  ·have hn:uJ b kn m=none:=by
    unfold uJ;rw[aqg (by rw[e1,aqz];exact aq3)]
   refine nxt kn ag hk (vc ag hn) ?_;unfold dK;simp only[show decide ((pre.length:Int) < ((pre++m::post).length:Int))=true from aqi (by omega),aqm,ak hlen,IM,bO,aqs,e1,aqv,aq5,hw]
def WI{b:Nat}(h0:0 < b)(h6:b≤6)(n:Int):ow (b:Int) n=inB n 0 999:=by
 unfold ow;rw[ae.2 (by omega),aqB]
def TA{b:Nat}{kn:List aqp}(hk:akj b kn)(n:Int){d:aqp}(hd:d.size=4):
  rY ((b:Int),(n,d,()),kn,())=some ((bz (eE kn (aU (b:Int) n)),B (ji kn (aU (b:Int) n) (L d)),()),()):=by
 unfold rY;simp only[Iy,aqs];have hlo:(aU (b:Int) n).length≤1048576:=ara (AG _ _) (by omega);have hi:=acs hk (aU (b:Int) n) [] d [] hd hlo (aqG _) fun k h=>by have:=iO h;omega
 have hi2:kv (kn,[],d,bz (aU (b:Int) n),0,())=_:=hi;rw[hi2];rfl
def vj(b n:Int)(d:aqp):iE (b,(n,d,()),())=some ((ow b n&&decide ((d.size:Int)=4),()),()):=by
 unfold iE;simp only[wT,aqs]
def ZK{b:Nat}(h0:0 < b)(h6:b≤6)(post:List ajV): ∀ (pre:List ajV) (kn:List aqp) (ag:Bool),akj b kn→(pre++post).length≤1048576→
  fL ((b:Int),pre++post,kn,ag,(pre.length:Int),())=
   some (.inr ((b:Int),pre++post,(post.foldl (cF b) (kn,ag)).1,(post.foldl (cF b) (kn,ag)).2,())):=by
 induction post with
 | nil=>
  intro pre kn ag _ _;refine an ?_;unfold eV;simp only[aq6,show decide ((pre.length:Int) < (pre.length:Int))=false from aqj (by omega),aqr];rfl
 | cons m post ih=>
  intro pre kn ag hk hl;have hlen:pre.length < (pre++m::post).length:=by simp
  have hw:=cJ hlen hl;have nxt: ∀ (kn':List aqp) (ag':Bool),akj b kn'→cF b (kn,ag) m=(kn',ag')→
    eV ((b:Int),pre++m::post,kn,ag,(pre.length:Int),())=some (.inl ((b:Int),pre++m::post,kn',ag',((pre.length+1:Nat):Int),()))→
    fL ((b:Int),pre++m::post,kn,ag,(pre.length:Int),())=
     some (.inr ((b:Int),pre++m::post,((m::post).foldl (cF b) (kn,ag)).1,((m::post).foldl (cF b) (kn,ag)).2,())):=by
   intro kn' ag' h1 h2 h3;refine ai h3 ?_;have:=ih (pre++[m]) kn' ag' h1 (by rw[← snoc];exact hl);rw[← snoc,@aqD _ pre [m]]at this;rw[ars,h2];exact this
  rcases tf (inB m.nu 0 999&&decide ((m.da.size:Int)=4)) with e | e
  ·have e':=e;rw[aqt]at e';have e2:=aqk e'.2;have hh:uJ b kn m=(match eE kn (aU (b:Int) m.nu) with | [u]=>some (kn.set u (B (ji kn (aU (b:Int) m.nu) (L m.da)))) | _=>none):=by
    unfold uJ;rw[aqh e]<;>rfl
   have hL:=TA hk m.nu (d:=m.da) (by omega);by_cases e3:(eE kn (aU (b:Int) m.nu)).length=1
   ·obtain⟨u,hu⟩:=auA.1 e3;rw[hu]at hh;have hub:=Ym hu;refine nxt _ true (Ex hk hh).1 (PZ ag hh) ?_;unfold eV;simp only[show decide ((pre.length:Int) < ((pre++m::post).length:Int))=true from aqi (by omega),aqm,ak hlen,IM,vj,WI h0 h6,aqs,e,aqu,aqr,hL,hu];rw[aqh (by rfl),aqh (by rfl),show @rd Int (dfl .int) (bz [u]) 0=(u:Int) from rfl,aqh (ak (show u < kn.length by rw[hk.1];exact hub)),hw];rfl
   ·have hn:uJ b kn m=none:=by
     rw[hh];split
     ·rename_i u hu;rw[hu]at e3;exact absurd rfl e3
     ·rfl
    refine nxt kn ag hk (vc ag hn) ?_;unfold eV;simp only[show decide ((pre.length:Int) < ((pre++m::post).length:Int))=true from aqi (by omega),aqm,ak hlen,IM,vj,WI h0 h6,aqs,e,aqu,aqr,hL,ary,
     show decide (((eE kn (aU (b:Int) m.nu)).length:Int)=1)=false from aqj (by omega),hw]
  ·have hn:uJ b kn m=none:=by
    unfold uJ;rw[aqg (by rw[e];exact aq3)]
   refine nxt kn ag hk (vc ag hn) ?_;unfold eV;simp only[show decide ((pre.length:Int) < ((pre++m::post).length:Int))=true from aqi (by omega),aqm,ak hlen,IM,vj,WI h0 h6,aqs,e,aqv,hw]
def VF{b:Nat}(h6:b≤6)(list:List ajV)(hl:list.length≤1048576): ∀ (n:Nat) (kn:List aqp),akj b kn→cnt (unk kn) b < n→
  oJ ((b:Int),list,kn,true,())=some (.inr (pY b list n kn,()))
 | 0,_,_,h=>by omega
 | n+1,kn,hk,h=>by
  have hr:=aat h6 list list [] kn false hk hl;have hr2:fS ((b:Int),list,kn,false,list,(list.length:Int),0,())=some (.inr ((b:Int),list,(pT b list kn).1,(pT b list kn).2,())):=hr;obtain⟨g1,g2,g3,g4⟩:=jW list (kn,false) hk;refine ai (x':=((b:Int),list,(pT b list kn).1,(pT b list kn).2,())) ?_ ?_
  ·unfold tO;simp only[aqm,hr2];rfl
  ·rw[pY];rcases tf (pT b list kn).2 with e | e
   ·rw[e,aqh rfl];rcases g4 e with g | g
    ·cases g
    ·exact VF h6 list hl n _ g1 (arU g (Nat.le_of_lt_succ h))
   ·rw[e,aqr];exact an rfl
def U6{b:Nat}(h0:0 < b)(h6:b≤6)(list:List ajV)(hl:list.length≤1048576): ∀ (n:Nat) (kn:List aqp),akj b kn→cnt (unk kn) b < n→
  oq ((b:Int),list,kn,true,())=some (.inr (pY b list n kn,()))
 | 0,_,_,h=>by omega
 | n+1,kn,hk,h=>by
  have hr:=ZK h0 h6 list [] kn false hk hl;have hr2:fL ((b:Int),list,kn,false,0,())=some (.inr ((b:Int),list,(pT b list kn).1,(pT b list kn).2,())):=hr;obtain⟨g1,g2,g3,g4⟩:=jW list (kn,false) hk;refine ai (x':=((b:Int),list,(pT b list kn).1,(pT b list kn).2,())) ?_ ?_
  ·unfold tG;simp only[aqm,hr2];rfl
  ·rw[pY];rcases tf (pT b list kn).2 with e | e
   ·rw[e,aqh rfl];rcases g4 e with g | g
    ·cases g
    ·exact U6 h0 h6 list hl n _ g1 (arU g (Nat.le_of_lt_succ h))
   ·rw[e,aqr];exact an rfl
def Xb(f:Nat→Bool): ∀ k,cnt f k≤k
 | 0=>aqG _
 | k+1=>by
  have:=Xb f k;rw[cnt];split<;>omega
def akj.new(b:Nat):akj b (aqQ b noB):=by
 refine⟨by simp,fun k hk=>auM ?_⟩;rw[bsA,aqE,as6,aqh hk];rfl
def vA(b:Int)(list:List ajV):List aqp:=if inB b 1 6 then pY b.toNat list 7 (aqQ b.toNat noB) else []
def RH(b:Int)(list:List ajV)(hl:list.length≤1048576):qF (b,list,())=some ((vA b list,()),()):=by
 unfold qF vA;simp only[bO,aqs];rcases tf (inB b 1 6) with e | e
 ·have h1:=ae.1 e;simp only[e,aqu,aqr,aqm];rw[aqh (by simp;omega)];have:=VF (b:=b.toNat) (by omega) list hl 7 _ (akj.new _) (by have:=Xb (unk (aqQ b.toNat noB)) b.toNat;omega);rw[show((b.toNat:Nat):Int)=b by omega]at this;rw[show(dfl .str:aqp)=noB from rfl,this];rfl
 ·simp only[e,aqv,aqm,aqr]
def P8(b:Int)(list:List ajV)(hl:list.length≤1048576):pD (b,list,())=some ((vA b list,()),()):=by
 unfold pD vA;simp only[dE,aqs];rcases tf (inB b 1 6) with e | e
 ·have h1:=ae.1 e;simp only[e,aqu,aqr,aqm];rw[aqh (by simp;omega)];have:=U6 (b:=b.toNat) (by omega) (by omega) list hl 7 _ (akj.new _) (by have:=Xb (unk (aqQ b.toNat noB)) b.toNat;omega);rw[show((b.toNat:Nat):Int)=b by omega]at this;rw[show(dfl .str:aqp)=noB from rfl,this];rfl
 ·simp only[e,aqv,aqm,aqr]
end Go.VS
namespace Go.VS
open Go
def A6:List aqp→aqp→Option aqp
 | [],a=>some a
 | x::r,a=>if x=noB then none else A6 r (a++x)
def EP: ∀ {l:List aqp} {a c:aqp},(∀ x∈l,x=noB∨x.size=4)→A6 l a=some c→c.size=a.size+4 * l.length
 | [],a,c,_,h=>by
  injection h with h;rw[h];rfl
 | x::r,a,c,hx,h=>by
  unfold A6 at h;split at h
  ·cases h
  ·rename_i hne;rw[EP (fun y hy=>hx y (aqx x hy)) h,ay,aqM];rcases hx x aqA with h1 | h1
   ·exact absurd h1 hne
   ·omega
def Nd(pre:List aqp)(x:aqp)(post:List aqp): @rd aqp (dfl .str) (pre++x::post) (pre.length:Int)=x:=by
 rw[G7,aqE,arj (aqG _)];simp
abbrev ahU(s:Int)(o:Option aqp):(aqp×Bool×aqq) ⊕ (Int×aqp×aqq):=match o with | none=> .inl (noB,false,()) | some c=> .inr (s,c,())
def afr(s:Int)(post:List aqp): ∀ (pre:List aqp) (a:aqp),(pre++post).length≤1048576→(∀ x∈post,x.size≤4)→a.size≤4 * pre.length→
  jB (s,a,pre++post,((pre++post).length:Int),(pre.length:Int),())=some (ahU s (A6 post a)):=by
 induction post with
 | nil=>
  intro pre a _ _ _;refine an ?_;unfold jN;simp only[aq6,show decide ((pre.length:Int) < (pre.length:Int))=false from aqj (by omega),aqr];rfl
 | cons x post ih=>
  intro pre a hl hx ha;have hlen:pre.length < (pre++x::post).length:=by simp
  have hw:=cJ hlen hl;have hx4:=hx x aqA;by_cases e:x=noB
  ·refine an ?_;unfold jN A6;simp only[show decide ((pre.length:Int) < ((pre++x::post).length:Int))=true from aqi (by omega),aqm,ak hlen,Nd];rw[aqh (aqi e),aqh e]
  ·refine ai (x':=(s,a++x,pre++x::post,((pre++x::post).length:Int),((pre++[x]).length:Int),())) ?_ ?_
   ·unfold jN;simp only[show decide ((pre.length:Int) < ((pre++x::post).length:Int))=true from aqi (by omega),aqm,ak hlen,Nd];rw[aqg (by rw[aqj e];exact aq3),aqh (aqi (by simp at hl;omega)),hw,@aqD _ pre [x]];rfl
   ·have:=ih (pre++[x]) (a++x) (by rw[← snoc];exact hl) (fun y hy=>hx y (aqx x hy)) (by rw[ay,aqD,arN];omega);rw[← snoc]at this;rw[show A6 (x::post) a=A6 post (a++x) from aqg e];exact this
def aeC(s:Int)(post:List aqp): ∀ (pre:List aqp) (a:aqp),(pre++post).length≤1048576→(∀ x∈post,x.size≤4)→a.size≤4 * pre.length→
  ju (s,pre++post,a,(pre.length:Int),())=some (ahU s (A6 post a)):=by
 induction post with
 | nil=>
  intro pre a _ _ _;refine an ?_;unfold jJ;simp only[aq6,show decide ((pre.length:Int) < (pre.length:Int))=false from aqj (by omega),aqr];rfl
 | cons x post ih=>
  intro pre a hl hx ha;have hlen:pre.length < (pre++x::post).length:=by simp
  have hw:=cJ hlen hl;have hx4:=hx x aqA;by_cases e:x=noB
  ·refine an ?_;unfold jJ A6;simp only[show decide ((pre.length:Int) < ((pre++x::post).length:Int))=true from aqi (by omega),aqm,ak hlen,Nd];rw[aqh (aqi e),aqh e]
  ·refine ai (x':=(s,pre++x::post,a++x,((pre++[x]).length:Int),())) ?_ ?_
   ·unfold jJ;simp only[show decide ((pre.length:Int) < ((pre++x::post).length:Int))=true from aqi (by omega),aqm,ak hlen,Nd];rw[aqg (by rw[aqj e];exact aq3),aqh (aqi (by simp at hl;omega)),hw,@aqD _ pre [x]];rfl
   ·have:=ih (pre++[x]) (a++x) (by rw[← snoc];exact hl) (fun y hy=>hx y (aqx x hy)) (by rw[ay,aqD,arN];omega);rw[← snoc]at this;rw[show A6 (x::post) a=A6 post (a++x) from aqg e];exact this
def M6(c:aqp)(s:Nat):Bool:=db (c.size - s) fun i=>decide (bt c ((s+i:Nat):Int)=0)
def adg{c:aqp}{s:Nat}(h:s≤c.size)(hc:c.size≤1048576):oI ((s:Int),c,(s:Int),())=some (if M6 c s then .inr ((s:Int),c,()) else .inl (noB,false,())):=by
 refine cS (fun i=>((s:Int),c,((s+i:Nat):Int),())) (c.size - s) _ _ _ ?_ ?_
 ·intro i hi;unfold nT;simp only[show decide (((s+i:Nat):Int) < (c.size:Int))=true from aqi (by omega),aqm,ak (show s+i < c.size by omega)];rw[ah (by omega) (by omega)];rcases tf (decide (bt c ((s+i:Nat):Int)=0)) with e | e
  ·simp only[e,aqu,aqr,aqm];rfl
  ·simp only[e,aqv,aqr,aqm]
 ·unfold nT;simp only[show decide (((s+(c.size - s):Nat):Int) < (c.size:Int))=false from aqj (by omega),aqr]
def acn{c:aqp}{s:Nat}(h:s≤c.size)(hc:c.size≤1048576):oo ((s:Int),c,(s:Int),())=some (if M6 c s then .inr ((s:Int),c,()) else .inl (noB,false,())):=by
 refine cS (fun i=>((s:Int),c,((s+i:Nat):Int),())) (c.size - s) _ _ _ ?_ ?_
 ·intro i hi;unfold nJ;simp only[show decide (((s+i:Nat):Int) < (c.size:Int))=true from aqi (by omega),aqm,ak (show s+i < c.size by omega)];rw[ah (by omega) (by omega)];rcases tf (decide (bt c ((s+i:Nat):Int)=0)) with e | e
  ·simp only[e,aqu,aqr,aqm];rfl
  ·simp only[e,aqv,aqr,aqm]
 ·unfold nJ;simp only[show decide (((s+(c.size - s):Nat):Int) < (c.size:Int))=false from aqj (by omega),aqr]
def IU{b:Nat}(list:List ajV): ∀ (n:Nat) (kn:List aqp),akj b kn→akj b (pY b list n kn)
 | 0,_,h=>h
 | n+1,kn,h=>by
  have:=(jW list (kn,false) h).1;unfold pY;split
  ·exact IU list n _ this
  ·exact this
def akj.all{b:Nat}{kn:List aqp}(h:akj b kn): ∀ x∈kn,x=noB∨x.size=4:=by
 intro x hx;obtain⟨k,hk,rfl⟩:=at0.1 hx;have:=h.2 k (by rw[← h.1];exact hk);rw[bsA,aqE,aqC hk]at this;exact this
def Qr{b:Int}(hb:inB b 1 6=true)(list:List ajV):akj b.toNat (vA b list):=by
 unfold vA;rw[aqh hb];exact IU list 7 _ (akj.new _)
def akj.le{b:Nat}{kn:List aqp}(h:akj b kn): ∀ x∈kn,x.size≤4:=by
 intro x hx;rcases h.all x hx with h1 | h1
 ·rw[h1];exact arB _
 ·omega
def jE(s:Int)(list:List ajV):aqp×Bool:=
 if inB s 1 24 then(match A6 (vA (aqU (s+3) 4) list) noB with
  | none=>(noB,false)
  | some c=>if M6 c s.toNat then(c.extract 0 s.toNat,true) else(noB,false)) else(noB,false)
def NG(s:Int)(hs:0≤s)(c:aqp)(hc:s≤c.size)(b:Bool):
  aJ (some (if b then(.inr (s,c,()):(aqp×Bool×aqq) ⊕ (Int×aqp×aqq)) else .inl (noB,false,()))) (fun y=>some (y,()))
   (fun y=>if(decide (0≤y.1)&&decide (y.1≤(y.2.1.size:Int))) then some ((y.2.1.extract 0 (aqy y.1),true,()),()) else none)=
   some (((if b then(c.extract 0 s.toNat,true) else(noB,false)).1,(if b then(c.extract 0 s.toNat,true) else(noB,false)).2,()),()):=by
 cases b
 ·rfl
 ·show(if(decide (0≤s)&&decide (s≤(c.size:Int))) then _ else _)=_;rw[aqh (by simp;omega)];rfl
def RG(s:Int)(list:List ajV)(hl:list.length≤1048576):qE (s,list,())=some (((jE s list).1,(jE s list).2,()),()):=by
 unfold qE jE;simp only[bO,aqs];rcases tf (inB s 1 24) with e | e
 ·have h1:=ae.1 e;have hd:aqU (s+3) 4=(s+3) / 4:=arf (by omega);simp only[e,aqu,aqr,aqm];rw[ah (n:=s+4) (by omega) (by omega),ah (n:=s+4 - 1) (by omega) (by omega),show s+4 - 1=s+3 by omega,ah (by omega) (by omega),RH _ _ hl];simp only[aqs];have hb:inB (aqU (s+3) 4) 1 6=true:=ae.2 (by omega);have hk:=Qr hb list;have aox:=afr s (vA (aqU (s+3) 4) list) [] noB (by rw[arF,hk.1];omega) (akj.le hk) (aqG _);have amP:jB (s,noB,vA (aqU (s+3) 4) list,((vA (aqU (s+3) 4) list).length:Int),0,())=_:=aox;rw[amP];cases hc:A6 (vA (aqU (s+3) 4) list) noB with
  | none=>rfl
  | some c=>
   have hz:=EP hk.all hc;have hz0:noB.size=0:=rfl;rw[hk.1,hz0]at hz;have hzero:=adg (c:=c) (s:=s.toNat) (by omega) (by omega);rw[show((s.toNat:Nat):Int)=s by omega]at hzero;simp only[aJ,aqs,ahU];rw[hzero];exact NG s (by omega) c (by omega) _
 ·simp only[e,aqv,aqm,aqr]
def P7(s:Int)(list:List ajV)(hl:list.length≤1048576):pC (s,list,())=some (((jE s list).1,(jE s list).2,()),()):=by
 unfold pC jE;simp only[dE,aqs];rcases tf (inB s 1 24) with e | e
 ·have h1:=ae.1 e;have hd:aqU (s+3) 4=(s+3) / 4:=arf (by omega);simp only[e,aqu,aqr,aqm,ns (n:=s) (by omega) (by omega),aqs];rw[P8 _ _ hl];simp only[aqs];have hb:inB (aqU (s+3) 4) 1 6=true:=ae.2 (by omega);have hk:=Qr hb list;have aox:=aeC s (vA (aqU (s+3) 4) list) [] noB (by rw[arF,hk.1];omega) (akj.le hk) (aqG _);have amP:ju (s,vA (aqU (s+3) 4) list,noB,0,())=_:=aox;rw[amP];cases hc:A6 (vA (aqU (s+3) 4) list) noB with
  | none=>rfl
  | some c=>
   have hz:=EP hk.all hc;have hz0:noB.size=0:=rfl;rw[hk.1,hz0]at hz;have hzero:=acn (c:=c) (s:=s.toNat) (by omega) (by omega);rw[show((s.toNat:Nat):Int)=s by omega]at hzero;simp only[aJ,aqs,ahU];rw[hzero];exact NG s (by omega) c (by omega) _
 ·simp only[e,aqv,aqm,aqr]
end Go.VS
namespace Go.VS
open Go
abbrev tF(f:Frame):Int×Int×Int×Int×Int×Int×Int×Int×Int×aqp×aqq:=(f.ki,f.src,f.dst,f.fr,f.nu,f.to,f.un,f.sz,f.mix,f.da,())
def ym(f:Frame):Bool:=
 if decide (f.ki=1) then inB f.sz 1 24&&(inB f.mix 0 999&&(decide ((f.da.size:Int)=4)&&decide (f.dst=cM f.src f.to)))
 else(decide (f.ki=2)||decide (f.ki=3))&&(decide (f.sz=0)&&(decide (f.mix=0)&&(decide (f.da=noB)&&decide (f.src=cM f.dst f.to))))
def kU(f:Frame):Bool:=isN f.src&&(isN f.dst&&(isN f.fr&&(isN f.to&&(inB f.nu 1 99&&(inB f.un 1 999&&ym f)))))
def RM(f:Frame):qR (tF f,())=some ((kU f,()),()):=by
 obtain⟨ki,src,dst,fr,nu,t',un,sz,mix,da⟩:=f;unfold qR kU;simp only[dr,bO,aqs];rcases tf (isN src) with e | e<;>simp only[e,aqu,aqv,aqm,aqr,aqB,aqz];rcases tf (isN dst) with e | e<;>simp only[e,aqu,aqv,aqm,aqr,aqB,aqz];rcases tf (isN fr) with e | e<;>simp only[e,aqu,aqv,aqm,aqr,aqB,aqz];rcases tf (isN t') with e | e<;>simp only[e,aqu,aqv,aqm,aqr,aqB,aqz];rcases tf (inB nu 1 99) with e | e<;>simp only[e,aqu,aqv,aqm,aqr,aqB,aqz];rcases tf (inB un 1 999) with e | e<;>simp only[e,aqu,aqv,aqm,aqr,aqB,aqz];unfold ym;simp only[BG,aq7,are,eY,aqm];rcases tfp (ki=1) with e | e<;>simp only[e,aqn,aqo,aqm,aqr]
 ·rcases tf (inB sz 1 24) with e | e<;>simp only[e,aqm,aqr,aqB,aqz];rcases tf (inB mix 0 999) with e | e<;>simp only[e,aqm,aqr,aqB,aqz]
 ·rcases tfp (ki=2) with e | e<;>simp only[e,aqn,aqo,aqm,aqr,aS,aq5,aqX,aqB]
  ·rcases tfp (sz=0) with e | e<;>simp only[e,aqn,aqo,aqm,aqr,aqB,aqz];rcases tfp (mix=0) with e | e<;>simp only[e,aqn,aqo,aqm,aqr,aqB,aqz]
  ·rcases tfp (ki=3) with e | e<;>simp only[e,aqn,aqo,aqm,aqr,aqB,aqz];rcases tfp (sz=0) with e | e<;>simp only[e,aqn,aqo,aqm,aqr,aqB,aqz];rcases tfp (mix=0) with e | e<;>simp only[e,aqn,aqo,aqm,aqr,aqB,aqz]
def aju{ki:Int}(h1:(ki=1)=False):inB ki 1 3=(decide (ki=2)||decide (ki=3)):=by
 have h1:ki≠1:=of_eq_false h1;rw[atb,ae,aq8,decide_eq_true_iff,decide_eq_true_iff];omega
def CN(f:Frame):lf (tF f,())=some ((kU f,()),()):=by
 obtain⟨ki,src,dst,fr,nu,t',un,sz,mix,da⟩:=f;unfold lf kU;simp only[cQ,dE,aqs];have hk:inB ki 1 3=(decide (ki=1)||(decide (ki=2)||decide (ki=3))):=by
  rcases tfp (ki=1) with e | e
  ·have:ki=1:=of_eq_true e;subst this;rfl
  ·rw[aju e];simp only[e,aqo,aqX]
 rw[hk];unfold ym;rcases tfp (ki=1) with e0 | e0<;>simp only[e0,aqn,aqo,aq5,aqX,aqu,aqv,aqm,aqr]
 ·rcases tf (isN src) with e | e<;>simp only[e,aqu,aqv,aqm,aqr,aqB,aqz];rcases tf (isN dst) with e | e<;>simp only[e,aqu,aqv,aqm,aqr,aqB,aqz];rcases tf (isN fr) with e | e<;>simp only[e,aqu,aqv,aqm,aqr,aqB,aqz];rcases tf (isN t') with e | e<;>simp only[e,aqu,aqv,aqm,aqr,aqB,aqz];rcases tf (inB nu 1 99) with e | e<;>simp only[e,aqu,aqv,aqm,aqr,aqB,aqz];rcases tf (inB un 1 999) with e | e<;>simp only[e,aqu,aqv,aqm,aqr,aqB,aqz];simp only[tD,aqs];rw[show decide (cM src t'=dst)=decide (dst=cM src t') from decide_eq_decide.2 eq_comm];rcases tf (inB sz 1 24) with e | e<;>rcases tf (inB mix 0 999) with e1 | e1<;>rcases tf (decide ((da.size:Int)=4)) with e2 | e2<;>rcases tfp (dst=cM src t') with e3 | e3<;>simp only[e,e1,e2,e3,aqn,aqo,aqm,aqr,aqB,aqz,ar6,aqV]
 ·rcases tf (decide (ki=2)||decide (ki=3)) with e9 | e9<;>simp only[e9,aqu,aqv,aqm,aqr,aqB,aqz,aqV];rcases tf (isN src) with e | e<;>simp only[e,aqu,aqv,aqm,aqr,aqB,aqz];rcases tf (isN dst) with e | e<;>simp only[e,aqu,aqv,aqm,aqr,aqB,aqz];rcases tf (isN fr) with e | e<;>simp only[e,aqu,aqv,aqm,aqr,aqB,aqz];rcases tf (isN t') with e | e<;>simp only[e,aqu,aqv,aqm,aqr,aqB,aqz];rcases tf (inB nu 1 99) with e | e<;>simp only[e,aqu,aqv,aqm,aqr,aqB,aqz];rcases tf (inB un 1 999) with e | e<;>simp only[e,aqu,aqv,aqm,aqr,aqB,aqz];simp only[tD,aqs];rw[show decide (cM dst t'=src)=decide (src=cM dst t') from decide_eq_decide.2 eq_comm];rcases tfp (sz=0) with e | e<;>rcases tfp (mix=0) with e1 | e1<;>rcases tfp (da=noB) with e2 | e2<;>rcases tfp (src=cM dst t') with e3 | e3<;>simp only[e,e1,e2,e3,aqn,aqo,aqm,aqr,aqB,aqz,ar6,aqV]
def BOk(l:List Int):Prop:= ∀ x∈l,0≤x∧x≤255
def BOk.rd{l:List Int}(h:BOk l)(i:Int):0≤ @rd Int (dfl .u8) l i∧ @rd Int (dfl .u8) l i≤255:=by
 show 0≤l.getD i.toNat 0∧l.getD i.toNat 0≤255;rw[aqE];cases e:l[i.toNat]? with
 | none=>exact⟨by decide,by decide⟩
 | some x=>exact h x (aqT e)
def BOk.str(s:aqp):BOk (aH s):=by
 intro x hx;obtain⟨b,_,rfl⟩:=arv.1 hx;have:=b.toNat_lt;omega
def BOk.app{a b:List Int}(ha:BOk a)(hb:BOk b):BOk (a++b):=by
 intro x hx;rcases aqL.1 hx with h | h
 ·exact ha x h
 ·exact hb x h
def aiu(n:Int):0≤w8 n∧w8 n≤255:=by
 rw[M7];omega
def BOk.nil:BOk []:=fun x hx=>by cases hx
def BOk.cons(n:Int){l:List Int}(h:BOk l):BOk (w8 n::l):=by
 intro x hx;rcases aqS.1 hx with h1 | h1
 ·rw[h1];exact aiu n
 ·exact h x h1
def B6:List Int→Nat→Int→Int
 | [],_,n=>n
 | x::r,i,n=>B6 r (i+1) (arh (n+x * ((i % 1000:Nat)+1)) 65521)
def PW: ∀ {l:List Int} {i:Nat} {n:Int},BOk l→0≤n→n < 65521→0≤B6 l i n∧B6 l i n < 65521
 | [],_,_,_,h0,h1=>⟨h0,h1⟩
 | x::r,i,n,hb,h0,h1=>by
  have hx:=hb x aqA;have hp:0≤x * ((i % 1000:Nat)+1:Int):=auN hx.1 (by omega);unfold B6;rw[ar4 (by omega)];exact PW (fun y hy=>hb y (aqx x hy)) (by omega) (by omega)
def aha{x:Int}(i:Nat)(h:0≤x∧x≤255):0≤x * ((i % 1000:Nat)+1:Int)∧x * ((i % 1000:Nat)+1:Int)≤255000:=by
 refine⟨auN h.1 (by omega), ?_⟩;have h1:x * ((i % 1000:Nat)+1:Int)≤255 * ((i % 1000:Nat)+1:Int):=atf h.2 (by omega);omega
def ajq(pre:List Int)(x:Int)(post:List Int): @rd Int (dfl .u8) (pre++x::post) (pre.length:Int)=x:=by
 rw[G7,aqE,arj (aqG _)];simp
def acu(post:List Int): ∀ (pre:List Int) (n:Int),BOk post→0≤n→n < 65521→(pre++post).length≤1048576→
  iq (pre++post,n,(pre.length:Int),())=some (.inr (B6 post pre.length n,())):=by
 induction post with
 | nil=>
  intro pre n _ _ _ _;refine an ?_;unfold lZ;simp only[aq6,show decide ((pre.length:Int) < (pre.length:Int))=false from aqj (by omega),aqr];rfl
 | cons x post ih=>
  intro pre n hb h0 h1 hl;have hlen:pre.length < (pre++x::post).length:=by simp
  have hw:=cJ hlen hl;have hx:=hb x aqA;have hm:=aha pre.length hx;have ht:arh (pre.length:Int) 1000=((pre.length % 1000:Nat):Int):=rfl;refine ai (x':=(pre++x::post,arh (n+x * ((pre.length % 1000:Nat)+1)) 65521,((pre++[x]).length:Int),())) ?_ ?_
  ·unfold lZ;simp only[show decide ((pre.length:Int) < ((pre++x::post).length:Int))=true from aqi (by omega),aqm,ak hlen,ajq,ht];rw[ah (n:=x) (by omega) (by omega),ah (n:=((pre.length % 1000:Nat):Int)+1) (by omega) (by omega),atZ _ x,ah (n:=x * _) (by omega) (by omega),ah (n:=n+_) (by omega) (by omega),hw,@aqD _ pre [x]];rfl
  ·have hr:0≤arh (n+x * ((pre.length % 1000:Nat)+1)) 65521∧arh (n+x * ((pre.length % 1000:Nat)+1)) 65521 < 65521:=by
    rw[ar4 (by omega)];omega
   have:=ih (pre++[x]) _ (fun y hy=>hb y (aqx x hy)) hr.1 hr.2 (by rw[← snoc];exact hl);rw[← snoc]at this;rw[B6];rw[show(pre++[x]).length=pre.length+1 by simp]at this ⊢;exact this
def NL{l:List Int}(h:BOk l)(hl:l.length≤1048576):gh (l,())=some ((B6 l 0 0,()),()):=by
 unfold gh;have h1:iq (l,0,0,())=some (.inr (B6 l 0 0,())):=acu l [] 0 h (by omega) (by omega) hl;rw[h1];rfl
end Go.VS
namespace Go.VS
open Go
abbrev two(n:Int):List Int:=[w8 (w64 (aqU n 256)),w8 (arh n 256)]
abbrev abz(f:Frame):List Int:=[w8 f.ki,w8 f.src,w8 f.dst,w8 f.fr,w8 f.nu,w8 f.to,w8 (w64 (aqU f.un 256)),w8 (arh f.un 256)]
def tr(f:Frame):List Int:=if decide (f.ki=1) then(abz f++[w8 f.sz,w8 (w64 (aqU f.mix 256)),w8 (arh f.mix 256)])++aH f.da else abz f
def fO(f:Frame):List Int:=if kU f then tr f++two (B6 (tr f) 0 0) else []
def xY{l:List Int}(n:Int)(hl:l.length≤1048576):fh (l,n,())=some ((l++two n,()),()):=by
 unfold fh;rw[aqh (aF (by simp;omega))]
def Tj(f:Frame):BOk (tr f):=by
 unfold tr;split
 ·exact BOk.app (.cons _ (.cons _ (.cons _ (.cons _ (.cons _ (.cons _ (.cons _ (.cons _ (.cons _ (.cons _ (.cons _ .nil))))))))))) (BOk.str _)
 ·exact .cons _ (.cons _ (.cons _ (.cons _ (.cons _ (.cons _ (.cons _ (.cons _ .nil)))))))
def abF{f:Frame}(h:kU f=true)(hk:decide (f.ki=1)=true):f.da.size=4:=by
 unfold kU ym at h;simp only[aqt]at h;have h:=h.2.2.2.2.2.2;rw[aqh hk]at h;simp only[aqt]at h;have:=aqk h.2.2.1;omega
def M0{f:Frame}(h:kU f=true):(tr f).length≤15:=by
 unfold tr;split
 ·rename_i hk;have:=abF h hk;simp[EQ,aN];omega
 ·simp
def y0(f:Frame):dS (tF f,())=some ((fO f,()),()):=by
 unfold dS fO;simp only[CN,aqs];rcases tf (kU f) with e | e
 ·simp only[e,aqu,aqr,aqm];have hl:=M0 e;have hs:=NL (Tj f) (by omega);have key: ∀ l,l=tr f→((gh (l,())).bind fun r6=>(fh (l,r6.1)).bind fun r7=>some (r7.1,()))=some ((tr f++two (B6 (tr f) 0 0),()),()):=by
   rintro l rfl;simp only[hs,aqs];rw[xY _ (by omega)];rfl
  rw[aqh (by rfl),xY _ (by simp)];simp only[aqs];rcases tf (decide (f.ki=1)) with e1 | e1
  ·have hd:=abF e e1;have hb:tr f=(abz f++[w8 f.sz,w8 (w64 (aqU f.mix 256)),w8 (arh f.mix 256)])++aH f.da:=by unfold tr;rw[aqh e1]
   rw[aqh e1,aqh (by rfl),xY _ (by simp)];simp only[aqs];rw[aqh (aF (by omega)),aqh (aF (by simp[EQ,aN];omega))];exact key _ (by rw[hb];rfl)
  ·have hb:tr f=abz f:=by unfold tr;rw[e1,aqr]
   rw[aqg (by rw[e1];exact aq3)];exact key _ (by rw[hb];rfl)
 ·simp only[e,aqv,aqm,aqr]
abbrev zF:Frame:=⟨0,0,0,0,0,0,0,0,0,noB⟩
abbrev r8(b:List Int)(i:Int):Int:= @rd Int (dfl .u8) b i
def y6(b:List Int):Frame:=
 if decide ((b.length:Int)=17) then⟨r8 b 0,r8 b 1,r8 b 2,r8 b 3,r8 b 4,r8 b 5,256 * r8 b 6+r8 b 7,r8 b 8,256 * r8 b 9+r8 b 10,dR (aq9 11 (aqR 15 b))⟩
 else⟨r8 b 0,r8 b 1,r8 b 2,r8 b 3,r8 b 4,r8 b 5,256 * r8 b 6+r8 b 7,0,0,noB⟩
def cW(b:List Int):Frame×Bool:=
 if decide ((b.length:Int)=10)||decide ((b.length:Int)=17) then(if decide (dR (fO (y6 b))=dR b) then(y6 b,true) else(zF,false)) else(zF,false)
def ajH{b:List Int}(h:BOk b)(i:Int):w64 (r8 b i)=r8 b i:=by
 have:0≤r8 b i∧r8 b i≤255:=h.rd i;exact ah (by omega) (by omega)
def aiK{b:List Int}(h:BOk b)(i j:Int):w64 (w64 (256 * r8 b i)+r8 b j)=256 * r8 b i+r8 b j:=by
 have h1:0≤r8 b i∧r8 b i≤255:=h.rd i;have h2:0≤r8 b j∧r8 b j≤255:=h.rd j;rw[ah (n:=256 * r8 b i) (by omega) (by omega),ah (by omega) (by omega)]
def vt{b:List Int}(h:BOk b):av (b,())=some ((tF (cW b).1,(cW b).2,()),()):=by
 unfold av cW;by_cases h1:b.length=10∨b.length=17
 ·have hn:10≤b.length:=by omega
  have hI: ∀ i:Int,(0≤i∧i < 10)→inb i b.length=true:=fun i hi=>by simp[inb];omega
  rw[aqg (by simp;omega)];dsimp only;rw[aqh (hI 0 (by omega)),aqh (hI 1 (by omega)),aqh (hI 2 (by omega)),aqh (hI 3 (by omega)),aqh (hI 4 (by omega)),aqh (hI 5 (by omega)),aqh (hI 6 (by omega)),aqh (hI 7 (by omega))];rw[aqh (show(decide ((b.length:Int)=10)||decide ((b.length:Int)=17))=true by simp;omega)];simp only[ajH h,atZ _ 256,aiK h];have fin: ∀ f:Frame,y6 b=f→((dS (tF f,())).bind fun r16=>if(!decide ((dR r16.1.1)=(dR b))) then some ((tF zF,false,()),()) else some ((tF f,true,()),()))=
    some ((tF (if decide (dR (fO (y6 b))=dR b) then(y6 b,true) else(zF,false)).1,(if decide (dR (fO (y6 b))=dR b) then(y6 b,true) else(zF,false)).2,()),()):=by
   rintro f rfl;simp only[y0,aqs];rcases tf (decide (dR (fO (y6 b))=dR b)) with e | e<;>simp only[e,aqu,aqv,aqm,aqr]
  rcases tf (decide ((b.length:Int)=17)) with e | e
  ·have e17:b.length=17:=by have:=aqk e;omega
   have hJ: ∀ i:Int,(0≤i∧i < 17)→inb i b.length=true:=fun i hi=>by simp[inb];omega
   rw[aqh (aqi (by omega)),aqh (hJ 8 (by omega)),aqh (hJ 9 (by omega)),aqh (hJ 10 (by omega)),aqh (by simp;omega),aS];refine fin ⟨r8 b 0,r8 b 1,r8 b 2,r8 b 3,r8 b 4,r8 b 5,256 * r8 b 6+r8 b 7,r8 b 8,256 * r8 b 9+r8 b 10,dR (aq9 11 (aqR 15 b))⟩ ?_;unfold y6;rw[aqh e]
  ·have e17:b.length≠17:=by have:=aql e;omega
   rw[aqg (by simp;omega),aS];refine fin ⟨r8 b 0,r8 b 1,r8 b 2,r8 b 3,r8 b 4,r8 b 5,256 * r8 b 6+r8 b 7,0,0,noB⟩ ?_;unfold y6;rw[aqg (by rw[e];exact aq3)]
 ·rw[aqh (by simp;omega),aqg (by simp;omega)]
def GI{b:List Int}(h:(cW b).2=true):kU (cW b).1=true:=by
 unfold cW at h ⊢;split
 ·rename_i h1;rw[aqh h1]at h;split
  ·rename_i h2;have h2:=aqk h2;unfold fO at h2;split at h2
   ·assumption
   ·have h3:(dR b).size=b.length:=by simp[dR,auI]
    have h4:(dR ([]:List Int)).size=0:=rfl;rw[← h2,h4]at h3;rw[← h3]at h1;cases h1
  ·rename_i h2;rw[aqg h2]at h;cases h
 ·rename_i h1;rw[aqg h1]at h;cases h
end Go.VS
end
