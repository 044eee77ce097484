/- Part 20. -/
import Derived.Test.YtadnafhbeojhoaaGreatDoorQAS
open BitVec renaming eq_of_toNat_eq->pO,ofInt->FE,toNat_ofInt->Qm
open Bool renaming and_eq_true->AI,and_false->Bb,and_self->CZ,and_true->L8,eq_iff_iff->Iz,false->A3,false_and->AP,false_ne_true->D0,false_or->BY,not_eq_true'->DR,not_false->AG,not_true->AD,or_eq_false_iff->RW,or_eq_true->Ci,or_false->EX,or_self->Fa,or_true->D3,true->A1,true_and->AX,true_or->Bh
open ByteArray renaming size->Zq,size_extract->TI
open Decidable renaming decide->A0
open Eq renaming trans->Jn
open Go.Lib renaming itoa->BB
open Int renaming eq_ofNat_of_zero_le->HO,le_refl->Jk,mul_comm->Ql,mul_le_mul_of_nonneg_right->oT,mul_nonneg->nO,not_lt->Sc,tdiv->B0,tdiv_eq_ediv_of_nonneg->GF,tdiv_nonneg->j0,tmod->BC,tmod_eq_emod_of_nonneg->LH,tmod_lt_of_pos->Ro,tmod_nonneg->Qs,toNat->AM,toNat_natCast->Bu,toNat_of_nonneg->kM
open List renaming all_cons->Ph,all_eq_true->Cr,append_assoc->C7,append_nil->CH,drop->Bs,drop_append_of_le_length->lJ,drop_drop->Js,drop_eq_nil_of_le->KR,drop_sublist->cj,drop_zero->J0,eq_nil_of_length_eq_zero->EE,ext_getElem?->rD,filter_append->bm,filter_cons->J6,filter_nil->Ti,foldl_cons->Dx,getD_eq_getElem?_getD->BD,getElem?_append_left->G0,getElem?_append_right->EC,getElem?_eq_getElem->Ax,getElem?_eq_none->I7,getElem?_map->DE,getElem?_range->Gd,getElem?_replicate->UP,getElem?_set->Tt,getElem?_set_self->eS,getElem?_take->Gu,getElem_mem->CQ,getElem_of_mem->Dt,length_append->Ar,length_cons->Bw,length_drop->Dd,length_eq_one_iff->adD,length_filter_le->IG,length_map->EM,length_nil->C2,length_set->Es,length_singleton->Jg,length_take->DX,map_append->Ev,map_congr_left->Gz,map_cons->DW,map_id->eG,map_map->IQ,map_nil->IJ,mem_append->Br,mem_cons->Bk,mem_cons_of_mem->Al,mem_cons_self->Ap,mem_filter->Gy,mem_iff_getElem->Ua,mem_map->DP,mem_of_getElem?->Cg,mem_of_mem_drop->Io,mem_of_mem_take->Ib,mem_or_eq_of_mem_set->Ox,mem_range->DV,mem_singleton->DB,mem_singleton_self->LN,nil_append->EW,nodup_append->L7,not_mem_nil->M7,pairwise_iff_getElem->qw,range->BN,range_succ->L5,replicate->BW,set->Bq,set_append_right->yn,take->BU,take_add_one->K5,take_append_drop->Kh,take_length->Ec,take_of_length_le->J8,take_take->dq
open List.Sublist renaming refl->Em
open List.cons renaming injEq->MC
open Nat renaming add_zero->Hn,le_of_ble_eq_true->DQ,le_refl->As,le_trans->CB,lt_of_lt_of_le->Gw,lt_or_ge->GN,lt_trichotomy->I8,min_eq_left->QB,not_lt_zero->SF,pow_le_pow_right->aEa,pow_succ->Qz,sub_self->Mj,sub_zero->JM,zero_add->DJ,zero_le->Cw
open Option renaming bind_some->A9,getD_some->C8,isSome_some->CG,map_some->Pq,none->U,some->I
open Or renaming inl->Mt,inr->NH
open Prod.mk renaming injEq->CM
set_option linter.all false
noncomputable section
namespace Go.VS
open Go
def M5(pre:List AQ)(m:AQ)(post:List AQ): @rd AQ (dfl .mixed) (pre++m::post) (pre.length:Int)=m:=by
 rw[OS,BD,EC<|As _];simp
def auQ(u:Nat):aE7 (-1) [u]=(u:Int):=rfl
def qh{b:Nat}{kn kn':List A4}{m:AQ}(ag:Bool)(h:Dl b kn m=I kn'):C5 b (kn,ag) m=(kn',A1):=by unfold C5;rw[h]
def Re{b:Nat}{kn:List A4}{m:AQ}(ag:Bool)(h:Dl b kn m=U):C5 b (kn,ag) m=(kn,ag):=by unfold C5;rw[h]
def aCQ{b:Nat}{kn:List A4}{n:Int}{u:Nat}(h:Cm kn (BV (b:Int) n)=[u]):u<b:=by
 have:u∈Cm kn (BV (b:Int) n):=by rw[h];exact LN u
 have:=KA (Gy.1 this).1;omega
def ahW{b:Nat}(h6:b<=6)(list:List AQ)(post:List AQ):∀(pre:List AQ) (kn:List A4) (ag:Bool),CN b kn->(pre++post).length<=1048576->
  W4 ((b:Int),list,kn,ag,pre++post,((pre++post).length:Int),(pre.length:Int),())=
   I (.inr ((b:Int),list,(post.foldl (C5 b) (kn,ag)).1,(post.foldl (C5 b) (kn,ag)).2,())):=by
 induction post with
 | nil=>
  intro pre kn ag _ _;refine BR ?_;unfold NL;simp only[CH,show A0 ((pre.length:Int)<(pre.length:Int))=A3 from Bf J,A6];rfl
 | cons m post ih=>
  intro pre kn ag hk hl;have hlen:pre.length<(pre++m::post).length:=by simp
  have hw:=Di hlen hl;have nxt:∀(kn':List A4) (ag':Bool),CN b kn'->C5 b (kn,ag) m=(kn',ag')->
    NL ((b:Int),list,kn,ag,pre++m::post,((pre++m::post).length:Int),(pre.length:Int),())=I (.inl ((b:Int),list,kn',ag',pre++m::post,((pre++m::post).length:Int),((pre.length+1:Nat):Int),()))->
    W4 ((b:Int),list,kn,ag,pre++m::post,((pre++m::post).length:Int),(pre.length:Int),())=
     I (.inr ((b:Int),list,((m::post).foldl (C5 b) (kn,ag)).1,((m::post).foldl (C5 b) (kn,ag)).2,())):=by
   intro kn' ag' h1 h2 h3;refine B4 h3 ?_;have:=ih (pre++[m]) kn' ag' h1 (by rw[← snoc];exact hl);rw[← snoc,@Ar _ pre [m]]at this;rw[Dx,h2];exact this
  rcases tf (inB m.nu 0 999) with e1|e1
  .by_cases e2:(m.da.size:Int)=4
   .have hh:Dl b kn m=(match Cm kn (BV (b:Int) m.nu) with|[u]=>I (kn.set u<|B<|E8 kn (BV (b:Int) m.nu)<|L m.da)|_=>U):=by
     unfold Dl;rw[A8<|by rw[e1,AZ e2]<;>rfl]<;>rfl
    have hlo:(BV (b:Int) m.nu).length<=1048576:=CB (dR _ _) J;have hi:=akL hk (b:Int) list (pre++m::post) ag ((pre++m::post).length:Int) (pre.length:Int) (BV (b:Int) m.nu) [] m.da (-1) 0 J hlo (As _) λk h=>by have:=KA h;omega
    have hi2:dF ((b:Int),list,kn,ag,m.da,-1,0,pre++m::post,((pre++m::post).length:Int),(pre.length:Int),BZ<|BV (b:Int) m.nu,((BZ<|BV (b:Int) m.nu).length:Int),0,())=_:=hi;by_cases e3:(Cm kn<|BV (b:Int) m.nu).length=1
    .obtain⟨u,hu⟩:=adD.1 e3;rw[hu]at hh;have hub:=aCQ hu;refine nxt _ A1 (QT hk hh).1 (qh ag hh) ?_;unfold NL;simp only[show A0 ((pre.length:Int)<((pre++m::post).length:Int))=A1 from AZ J,A5,AR hlen,M5,EF,A9,e1,e2,AD,AS,EX,A6,jN,hi2,hu];simp only[AO,A9,auQ,AR (show u<kn.length by rw[hk.1];exact hub),A5,Bu,hw];rfl
    .have hn:Dl b kn m=U:=by
      rw[hh];split
      .rename_i u hu;rw[hu]at e3;exact absurd rfl e3
      .rfl
     refine nxt kn ag hk (Re ag hn) ?_;unfold NL;simp only[show A0 ((pre.length:Int)<((pre++m::post).length:Int))=A1 from AZ J,A5,AR hlen,M5,EF,A9,e1,e2,AD,AS,EX,A6,jN,hi2];simp only[AO,A9,DJ,show A0 (((Cm kn<|BV (b:Int) m.nu).length:Int)=1)=A3 from Bf J,A6,hw]
   .have hn:Dl b kn m=U:=by
     unfold Dl;rw[AB (by rw[Bf e2,Bb];exact D0)]
    refine nxt kn ag hk (Re ag hn) ?_;unfold NL;simp only[show A0 ((pre.length:Int)<((pre++m::post).length:Int))=A1 from AZ J,A5,AR hlen,M5,EF,A9,Bf e2,AG,D3,hw]
  .have hn:Dl b kn m=U:=by
    unfold Dl;rw[AB (by rw[e1,AP];exact D0)]
   refine nxt kn ag hk (Re ag hn) ?_;unfold NL;simp only[show A0 ((pre.length:Int)<((pre++m::post).length:Int))=A1 from AZ J,A5,AR hlen,M5,EF,A9,e1,AG,Bh,hw]
def pM{b:Nat}(h0:0<b)(h6:b<=6)(n:Int):De (b:Int) n=inB n 0 999:=by
 unfold De;rw[Af.2 J,AX]
def amq{b:Nat}{kn:List A4}(hk:CN b kn)(n:Int){d:A4}(hd:d.size=4):
  YE ((b:Int),(n,d,()),kn,())=I ((BZ<|Cm kn<|BV (b:Int) n,B<|E8 kn (BV (b:Int) n)<|L d,()),()):=by
 unfold YE;simp only[tJ,A9];have hlo:(BV (b:Int) n).length<=1048576:=CB (dR _ _) J;have hi:=age hk (BV (b:Int) n) [] d [] hd hlo (As _) λk h=>by have:=KA h;omega
 have hi2:bK (kn,[],d,BZ<|BV (b:Int) n,0,())=_:=hi;rw[hi2];rfl
def jd(b n:Int)(d:A4):Q4 (b,(n,d,()),())=I ((De b n&&A0 ((d.size:Int)=4),()),()):=by
 unfold Q4;simp only[bz,A9]
def ayP{b:Nat}(h0:0<b)(h6:b<=6)(post:List AQ):∀(pre:List AQ) (kn:List A4) (ag:Bool),CN b kn->(pre++post).length<=1048576->
  Tn ((b:Int),pre++post,kn,ag,(pre.length:Int),())=
   I (.inr ((b:Int),pre++post,(post.foldl (C5 b) (kn,ag)).1,(post.foldl (C5 b) (kn,ag)).2,())):=by
 induction post with
 | nil=>
  intro pre kn ag _ _;refine BR ?_;unfold Pg;simp only[CH,show A0 ((pre.length:Int)<(pre.length:Int))=A3 from Bf J,A6];rfl
 | cons m post ih=>
  intro pre kn ag hk hl;have hlen:pre.length<(pre++m::post).length:=by simp
  have hw:=Di hlen hl;have nxt:∀(kn':List A4) (ag':Bool),CN b kn'->C5 b (kn,ag) m=(kn',ag')->
    Pg ((b:Int),pre++m::post,kn,ag,(pre.length:Int),())=I (.inl ((b:Int),pre++m::post,kn',ag',((pre.length+1:Nat):Int),()))->
    Tn ((b:Int),pre++m::post,kn,ag,(pre.length:Int),())=
     I (.inr ((b:Int),pre++m::post,((m::post).foldl (C5 b) (kn,ag)).1,((m::post).foldl (C5 b) (kn,ag)).2,())):=by
   intro kn' ag' h1 h2 h3;refine B4 h3 ?_;have:=ih (pre++[m]) kn' ag' h1 (by rw[← snoc];exact hl);rw[← snoc,@Ar _ pre [m]]at this;rw[Dx,h2];exact this
  rcases tf (inB m.nu 0 999&&A0 ((m.da.size:Int)=4)) with e|e
  .have e':=e;rw[AI]at e';have e2:=BT e'.2;have hh:Dl b kn m=(match Cm kn (BV (b:Int) m.nu) with|[u]=>I (kn.set u<|B<|E8 kn (BV (b:Int) m.nu)<|L m.da)|_=>U):=by
    unfold Dl;rw[A8 e]<;>rfl
   have hL:=amq hk m.nu (d:=m.da) J;by_cases e3:(Cm kn<|BV (b:Int) m.nu).length=1
   .obtain⟨u,hu⟩:=adD.1 e3;rw[hu]at hh;have hub:=aCQ hu;refine nxt _ A1 (QT hk hh).1 (qh ag hh) ?_;unfold Pg;simp only[show A0 ((pre.length:Int)<((pre++m::post).length:Int))=A1 from AZ J,A5,AR hlen,M5,jd,pM h0 h6,A9,e,AD,A6,hL,hu];rw[A8<|by rfl,A8<|by rfl,show @rd Int (dfl .int) (BZ [u]) 0=(u:Int) from rfl,A8<|AR (show u<kn.length by rw[hk.1];exact hub),hw];rfl
   .have hn:Dl b kn m=U:=by
     rw[hh];split
     .rename_i u hu;rw[hu]at e3;exact absurd rfl e3
     .rfl
    refine nxt kn ag hk (Re ag hn) ?_;unfold Pg;simp only[show A0 ((pre.length:Int)<((pre++m::post).length:Int))=A1 from AZ J,A5,AR hlen,M5,jd,pM h0 h6,A9,e,AD,A6,hL,EM,
     show A0 (((Cm kn<|BV (b:Int) m.nu).length:Int)=1)=A3 from Bf J,hw]
  .have hn:Dl b kn m=U:=by
    unfold Dl;rw[AB (by rw[e];exact D0)]
   refine nxt kn ag hk (Re ag hn) ?_;unfold Pg;simp only[show A0 ((pre.length:Int)<((pre++m::post).length:Int))=A1 from AZ J,A5,AR hlen,M5,jd,pM h0 h6,A9,e,AG,hw]
def aaK{b:Nat}(h6:b<=6)(list:List AQ)(hl:list.length<=1048576):∀(n:Nat) (kn:List A4),CN b kn->cnt (unk kn) b<n->
  sC ((b:Int),list,kn,A1,())=I (.inr (F2 b list n kn,()))
 | 0,_,_,h=>J
 | n+1,kn,hk,h=>by
  have hr:=ahW h6 list list [] kn A3 hk hl;have hr2:W4 ((b:Int),list,kn,A3,list,(list.length:Int),0,())=I (.inr ((b:Int),list,(FR b list kn).1,(FR b list kn).2,())):=hr;obtain⟨g1,g2,g3,g4⟩:=Lt list (kn,A3) hk;refine B4 (x':=((b:Int),list,(FR b list kn).1,(FR b list kn).2,())) ?_ ?_
  .unfold iX;simp only[A5,hr2];rfl
  .rw[F2];rcases tf (FR b list kn).2 with e|e
   .rw[e,A8 rfl];rcases g4 e with g|g
    .cases g
    .exact aaK h6 list hl n _ g1 (Gw g<|Nat.le_of_lt_succ h)
   .rw[e,A6];exact BR rfl
def aDD{b:Nat}(h0:0<b)(h6:b<=6)(list:List AQ)(hl:list.length<=1048576):∀(n:Nat) (kn:List A4),CN b kn->cnt (unk kn) b<n->
  qp ((b:Int),list,kn,A1,())=I (.inr (F2 b list n kn,()))
 | 0,_,_,h=>J
 | n+1,kn,hk,h=>by
  have hr:=ayP h0 h6 list [] kn A3 hk hl;have hr2:Tn ((b:Int),list,kn,A3,0,())=I (.inr ((b:Int),list,(FR b list kn).1,(FR b list kn).2,())):=hr;obtain⟨g1,g2,g3,g4⟩:=Lt list (kn,A3) hk;refine B4 (x':=((b:Int),list,(FR b list kn).1,(FR b list kn).2,())) ?_ ?_
  .unfold rI;simp only[A5,hr2];rfl
  .rw[F2];rcases tf (FR b list kn).2 with e|e
   .rw[e,A8 rfl];rcases g4 e with g|g
    .cases g
    .exact aDD h0 h6 list hl n _ g1 (Gw g<|Nat.le_of_lt_succ h)
   .rw[e,A6];exact BR rfl
def rY(f:Nat->Bool):∀k,cnt f k<=k
 | 0=>As _
 | k+1=>by
  have:=rY f k;rw[cnt];split<;>omega
def CN.new(b:Nat):CN b (BW b noB):=by
 refine⟨by simp,λk hk=>Mt ?_⟩;rw[bsA,BD,UP,A8 hk];rfl
def Hu(b:Int)(list:List AQ):List A4:=if inB b 1 6 then F2 b.toNat list 7 (BW b.toNat noB) else []
def anJ(b:Int)(list:List AQ)(hl:list.length<=1048576):YL (b,list,())=I ((Hu b list,()),()):=by
 unfold YL Hu;simp only[EF,A9];rcases tf (inB b 1 6) with e|e
 .have h1:=Af.1 e;simp only[e,AD,A6,A5];rw[A8 (by simp;omega)];have:=aaK (b:=b.toNat) J list hl 7 _ (CN.new _) (by have:=rY (unk<|BW b.toNat noB) b.toNat;omega);rw[show((b.toNat:Nat):Int)=b by omega]at this;rw[show(dfl .str:A4)=noB from rfl,this];rfl
 .simp only[e,AG,A5,A6]
def alY(b:Int)(list:List AQ)(hl:list.length<=1048576):Xd (b,list,())=I ((Hu b list,()),()):=by
 unfold Xd Hu;simp only[Hx,A9];rcases tf (inB b 1 6) with e|e
 .have h1:=Af.1 e;simp only[e,AD,A6,A5];rw[A8 (by simp;omega)];have:=aDD (b:=b.toNat) J J list hl 7 _ (CN.new _) (by have:=rY (unk<|BW b.toNat noB) b.toNat;omega);rw[show((b.toNat:Nat):Int)=b by omega]at this;rw[show(dfl .str:A4)=noB from rfl,this];rfl
 .simp only[e,AG,A5,A6]
def FA:List A4->A4->Option A4
 | [],a=>I a
 | x::r,a=>if x=noB then U else FA r (a++x)
def YQ:∀ {l:List A4} {a c:A4},(∀x∈l,x=noB\/x.size=4)->FA l a=I c->c.size=a.size+4 * l.length
 | [],a,c,_,h=>by
  injection h with h;rw[h];rfl
 | x::r,a,c,hx,h=>by
  unfold FA at h;split at h
  .cases h
  .rename_i hne;rw[YQ (λy hy=>hx y<|Al x hy) h,Bg,Bw];rcases hx x Ap with h1|h1
   .exact absurd h1 hne
   .omega
def Nb(pre:List A4)(x:A4)(post:List A4): @rd A4 (dfl .str) (pre++x::post) (pre.length:Int)=x:=by
 rw[OS,BD,EC<|As _];simp
abbrev dQ(s:Int)(o:Option A4):(A4×Bool×A2) ⊕ (Int×A4×A2):=match o with|none=> .inl (noB,A3,())|some c=> .inr (s,c,())
def afj(s:Int)(post:List A4):∀(pre:List A4) (a:A4),(pre++post).length<=1048576->(∀x∈post,x.size<=4)->a.size<=4 * pre.length->
  dP (s,a,pre++post,((pre++post).length:Int),(pre.length:Int),())=I (dQ s<|FA post a):=by
 induction post with
 | nil=>
  intro pre a _ _ _;refine BR ?_;unfold U6;simp only[CH,show A0 ((pre.length:Int)<(pre.length:Int))=A3 from Bf J,A6];rfl
 | cons x post ih=>
  intro pre a hl hx ha;have hlen:pre.length<(pre++x::post).length:=by simp
  have hw:=Di hlen hl;have hx4:=hx x Ap;by_cases e:x=noB
  .refine BR ?_;unfold U6 FA;simp only[show A0 ((pre.length:Int)<((pre++x::post).length:Int))=A1 from AZ J,A5,AR hlen,Nb];rw[A8<|AZ e,A8 e]
  .refine B4 (x':=(s,a++x,pre++x::post,((pre++x::post).length:Int),((pre++[x]).length:Int),())) ?_ ?_
   .unfold U6;simp only[show A0 ((pre.length:Int)<((pre++x::post).length:Int))=A1 from AZ J,A5,AR hlen,Nb];rw[AB (by rw[Bf e];exact D0),A8<|AZ (by simp at hl;omega),hw,@Ar _ pre [x]];rfl
   .have:=ih (pre++[x]) (a++x) (by rw[← snoc];exact hl) (λy hy=>hx y<|Al x hy) (by rw[Bg,Ar,Jg];omega);rw[← snoc]at this;rw[show FA (x::post) a=FA post (a++x) from AB e];exact this
def ayY(s:Int)(post:List A4):∀(pre:List A4) (a:A4),(pre++post).length<=1048576->(∀x∈post,x.size<=4)->a.size<=4 * pre.length->
  Wd (s,pre++post,a,(pre.length:Int),())=I (dQ s<|FA post a):=by
 induction post with
 | nil=>
  intro pre a _ _ _;refine BR ?_;unfold SR;simp only[CH,show A0 ((pre.length:Int)<(pre.length:Int))=A3 from Bf J,A6];rfl
 | cons x post ih=>
  intro pre a hl hx ha;have hlen:pre.length<(pre++x::post).length:=by simp
  have hw:=Di hlen hl;have hx4:=hx x Ap;by_cases e:x=noB
  .refine BR ?_;unfold SR FA;simp only[show A0 ((pre.length:Int)<((pre++x::post).length:Int))=A1 from AZ J,A5,AR hlen,Nb];rw[A8<|AZ e,A8 e]
  .refine B4 (x':=(s,pre++x::post,a++x,((pre++[x]).length:Int),())) ?_ ?_
   .unfold SR;simp only[show A0 ((pre.length:Int)<((pre++x::post).length:Int))=A1 from AZ J,A5,AR hlen,Nb];rw[AB (by rw[Bf e];exact D0),A8<|AZ (by simp at hl;omega),hw,@Ar _ pre [x]];rfl
   .have:=ih (pre++[x]) (a++x) (by rw[← snoc];exact hl) (λy hy=>hx y<|Al x hy) (by rw[Bg,Ar,Jg];omega);rw[← snoc]at this;rw[show FA (x::post) a=FA post (a++x) from AB e];exact this
def JV(c:A4)(s:Nat):Bool:=Ae (c.size - s) λi=>A0<|bt c ((s+i:Nat):Int)=0
def agj{c:A4}{s:Nat}(h:s<=c.size)(hc:c.size<=1048576):lO ((s:Int),c,(s:Int),())=I (if JV c s then .inr ((s:Int),c,()) else .inl (noB,A3,())):=by
 refine C3 (λi=>((s:Int),c,((s+i:Nat):Int),())) (c.size - s) _ _ _ ?_ ?_
 .intro i hi;unfold YN;simp only[show A0 (((s+i:Nat):Int)<(c.size:Int))=A1 from AZ J,A5,AR<|show s+i<c.size by omega];rw[Aa J J];rcases tf (A0<|bt c ((s+i:Nat):Int)=0) with e|e
  .simp only[e,AD,A6,A5];rfl
  .simp only[e,AG,A6,A5]
 .unfold YN;simp only[show A0 (((s+(c.size - s):Nat):Int)<(c.size:Int))=A3 from Bf J,A6]
def an2{c:A4}{s:Nat}(h:s<=c.size)(hc:c.size<=1048576):mZ ((s:Int),c,(s:Int),())=I (if JV c s then .inr ((s:Int),c,()) else .inl (noB,A3,())):=by
 refine C3 (λi=>((s:Int),c,((s+i:Nat):Int),())) (c.size - s) _ _ _ ?_ ?_
 .intro i hi;unfold fJ;simp only[show A0 (((s+i:Nat):Int)<(c.size:Int))=A1 from AZ J,A5,AR<|show s+i<c.size by omega];rw[Aa J J];rcases tf (A0<|bt c ((s+i:Nat):Int)=0) with e|e
  .simp only[e,AD,A6,A5];rfl
  .simp only[e,AG,A6,A5]
 .unfold fJ;simp only[show A0 (((s+(c.size - s):Nat):Int)<(c.size:Int))=A3 from Bf J,A6]
def Zr{b:Nat}(list:List AQ):∀(n:Nat) (kn:List A4),CN b kn->CN b (F2 b list n kn)
 | 0,_,h=>h
 | n+1,kn,h=>by
  have:=(Lt list (kn,A3) h).1;unfold F2;split
  .exact Zr list n _ this
  .exact this
def CN.all{b:Nat}{kn:List A4}(h:CN b kn):∀x∈kn,x=noB\/x.size=4:=by
 intro x hx;obtain⟨k,hk,rfl⟩:=Ua.1 hx;have:=h.2 k (by rw[← h.1];exact hk);rw[bsA,BD,Ax hk]at this;exact this
def oq{b:Int}(hb:inB b 1 6=A1)(list:List AQ):CN b.toNat (Hu b list):=by
 unfold Hu;rw[A8 hb];exact Zr list 7 _<|CN.new _
def CN.le{b:Nat}{kn:List A4}(h:CN b kn):∀x∈kn,x.size<=4:=by
 intro x hx;rcases h.all x hx with h1|h1
 .rw[h1];exact Cw _
 .omega
def Ch(s:Int)(list:List AQ):A4×Bool:=
 if inB s 1 24 then(match FA (Hu (B0 (s+3) 4) list) noB with
  | none=>(noB,A3)
  | some c=>if JV c s.toNat then(c.extract 0 s.toNat,A1) else(noB,A3)) else(noB,A3)
def aCo(s:Int)(hs:0<=s)(c:A4)(hc:s<=c.size)(b:Bool):
  AO (I<|if b then(.inr (s,c,()):(A4×Bool×A2) ⊕ (Int×A4×A2)) else .inl (noB,A3,())) (λy=>I (y,()))
   (λy=>if(A0 (0<=y.1)&&A0 (y.1<=(y.2.1.size:Int))) then I ((y.2.1.extract 0<|AM y.1,A1,()),()) else U)=
   I (((if b then(c.extract 0 s.toNat,A1) else(noB,A3)).1,(if b then(c.extract 0 s.toNat,A1) else(noB,A3)).2,()),()):=by
 cases b
 .rfl
 .show(if(A0 (0<=s)&&A0 (s<=(c.size:Int))) then _ else _)=_;rw[A8 (by simp;omega)];rfl
def afE(s:Int)(list:List AQ)(hl:list.length<=1048576):Zj (s,list,())=I (((Ch s list).1,(Ch s list).2,()),()):=by
 unfold Zj Ch;simp only[EF,A9];rcases tf (inB s 1 24) with e|e
 .have h1:=Af.1 e;have hd:B0 (s+3) 4=(s+3) / 4:=GF J;simp only[e,AD,A6,A5];rw[Aa (n:=s+4) J J,Aa (n:=s+4 - 1) J J,show s+4 - 1=s+3 by omega,Aa J J,anJ _ _ hl];simp only[A9];have hb:inB (B0 (s+3) 4) 1 6=A1:=Af.2 J;have hk:=oq hb list;have qa:=afj s (Hu (B0 (s+3) 4) list) [] noB (by rw[EW,hk.1];omega) (CN.le hk)<|As _;have mJ:dP (s,noB,Hu (B0 (s+3) 4) list,((Hu (B0 (s+3) 4) list).length:Int),0,())=_:=qa;rw[mJ];cases hc:FA (Hu (B0 (s+3) 4) list) noB with
  | none=>rfl
  | some c=>
   have hz:=YQ hk.all hc;have hz0:noB.size=0:=rfl;rw[hk.1,hz0]at hz;have hzero:=agj (c:=c) (s:=s.toNat) J J;rw[show((s.toNat:Nat):Int)=s by omega]at hzero;simp only[AO,A9,dQ];rw[hzero];exact aCo s J c J _
 .simp only[e,AG,A5,A6]
def akH(s:Int)(list:List AQ)(hl:list.length<=1048576):aw (s,list,())=I (((Ch s list).1,(Ch s list).2,()),()):=by
 unfold aw Ch;simp only[Hx,A9];rcases tf (inB s 1 24) with e|e
 .have h1:=Af.1 e;have hd:B0 (s+3) 4=(s+3) / 4:=GF J;simp only[e,AD,A6,A5,db (n:=s) J J,A9];rw[alY _ _ hl];simp only[A9];have hb:inB (B0 (s+3) 4) 1 6=A1:=Af.2 J;have hk:=oq hb list;have qa:=ayY s (Hu (B0 (s+3) 4) list) [] noB (by rw[EW,hk.1];omega) (CN.le hk)<|As _;have mJ:Wd (s,Hu (B0 (s+3) 4) list,noB,0,())=_:=qa;rw[mJ];cases hc:FA (Hu (B0 (s+3) 4) list) noB with
  | none=>rfl
  | some c=>
   have hz:=YQ hk.all hc;have hz0:noB.size=0:=rfl;rw[hk.1,hz0]at hz;have hzero:=an2 (c:=c) (s:=s.toNat) J J;rw[show((s.toNat:Nat):Int)=s by omega]at hzero;simp only[AO,A9,dQ];rw[hzero];exact aCo s J c J _
 .simp only[e,AG,A5,A6]
abbrev tF(f:Frame):Int×Int×Int×Int×Int×Int×Int×Int×Int×A4×A2:=(f.ki,f.src,f.dst,f.fr,f.nu,f.to,f.un,f.sz,f.mix,f.da,())
def LX(f:Frame):Bool:=
 if A0 (f.ki=1) then inB f.sz 1 24&&(inB f.mix 0 999&&(A0 ((f.da.size:Int)=4)&&A0 (f.dst=Ca f.src f.to)))
 else(A0 (f.ki=2)||decide (f.ki=3))&&(A0 (f.sz=0)&&(A0 (f.mix=0)&&(A0 (f.da=noB)&&A0 (f.src=Ca f.dst f.to))))
def CP(f:Frame):Bool:=isN f.src&&(isN f.dst&&(isN f.fr&&(isN f.to&&(inB f.nu 1 99&&(inB f.un 1 999&&LX f)))))
def adC(f:Frame):VC (tF f,())=I ((CP f,()),()):=by
 obtain⟨ki,src,dst,fr,nu,t',un,sz,mix,da⟩:=f;unfold VC CP;simp only[KI,EF,A9];rcases tf (isN src) with e|e<;>simp only[e,AD,AG,A5,A6,AX,AP];rcases tf (isN dst) with e|e<;>simp only[e,AD,AG,A5,A6,AX,AP];rcases tf (isN fr) with e|e<;>simp only[e,AD,AG,A5,A6,AX,AP];rcases tf (isN t') with e|e<;>simp only[e,AD,AG,A5,A6,AX,AP];rcases tf (inB nu 1 99) with e|e<;>simp only[e,AD,AG,A5,A6,AX,AP];rcases tf (inB un 1 999) with e|e<;>simp only[e,AD,AG,A5,A6,AX,AP];unfold LX;simp only[iz,CG,C8,Cp,A5];rcases tfp (ki=1) with e|e<;>simp only[e,AS,Ag,A5,A6]
 .rcases tf (inB sz 1 24) with e|e<;>simp only[e,A5,A6,AX,AP];rcases tf (inB mix 0 999) with e|e<;>simp only[e,A5,A6,AX,AP]
 .rcases tfp (ki=2) with e|e<;>simp only[e,AS,Ag,A5,A6,Bi,Bh,BY,AX]
  .rcases tfp (sz=0) with e|e<;>simp only[e,AS,Ag,A5,A6,AX,AP];rcases tfp (mix=0) with e|e<;>simp only[e,AS,Ag,A5,A6,AX,AP]
  .rcases tfp (ki=3) with e|e<;>simp only[e,AS,Ag,A5,A6,AX,AP];rcases tfp (sz=0) with e|e<;>simp only[e,AS,Ag,A5,A6,AX,AP];rcases tfp (mix=0) with e|e<;>simp only[e,AS,Ag,A5,A6,AX,AP]
def axR{ki:Int}(h1:(ki=1)=False):inB ki 1 3=(A0 (ki=2)||decide (ki=3)):=by
 have h1:ki≠1:=of_eq_false h1;rw[Iz,Af,Ci,decide_eq_true_iff,decide_eq_true_iff];omega
def xa(f:Frame):T8 (tF f,())=I ((CP f,()),()):=by
 obtain⟨ki,src,dst,fr,nu,t',un,sz,mix,da⟩:=f;unfold T8 CP;simp only[JE,Hx,A9];have hk:inB ki 1 3=(A0 (ki=1)||(A0 (ki=2)||decide (ki=3))):=by
  rcases tfp (ki=1) with e|e
  .have:ki=1:=of_eq_true e;subst this;rfl
  .rw[axR e];simp only[e,Ag,BY]
 rw[hk];unfold LX;rcases tfp (ki=1) with e0|e0<;>simp only[e0,AS,Ag,Bh,BY,AD,AG,A5,A6]
 .rcases tf (isN src) with e|e<;>simp only[e,AD,AG,A5,A6,AX,AP];rcases tf (isN dst) with e|e<;>simp only[e,AD,AG,A5,A6,AX,AP];rcases tf (isN fr) with e|e<;>simp only[e,AD,AG,A5,A6,AX,AP];rcases tf (isN t') with e|e<;>simp only[e,AD,AG,A5,A6,AX,AP];rcases tf (inB nu 1 99) with e|e<;>simp only[e,AD,AG,A5,A6,AX,AP];rcases tf (inB un 1 999) with e|e<;>simp only[e,AD,AG,A5,A6,AX,AP];simp only[ax,A9];rw[show A0 (Ca src t'=dst)=A0 (dst=Ca src t') from decide_eq_decide.2 eq_comm];rcases tf (inB sz 1 24) with e|e<;>rcases tf (inB mix 0 999) with e1|e1<;>rcases tf (A0<|(da.size:Int)=4) with e2|e2<;>rcases tfp (dst=Ca src t') with e3|e3<;>simp only[e,e1,e2,e3,AS,Ag,A5,A6,AX,AP,CZ,Bb]
 .rcases tf (A0 (ki=2)||decide (ki=3)) with e9|e9<;>simp only[e9,AD,AG,A5,A6,AX,AP,Bb];rcases tf (isN src) with e|e<;>simp only[e,AD,AG,A5,A6,AX,AP];rcases tf (isN dst) with e|e<;>simp only[e,AD,AG,A5,A6,AX,AP];rcases tf (isN fr) with e|e<;>simp only[e,AD,AG,A5,A6,AX,AP];rcases tf (isN t') with e|e<;>simp only[e,AD,AG,A5,A6,AX,AP];rcases tf (inB nu 1 99) with e|e<;>simp only[e,AD,AG,A5,A6,AX,AP];rcases tf (inB un 1 999) with e|e<;>simp only[e,AD,AG,A5,A6,AX,AP];simp only[ax,A9];rw[show A0 (Ca dst t'=src)=A0 (src=Ca dst t') from decide_eq_decide.2 eq_comm];rcases tfp (sz=0) with e|e<;>rcases tfp (mix=0) with e1|e1<;>rcases tfp (da=noB) with e2|e2<;>rcases tfp (src=Ca dst t') with e3|e3<;>simp only[e,e1,e2,e3,AS,Ag,A5,A6,AX,AP,CZ,Bb]
def BOk(l:List Int):Prop:=∀x∈l,0<=x/\x<=255
def BOk.rd{l:List Int}(h:BOk l)(i:Int):0<= @rd Int (dfl .u8) l i/\ @rd Int (dfl .u8) l i<=255:=by
 show 0<=l.getD i.toNat 0/\l.getD i.toNat 0<=255;rw[BD];cases e:l[i.toNat]? with
 | none=>exact⟨by decide,by decide⟩
 | some x=>exact h x<|Cg e
def BOk.str(s:A4):BOk (BA s):=by
 intro x hx;obtain⟨b,_,rfl⟩:=DP.1 hx;have:=b.toNat_lt;omega
def BOk.app{a b:List Int}(ha:BOk a)(hb:BOk b):BOk (a++b):=by
 intro x hx;rcases Br.1 hx with h|h
 .exact ha x h
 .exact hb x h
def aug(n:Int):0<=w8 n/\w8 n<=255:=by
 rw[NX];omega
def BOk.nil:BOk []:=λx hx=>by cases hx
def BOk.cons(n:Int){l:List Int}(h:BOk l):BOk (w8 n::l):=by
 intro x hx;rcases Bk.1 hx with h1|h1
 .rw[h1];exact aug n
 .exact h x h1
def F1:List Int->Nat->Int->Int
 | [],_,n=>n
 | x::r,i,n=>F1 r (i+1) (BC (n+x * ((i % 1000:Nat)+1)) 65521)
def gq:∀ {l:List Int} {i:Nat} {n:Int},BOk l->0<=n->n<65521->0<=F1 l i n/\F1 l i n<65521
 | [],_,_,_,h0,h1=>⟨h0,h1⟩
 | x::r,i,n,hb,h0,h1=>by
  have hx:=hb x Ap;have hp:0<=x * ((i % 1000:Nat)+1:Int):=nO hx.1 J;unfold F1;rw[LH J];exact gq (λy hy=>hb y<|Al x hy) J J
def aEc{x:Int}(i:Nat)(h:0<=x/\x<=255):0<=x * ((i % 1000:Nat)+1:Int)/\x * ((i % 1000:Nat)+1:Int)<=255000:=by
 refine⟨nO h.1 J, ?_⟩;have h1:x * ((i % 1000:Nat)+1:Int)<=255 * ((i % 1000:Nat)+1:Int):=oT h.2 J;omega
def aBs(pre:List Int)(x:Int)(post:List Int): @rd Int (dfl .u8) (pre++x::post) (pre.length:Int)=x:=by
 rw[OS,BD,EC<|As _];simp
def aq0(post:List Int):∀(pre:List Int) (n:Int),BOk post->0<=n->n<65521->(pre++post).length<=1048576->
  dW (n,pre++post,((pre++post).length:Int),(pre.length:Int),())=I (.inr (F1 post pre.length n,())):=by
 induction post with
 | nil=>
  intro pre n _ _ _ _;refine BR ?_;unfold Wh;simp only[CH,show A0 ((pre.length:Int)<(pre.length:Int))=A3 from Bf J,A6];rfl
 | cons x post ih=>
  intro pre n hb h0 h1 hl;have hlen:pre.length<(pre++x::post).length:=by simp
  have hw:=Di hlen hl;have hx:=hb x Ap;have hm:=aEc pre.length hx;have ht:BC (pre.length:Int) 1000=((pre.length % 1000:Nat):Int):=rfl;refine B4 (x':=(BC (n+x * ((pre.length % 1000:Nat)+1)) 65521,pre++x::post,((pre++x::post).length:Int),((pre++[x]).length:Int),())) ?_ ?_
  .unfold Wh;simp only[show A0 ((pre.length:Int)<((pre++x::post).length:Int))=A1 from AZ J,A5,AR hlen,aBs,ht];rw[Aa (n:=x) J J,Aa (n:=((pre.length % 1000:Nat):Int)+1) J J,Aa (n:=x * _) J J,Aa (n:=n+_) J J,hw,@Ar _ pre [x]];rfl
  .have hr:0<=BC (n+x * ((pre.length % 1000:Nat)+1)) 65521/\BC (n+x * ((pre.length % 1000:Nat)+1)) 65521<65521:=by
    rw[LH J];omega
   have:=ih (pre++[x]) _ (λy hy=>hb y<|Al x hy) hr.1 hr.2 (by rw[← snoc];exact hl);rw[← snoc]at this;rw[F1];rw[show(pre++[x]).length=pre.length+1 by simp]at this ⊢;exact this
def auz(post:List Int):∀(pre:List Int) (n:Int),BOk post->0<=n->n<65521->(pre++post).length<=1048576->
  Xo (pre++post,n,(pre.length:Int),())=I (.inr (F1 post pre.length n,())):=by
 induction post with
 | nil=>
  intro pre n _ _ _ _;refine BR ?_;unfold eX;simp only[CH,show A0 ((pre.length:Int)<(pre.length:Int))=A3 from Bf J,A6];rfl
 | cons x post ih=>
  intro pre n hb h0 h1 hl;have hlen:pre.length<(pre++x::post).length:=by simp
  have hw:=Di hlen hl;have hx:=hb x Ap;have hm:=aEc pre.length hx;have ht:BC (pre.length:Int) 1000=((pre.length % 1000:Nat):Int):=rfl;refine B4 (x':=(pre++x::post,BC (n+x * ((pre.length % 1000:Nat)+1)) 65521,((pre++[x]).length:Int),())) ?_ ?_
  .unfold eX;simp only[show A0 ((pre.length:Int)<((pre++x::post).length:Int))=A1 from AZ J,A5,AR hlen,aBs,ht];rw[Aa (n:=x) J J,Aa (n:=((pre.length % 1000:Nat):Int)+1) J J,Ql _ x,Aa (n:=x * _) J J,Aa (n:=n+_) J J,hw,@Ar _ pre [x]];rfl
  .have hr:0<=BC (n+x * ((pre.length % 1000:Nat)+1)) 65521/\BC (n+x * ((pre.length % 1000:Nat)+1)) 65521<65521:=by
    rw[LH J];omega
   have:=ih (pre++[x]) _ (λy hy=>hb y<|Al x hy) hr.1 hr.2 (by rw[← snoc];exact hl);rw[← snoc]at this;rw[F1];rw[show(pre++[x]).length=pre.length+1 by simp]at this ⊢;exact this
def an3{l:List Int}(h:BOk l)(hl:l.length<=1048576):T7 (l,())=I ((F1 l 0 0,()),()):=by
 unfold T7;have h1:dW (0,l,(l.length:Int),0,())=I (.inr (F1 l 0 0,())):=aq0 l [] 0 h J J hl;rw[h1];rfl
def ao5{l:List Int}(h:BOk l)(hl:l.length<=1048576):Rc (l,())=I ((F1 l 0 0,()),()):=by
 unfold Rc;have h1:Xo (l,0,0,())=I (.inr (F1 l 0 0,())):=auz l [] 0 h J J hl;rw[h1];rfl
abbrev two(n:Int):List Int:=[w8 (w64<|B0 n 256),w8<|BC n 256]
abbrev Rz(f:Frame):List Int:=[w8 f.ki,w8 f.src,w8 f.dst,w8 f.fr,w8 f.nu,w8 f.to,w8<|w64<|B0 f.un 256,w8<|BC f.un 256]
def Eg(f:Frame):List Int:=if A0 (f.ki=1) then(Rz f++[w8 f.sz,w8<|w64<|B0 f.mix 256,w8<|BC f.mix 256])++BA f.da else Rz f
def Cq(f:Frame):List Int:=if CP f then Eg f++two (F1 (Eg f) 0 0) else []
def rb{l:List Int}(n:Int)(hl:l.length<=1048576):Nr (l,n,())=I ((l++two n,()),()):=by
 unfold Nr;rw[A8<|B9 (by simp;omega)]
def bj(f:Frame):BOk (Eg f):=by
 unfold Eg;split
 .exact BOk.app (.cons _<|.cons _<|.cons _<|.cons _<|.cons _<|.cons _<|.cons _<|.cons _<|.cons _<|.cons _<|.cons _ .nil) (BOk.str _)
 .exact .cons _<|.cons _<|.cons _<|.cons _<|.cons _<|.cons _<|.cons _<|.cons _ .nil
def qM{f:Frame}(h:CP f=A1)(hk:A0 (f.ki=1)=A1):f.da.size=4:=by
 unfold CP LX at h;simp only[AI]at h;have h:=h.2.2.2.2.2.2;rw[A8 hk]at h;simp only[AI]at h;have:=BT h.2.2.1;omega
def dj{f:Frame}(h:CP f=A1):(Eg f).length<=15:=by
 unfold Eg;split
 .rename_i hk;have:=qM h hk;simp[Vl,Ay];omega
 .simp
def acd(f:Frame):PC (tF f,())=I ((Cq f,()),()):=by
 unfold PC Cq;simp only[adC,A9];rcases tf (CP f) with e|e
 .simp only[e,AD,A6,A5];have hl:=dj e;have hj:∀ {X Ω:Type} (g:X->Option Ω) (y:X),BF g (I<|.inr y)=g y:=λ_ _=>rfl;have hs:=an3 (bj f) J;have key:∀l,l=Eg f->((T7 (l,())).bind λr4=>if Ac (l.length+(two r4.1.1).length) then(ZA ((l++two r4.1.1),())).bind λr5=>I (r5.1,()) else U)=I ((Eg f++two (F1 (Eg f) 0 0),()),()):=by
   rintro l rfl;simp only[hs,A9];rw[A8<|B9 (by simp;omega),arn (by simp;omega)];rfl
  rcases tf (A0<|f.ki=1) with e1|e1
  .have hd:=qM e e1;have hb:Eg f=(Rz f++[w8 f.sz,w8<|w64<|B0 f.mix 256,w8<|BC f.mix 256])++BA f.da:=by unfold Eg;rw[A8 e1]
   rw[A8 e1,A8<|B9<|by simp,A8<|B9 (by simp[Vl,Ay];omega),hj];exact key _ hb.symm
  .have hb:Eg f=Rz f:=by unfold Eg;rw[e1,A6]
   rw[AB (by rw[e1];exact D0),hj];exact key _ hb.symm
 .simp only[e,AG,A5,A6]
def aDY(f:Frame):PO (tF f,())=I ((Cq f,()),()):=by
 unfold PO Cq;simp only[xa,A9];rcases tf (CP f) with e|e
 .simp only[e,AD,A6,A5];have hl:=dj e;have hs:=ao5 (bj f) J;have key:∀l,l=Eg f->((Rc (l,())).bind λr6=>(Nr (l,r6.1)).bind λr7=>I (r7.1,()))=I ((Eg f++two (F1 (Eg f) 0 0),()),()):=by
   rintro l rfl;simp only[hs,A9];rw[rb _ J];rfl
  rw[A8<|by rfl,rb _<|by simp];simp only[A9];rcases tf (A0<|f.ki=1) with e1|e1
  .have hd:=qM e e1;have hb:Eg f=(Rz f++[w8 f.sz,w8<|w64<|B0 f.mix 256,w8<|BC f.mix 256])++BA f.da:=by unfold Eg;rw[A8 e1]
   rw[A8 e1,A8<|by rfl,rb _<|by simp];simp only[A9];rw[A8<|B9 J,A8<|B9 (by simp[Vl,Ay];omega)];exact key _ (by rw[hb];rfl)
  .have hb:Eg f=Rz f:=by unfold Eg;rw[e1,A6]
   rw[AB (by rw[e1];exact D0)];exact key _ (by rw[hb];rfl)
 .simp only[e,AG,A5,A6]
abbrev zF:Frame:=⟨0,0,0,0,0,0,0,0,0,noB⟩
abbrev r8(b:List Int)(i:Int):Int:= @rd Int (dfl .u8) b i
def FJ(b:List Int):Frame:=
 if A0 ((b.length:Int)=17) then⟨r8 b 0,r8 b 1,r8 b 2,r8 b 3,r8 b 4,r8 b 5,256 * r8 b 6+r8 b 7,r8 b 8,256 * r8 b 9+r8 b 10,BH<|Bs 11<|BU 15 b⟩
 else⟨r8 b 0,r8 b 1,r8 b 2,r8 b 3,r8 b 4,r8 b 5,256 * r8 b 6+r8 b 7,0,0,noB⟩
def CW(b:List Int):Frame×Bool:=
 if A0 ((b.length:Int)=10)||decide ((b.length:Int)=17) then(if A0 (BH (Cq<|FJ b)=BH b) then(FJ b,A1) else(zF,A3)) else(zF,A3)
def adR{b:List Int}(h:BOk b)(i:Int):w64 (r8 b i)=r8 b i:=by
 have:0<=r8 b i/\r8 b i<=255:=h.rd i;exact Aa J J
def vj{b:List Int}(h:BOk b)(i j:Int):w64 (w64 (256 * r8 b i)+r8 b j)=256 * r8 b i+r8 b j:=by
 have h1:0<=r8 b i/\r8 b i<=255:=h.rd i;have h2:0<=r8 b j/\r8 b j<=255:=h.rd j;rw[Aa (n:=256 * r8 b i) J J,Aa J J]
def jB{b:List Int}(h:BOk b):Uv (b,())=I ((tF (CW b).1,(CW b).2,()),()):=by
 unfold Uv CW;by_cases h1:b.length=10\/b.length=17
 .have hn:10<=b.length:=J
  have hI:∀i:Int,(0<=i/\i<10)->inb i b.length=A1:=λi hi=>by simp[inb];omega
  rw[AB (by simp;omega)];dsimp only;rw[A8<|hI 0 J,A8<|hI 1 J,A8<|hI 2 J,A8<|hI 3 J,A8<|hI 4 J,A8<|hI 5 J,A8<|hI 6 J,A8<|hI 7 J];rw[A8 (show(A0 ((b.length:Int)=10)||decide ((b.length:Int)=17))=A1 by simp;omega)];simp only[adR h,vj h];have fin:∀f:Frame,FJ b=f->((PC (tF f,())).bind λr16=>if(!decide ((BH r16.1.1)=(BH b))) then I ((tF zF,A3,()),()) else I ((tF f,A1,()),()))=
    I ((tF (if A0 (BH (Cq<|FJ b)=BH b) then(FJ b,A1) else(zF,A3)).1,(if A0 (BH (Cq<|FJ b)=BH b) then(FJ b,A1) else(zF,A3)).2,()),()):=by
   rintro f rfl;simp only[acd,A9];rcases tf (A0<|BH (Cq<|FJ b)=BH b) with e|e<;>simp only[e,AD,AG,A5,A6]
  rcases tf (A0<|(b.length:Int)=17) with e|e
  .have e17:b.length=17:=by have:=BT e;omega
   have hJ:∀i:Int,(0<=i/\i<17)->inb i b.length=A1:=λi hi=>by simp[inb];omega
   rw[A8 e,A8<|hJ 8 J,A8<|hJ 9 J,A8<|hJ 10 J,A8 (by simp;omega),Bi];refine fin ⟨r8 b 0,r8 b 1,r8 b 2,r8 b 3,r8 b 4,r8 b 5,256 * r8 b 6+r8 b 7,r8 b 8,256 * r8 b 9+r8 b 10,BH<|Bs 11<|BU 15 b⟩ ?_;unfold FJ;rw[A8 e]
  .rw[AB (by rw[e];exact D0),Bi];refine fin ⟨r8 b 0,r8 b 1,r8 b 2,r8 b 3,r8 b 4,r8 b 5,256 * r8 b 6+r8 b 7,0,0,noB⟩ ?_;unfold FJ;rw[AB (by rw[e];exact D0)]
 .rw[A8 (by simp;omega),AB (by simp;omega)]
def ay7{b:List Int}(h:BOk b):Xv (b,())=I ((tF (CW b).1,(CW b).2,()),()):=by
 unfold Xv CW;by_cases h1:b.length=10\/b.length=17
 .have hn:10<=b.length:=J
  have hI:∀i:Int,(0<=i/\i<10)->inb i b.length=A1:=λi hi=>by simp[inb];omega
  rw[AB (by simp;omega)];dsimp only;rw[A8<|hI 0 J,A8<|hI 1 J,A8<|hI 2 J,A8<|hI 3 J,A8<|hI 4 J,A8<|hI 5 J,A8<|hI 6 J,A8<|hI 7 J];rw[A8 (show(A0 ((b.length:Int)=10)||decide ((b.length:Int)=17))=A1 by simp;omega)];simp only[adR h,Ql _ 256,vj h];have fin:∀f:Frame,FJ b=f->((PO (tF f,())).bind λr16=>if(!decide ((BH r16.1.1)=(BH b))) then I ((tF zF,A3,()),()) else I ((tF f,A1,()),()))=
    I ((tF (if A0 (BH (Cq<|FJ b)=BH b) then(FJ b,A1) else(zF,A3)).1,(if A0 (BH (Cq<|FJ b)=BH b) then(FJ b,A1) else(zF,A3)).2,()),()):=by
   rintro f rfl;simp only[aDY,A9];rcases tf (A0<|BH (Cq<|FJ b)=BH b) with e|e<;>simp only[e,AD,AG,A5,A6]
  rcases tf (A0<|(b.length:Int)=17) with e|e
  .have e17:b.length=17:=by have:=BT e;omega
   have hJ:∀i:Int,(0<=i/\i<17)->inb i b.length=A1:=λi hi=>by simp[inb];omega
   rw[A8<|AZ J,A8<|hJ 8 J,A8<|hJ 9 J,A8<|hJ 10 J,A8 (by simp;omega),Bi];refine fin ⟨r8 b 0,r8 b 1,r8 b 2,r8 b 3,r8 b 4,r8 b 5,256 * r8 b 6+r8 b 7,r8 b 8,256 * r8 b 9+r8 b 10,BH<|Bs 11<|BU 15 b⟩ ?_;unfold FJ;rw[A8 e]
  .have e17:b.length≠17:=by have:=IP e;omega
   rw[AB (by simp;omega),Bi];refine fin ⟨r8 b 0,r8 b 1,r8 b 2,r8 b 3,r8 b 4,r8 b 5,256 * r8 b 6+r8 b 7,0,0,noB⟩ ?_;unfold FJ;rw[AB (by rw[e];exact D0)]
 .rw[A8 (by simp;omega),AB (by simp;omega)]
def awr{b:List Int}(h:(CW b).2=A1):CP (CW b).1=A1:=by
 unfold CW at h ⊢;split
 .rename_i h1;rw[A8 h1]at h;split
  .rename_i h2;have h2:=BT h2;unfold Cq at h2;split at h2
   .assumption
   .have h3:(BH b).size=b.length:=by simp[BH,Zq]
    have h4:(BH ([]:List Int)).size=0:=rfl;rw[← h2,h4]at h3;rw[← h3]at h1;cases h1
  .rename_i h2;rw[AB h2]at h;cases h
 .rename_i h1;rw[AB h1]at h;cases h
def OG{n:Int}(h0:0<=n)(k:Nat)(hk:1<=k)(h:n<(10 ^ k:Nat)):(BK n).size<=k:=by
 show(BB n).length<=k;exact Li h0 k hk h
def aa4{r:A4}(hr:r.size<=1048576):PS (r,())=I ((Ce r,()),()):=by
 have hd:=OG (n:=(r.size:Int)) J 7 J J;unfold PS;simp only[Ik (n:=(r.size:Int)) J J,A9];rw[A8<|AZ (by rw[BM];simp;omega),A8<|AZ (by rw[Bg,BM];simp;omega),A8<|AZ (by rw[Bg,Bg,BM,BM];simp;omega)];rfl
def dd{r:A4}(hr:r.size<=1048576):K8 (r,())=I ((Ce r,()),()):=by
 have hd:=OG (n:=(r.size:Int)) J 7 J J;unfold K8;simp only[FG (n:=(r.size:Int)) J J,A9];rw[A8<|AZ (by rw[BM];simp;omega),A8<|AZ (by rw[Bg,BM];simp;omega),A8<|AZ (by rw[Bg,Bg,BM,BM];simp;omega)];rfl
def QF{r:A4}(hr:r.size<=1048576):(Ce r).size<=r.size+9:=by
 have hd:=OG (n:=(r.size:Int)) J 7 J J;unfold Ce;simp only[Bg,BM];simp;omega
def rOk(r:A4):Bool:=inB r.size 1 60
def sd(r:A4):cP (r,())=I ((rOk r,()),()):=rfl
def qt(r:A4):cO (r,())=I ((rOk r,()),()):=rfl
def IT(lg:A4)(fo:Int)(r:A4):(A4×Int)×Bool:=
 if DN lg fo then(if rOk r&&A0 (lg.size+(Ce r).size<=2400) then((lg++Ce r,fo),A1) else((lg,fo),A3)) else((noB,0),A3)
def aci{lg st:A4}{fo:Int}(b:Bool)(hl:lg.size<=1048576)(hs:st.size<=1048585):
  (if((!b)||(A0<|2400<(w64<|(lg.size:Int)+(st.size:Int)))) then I (((lg,fo,()),A3,()),()) else(if A0 (lg.size+st.size<=4611686018427387904) then I (((lg++st,fo,()),A1,()),()) else U))=
   I ((((if b&&A0 (lg.size+st.size<=2400) then((lg++st,fo),A1) else((lg,fo),A3)).1.1,(if b&&A0 (lg.size+st.size<=2400) then((lg++st,fo),A1) else((lg,fo),A3)).1.2,()),(if b&&A0 (lg.size+st.size<=2400) then((lg++st,fo),A1) else((lg,fo),A3)).2,()),()):=by
 rw[Aa J J];cases b
 .rfl
 .by_cases h:lg.size+st.size<=2400
  .rw[AB (by simp;omega),A8<|AZ J,A8 (by simp;omega)]
  .rw[A8 (by simp;omega),AB (by simp;omega)]
def tW{lg r:A4}{fo:Int}(hl:lg.size<=1048576)(hr:r.size<=1048576):
  R8 ((lg,fo,()),r,())=I ((((IT lg fo r).1.1,(IT lg fo r).1.2,()),(IT lg fo r).2,()),()):=by
 unfold R8 IT;simp only[U8 hl,A9];rcases tf (DN lg fo) with e|e
 .simp only[e,AD,A6,A5,sd,aa4 hr,A9,CG,C8,Cp];exact aci (rOk r) hl (by have:=QF hr;omega)
 .simp only[e,AG,A6,A5]
def js{lg r:A4}{fo:Int}(hl:lg.size<=1048576)(hr:r.size<=1048576):
  Nz ((lg,fo,()),r,())=I ((((IT lg fo r).1.1,(IT lg fo r).1.2,()),(IT lg fo r).2,()),()):=by
 unfold Nz IT;simp only[U5 hl,A9];rcases tf (DN lg fo) with e|e
 .simp only[e,AD,A6,A5,qt,dd hr,A9,CG,C8,Cp];exact aci (rOk r) hl (by have:=QF hr;omega)
 .simp only[e,AG,A6,A5]
def J3(lg:A4)(fo:Int):A4×Int:=if DN lg fo then(lg,(lg.size:Int)) else(noB,0)
def aeB{lg:A4}{fo:Int}(hl:lg.size<=1048576):Xs ((lg,fo,()),())=I ((((J3 lg fo).1,(J3 lg fo).2,()),()),()):=by
 unfold Xs J3;simp only[U8 hl,A9];rcases tf (DN lg fo) with e|e<;>simp only[e,AD,AG,A6,A5]
def dk{lg:A4}{fo:Int}(hl:lg.size<=1048576):Nn ((lg,fo,()),())=I ((((J3 lg fo).1,(J3 lg fo).2,()),()),()):=by
 unfold Nn J3;simp only[U5 hl,A9];rcases tf (DN lg fo) with e|e<;>simp only[e,AD,AG,A6,A5]
def OB{lg:A4}{fo:Int}(h:DN lg fo=A1):lg.size<=2400/\0<=fo/\fo<=lg.size:=by
 unfold DN at h;simp only[AI]at h;have h1:=BT h.1;have h2:=Af.1 h.2.1;omega
def EY(lg:A4)(fo keep:Int):Nat:=(fo+max 0 (min keep<|(lg.size:Int) - fo)).toNat
def Mn(lg:A4)(fo keep:Int):A4×Int:=
 if DN lg fo then((lg.extract 0<|EY lg fo keep).extract 0 (D6<|lg.extract 0<|EY lg fo keep).2,((D6<|lg.extract 0<|EY lg fo keep).2:Int)) else(noB,0)
def afA{lg:A4}{fo keep:Int}(h0:0<=fo)(h1:fo<=lg.size)(h2:lg.size<=2400):
  w64 (fo+(if 0<(if w64 ((lg.size:Int) - fo)<keep then w64 ((lg.size:Int) - fo) else keep) then(if w64 ((lg.size:Int) - fo)<keep then w64 ((lg.size:Int) - fo) else keep) else 0))=(EY lg fo keep:Int)/\EY lg fo keep<=lg.size:=by
 rw[Aa (n:=(lg.size:Int) - fo) J J];unfold EY;by_cases h3:(lg.size:Int) - fo<keep
 .rw[A8 h3];by_cases h4:(0:Int)<(lg.size:Int) - fo
  .rw[A8 h4,Aa J J];omega
  .rw[AB h4,Aa J J];omega
 .rw[AB h3];by_cases h4:(0:Int)<keep
  .rw[A8 h4,Aa J J];omega
  .rw[AB h4,Aa J J];omega
def ay8{lg:A4}{fo keep:Int}(hl:lg.size<=1048576):ak ((lg,fo,()),keep,())=I ((((Mn lg fo keep).1,(Mn lg fo keep).2,()),()),()):=by
 unfold ak Mn;simp only[U8 hl,A9];rcases tf (DN lg fo) with e|e
 .have hr:=OB e;obtain⟨c1,c2⟩:=afA (keep:=keep) hr.2.1 hr.2.2 hr.1;simp only[e,AD,A6,A5,c1,Bu];have hz:(lg.extract 0<|EY lg fo keep).size=EY lg fo keep:=by rw[FT J];omega
  have hg:=NY<|lg.extract 0<|EY lg fo keep;rw[A8 (by simp;omega),XL J];simp only[A9,Bu];rw[A8 (by simp;omega)]
 .simp only[e,AG,A6,A5]
def ayG{s:A4}{a b:Nat}(h:b<=a)(ha:a<=s.size):s.extract 0 b=(s.extract 0 a).extract 0 b:=by
 apply Fm;rw[E5,E5,E5,JM,JM,J0,J0,dq,QB h]
def adV{lg:A4}{fo keep:Int}(hl:lg.size<=1048576):Yn ((lg,fo,()),keep,())=I ((((Mn lg fo keep).1,(Mn lg fo keep).2,()),()),()):=by
 unfold Yn Mn;simp only[U5 hl,A9];rcases tf (DN lg fo) with e|e
 .have hr:=OB e;simp only[e,AD,A6,A5];rw[Aa (n:=(lg.size:Int) - fo) J J];have hz:(lg.extract 0<|EY lg fo keep).size=EY lg fo keep:=by rw[FT (by unfold EY;omega)];omega
  have hg:=NY<|lg.extract 0<|EY lg fo keep;have fin:∀n:Int,n=(EY lg fo keep:Int)->(if(A0 (0<=n)&&A0 (n<=(lg.size:Int))) then(Jz ((lg.extract (0)<|AM n),())).bind λr9=>
    (if(A0 (0<=r9.1.2.1)&&A0 (r9.1.2.1<=(lg.size:Int))) then I (((lg.extract (0)<|AM r9.1.2.1,r9.1.2),()),()) else U) else U)=
    I ((((lg.extract 0<|EY lg fo keep).extract 0 (D6<|lg.extract 0<|EY lg fo keep).2,((D6<|lg.extract 0<|EY lg fo keep).2:Int),()),()),()):=by
   rintro n rfl;have hc:EY lg fo keep<=lg.size:=by unfold EY;omega
   rw[A8 (by simp;omega),Bu,Qh J];simp only[A9,Bu];rw[A8 (by simp;omega),ayG (a:=EY lg fo keep) J hc]
  rcases tf (A0<|(lg.size:Int) - fo<keep) with h3|h3<;>simp only[h3,A5,A6,Bi]
  .have h3:=BT h3;rcases tf (A0<|(0:Int)<(lg.size:Int) - fo) with h4|h4<;>simp only[h4,A5,A6,Bi]
   .have h4:=BT h4;rw[Aa (n:=fo+((lg.size:Int) - fo)) J J];exact fin _ (by unfold EY;omega)
   .have h4:=IP h4;exact fin _ (by unfold EY;omega)
  .have h3:=IP h3;rcases tf (A0<|0<keep) with h4|h4<;>simp only[h4,A5,A6,Bi]
   .have h4:=BT h4;rw[Aa (n:=fo+keep) J J];exact fin _ (by unfold EY;omega)
   .have h4:=IP h4;exact fin _ (by unfold EY;omega)
 .simp only[e,AG,A6,A5]
def Fo(rs:List A4):Bool:=rs.all rOk
def JW(lg:A4)(fo:Int)(rs:List A4):(A4×Int)×Bool:=
 if DN lg fo then(if Fo rs&&A0 ((D9 rs).size<=2400) then((D9 rs,((D9 rs).size:Int)),A1) else((lg,fo),A3)) else((noB,0),A3)
def aaJ{r:A4}(h:rOk r=A1):1<=r.size/\r.size<=60:=by
 have:=Af.1 h;omega
def aAp(pre:List A4)(r:A4):B (cat<|pre++[r])=B (cat pre)++Ce r:=by
 apply Fm;rw[GL,L_B,L_B,Kg,IS,KU,CH]
abbrev zS:A4×Int×A2:=(noB,0,())
def aeG{sl:A4×Int×A2}(post:List A4):∀(pre:List A4),(pre++post).length<=1048576->(cat pre).length<=69 * pre.length->
  (Qr (sl,zS,B<|cat pre,pre++post,((pre++post).length:Int),(pre.length:Int),())=I (.inl (sl,A3,()))/\(Fo post=A3\/2400<(cat<|pre++post).length))\/
  (Qr (sl,zS,B<|cat pre,pre++post,((pre++post).length:Int),(pre.length:Int),())=I (.inr (sl,zS,B<|cat<|pre++post,()))/\Fo post=A1):=by
 induction post with
 | nil=>
  intro pre _ _;refine NH ⟨BR ?_,rfl⟩;unfold Qg;simp only[CH,show A0 ((pre.length:Int)<(pre.length:Int))=A3 from Bf J,A6]
 | cons r post ih=>
  intro pre hl hc;have hlen:pre.length<(pre++r::post).length:=by simp
  have hw:=Di hlen hl;have hb:(A0<|(pre.length:Int)<((pre++r::post).length:Int))=A1:=AZ J;by_cases h:rOk r=A1/\(cat pre).length<=2400
  .have hz:=aaJ h.1;have hs:=QF (r:=r) J;have Ls:Qg (sl,zS,B<|cat pre,pre++r::post,((pre++r::post).length:Int),(pre.length:Int),())=I (.inl (sl,zS,B<|cat<|pre++[r],(pre++[r])++post,(((pre++[r])++post).length:Int),((pre++[r]).length:Int),())):=by
    unfold Qg;simp only[hb,A5,AR hlen,Nb,sd,A9,h.1,AD,BY];rw[AB (by rw[BM];exact λg=>absurd (BT g) J),aa4 (r:=r) J];simp only[A9];rw[A8<|AZ (by rw[BM];omega),hw,aAp,@Ar _ pre [r],← snoc];rfl
   have hc2:(cat<|pre++[r]).length<=69 * (pre++[r]).length:=by
    rw[Kg,IS,KU,CH,Ar,Ay,Ar,Jg];omega
   have e:Fo (r::post)=Fo post:=by
    unfold Fo;rw[Ph,h.1,AX]
   rw[e];rcases ih (pre++[r]) (by rw[← snoc];exact hl) hc2 with⟨h1,h2⟩|⟨h1,h2⟩
   .rw[← snoc]at h2;exact Mt ⟨B4 Ls h1,h2⟩
   .refine NH ⟨?_,h2⟩;rw[snoc];rw[← snoc]at Ls ⊢;rw[snoc pre r post]at Ls ⊢;exact B4 Ls h1
  .refine Mt ⟨BR ?_, ?_⟩
   .unfold Qg;simp only[hb,A5,AR hlen,Nb,sd,A9];rw[A8];rcases tf (rOk r) with e|e
    .rw[e,AD,BY];refine AZ ?_;rw[BM];have:¬(cat pre).length<=2400:=λg=>h ⟨e,g⟩;omega
    .rw[e];rfl
   .rcases tf (rOk r) with e|e
    .have:¬(cat pre).length<=2400:=λg=>h ⟨e,g⟩;refine NH ?_;rw[Kg,Ar];omega
    .refine Mt ?_;unfold Fo;rw[Ph,e,AP]
def az7{sl:A4×Int×A2}(post:List A4):∀(pre:List A4),(pre++post).length<=1048576->(cat pre).length<=69 * pre.length->
  ZH (pre++post,sl,zS,B<|cat pre,(pre.length:Int),())=I (if Fo post then .inr (sl,zS,B<|cat<|pre++post,()) else .inl (sl,A3,())):=by
 induction post with
 | nil=>
  intro pre _ _;refine BR ?_;unfold QE;simp only[CH,show A0 ((pre.length:Int)<(pre.length:Int))=A3 from Bf J,A6];rfl
 | cons r post ih=>
  intro pre hl hc;have hlen:pre.length<(pre++r::post).length:=by simp
  have hw:=Di hlen hl;have hb:(A0<|(pre.length:Int)<((pre++r::post).length:Int))=A1:=AZ J;rcases tf (rOk r) with h|h
  .have hz:=aaJ h;have hs:=QF (r:=r) J;have Ls:QE (pre++r::post,sl,zS,B<|cat pre,(pre.length:Int),())=I (.inl ((pre++[r])++post,sl,zS,B<|cat<|pre++[r],((pre++[r]).length:Int),())):=by
    unfold QE;simp only[hb,A5,AR hlen,Nb,qt,A9,h,AD,A6];rw[dd (r:=r) J];simp only[A9];rw[A8<|AZ (by rw[BM];simp at hl;omega),hw,aAp,@Ar _ pre [r],← snoc];rfl
   have hc2:(cat<|pre++[r]).length<=69 * (pre++[r]).length:=by
    rw[Kg,IS,KU,CH,Ar,Ay,Ar,Jg];omega
   have e:Fo (r::post)=Fo post:=by
    unfold Fo;rw[Ph,h,AX]
   rw[e];have:=ih (pre++[r]) (by rw[← snoc];exact hl) hc2;rw[snoc pre r post];rw[snoc pre r post]at Ls;exact B4 Ls this
  .refine BR ?_;unfold QE;simp only[hb,A5,AR hlen,Nb,qt,A9,h,AG];rw[AB (by unfold Fo;rw[Ph,h,AP];exact D0)]
def qg{lg:A4}{fo:Int}(rs:List A4)(s:(((A4×Int×A2)×Bool×A2) ⊕ ((A4×Int×A2)×(A4×Int×A2)×A4×A2)))
  (h:(s= .inl ((lg,fo,()),A3,())/\(Fo rs&&A0 ((D9 rs).size<=2400))=A3)\/(s= .inr ((lg,fo,()),zS,D9 rs,())/\Fo rs=A1)):
  AO (I s) (λy28=>I (y28,())) (λy28=>(if(A0<|2400<(y28.2.2.1.size:Int)) then I ((y28.1,A3,()),()) else I (((y28.2.2.1,(y28.2.2.1.size:Int),()),A1,()),())))=
   I ((((if Fo rs&&A0 ((D9 rs).size<=2400) then((D9 rs,((D9 rs).size:Int)),A1) else((lg,fo),A3)).1.1,(if Fo rs&&A0 ((D9 rs).size<=2400) then((D9 rs,((D9 rs).size:Int)),A1) else((lg,fo),A3)).1.2,()),(if Fo rs&&A0 ((D9 rs).size<=2400) then((D9 rs,((D9 rs).size:Int)),A1) else((lg,fo),A3)).2,()),()):=by
 obtain⟨rfl,h⟩|⟨rfl,h⟩:=h
 .rw[h];rfl
 .simp only[AO,A9];by_cases h2:(D9 rs).size<=2400
  .rw[AB (by simp;omega),h,AZ h2];rfl
  .rw[A8<|AZ J,h,Bf h2];rfl
def aBz{lg:A4}{fo:Int}{rs:List A4}(hl:lg.size<=1048576)(hr:rs.length<=1048576):
  Qy ((lg,fo,()),rs,())=I ((((JW lg fo rs).1.1,(JW lg fo rs).1.2,()),(JW lg fo rs).2,()),()):=by
 unfold Qy JW;simp only[U8 hl,A9];rcases tf (DN lg fo) with e|e
 .simp only[e,AD,A6,A5];rcases aeG (sl:=(lg,fo,())) rs [] hr (by simp[KU]) with⟨h1,h2⟩|⟨h1,h2⟩
  .rw[show Qr ((lg,fo,()),(noB,0,()),noB,rs,(rs.length:Int),0,())=_ from h1];refine qg rs _<|Mt ⟨rfl, ?_⟩;obtain h2|h2:=h2
   .rw[h2];rfl
   .rw[Bf,Bb];show ¬(B<|cat rs).size<=2400;rw[BM];exact Nat.not_le.2 h2
  .rw[show Qr ((lg,fo,()),(noB,0,()),noB,rs,(rs.length:Int),0,())=_ from h1];exact qg rs _ (NH ⟨rfl,h2⟩)
 .simp only[e,AG,A6,A5]
def zU{lg:A4}{fo:Int}{rs:List A4}(hl:lg.size<=1048576)(hr:rs.length<=1048576):
  QQ ((lg,fo,()),rs,())=I ((((JW lg fo rs).1.1,(JW lg fo rs).1.2,()),(JW lg fo rs).2,()),()):=by
 unfold QQ JW;simp only[U5 hl,A9];rcases tf (DN lg fo) with e|e
 .simp only[e,AD,A6,A5];have h1:=az7 (sl:=(lg,fo,())) rs [] hr (by simp[KU]);rw[show ZH (rs,(lg,fo,()),(noB,0,()),noB,0,())=_ from h1];refine qg rs _ ?_;rcases tf (Fo rs) with h2|h2
  .exact NH ⟨A8 h2,h2⟩
  .exact Mt ⟨AB (by rw[h2];exact D0),by rw[h2];rfl⟩
 .simp only[e,AG,A6,A5]
def YG{β:Type}(f:A7->β){l:List A7}{i:Nat}(h:i<l.length):(l.take<|i+1).map f=(l.take i).map f++[f (nA l i)]:=by
 rw[M9 h,Ev,Dq<|Ax h];rfl
def aAu{β:Type}(f:Mark->β){l:List Mark}{i:Nat}(h:i<l.length):(l.take<|i+1).map f=(l.take i).map f++[f (mA l i)]:=by
 rw[M9 h,Ev,Ge<|Ax h];rfl
def Fs{α:Type}{l m:List α}(hl:l.length<=1048576)(hm:m.length<=1048576):Ac (l.length+m.length)=A1:=B9 J
def X0{n:A7}(h:B3 n=A1):(wr n).size<=4000:=by have:=RY h;omega
def Qp{n:A7}(h:B3 n=A1):n.tx.size<=1048576:=by
 have h2:=RY h;by_cases hs:n.tx.size<=1048576
 .exact hs
 .exfalso;unfold B3 at h;simp only[AI]at h;have hx:LC n.tx=A1:=by simp_all
  unfold LC at hx;rw[AI]at hx;have:=Af.1 hx.1;omega
def nw{n:A7}(h:B3 n=A1):(if B3 ⟨n.fr,n.nu,n.to,n.un,n.tx⟩ then wr ⟨n.fr,n.nu,n.to,n.un,n.tx⟩ else noB)=wr n:=by
 rw[show(⟨n.fr,n.nu,n.to,n.un,n.tx⟩:A7)=n from rfl,A8 h]
def HR{n:Int}(h0:0<=n)(h1:n<=999):(BK n).size<=3:=OG h0 3 J J
def jv{w:A4}{a b c:Int}(hw:w.size<=1048576)(ha:0<=a/\a<=999)(hb:0<=b/\b<=999)(hc:0<=c/\c<=999):PY (w,a,b,c,())=I ((Dh w a b c,()),()):=by
 have h1:=HR ha.1 ha.2;have h2:=HR hb.1 hb.2;have h3:=HR hc.1 hc.2;unfold PY;simp only[Ik (n:=a) J J,Ik (n:=b) J J,Ik (n:=c) J J,A9];rw[A8<|AZ (by simp[BM];omega),A8<|AZ (by simp[Bg,BM];omega),A8<|AZ (by simp[Bg,BM];omega),A8<|AZ (by simp[Bg,BM];omega),A8<|AZ (by simp[Bg,BM];omega),A8<|AZ (by simp[Bg,BM];omega)];rfl
def Ia{i n:Nat}(h:i<n):A0 ((i:Int)<(n:Int))=A1:=AZ J
def Fe(n:Nat):A0 ((n:Int)<(n:Int))=A3:=Bf J
section
variable {k:AJ} (hf:Ek k)
include hf
def ah2(o:List A4)(ho:o.length<=100):
  Wr (tK k,o,k.marks,(k.marks.length:Int),0,())=I (.inr (tK k,o++k.marks.map λm=>Dh DD m.mf m.mn m.mu,())):=by
 have ml:=hf.ml;refine Jn (congrArg _ ?_) (CS (λi=>(tK k,o++(k.marks.take i).map (λm=>Dh DD m.mf m.mn m.mu),k.marks,(k.marks.length:Int),(i:Int),())) k.marks.length ?_ ?_)
 .simp
 .intro i hi;have hm:=PE<|Uo hf.m hi;unfold Wf;simp only[Ia hi,A5,AR hi,F8,jv (w:=DD) (by decide) (show 0<=(mA k.marks i).mf/\(mA k.marks i).mf<=999 by omega) (show 0<=(mA k.marks i).mn/\(mA k.marks i).mn<=999 by omega)<|show 0<=(mA k.marks i).mu/\(mA k.marks i).mu<=999 by omega,A9];rw[A8<|Fs (by simp;omega)<|by simp,aAu _ hi,Di hi J,C7]
 .unfold Wf;simp only[Fe,A6,Ec]
def au4(o:List A4)(ho:o.length<=200):
  YB (tK k,o,k.held,(k.held.length:Int),0,())=I (.inr (tK k,o++k.held.map MA,())):=by
 have hl:=hf.hl;refine Jn (congrArg _ ?_) (CS (λi=>(tK k,o++(k.held.take i).map MA,k.held,(k.held.length:Int),(i:Int),())) k.held.length ?_ ?_)
 .simp
 .intro i hi;have hm:=Gi hf.h hi;have hz:=X0 hm;unfold cY;simp only[Ia hi,A5,AR hi,CK,W7<|Qp hm,nw hm,A9];rw[A8<|AZ (by rw[BM];simp;omega),A8<|Fs (by simp;omega)<|by simp,YG _ hi,Di hi J,C7];rfl
 .unfold cY;simp only[Fe,A6,Ec]
def amh(o:List A4)(ho:o.length<=200):
  Yf (o,k.inbox,(k.inbox.length:Int),0,())=I (.inr (o++k.inbox.map Me,())):=by
 have il:=hf.il;refine Jn (congrArg _ ?_) (CS (λi=>(o++(k.inbox.take i).map Me,k.inbox,(k.inbox.length:Int),(i:Int),())) k.inbox.length ?_ ?_)
 .simp
 .intro i hi;have hm:=Gi hf.i hi;have hz:=X0 hm;unfold XH;simp only[Ia hi,A5,AR hi,CK,W7<|Qp hm,nw hm,A9];rw[A8<|AZ (by rw[BM];simp;omega),A8<|Fs (by simp;omega)<|by simp,YG _ hi,Di hi J,C7];rfl
 .unfold XH;simp only[Fe,A6,Ec]
def afV(o:List A4)(ho:o.length<=100):
  au (tK k,o,0,())=I (.inr (tK k,o++k.marks.map λm=>Dh DD m.mf m.mn m.mu,())):=by
 have ml:=hf.ml;refine Jn (congrArg _ ?_) (CS (λi=>(tK k,o++(k.marks.take i).map (λm=>Dh DD m.mf m.mn m.mu),(i:Int),())) k.marks.length ?_ ?_)
 .simp
 .intro i hi;have hm:=PE<|Uo hf.m hi;have h1:=HR (n:=(mA k.marks i).mf) J J;have h2:=HR (n:=(mA k.marks i).mn) J J;have h3:=HR (n:=(mA k.marks i).mu) J J;unfold fA;simp only[Ia hi,A5,AR hi,F8,FG (n:=(mA k.marks i).mf) J J,FG (n:=(mA k.marks i).mn) J J,FG (n:=(mA k.marks i).mu) J J,A9];rw[A8<|AZ (by simp[Bg,BM];omega),A8<|AZ (by simp[Bg,BM];omega),A8<|AZ (by simp[Bg,BM];omega),A8<|AZ (by simp[Bg,BM];omega),A8<|AZ (by simp[Bg,BM];omega)];rw[A8<|Fs (by simp;omega)<|by simp,aAu _ hi,Di hi J,C7];rfl
 .unfold fA;simp only[Fe,A6,Ec]
def aeK(o:List A4)(ho:o.length<=200):
  Zx (tK k,o,0,())=I (.inr (tK k,o++k.held.map MA,())):=by
 have hl:=hf.hl;refine Jn (congrArg _ ?_) (CS (λi=>(tK k,o++(k.held.take i).map MA,(i:Int),())) k.held.length ?_ ?_)
 .simp
 .intro i hi;have hm:=Gi hf.h hi;have hz:=X0 hm;unfold Zo;simp only[Ia hi,A5,AR hi,CK,Q8<|Qp hm,nw hm,A9];rw[A8<|AZ (by rw[BM];simp;omega),A8<|Fs (by simp;omega)<|by simp,YG _ hi,Di hi J,C7];rfl
 .unfold Zo;simp only[Fe,A6,Ec]
def agV(o:List A4)(ho:o.length<=200):
  c8 (tK k,o,0,())=I (.inr (o++k.inbox.map Me,())):=by
 have il:=hf.il;refine Jn (congrArg _ ?_) (CS (λi=>(tK k,o++(k.inbox.take i).map Me,(i:Int),())) k.inbox.length ?_ ?_)
 .simp
 .intro i hi;have hm:=Gi hf.i hi;have hz:=X0 hm;unfold ZT;simp only[Ia hi,A5,AR hi,CK,Q8<|Qp hm,nw hm,A9];rw[A8<|AZ (by rw[BM];simp;omega),A8<|Fs (by simp;omega)<|by simp,YG _ hi,Di hi J,C7];rfl
 .unfold ZT;simp only[Fe,A6,Ec]
def QK:Dc k.held k.marks k.inbox:=by
 have hl:=hf.hl;have ml:=hf.ml;have il:=hf.il;refine⟨J,λx hx=> ?_,J,J,λx hx=> ?_⟩
 .obtain⟨i,hi,rfl⟩:=Dt hx;have:=Gi hf.h hi;rw[Dq<|Ax hi]at this;exact Qp this
 .obtain⟨i,hi,rfl⟩:=Dt hx;have:=Gi hf.i hi;rw[Dq<|Ax hi]at this;exact Qp this
def ao3:(AO (Wr (tK k,(if 0<k.ti then [G1 k.ti] else [])++(if 1<k.nx then [KM k.nx] else []),k.marks,(k.marks.length:Int),0,()))
  (λ_=>U)
  (λy34=>(AO (YB (y34.1,y34.2.1,y34.1.2.2.2.1,(y34.1.2.2.2.1.length:Int),0,()))
  (λ_=>U)
  (λy72=>(AO (Yf (y72.2.1,y72.1.2.2.2.2.2.1,(y72.1.2.2.2.2.2.1.length:Int),0,()))
  (λ_=>U)
  (λrq=>(QH rq).bind λsB=>
  I (sB.1,())))))))=I ((Cd k,()),()):=by
 have hl:=hf.hl;have ml:=hf.ml;have il:=hf.il;have ho:((if 0<k.ti then [G1 k.ti] else [])++(if 1<k.nx then [KM k.nx] else [])).length<=2:=by
  rw[Ar];split<;>split<;>simp
 rw[ah2 hf _ J];simp only[AO,A9];rw[au4 hf _ (by rw[Ar,EM];omega)];simp only[A9];rw[amh hf _ (by rw[Ar,Ar,EM,EM];omega)];simp only[A9];rw[oN (by rw[Ar,Ar,Ar,EM,EM,EM];omega)];rfl
def amp:(AO (au (tK k,(if 0<k.ti then [G1 k.ti] else [])++(if 1<k.nx then [KM k.nx] else []),0,()))
  (λ_=>U)
  (λy46=>(AO (Zx (y46.1,y46.2.1,0,()))
  (λ_=>U)
  (λy54=>(AO (c8 (y54.1,y54.2.1,0,()))
  (λ_=>U)
  (λy62=>I (y62,())))))))=I ((Cd k,()),()):=by
 have hl:=hf.hl;have ml:=hf.ml;have il:=hf.il;have ho:((if 0<k.ti then [G1 k.ti] else [])++(if 1<k.nx then [KM k.nx] else [])).length<=2:=by
  rw[Ar];split<;>split<;>simp
 rw[afV hf _ J];simp only[AO,A9];rw[aeK hf _ (by rw[Ar,EM];omega)];simp only[A9];rw[agV hf _ (by rw[Ar,Ar,EM,EM];omega)];rfl
end
def xO{k:AJ}(sm:Dc k.held k.marks k.inbox):Ud (tK k,())=I ((if Aw k then Cd k else [],()),()):=by
 unfold Ud;rw[kU sm];simp only[A9];rcases tf (Aw k) with e|e
 .have hf:=Cl e;have t0:=hf.t0;have t1:=hf.t1;have n0:=hf.n0;have n1:=hf.n1;have e2:Aw ⟨k.id,k.ti,k.nx,k.held,k.marks,k.inbox⟩=A1:=e;have d1:=HR t0 J;have d2:=HR (n:=k.nx) J J;have fin:=ao3 hf;simp only[e,e2,AD,A6,A5,Ik (n:=k.ti) J J,Ik (n:=k.nx) J J,A9];have h5:A0 ((B [116,105,109,101,32]).size+(BK k.ti).size<=4611686018427387904)=A1:=AZ (by rw[BM];simp;omega);have h6:A0 ((B [110,101,120,116,32]).size+(BK k.nx).size<=4611686018427387904)=A1:=AZ (by rw[BM];simp;omega);have q1:∀a:A4,Ac ([a]:List A4).length=A1:=λ_=>rfl;have q2:∀a b:A4,Ac (([a]:List A4).length+([b]:List A4).length)=A1:=λ_ _=>rfl;have q3:∀b:A4,Ac (([]:List A4).length+([b]:List A4).length)=A1:=λ_=>rfl;have q4:∀a b:A4,Ac ((([]:List A4)++[a]).length+([b]:List A4).length)=A1:=λ_ _=>rfl;by_cases h1:0<k.ti<;>by_cases h2:1<k.nx<;>simp only[h1,h2,AS,Ag,A5,A6,if_false]at fin ⊢ <;>simp only[Bi,h2,AS,Ag,A5,A6,h5,h6,q1,q2,q3,q4,Ik (n:=k.nx) J J,FG (n:=k.nx) J J,A9]<;>exact fin
 .have e2:Aw ⟨k.id,k.ti,k.nx,k.held,k.marks,k.inbox⟩=A3:=e;simp only[e,e2,AG,A6,A5]
def uo{k:AJ}(sm:Dc k.held k.marks k.inbox):U0 (tK k,())=I ((if Aw k then Cd k else [],()),()):=by
 unfold U0;rw[l4 sm];simp only[A9];rcases tf (Aw k) with e|e
 .have hf:=Cl e;have t0:=hf.t0;have t1:=hf.t1;have n0:=hf.n0;have n1:=hf.n1;have e2:Aw ⟨k.id,k.ti,k.nx,k.held,k.marks,k.inbox⟩=A1:=e;have d1:=HR t0 J;have d2:=HR (n:=k.nx) J J;have fin:=amp hf;simp only[e,e2,AD,A6,A5,FG (n:=k.ti) J J,FG (n:=k.nx) J J,A9];have h5:A0 ((B [116,105,109,101,32]).size+(BK k.ti).size<=4611686018427387904)=A1:=AZ (by rw[BM];simp;omega);have h6:A0 ((B [110,101,120,116,32]).size+(BK k.nx).size<=4611686018427387904)=A1:=AZ (by rw[BM];simp;omega);have q1:∀a:A4,Ac ([a]:List A4).length=A1:=λ_=>rfl;have q2:∀a b:A4,Ac (([a]:List A4).length+([b]:List A4).length)=A1:=λ_ _=>rfl;have q3:∀b:A4,Ac (([]:List A4).length+([b]:List A4).length)=A1:=λ_=>rfl;have q4:∀a b:A4,Ac ((([]:List A4)++[a]).length+([b]:List A4).length)=A1:=λ_ _=>rfl;by_cases h1:0<k.ti<;>by_cases h2:1<k.nx<;>simp only[h1,h2,AS,Ag,A5,A6,if_false]at fin ⊢ <;>simp only[Bi,h2,AS,Ag,A5,A6,h5,h6,q1,q2,q3,q4,Ik (n:=k.nx) J J,FG (n:=k.nx) J J,A9]<;>exact fin
 .have e2:Aw ⟨k.id,k.ti,k.nx,k.held,k.marks,k.inbox⟩=A3:=e;simp only[e,e2,AG,A6,A5]
end Go.VS
namespace Go.VS
open Go
def uC{l:List AQ}{m:AQ}(h:m∈l):∃i,i<l.length/\xA l i=m:=by
 obtain⟨i,hi,rfl⟩:=Ua.1 h;exact⟨i,hi,by rw[xA,BD,Ax hi];rfl⟩
def bZ{l:List AH}{m:AH}(h:m∈l):∃i,i<l.length/\hA l i=m:=by
 obtain⟨i,hi,rfl⟩:=Ua.1 h;exact⟨i,hi,by rw[hA,BD,Ax hi];rfl⟩
def ay9{h:AH}(ok:Fp h=A1):Pn h:=by
 unfold Fp at ok;simp only[AI]at ok;have h1:=BT ok.2.2.2.2.2.1;have h2:=CO.1 ok.2.2.2.2.2.2;refine⟨J,λm hm=> ?_⟩;obtain⟨i,hi,rfl⟩:=uC hm;have:=h2 i hi;unfold IV at this;simp only[AI]at this;have:=BT this.1.2;show(xA h.got i).da.size<=1048576;omega
def D7{k:AA}(h:Av k=A1):Eo k:=by
 have hf:=Df h;have hr:=OB hf.sh;have hl:=hf.hl;refine⟨J,J,λx hx=> ?_⟩;obtain⟨i,hi,rfl⟩:=bZ hx;have:=hf.hv i hi;unfold Fy at this;rw[AI]at this;exact ay9 this.1
def akT{l:List AH}(hl:l.length<=1048576):sr (l,())=I ((l,()),()):=LU hl
def agh{l:List AQ}(hl:l.length<=1048576):nf (l,())=I ((l,()),()):=LU hl
def MP(l:List AH)(i:Nat): @rd AH (dfl .half) l (i:Int)=hA l i:=rfl
def FZ{l:List AH}{i:Nat}(h:i<l.length):hA l i=l[i]:=by
 rw[hA,BD,Ax h];rfl
def Ka{k:AA}(sm:Eo k):Hq (tKp k,())=I ((tKp k,()),()):=by
 obtain⟨id,up,lg,fo,hv⟩:=k;obtain⟨sl,hl,hs⟩:=sm;simp only at sl hl hs;unfold Hq;simp only[akT hl,A9];have h:oz ((0,A3,noB,0,[],()),(id,up,lg,fo,hv,()),(hv.length:Int),0,())=I (.inr ((0,A3,noB,0,[],()),(id,up,lg,fo,hv,()),())):=by
  refine CS (λi=>((0,A3,noB,0,[],()),(id,up,lg,fo,hv,()),(hv.length:Int),(i:Int),())) hv.length ?_ ?_
  .intro i hi;unfold Yb;have hg:(hA hv i).got.length<=1048576:=by rw[FZ hi];exact(hs _<|CQ hi).1
   simp only[Ia hi,A5,AR hi,MP,agh hg,A9,Bu];rw[Di hi hl,show(⟨(hA hv i).fr,(hA hv i).nu,(hA hv i).to,(hA hv i).un,(hA hv i).sz,(hA hv i).got⟩:AH)=hA hv i from rfl,FZ hi,List.set_getElem_self]
  .unfold Yb;simp only[Fe,A6]
 rw[h];rfl
def Lg{k:AA}(sm:Eo k):G7 (tKp k,())=I ((tKp k,()),()):=by
 obtain⟨id,up,lg,fo,hv⟩:=k;obtain⟨sl,hl,hs⟩:=sm;simp only at sl hl hs;unfold G7;have h:qA ((id,up,lg,fo,hv,()),(0,A3,noB,0,[],()),[],0,())=I (.inr ((id,up,lg,fo,hv,()),(0,A3,noB,0,[],()),hv,())):=by
  refine CS (λi=>((id,up,lg,fo,hv,()),(0,A3,noB,0,[],()),hv.take i,(i:Int),())) hv.length ?_ ?_
  .intro i hi;unfold XN;have hg:(hA hv i).got.length<=1048576:=by rw[FZ hi];exact(hs _<|CQ hi).1
   have e1:Ac (([]:List AQ).length+(hA hv i).got.length)=A1:=Fs (by simp) hg;have e2:∀h:AH,Ac ((hv.take i).length+([h]:List AH).length)=A1:=λh=>Fs (by simp;omega) (by simp);simp only[Ia hi,A5,AR hi,MP,EW,e1,e2];rw[Di hi hl,M9 hi,← FZ hi]
  .unfold XN;simp only[Fe,A6,Ec]
 rw[h];rfl
structure Hr (k:AA) (st:AJ):Prop where
 sh:DN k.log k.fo=A1
 st:D4 k.id k.log=I st
def Cj.LP{k:AA}{st:AJ}(h:Cj k st):Hr k st:=⟨(Df h.ok).sh,h.st⟩
def Hr.kok{k:AA}{st:AJ}(h:Hr k st):Aw st=A1:=Uh h.st
def Hr.sz{k:AA}{st:AJ}(h:Hr k st):k.log.size<=1048576:=by have:=OB h.sh;omega
def Hr.stT{k:AA}{st:AJ}(h:Hr k st):Go.VS.stT k=st:=by
 unfold Go.VS.stT;rw[h.st];rfl
def Ze{k:AJ}(hk:Aw k=A1):(D9<|Cd k).size<=800:=by
 have:=(Sk hk).2;unfold D9;rw[BM];exact this
def ap{k:AJ}(hk:Aw k=A1):(Cd k).length<=1048576:=by
 have hf:=Cl hk;have h1:=hf.hl;have h2:=hf.ml;have h3:=hf.il;unfold Cd;simp only[Ar,EM];have a2:(if 0<k.ti then [G1 k.ti] else []).length<=1:=by split<;>simp
 have b2:(if 1<k.nx then [KM k.nx] else []).length<=1:=by split<;>simp
 omega
def VZ{k:AA}{st o:AJ}{r:A4}(h:Hr k st)(hr:Bd st r=I o):
  DN (Et st k.log k.fo r).1 (Et st k.log k.fo r).2=A1/\
  (IT k.log k.fo r=(Et st k.log k.fo r,A1)\/
   (IT k.log k.fo r=((k.log,k.fo),A3)/\JW k.log k.fo (Cd st)=((D9<|Cd st,((D9<|Cd st).size:Int)),A1)/\
    IT (D9<|Cd st) ((D9<|Cd st).size:Int) r=(Et st k.log k.fo r,A1))):=by
 have hz:=zv h.kok hr;have hrk:rOk r=A1:=Af.2 J;have hrs:=Sk h.kok;have hps:=Ze h.kok;have hpo:=(qI h.kok).sg;have hst:=Ok hz.2;obtain⟨rs,ts,hl⟩:=aCC h.sh;obtain⟨rs',ts',hl',_⟩:=aCl (id:=k.id) (k:=st) hl (by rw[← hl.state];exact h.st) hr;refine⟨hl'.sg, ?_⟩;unfold Et IT;rw[A8 h.sh,hrk,AX];by_cases hc:k.log.size+(Ce r).size<=2400
 .rw[A8 hc,A8<|AZ hc];exact .inl rfl
 .rw[AB hc,AB (by rw[Bf hc];exact D0)];refine .inr ⟨rfl, ?_, ?_⟩
  .unfold JW;rw[A8 h.sh,A8];rw[AI];refine⟨?_,AZ J⟩;unfold Fo;rw[Cr];exact λx hx=>by
    have:=hrs.1 x hx;exact Af.2 J
  .rw[A8 hpo,AX,A8<|AZ J]
def wrR(k:AA)(r:A4)(f:Bool):AA×Bool:=
 match Bd (stT k) r with
 | none=>(k,A3)
 | some _=>(if f then foM (wrM k r) else wrM k r,A1)
def xi{k:AJ}{r:A4}:(FC k r).2=(Bd k r).isSome:=by
 unfold Bd;rcases tf (FC k r).2 with e|e<;>rw[e]<;>rfl
def arc{k:AJ}(hk:Aw k=A1){r:A4}(hr:r.size<=1048576):RB (tK k,r,())=I ((tK (FC k r).1,(FC k r).2,()),()):=aDn (QK<|Cl hk) hr
def avd{k:AJ}(hk:Aw k=A1){r:A4}(hr:r.size<=1048576):Pu (tK k,r,())=I ((tK (FC k r).1,(FC k r).2,()),()):=aCJ (QK<|Cl hk) hr
def ali{k:AA}{st o:AJ}{r:A4}(h:Hr k st)(hr:Bd st r=I o):J3 (Et st k.log k.fo r).1 (Et st k.log k.fo r).2=((Et st k.log k.fo r).1,((Et st k.log k.fo r).1.size:Int)):=by
 unfold J3;rw[A8 (VZ h hr).1]
def Uu{k:AA}{st:AJ}(h:Hr k st){r:A4}(hr:r.size<=1048576)(f:Bool):Jx (tKp k,r,f,())=I ((tKp (wrR k r f).1,(wrR k r f).2,()),()):=by
 have hs:=h.sz;have hk:=h.kok;have hsm:=QK<|Cl hk;have hrl:=ap hk;have hpz:=Ze hk;unfold Jx wrR;rw[h.stT];rw[show Ey (tKp k,())=I ((tK<|(D4 k.id k.log).getD zK,(D4 k.id k.log).isSome,()),()) from RS hs];rw[h.st];simp only[A9,C8,arc hk hr,xi];cases hc:Bd st r with
 | none=>rfl
 | some o=>
  have hL:=ali h hc;have hwr:wrM k r=⟨k.id,k.up,(Et st k.log k.fo r).1,(Et st k.log k.fo r).2,k.AE⟩:=by unfold wrM;rw[h.stT]
  have hsz:(Et st k.log k.fo r).1.size<=1048576:=by have:=OB (VZ h hc).1;omega
  have hF:=dk (lg:=(Et st k.log k.fo r).1) (fo:=(Et st k.log k.fo r).2) hsz;rw[hL]at hF;simp only[CG,AD,A6,js hs hr,A9];have fin:BF (X:=Bool×(Int×Bool×A4×Int×List AH×A2)×(Int×Bool×A4×Int×List AH×A2)×(A4×Int×A2)×Bool×A2) (λj7=>
    (if(!j7.2.2.2.2.1) then
    I ((j7.2.1,A3,()),())
    else
    (if j7.1 then
    (Nn (j7.2.2.2.1,())).bind λr12=>
    I (((j7.2.1.1,j7.2.1.2.1,r12.1.1.1,r12.1.1.2.1,j7.2.1.2.2.2.2),A1,()),())
    else
    I (((j7.2.1.1,j7.2.1.2.1,j7.2.2.2.1.1,j7.2.2.2.1.2.1,j7.2.1.2.2.2.2),A1,()),())))) (I<|.inr (f,tKp k,(0,A3,noB,0,[],()),((Et st k.log k.fo r).1,(Et st k.log k.fo r).2,()),A1,()))=
    I ((tKp<|if f then foM (wrM k r) else wrM k r,A1,()),()):=by
   rw[Bi,hwr];cases f
   .rfl
   .simp only[AD,A6,A5,hF,A9];rfl
  rcases(VZ h hc).2 with ha|⟨ha,hb,hd⟩
  .rw[ha];simp only[AD,A6];exact fin
  .rw[ha];simp only[AG,A5,uo hsm,hk,A9];rw[show QQ ((k.log,k.fo,()),Cd st,())=_ from zU hs hrl,hb];simp only[A9];rw[show Nz ((D9<|Cd st,((D9<|Cd st).size:Int),()),r,())=_ from js J hr,hd];simp only[A9];exact fin
def ah{k:AA}{st:AJ}(h:Hr k st){r:A4}(hr:r.size<=1048576):NR (tKp k,r,())=I ((tKp (wrR k r A3).1,(wrR k r A3).2,()),()):=by
 have hs:=h.sz;have hk:=h.kok;have hsm:=QK<|Cl hk;have hrl:=ap hk;have hpz:=Ze hk;unfold NR wrR;rw[h.stT];simp only[QN hs,h.st,A9,C8,avd hk hr,xi];cases hc:Bd st r with
 | none=>rfl
 | some o=>
  have hwr:wrM k r=⟨k.id,k.up,(Et st k.log k.fo r).1,(Et st k.log k.fo r).2,k.AE⟩:=by unfold wrM;rw[h.stT]
  simp only[CG,AD,A6,tW hs hr,A9];rcases(VZ h hc).2 with ha|⟨ha,hb,hd⟩
  .rw[ha];simp only[AD,A6,Bi,hwr]
  .rw[ha];simp only[AG,A5,xO hsm,hk,A9];rw[show Qy ((k.log,k.fo,()),Cd st,())=_ from aBz hs hrl,hb];simp only[A9,AD,A6];rw[show R8 ((D9<|Cd st,((D9<|Cd st).size:Int),()),r,())=_ from tW J hr,hd];simp only[A9,Bi,AD,A6,hwr]
def WR{k:AA}(h:DN k.log k.fo=A1):Nj (tKp k,())=I ((tKp<|foM k,()),()):=by
 have hs:k.log.size<=1048576:=by have:=OB h;omega
 unfold Nj;simp only[aeB hs,A9];unfold J3;rw[A8 h];rfl
def uF{k:AA}{st o:AJ}{r:A4}(h:Hr k st)(hr:Bd st r=I o):DN (wrM k r).log (wrM k r).fo=A1:=by
 have:=(VZ h hr).1;unfold wrM;rw[h.stT];exact this
def cS{k:AA}{st:AJ}(h:Cj k st){r:A4}(hr:r.size<=1048576):NS (tKp k,r,())=I ((tKp (wrR k r A1).1,(wrR k r A1).2,()),()):=by
 have hl:=h.LP;unfold NS;simp only[ah hl hr,A9];unfold wrR;rw[hl.stT];cases hc:Bd st r with
 | none=>
  simp only[AG,A5,Ka<|D7 h.ok,A9]
 | some o=>
  simp only[AD,A6,A5];rw[WR<|uF hl hc];simp only[A9];have hsm:Eo (foM<|wrM k r):=D7 (Rs<|X4 h hc).ok;rw[show Hq (tKp<|foM<|wrM k r,())=_ from Ka hsm];rfl
abbrev zKp:AA:=⟨0,A3,noB,0,[]⟩
abbrev zN:A7:=⟨0,0,0,0,noB⟩
abbrev tN(n:A7):Int×Int×Int×Int×A4×A2:=(n.fr,n.nu,n.to,n.un,n.tx,())
def Qo{k:AA}(h:Av k=A1):k.log.size<=1048576:=(D7 h).1
def Nk{k:AA}(h:Av k=A1):Ey (tKp k,())=I ((tK<|stT k,A1,()),()):=by
 have:=RS (id:=k.id) (fo:=k.fo) (up:=k.up) (hv:=k.AE)<|Qo h;rw[(Df h).st]at this;exact this
def Ie{k:AA}(h:Av k=A1):Gq (tKp k,())=I ((tK<|stT k,()),()):=by
 unfold Gq;rw[K6<|D7 h];simp only[A9,h,AD,A6];rw[show JK (k.id,k.log,())=_ from QN<|Qo h,(Df h).st];rfl
def XX{w:A4}{n:A7}(hw:w.size<=10)(hn:B3 n=A1):(w++wr n).size<=1048576:=by
 have:=RY hn;rw[Bg];omega
def Fc(k:AA):AA×Bool:=if k.up then wrR k (G1<|(stT k).ti+1) A1 else(k,A3)
def asR{st:AJ}(hk:Aw st=A1)(h:999<=st.ti):Bd st (G1<|st.ti+1)=U:=by
 have hf:=Cl hk;have h1:=hf.t1;cases hc:Bd st (G1<|st.ti+1) with
 | none=>rfl
 | some o=>
  exfalso;obtain⟨a,b⟩:=(Mf hk).1 hc;rw[Ko aAY<|n8 _]at a;have c:=vh (k:=st) (t:=st.ti+1) (by have:=hf.t0;omega) J J;rw[show B [116,105,109,101]=Eb from rfl,c]at a;injection a with a;have:=(Cl b).t1;rw[← a]at this;simp only at this;omega
def ab6{t:Int}(h0:0<=t)(h1:t<=1000):(G1 t).size<=100:=by
 unfold G1;have:=OG h0 4 J J;rw[Bg,BM];simp;omega
def alg{k:AA}(h:Av k=A1):V4 (tKp k,())=I ((tKp (Fc k).1,(Fc k).2,()),()):=by
 have hk:=Co h;have hf:=Cl hk.kok;have t0:=hf.t0;have t1:=hf.t1;have hz:=ab6 (t:=(stT k).ti+1) J J;have hd:=OG (n:=(stT k).ti+1) J 4 J J;unfold V4 Fc;rw[Kk<|D7 h];simp only[A9,h,AD,A6,Nk h,Lg<|D7 h];rcases tf k.up with e|e
 .simp only[e,AD,BY,A5];rw[Aa J J,FG J J];simp only[A9];by_cases hc:999<=(stT k).ti
  .rw[A8<|AZ hc];unfold wrR;rw[asR hk.kok hc]
  .rw[AB (by rw[Bf hc];exact D0),A8<|AZ (by rw[BM];simp;omega)];rw[show Jx (tKp k,B [116,105,109,101,32]++BK ((stT k).ti+1),A1,())=_ from Uu hk.LP (r:=G1<|(stT k).ti+1) J A1];rfl
 .simp only[e,AG,Bh,A5,A6]
def ajF{k:AA}(h:Av k=A1):V1 (tKp k,())=I ((tKp (Fc k).1,(Fc k).2,()),()):=by
 have hk:=Co h;have hf:=Cl hk.kok;have t0:=hf.t0;have t1:=hf.t1;have hz:=ab6 (t:=(stT k).ti+1) J J;have hd:=OG (n:=(stT k).ti+1) J 4 J J;unfold V1 Fc;rw[K6<|D7 h];simp only[A9,h,AD,A6,Ie h,Ka<|D7 h];rcases tf k.up with e|e
 .simp only[e,AD,A6,A5];rw[Aa J J,Ik J J];simp only[A9];rw[A8<|AZ (by rw[BM];simp;omega)];rw[show NS (tKp k,B [116,105,109,101,32]++BK ((stT k).ti+1),())=_ from cS hk (r:=G1<|(stT k).ti+1) J];rfl
 .simp only[e,AG,A5,A6]
def OD(n:A7):A4:=B [111,119,110,32]++wr n
def EU(k:AA)(tt un:Int)(tx:A4):AA×Int:=
 if k.up&&B3 ⟨k.id,(stT k).nx,tt,un,tx⟩ then
  ((wrR k (OD ⟨k.id,(stT k).nx,tt,un,tx⟩) A1).1,if(wrR k (OD ⟨k.id,(stT k).nx,tt,un,tx⟩) A1).2 then(stT k).nx else 0)
 else(k,0)
def pb{n:A7}:wr n≠noB:=by
 intro h;have h1:(wr n).size=0:=by rw[h];rfl
 unfold wr at h1;simp only[Bg,BM,Bw,C2]at h1;omega
def aB6:DI (B [])=U:=by
 unfold DI;split
 .rename_i h;obtain⟨n,_,h⟩:=h;exact absurd h pb
 .rfl
def agA:Cs [111,119,110]:=by unfold Cs;decide
def yi:Cs [116,97,107,101]:=by unfold Cs;decide
def aCP{st:AJ}{w:List UInt8}(hk:Aw st=A1)(hw:Cs w)(h:B w=Dw\/B w=EO):Bd st (B (w++[32])++noB)=U:=by
 cases hc:Bd st (B (w++[32])++noB) with
 | none=>rfl
 | some o=>
  exfalso;obtain⟨a,_⟩:=(Mf hk).1 hc;rw[Ko (w:=w) (r:=[]) hw (by rw[GL,L_B];simp[L,noB])]at a;have h2:∀v,v=Dw\/v=EO->Bx st v (B [])=U:=by
   rintro v (rfl|rfl)
   .unfold Bx;rw[AB<|by decide,A8<|by decide,aB6]
   .unfold Bx;rw[AB<|by decide,A8<|by decide,aB6]
  rw[h2 _ h]at a;cases a
def aEg{k:AA}{r:A4}{f:Bool}(h:Bd (stT k) r=U):wrR k r f=(k,A3):=by
 unfold wrR;rw[h]
def Tx{k:AA}{r:A4}{f:Bool}(h:(wrR k r f).2=A3):(wrR k r f).1=k:=by
 unfold wrR at h ⊢;split at h
 .rfl
 .cases h
def ajq{k:AA}(h:Av k=A1)(tt un:Int){tx:A4}(ht:tx.size<=1048576):Ve (tKp k,tt,un,tx,())=I ((tKp (EU k tt un tx).1,(EU k tt un tx).2,()),()):=by
 have hk:=Co h;unfold Ve EU;rw[Kk<|D7 h];simp only[A9,h,AD,A6,Nk h,Lg<|D7 h,Q8 ht];rcases tf k.up with e|e
 .rcases tf (B3 ⟨k.id,(stT k).nx,tt,un,tx⟩) with e2|e2
  .have hz:=XX (w:=B [111,119,110,32]) (by rw[BM];decide) e2;simp only[e,e2,AD,BY,CZ,A5];rw[AB (by rw[Bf pb];exact D0),A8<|AZ (by rw[Bg]at hz;omega)];rw[show Jx (tKp k,B [111,119,110,32]++wr ⟨k.id,(stT k).nx,tt,un,tx⟩,A1,())=_ from Uu hk.LP (r:=OD ⟨k.id,(stT k).nx,tt,un,tx⟩) hz A1];simp only[A9];rcases tf (wrR k (OD ⟨k.id,(stT k).nx,tt,un,tx⟩) A1).2 with e3|e3
   .simp only[e3,AD,A6,A5]
   .simp only[e3,AG,A6,A5,Tx e3]
  .simp only[e,e2,AD,BY,Bb,A6,AS,A5]
 .simp only[e,AG,Bh,AP,A5,A6]
def alp{k:AA}(h:Av k=A1)(tt un:Int){tx:A4}(ht:tx.size<=1048576):VK (tKp k,tt,un,tx,())=I ((tKp (EU k tt un tx).1,(EU k tt un tx).2,()),()):=by
 have hk:=Co h;unfold VK EU;rw[K6<|D7 h];simp only[A9,h,AD,A6,Ie h,Ka<|D7 h,W7 ht];rcases tf k.up with e|e
 .rcases tf (B3 ⟨k.id,(stT k).nx,tt,un,tx⟩) with e2|e2
  .have hz:=XX (w:=B [111,119,110,32]) (by rw[BM];decide) e2;simp only[e,e2,AD,A6,CZ,A5];rw[A8<|AZ (by rw[Bg]at hz;omega)];rw[show NS (tKp k,B [111,119,110,32]++wr ⟨k.id,(stT k).nx,tt,un,tx⟩,())=_ from cS hk (r:=OD ⟨k.id,(stT k).nx,tt,un,tx⟩) hz];simp only[A9];rcases tf (wrR k (OD ⟨k.id,(stT k).nx,tt,un,tx⟩) A1).2 with e3|e3
   .simp only[e3,AD,A6,A5]
   .simp only[e3,AG,A6,A5]
  .simp only[e,e2,AD,A6,Bb];have hb:Bd (stT k) (B [111,119,110,32]++noB)=U:=aCP hk.kok agA<|.inl rfl;have hz0:(B [111,119,110,32]++noB).size<=1048576:=by rw[Bg,BM];show 4+0<=1048576;omega
   have hl:=cS hk (r:=B [111,119,110,32]++noB) hz0;rw[aEg hb]at hl;rw[A8<|AZ (show(B [111,119,110,32]).size+noB.size<=4611686018427387904 by rw[BM];show 4+0<=4611686018427387904;omega),hl];rfl
 .simp only[e,AG,AP,A5,A6]
def EB(k:AA)(fr nu:Int):AA×A7×Bool:=
 if k.up&& !decide (AY (stT k).inbox fr nu<0) then
  ((wrR k (Dh Ck fr nu (nA (stT k).inbox (AY (stT k).inbox fr nu).toNat).un) A1).1,
   (if(wrR k (Dh Ck fr nu (nA (stT k).inbox (AY (stT k).inbox fr nu).toNat).un) A1).2 then nA (stT k).inbox (AY (stT k).inbox fr nu).toNat else zN),
   (wrR k (Dh Ck fr nu (nA (stT k).inbox (AY (stT k).inbox fr nu).toNat).un) A1).2)
 else(k,zN,A3)
def Qw(l:List A7)(i:Int): @rd A7 (dfl .note) l i=nA l i.toNat:=rfl
def ju{n:A7}(h:B3 n=A1):(0<=n.fr/\n.fr<=999)/\(0<=n.nu/\n.nu<=999)/\(0<=n.un/\n.un<=999)/\isN n.fr=A1/\isN n.to=A1/\inB n.nu 1 99=A1/\inB n.un 1 999=A1/\n.tx.size<=24/\1<=n.tx.size:=by
 unfold B3 at h;simp only[AI]at h;obtain⟨a,b,c,d,e⟩:=h;have a1:=Af.1 a;have c1:=Af.1 c;have d1:=Af.1 d;unfold LC at e;rw[AI]at e;have e1:=Af.1 e.1;exact⟨J,J,J,a,b,c,d,J,J⟩
def Zi{w:A4}{a b c:Int}(hw:w.size<=10)(ha:0<=a/\a<=999)(hb:0<=b/\b<=999)(hc:0<=c/\c<=999):(Dh w a b c).size<=100:=by
 have h1:=HR ha.1 ha.2;have h2:=HR hb.1 hb.2;have h3:=HR hc.1 hc.2;unfold Dh;simp only[Bg,BM,Bw,C2];omega
def kb{a b c:Int}(ha:0<=a/\a<=999)(hb:0<=b/\b<=999)(hc:0<=c/\c<=999):Nv (a,b,c,())=I ((((((BK a++B [32])++BK b)++B [32])++BK c),()),()):=by
 have h1:=HR ha.1 ha.2;have h2:=HR hb.1 hb.2;have h3:=HR hc.1 hc.2;unfold Nv;simp only[FG (n:=a) J J,FG (n:=b) J J,FG (n:=c) J J,A9];rw[A8<|AZ (by simp only[Bg,BM,Bw,C2];omega),A8<|AZ (by simp only[Bg,BM,Bw,C2];omega),A8<|AZ (by simp only[Bg,BM,Bw,C2];omega),A8<|AZ (by simp only[Bg,BM,Bw,C2];omega)]
def af(w:List UInt8)(a b c:Int):B (w++[32])++((((BK a++B [32])++BK b)++B [32])++BK c)=Dh (B w) a b c:=by
 apply Fm;unfold Dh;simp only[GL,L_B,C7]
def anp{k:AA}(h:Av k=A1)(fr nu:Int):Sa (tKp k,fr,nu,())=I ((tKp (EB k fr nu).1,tN (EB k fr nu).2.1,(EB k fr nu).2.2,()),()):=by
 have hk:=Co h;have hf:=Cl hk.kok;have il:=hf.il;unfold Sa EB;rw[Kk<|D7 h];simp only[A9,h,AD,A6,Nk h,Lg<|D7 h,Hj (l:=(stT k).inbox)<|show(stT k).inbox.length<=1048576 by omega];rcases tf k.up with e|e
 .by_cases hi:AY (stT k).inbox fr nu<0
  .simp only[e,AD,BY,AZ hi,A5,Bb,A6]
  .have hi':0<=AY (stT k).inbox fr nu:=J
   obtain⟨i1,i2,i3,i4⟩:=HM hi';have hn:=Gi hf.i i1;obtain⟨r1,r2,r3,_⟩:=ju hn;rw[i3]at r1;rw[i4]at r2;have hz:=Zi (w:=Ck) (by decide) r1 r2 r3;have hl:=Uu hk.LP (r:=Dh Ck fr nu (nA (stT k).inbox (AY (stT k).inbox fr nu).toNat).un) J A1;simp only[e,AD,BY,Bf hi,A6,AG,CZ,A5,Lm hi',Qw,kb r1 r2 r3,A9];rw[A8<|AZ (by rw[← af [101,97,116]]at hz;rw[Bg]at hz;rw[show(B [101,97,116,32]).size=(B<|[101,97,116]++[32]).size from rfl];omega)];rw[show(B [101,97,116,32])=B ([101,97,116]++[32]) from rfl,af [101,97,116],hl];simp only[A9];rcases tf (wrR k (Dh Ck fr nu (nA (stT k).inbox (AY (stT k).inbox fr nu).toNat).un) A1).2 with e3|e3
   .simp only[e3,AD,A6,A5]
   .simp only[e3,AG,A6,A5,Tx e3]
 .simp only[e,AG,Bh,AP,A5,A6]
def axL{k:AA}(h:Av k=A1)(fr nu:Int):Vh (tKp k,fr,nu,())=I ((tKp (EB k fr nu).1,tN (EB k fr nu).2.1,(EB k fr nu).2.2,()),()):=by
 have hk:=Co h;have hf:=Cl hk.kok;have il:=hf.il;unfold Vh EB;rw[K6<|D7 h];simp only[A9,h,AD,A6,Ie h,Ka<|D7 h,Ja (l:=(stT k).inbox)<|show(stT k).inbox.length<=1048576 by omega];rcases tf k.up with e|e
 .by_cases hi:AY (stT k).inbox fr nu<0
  .simp only[e,AD,BY,AZ hi,A5,Bb,A6]
  .have hi':0<=AY (stT k).inbox fr nu:=J
   obtain⟨i1,i2,i3,i4⟩:=HM hi';have hn:=Gi hf.i i1;obtain⟨r1,r2,r3,_⟩:=ju hn;rw[i3]at r1;rw[i4]at r2;have hz:=Zi (w:=Ck) (by decide) r1 r2 r3;have hl:=cS hk (r:=Dh Ck fr nu (nA (stT k).inbox (AY (stT k).inbox fr nu).toNat).un) J;simp only[e,AD,BY,Bf hi,A6,AG,CZ,A5,Lm hi',Qw,jv (w:=Ck) (by decide) r1 r2 r3,A9,hl];rcases tf (wrR k (Dh Ck fr nu (nA (stT k).inbox (AY (stT k).inbox fr nu).toNat).un) A1).2 with e3|e3
   .simp only[e3,AD,A6,A5]
   .simp only[e3,AG,A6,A5]
 .simp only[e,AG,Bh,AP,A5,A6]
def GJ(k:AA)(fr nu mix:Int):Frame×Bool:=
 if k.up&&(!decide (AY (stT k).held fr nu<0)&&inB mix 0 999) then
  let n:=nA (stT k).held (AY (stT k).held fr nu).toNat
  (⟨1,k.id,Ca k.id n.to,n.fr,n.nu,n.to,n.un,n.tx.size,mix,JA n.tx mix⟩,A1)
 else(zF,A3)
def aen{k:AA}(sm:Eo k)(fr nu mix:Int):UG (tKp k,fr,nu,mix,())=I ((tF (if Av k then GJ k fr nu mix else(zF,A3)).1,(if Av k then GJ k fr nu mix else(zF,A3)).2,()),()):=by
 unfold UG GJ;rw[Kk sm];rcases tf (Av k) with h|h
 .have hk:=Co h;have hf:=Cl hk.kok;have hl:=hf.hl;rcases tf k.up with e|e
  .simp only[A9,h,e,AD,Fa,A6,A5,Nk h,Hj (l:=(stT k).held)<|show(stT k).held.length<=1048576 by omega,Hx,CG,C8,Cp];by_cases hi:AY (stT k).held fr nu<0
   .simp only[AZ hi,Bh,A5,AD,AP,Bb,A6]
   .have hi':0<=AY (stT k).held fr nu:=J
    rcases tf (inB mix 0 999) with e2|e2
    .simp only[Bf hi,e2,AD,Fa,A6,AG,CZ,A5,Lm hi',Qw,ax,ary,A9]
    .simp only[Bf hi,e2,AG,D3,A5,Bb,A6]
  .simp only[A9,h,e,AD,AG,D3,A5,AP,A6]
 .simp only[A9,h,AG,Bh,A5,A6]
def ae9{k:AA}(sm:Eo k)(fr nu mix:Int):UW (tKp k,fr,nu,mix,())=I ((tF (if Av k then GJ k fr nu mix else(zF,A3)).1,(if Av k then GJ k fr nu mix else(zF,A3)).2,()),()):=by
 unfold UW GJ;rw[K6 sm];rcases tf (Av k) with h|h
 .have hk:=Co h;have hf:=Cl hk.kok;have hl:=hf.hl;rcases tf k.up with e|e
  .simp only[A9,h,e,AD,A6,A5,EF];rcases tf (inB mix 0 999) with e2|e2
   .simp only[e2,AD,A6,Ie h,Ja (l:=(stT k).held)<|show(stT k).held.length<=1048576 by omega,A9];by_cases hi:AY (stT k).held fr nu<0
    .simp only[AZ hi,A5,AD,AP,Bb,A6]
    .have hi':0<=AY (stT k).held fr nu:=J
     simp only[Bf hi,A6,AG,CZ,A5,Lm hi',Qw,iz,alo,A9]
   .simp only[e2,AG,A5,Bb,A6]
  .simp only[A9,h,e,AD,AG,A5,AP,A6]
 .simp only[A9,h,AG,A5,A6]
def E7(k:AA):AA×Bool:=if k.up then(pkM k,A1) else(k,A3)
def aDl{k:AA}{st:AJ}(h:Hr k st):JW k.log k.fo (Cd st)=((D9<|Cd st,((D9<|Cd st).size:Int)),A1):=by
 have hrs:=Sk h.kok;have hps:=Ze h.kok;unfold JW;rw[A8 h.sh,A8];rw[AI];refine⟨?_,AZ J⟩;unfold Fo;rw[Cr];exact λx hx=>by
  have:=hrs.1 x hx;exact Af.2 J
def atc{k:AA}(h:Av k=A1):Sg (tKp k,())=I ((tKp (E7 k).1,(E7 k).2,()),()):=by
 have hk:=Co h;have hsm:=QK<|Cl hk.kok;have hP:=zU (lg:=k.log) (fo:=k.fo) (rs:=Cd<|stT k) (Qo h)<|ap hk.kok;rw[aDl hk.LP]at hP;unfold Sg E7;rw[Kk<|D7 h];simp only[A9,h,AD,A6,Nk h,Lg<|D7 h,uo hsm,hk.kok,A5,hP];rcases tf k.up with e|e
 .simp only[e,AD,Fa,A6,A5];unfold pkM;simp only[e]
 .simp only[e,AG,Bh,A5,A6]
def atK{k:AA}(h:Av k=A1):UY (tKp k,())=I ((tKp (E7 k).1,(E7 k).2,()),()):=by
 have hk:=Co h;have hsm:=QK<|Cl hk.kok;have hP:=aBz (lg:=k.log) (fo:=k.fo) (rs:=Cd<|stT k) (Qo h)<|ap hk.kok;rw[aDl hk.LP]at hP;unfold UY E7;rw[K6<|D7 h];simp only[A9,h,AD,A6,Ka<|D7 h];rcases tf k.up with e|e
 .simp only[e,AD,A6,A5,Ie h,xO hsm,hk.kok,hP,A9];unfold pkM;simp only[e]
 .simp only[e,AG,A5,A6]
def EA(k:AA):AA×Bool:=if k.up&& !decide (k.fo=(k.log.size:Int)) then(foM k,A1) else(k,A3)
def ayU{k:AA}(h:Av k=A1):SY (tKp k,())=I ((tKp (EA k).1,(EA k).2,()),()):=by
 have hf:=Df h;have hF:=dk (lg:=k.log) (fo:=k.fo)<|Qo h;rw[show J3 k.log k.fo=(k.log,(k.log.size:Int)) from A8 hf.sh]at hF;unfold SY EA;rw[Kk<|D7 h];simp only[A9,h,AD,A6,Lg<|D7 h];rcases tf k.up with e|e<;>rcases tfp (k.fo=(k.log.size:Int)) with e2|e2<;>simp only[e,e2,AS,Ag,AD,AG,D3,Bh,Fa,CZ,Bb,AP,A5,A6,hF,A9];unfold foM;simp only[e]
def apX{k:AA}(h:Av k=A1):Vn (tKp k,())=I ((tKp (EA k).1,(EA k).2,()),()):=by
 have hf:=Df h;unfold Vn EA;rw[K6<|D7 h];simp only[A9,h,AD,A6,Ka<|D7 h];rcases tf k.up with e|e<;>rcases tfp (k.fo=(k.log.size:Int)) with e2|e2<;>simp only[e,e2,AS,Ag,AD,AG,D3,Bh,Fa,CZ,Bb,AP,A5,A6];rw[show Nj ((tKp k,()))=_ from WR hf.sh];rfl
def ab7{k:AA}(h:Av k=A1)(keep:Int):(faM k keep)=⟨k.id,A3,(Mn k.log k.fo keep).1,(Mn k.log k.fo keep).2,[]⟩:=by
 unfold faM Mn EY;rw[A8 (Df h).sh]
def aem{k:AA}(sm:Eo k)(keep:Int):VY (tKp k,keep,())=I ((tKp<|if Av k then faM k keep else zKp,()),()):=by
 unfold VY;rw[Kk sm];rcases tf (Av k) with h|h
 .simp only[A9,h,AD,A6,A5,adV sm.1,ab7 h]
 .simp only[A9,h,AG,A5,A6]
def atX{k:AA}(sm:Eo k)(keep:Int):TP (tKp k,keep,())=I ((tKp<|if Av k then faM k keep else zKp,()),()):=by
 unfold TP;rw[K6 sm];rcases tf (Av k) with h|h
 .simp only[A9,h,AD,A6,A5,ay8 sm.1,ab7 h]
 .simp only[A9,h,AG,A5,A6]
def aD3{k:AA}(h:Av k=A1)(hu:k.up=A3):k.AE=[]:=by
 rcases(Df h).up with h1|h1
 .rw[hu]at h1;cases h1
 .exact EE h1
def alq{k:AA}(h:Av k=A1):UL (tKp k,())=I ((tKp<|riM k,()),()):=by
 unfold UL riM;rw[Kk<|D7 h];simp only[A9,h,AD,A6];rcases tf k.up with e|e
 .simp only[e,A5,Lg<|D7 h,A9];rw[← e]
 .simp only[e,A6,aD3 h e]
def asl{k:AA}(h:Av k=A1):Ui (tKp k,())=I ((tKp<|riM k,()),()):=by
 unfold Ui riM;rw[K6<|D7 h];simp only[A9,h,AD,A6,Ka<|D7 h]
def nq{hv:List AH}{i:Nat}(h:i<hv.length)(x:AH):hA (hv.set i x) i=x:=by
 rw[hA,BD,eS h];rfl
def anq{l:List AH}{f n:Int}(hl:l.length<=1048576):dz (l,f,n,())=I ((Du l f n,()),()):=by
 have h:kK (l,f,n,0,())=I (if Du l f n<0 then .inr () else .inl (Du l f n,())):=
  PJ (λi=>(l,f,n,(i:Int),())) l.length (λi=>A0 ((hA l i).fr=f)&&A0 ((hA l i).nu=n)) (λi=>(i,())) () (λi hi=>by
   unfold Xz;simp only[Ia hi,AR hi,A5,MP,Cp,Di hi hl];rcases tfp ((hA l i).fr=f) with e|e<;>rcases tfp ((hA l i).nu=n) with e2|e2<;>simp only[e,e2,AS,Ag,CZ,Bb,AP,A5,A6]) (by
   unfold Xz;simp only[Fe,A6])
 unfold dz;rw[h];by_cases e':Du l f n<0
 .have:Du l f n= -1:=by
   rcases FO l.length (λi=>A0 ((hA l i).fr=f)&&A0 ((hA l i).nu=n)) with h|⟨i,h,_⟩
   .exact h.1
   .have:Du l f n=(i:Int):=h;omega
  rw[A8 e',this];rfl
 .rw[AB e'];rfl
def NV(l:List AH)(f n:Int):Du l f n<0\/ ∃i:Nat,Du l f n=(i:Int)/\i<l.length/\(hA l i).fr=f/\(hA l i).nu=n:=by
 rcases FO l.length (λi=>A0 ((hA l i).fr=f)&&A0 ((hA l i).nu=n)) with h|⟨i,h,h2,h3,_⟩
 .left;have:Du l f n= -1:=h.1;omega
 .right;rw[AI]at h3;exact⟨i,h,h2,BT h3.1,BT h3.2⟩
def Ab(hv:List AH)(f:Frame):List AH×Nat:=
 if Du hv f.fr f.nu<0 then((if 3<=hv.length then hv.drop 1 else hv)++[⟨f.fr,f.nu,f.to,f.un,f.sz,[]⟩],(if 3<=hv.length then hv.drop 1 else hv).length)
 else(hv,(Du hv f.fr f.nu).toNat)
def OK{hv:List AH}{f:Frame}:(Ab hv f).2<(Ab hv f).1.length:=by
 unfold Ab;rcases NV hv f.fr f.nu with h|⟨i,h1,h2,_⟩
 .rw[A8 h];simp
 .rw[AB J];show(Du hv f.fr f.nu).toNat<hv.length;omega
def Ul{hv:List AH}{f:Frame}(h:hv.length<=3):(Ab hv f).1.length<=3:=by
 unfold Ab;split
 .simp only[Ar,Jg];split
  .rw[Dd];omega
  .omega
 .exact h
def Ct(mix:Int)(m:AQ):Bool:= !decide (m.nu=mix)
def CC(got:List AQ)(mix:Int)(da:A4):List AQ:=
 (if 14<=(got.filter<|Ct mix).length then(got.filter<|Ct mix).drop 1 else got.filter (Ct mix))++[⟨mix,da⟩]
def jq{p:AQ->Bool}(pre:List AQ)(m:AQ):(pre++[m]).filter p=pre.filter p++if p m then [m] else []:=by
 rw[bm];congr 1;simp only[J6,Ti]
def akR{mix:Int}{da:A4}(post:List AQ):∀(pre:List AQ),(pre++post).length<=1048576->
  aB ((mix,da,()),pre.filter<|Ct mix,pre++post,((pre++post).length:Int),(pre.length:Int),())=I (.inr ((mix,da,()),(pre++post).filter<|Ct mix,())):=by
 induction post with
 | nil=>
  intro pre _;refine BR ?_;unfold eF;simp only[CH,Fe,A6]
 | cons m post ih=>
  intro pre hl;have hlen:pre.length<(pre++m::post).length:=by simp
  have hw:=Di hlen hl;have hf:(pre.filter<|Ct mix).length<=pre.length:=IG _ _;have:=ih (pre++[m]) (by rw[← snoc];exact hl);rw[← snoc]at this;refine B4 ?_ this;unfold eF;simp only[Ia hlen,A5,AR hlen,M5,hw,jq,@Ar _ pre [m],Jg];rcases tfp (m.nu=mix) with e|e
  .have:Ct mix m=A3:=by unfold Ct;simp only[e,AS,AD]
   simp only[e,this,AS,AD,A6,CH]
  .have:Ct mix m=A1:=by unfold Ct;simp only[e,Ag,AG]
   simp only[e,this,Ag,AG,A5];rw[A8<|B9 (by simp at hl ⊢; omega)]
def afs{got:List AQ}{mix:Int}{da:A4}(hl:got.length<=1048576):bQ (got,(mix,da,()),())=I ((CC got mix da,()),()):=by
 have hf:(got.filter<|Ct mix).length<=got.length:=IG _ _;unfold bQ CC;rw[show aB ((mix,da,()),[],got,(got.length:Int),0,())=_ from akR got [] hl];simp only[AO,A9,EW];by_cases h:14<=(got.filter<|Ct mix).length
 .rw[A8<|AZ J,A8 h,A8 (by simp;omega),A8<|Fs (by rw[Dd];omega)<|by simp];rfl
 .rw[AB (by rw[Bf J];exact D0),AB h,A8<|Fs J<|by simp]
def apl{k:Int×Bool×A4×Int×List AH×A2}{f:Frame}{z:Int×Bool×A4×Int×List AH×A2}{i:Int}{h:AH}(post:List AQ):∀(pre:List AQ),h.got=pre++post->(pre++post).length<=1048576->
  c9 (k,tF f,z,i,(h.fr,h.nu,h.to,h.un,h.sz,h.got,()),pre.filter<|Ct f.mix,(pre.length:Int),())=I (.inr (k,tF f,z,i,(h.fr,h.nu,h.to,h.un,h.sz,h.got,()),h.got.filter<|Ct f.mix,())):=by
 induction post with
 | nil=>
  intro pre hg _;rw[CH]at hg;refine BR ?_;unfold aJ;simp only[hg,Fe,A6]
 | cons m post ih=>
  intro pre hg hl;have hlen:pre.length<(pre++m::post).length:=by simp
  have hw:=Di hlen hl;have hf:(pre.filter<|Ct f.mix).length<=pre.length:=IG _ _;have:=ih (pre++[m]) (by rw[hg,snoc]) (by rw[← snoc];exact hl);refine B4 ?_ this;unfold aJ;simp only[hg,Ia hlen,A5,AR hlen,M5,hw,jq,@Ar _ pre [m],Jg];rcases tfp (m.nu=f.mix) with e|e
  .have:Ct f.mix m=A3:=by unfold Ct;simp only[e,AS,AD]
   simp only[e,this,AS,AD,A6,CH]
  .have:Ct f.mix m=A1:=by unfold Ct;simp only[e,Ag,AG]
   simp only[e,this,Ag,AG,A5];rw[A8<|B9 (by simp at hl ⊢; omega)]
def Db(hv:List AH)(i:Nat):List AH:=hv.take i++hv.drop (i+1)
def wE{hv:List AH}{i:Nat}(hi:i<hv.length)(hl:hv.length<=1048576):OZ (hv,(i:Int),())=I ((Db hv i,()),()):=by
 unfold OZ Db;simp only[Bu,EW];rw[Di hi hl,A8 (by simp;omega),A8<|Fs (l:=([]:List AH)) (by simp) (by simp;omega),A8 (by simp;omega),A8<|Fs (by simp;omega) (by simp;omega),Bu]
def By(hv:List AH)(i:Nat)(f:Frame):List AH:=hv.set i ⟨(hA hv i).fr,(hA hv i).nu,(hA hv i).to,(hA hv i).un,(hA hv i).sz,CC (hA hv i).got f.mix f.da⟩
def Mk(h:AH)(f:Frame):Bool:=A0 (h.to=f.to)&&(A0 (h.un=f.un)&&A0 (h.sz=f.sz))
def anW{k:AA}(sm:Eo k)(h3:k.AE.length<=3)(f:Frame):
  dn (tKp k,tF f,())=I ((if Mk (hA (Ab k.AE f).1 (Ab k.AE f).2) f then((k.id,k.up,k.log,k.fo,By (Ab k.AE f).1 (Ab k.AE f).2 f,()),((Ab k.AE f).2:Int),()) else((k.id,k.up,k.log,k.fo,(Ab k.AE f).1,()),-1,()),())):=by
 obtain⟨id,up,lg,fo,hv⟩:=k;obtain⟨sl,hl,hs⟩:=sm;simp only at sl hl hs h3;unfold dn;simp only[anq hl,A9];have Dg:=OK (hv:=hv) (f:=f);have Ld:=Ul (hv:=hv) (f:=f) h3;have Sy:(hA (Ab hv f).1 (Ab hv f).2).got.length<=1048576:=by
  unfold Ab;rcases NV hv f.fr f.nu with h|⟨i,h1,h2,_⟩
  .rw[A8 h];simp only;rw[hA,BD,EC<|As _];simp
  .rw[AB J];show(hA hv (Du hv f.fr f.nu).toNat).got.length<=1048576;rw[h1,Bu,FZ h2];exact(hs _<|CQ h2).1
 have k0:∀ {Ω:Type} (F:(Int×Bool×A4×Int×List AH×A2)×(Int×Int×Int×Int×Int×Int×Int×Int×Int×A4×A2)×(Int×Bool×A4×Int×List AH×A2)×Int×A2->Option Ω),
   BF F ((if(A0<|Du hv f.fr f.nu<0) then
    (BF (X:=(Int×Bool×A4×Int×List AH×A2)×(Int×Int×Int×Int×Int×Int×Int×Int×Int×A4×A2)×(Int×Bool×A4×Int×List AH×A2)×A2) (λj7=>
    (if Ac (j7.1.2.2.2.2.1.length+([(AH.mk j7.2.1.2.2.2.1 j7.2.1.2.2.2.2.1 j7.2.1.2.2.2.2.2.1 j7.2.1.2.2.2.2.2.2.1 j7.2.1.2.2.2.2.2.2.2.1 ([]:List AQ))]:List AH).length) then
    let v9:=(w64<|((j7.1.2.2.2.2.1++([(AH.mk j7.2.1.2.2.2.1 j7.2.1.2.2.2.2.1 j7.2.1.2.2.2.2.2.1 j7.2.1.2.2.2.2.2.2.1 j7.2.1.2.2.2.2.2.2.2.1 ([]:List AQ))]:List AH)).length:Int) - 1)
    I (.inr ((j7.1.1,j7.1.2.1,j7.1.2.2.1,j7.1.2.2.2.1,(j7.1.2.2.2.2.1++([(AH.mk j7.2.1.2.2.2.1 j7.2.1.2.2.2.2.1 j7.2.1.2.2.2.2.2.1 j7.2.1.2.2.2.2.2.2.1 j7.2.1.2.2.2.2.2.2.2.1 ([]:List AQ))]:List AH)),()),j7.2.1,j7.2.2.1,v9,()))
    else U))
    ((if(A0<|3<=(hv.length:Int)) then
    (OZ (hv,0,())).bind λr8=>
    I (.inr ((id,up,lg,fo,r8.1),tF f,(0,A3,noB,0,([]:List AH),()),()))
    else
    I (.inr ((id,up,lg,fo,hv,()),tF f,(0,A3,noB,0,([]:List AH),()),())))))
    else
    I (.inr ((id,up,lg,fo,hv,()),tF f,(0,A3,noB,0,([]:List AH),()),(Du hv f.fr f.nu,())))))=F ((id,up,lg,fo,(Ab hv f).1,()),tF f,(0,A3,noB,0,[],()),((Ab hv f).2:Int),()):=by
  intro Ω F;unfold Ab;rcases NV hv f.fr f.nu with h|⟨i,h1,h2,_⟩
  .rw[A8<|AZ h,A8 h];by_cases h4:3<=hv.length
   .have hd:=wE (hv:=hv) (i:=0) J hl;rw[A8<|AZ J,show OZ (hv,0,())=_ from hd];simp only[A9,Bi,A8 h4];rw[show Db hv 0=hv.drop 1 from by simp[Db],A8<|Fs (by simp;omega)<|by simp,Bi,Aa (by first|(simp;done)|(simp;omega)) (by first|(simp;done)|(simp;omega))];congr 1;simp
   .rw[AB (by rw[Bf J];exact D0)];simp only[Bi,AB h4];rw[A8<|Fs J<|by simp,Bi,Aa (by first|(simp;done)|(simp;omega)) (by first|(simp;done)|(simp;omega))];congr 1;simp
  .rw[AB (by rw[Bf J];exact D0),AB<|show ¬Du hv f.fr f.nu<0 by omega,Bi];simp only;rw[h1,Bu]
 rw[k0];revert Dg Ld Sy;generalize (Ab hv f).1=l;generalize (Ab hv f).2=i;intro Dg Ld Sy;unfold Mk;have hff:((hA l i).got.filter<|Ct f.mix).length<=(hA l i).got.length:=IG _ _;simp only[AR Dg,A5,MP,Bu];rcases tfp ((hA l i).to=f.to) with e1|e1<;>simp only[e1,AS,Ag,AD,AG,A6,A5,AX,AP];rcases tfp ((hA l i).un=f.un) with e2|e2<;>simp only[e2,AS,Ag,AD,AG,A6,A5,AX,AP];rcases tfp ((hA l i).sz=f.sz) with e3|e3<;>simp only[e3,AS,Ag,AD,AG,A6,A5];have hgo:=apl (k:=(id,up,lg,fo,l,())) (f:=f) (z:=(0,A3,noB,0,[],())) (i:=(i:Int)) (h:=hA l i) (hA l i).got [] rfl Sy;rw[show c9 ((id,up,lg,fo,l,()),tF f,(0,A3,noB,0,[],()),(i:Int),((hA l i).fr,(hA l i).nu,(hA l i).to,(hA l i).un,(hA l i).sz,(hA l i).got,()),[],0,())=_ from hgo];simp only[AO,A9];unfold By CC;by_cases h:14<=((hA l i).got.filter<|Ct f.mix).length
 .rw[A8<|AZ J,A8 h,A8 (by simp;omega),A8<|Fs (l:=([]:List AQ)) (by simp) (by rw[Dd];omega),Bi];simp only[EW,show AM 1=1 from rfl];rw[A8<|Fs (by rw[Dd];omega)<|by simp,A8<|AR Dg];rfl
 .rw[AB (by rw[Bf J];exact D0),AB h,Bi];dsimp only;rw[A8<|Fs J<|by simp,A8<|AR Dg];rfl
def Ez(kind:Int)(f:Frame):Frame:=⟨kind,f.dst,f.src,f.fr,f.nu,f.to,f.un,0,0,noB⟩
def GP(n:A7):A4:=B [116,97,107,101,32]++wr n
abbrev GY(k:AA)(hv:List AH):AA:=⟨k.id,k.up,k.log,k.fo,hv⟩
def HG(k:AA)(n:A7)(f:Frame):AA×List Frame:=
 if B3 n&&(wrR k (GP n) A1).2 then((wrR k (GP n) A1).1,[Ez 2 f]) else(k,[])
def GG(k:AA)(f:Frame):AA×List Frame:=
 if Mk (hA (Ab k.AE f).1 (Ab k.AE f).2) f then
  (if(Ch f.sz<|CC (hA (Ab k.AE f).1 (Ab k.AE f).2).got f.mix f.da).2 then
   HG (GY k<|Db (By (Ab k.AE f).1 (Ab k.AE f).2 f) (Ab k.AE f).2) ⟨f.fr,f.nu,f.to,f.un,(Ch f.sz<|CC (hA (Ab k.AE f).1 (Ab k.AE f).2).got f.mix f.da).1⟩ f
  else(GY k<|By (Ab k.AE f).1 (Ab k.AE f).2 f,[]))
 else(GY k (Ab k.AE f).1,[])
def G4(k:AA)(f:Frame):AA×List Frame:=
 if f.un<=(stT k).ti then(k,[Ez 3 f])
 else if 0<=AY (stT k).held f.fr f.nu\/0<=Bo (stT k).marks f.fr f.nu then(foM k,[Ez 2 f])
 else if f.fr=k.id then(k,[])
 else GG k f
def wi{s:Int}{l:List AQ}:(Ch s l).1.size<=24:=by
 unfold Ch;split
 .rename_i h;have h1:=Af.1 h;split
  .exact Cw _
  .rename_i c hc;split
   .have hb:inB (B0 (s+3) 4) 1 6=A1:=by
     have hd:B0 (s+3) 4=(s+3) / 4:=GF J;exact Af.2 J
    have hk:=oq hb l;have hz:=YQ hk.all hc;have hz0:noB.size=0:=rfl;have hd:B0 (s+3) 4=(s+3) / 4:=GF J;rw[hk.1,hz0]at hz;rw[FT J];omega
   .exact Cw _
 .exact Cw _
def zP(got:List AQ)(mix:Int)(da:A4):(CC got mix da).length<=got.length+1:=by
 have hf:(got.filter<|Ct mix).length<=got.length:=IG _ _;unfold CC;simp only[Ar,Jg];split
 .rw[Dd];omega
 .omega
def wB{h:AH}(ok:Fp h=A1):h.got.length<=14:=by
 unfold Fp at ok;simp only[AI]at ok;have h1:=BT ok.2.2.2.2.2.1;omega
def re{hv:List AH}{f:Frame}(hs:∀h∈hv,Fp h=A1):(hA (Ab hv f).1 (Ab hv f).2).got.length<=14:=by
 unfold Ab;rcases NV hv f.fr f.nu with h|⟨i,h1,h2,_⟩
 .rw[A8 h];simp only;rw[hA,BD,EC<|As _];simp
 .rw[AB J];show(hA hv (Du hv f.fr f.nu).toNat).got.length<=14;rw[h1,Bu,FZ h2];exact wB<|hs _<|CQ h2
def aEq{k:AA}{st:AJ}(h:Hr k st)(hv:List AH):Hr (GY k hv) st:=⟨h.sh,h.st⟩
def tA{k:AA}(h:Av k=A1):∀x∈k.AE,Fp x=A1:=by
 intro x hx;obtain⟨i,hi,rfl⟩:=bZ hx;have:=(Df h).hv i hi;unfold Fy at this;rw[AI]at this;exact this.1
def apP{k:AA}(h:Av k=A1){f:Frame}(hf:CP f=A1)(h1:f.ki=1):SW (tKp k,tF f,())=I ((tKp (G4 k f).1,(G4 k f).2,()),()):=by
 have hk:=Co h;have hkf:=Cl hk.kok;have sm:=D7 h;have kf:=Df h;have hF:=dk (lg:=k.log) (fo:=k.fo)<|Qo h;rw[show J3 k.log k.fo=(k.log,(k.log.size:Int)) from A8 kf.sh]at hF;have hl:=hkf.hl;have ml:=hkf.ml;have hfr:inB f.sz 1 24=A1/\inB f.mix 0 999=A1:=by
  unfold CP LX at hf;simp only[AI]at hf;have:=hf.2.2.2.2.2.2;rw[A8<|AZ h1]at this;simp only[AI]at this;exact⟨this.1,this.2.1⟩
 have hsz:=Af.1 hfr.1;have hmx:De (B0 (f.sz+3) 4) f.mix=A1:=by
  have hd:B0 (f.sz+3) 4=(f.sz+3) / 4:=GF J;unfold De;rw[hfr.2,L8];exact Af.2 J
 unfold SW G4;simp only[Nk h,A9];by_cases c1:f.un<=(stT k).ti
 .rw[A8<|AZ c1,A8 c1];rfl
 .rw[AB (by rw[Bf c1];exact D0),AB c1];simp only[Hj (l:=(stT k).held)<|show(stT k).held.length<=1048576 by omega,R7 (l:=(stT k).marks)<|show(stT k).marks.length<=1048576 by omega,A9,CG,C8,Cp,A5];by_cases c2:0<=AY (stT k).held f.fr f.nu\/0<=Bo (stT k).marks f.fr f.nu
  .rw[A8 (by rw[Ci];exact c2.imp AZ AZ),A8 c2];simp only[hF,A9];rfl
  .rw[AB (by rw[Ci];exact λh=>c2<|h.imp BT BT),AB c2];simp only[db (n:=f.sz) J J,bz,hmx,CG,C8,Cp,A5,AD,EX];by_cases c3:f.fr=k.id
   .rw[A8<|AZ c3,A8 c3]
   .rw[AB (by rw[Bf c3];exact D0),AB c3];have rX:=anW sm kf.hl f;rw[rX];simp only[A9];unfold GG;rcases tf (Mk (hA (Ab k.AE f).1 (Ab k.AE f).2) f) with c4|c4
    .have Dg:=OK (hv:=k.AE) (f:=f);have Ld:=Ul (hv:=k.AE) (f:=f) kf.hl;have hal:(By (Ab k.AE f).1 (Ab k.AE f).2 f).length=(Ab k.AE f).1.length:=by unfold By;rw[Es]
     have mL:=re (f:=f)<|tA h;have hgl:=zP (hA (Ab k.AE f).1 (Ab k.AE f).2).got f.mix f.da;have Sy:(hA (By (Ab k.AE f).1 (Ab k.AE f).2 f) (Ab k.AE f).2).got=CC (hA (Ab k.AE f).1 (Ab k.AE f).2).got f.mix f.da:=by
      unfold By;rw[nq Dg]
     simp only[c4,A5];rw[AB (by rw[Bf J];exact D0),A8<|AR (by rw[hal];exact Dg)];simp only[MP,Sy,akH f.sz _<|show(CC (hA (Ab k.AE f).1 (Ab k.AE f).2).got f.mix f.da).length<=1048576 by omega,A9];rcases tf (Ch f.sz<|CC (hA (Ab k.AE f).1 (Ab k.AE f).2).got f.mix f.da).2 with c5|c5
     .simp only[c5,AD,A6,A5];rw[wE (by rw[hal];exact Dg) (by rw[hal];omega)];simp only[A9];rw[Q8 (by have:=wi (s:=f.sz) (l:=CC (hA (Ab k.AE f).1 (Ab k.AE f).2).got f.mix f.da);omega)];simp only[A9];unfold HG;generalize hn:(⟨f.fr,f.nu,f.to,f.un,(Ch f.sz<|CC (hA (Ab k.AE f).1 (Ab k.AE f).2).got f.mix f.da).1⟩:A7)=n;rcases tf (B3 n) with c6|c6
      .have hz:=XX (w:=B [116,97,107,101,32]) (by rw[BM];decide) c6;have hw:=Uu (aEq hk.LP<|Db (By (Ab k.AE f).1 (Ab k.AE f).2 f) (Ab k.AE f).2) (r:=GP n) hz A1;simp only[c6,A5,AX];rw[AB (by rw[Bf pb];exact D0),A8<|AZ (by rw[Bg]at hz;omega)];rw[show Jx ((k.id,k.up,k.log,k.fo,Db (By (Ab k.AE f).1 (Ab k.AE f).2 f) (Ab k.AE f).2,()),B [116,97,107,101,32]++wr n,A1,())=_ from hw];simp only[A9];rcases tf (wrR (GY k<|Db (By (Ab k.AE f).1 (Ab k.AE f).2 f) (Ab k.AE f).2) (GP n) A1).2 with c7|c7
       .simp only[c7,AD,A6,A5];rfl
       .simp only[c7,AG,A6,A5,Tx c7]
      .simp only[c6,A6,AS,A5,AP]
     .simp only[c5,AG,A6,A5]
    .simp only[c4,A6];rfl
def aqC{k:AA}(h:Av k=A1){f:Frame}:VU (tKp k,tF f,())=I ((tKp (G4 k f).1,(G4 k f).2,()),()):=by
 have hk:=Co h;have hkf:=Cl hk.kok;have sm:=D7 h;have kf:=Df h;have hl:=hkf.hl;have ml:=hkf.ml;have hl3:=kf.hl;have hlen:k.AE.length<=1048576:=J
 unfold VU G4;simp only[Ie h,A9];by_cases c1:f.un<=(stT k).ti
 .rw[A8<|AZ c1,A8 c1];rfl
 .rw[AB (by rw[Bf c1];exact D0),AB c1];simp only[Ja (l:=(stT k).held)<|show(stT k).held.length<=1048576 by omega,Rm (l:=(stT k).marks)<|show(stT k).marks.length<=1048576 by omega,A9,CG,C8,Cp,A5];by_cases c2:0<=AY (stT k).held f.fr f.nu\/0<=Bo (stT k).marks f.fr f.nu
  .rw[A8 (by rw[Ci];exact c2.imp AZ AZ),A8 c2,WR kf.sh];rfl
  .rw[AB (by rw[Ci];exact λh=>c2<|h.imp BT BT),AB c2];by_cases c3:f.fr=k.id
   .rw[A8<|AZ c3,A8 c3]
   .rw[AB (by rw[Bf c3];exact D0),AB c3];simp only[abF hlen,A9];have Dg:=OK (hv:=k.AE) (f:=f);have Ld:=Ul (hv:=k.AE) (f:=f) kf.hl;have mL:=re (f:=f)<|tA h;have k0:∀ {Ω:Type} (F:(Int×Bool×A4×Int×List AH×A2)×(Int×Int×Int×Int×Int×Int×Int×Int×Int×A4×A2)×(Int×Bool×A4×Int×List AH×A2)×Int×A2->Option Ω),
      BF F ((if(A0<|Du k.AE f.fr f.nu<0) then
      (if Ac (k.AE.length+([(AH.mk f.fr f.nu f.to f.un f.sz ([]:List AQ))]:List AH).length) then
      (if(A0<|3<((k.AE++([(AH.mk f.fr f.nu f.to f.un f.sz ([]:List AQ))]:List AH)).length:Int)) then
      (if(A0 (0<=1)&&A0 (1<=((k.AE++([(AH.mk f.fr f.nu f.to f.un f.sz ([]:List AQ))]:List AH)).length:Int))) then
      let v22:=(w64<|((Bs (AM 1)<|k.AE++([(AH.mk f.fr f.nu f.to f.un f.sz ([]:List AQ))]:List AH)).length:Int) - 1)
      I (.inr ((k.id,k.up,k.log,k.fo,(Bs (AM 1)<|k.AE++([(AH.mk f.fr f.nu f.to f.un f.sz ([]:List AQ))]:List AH)),()),tF f,(0,A3,noB,0,([]:List AH),()),v22,()))
      else U)
      else
      let v23:=(w64<|((k.AE++([(AH.mk f.fr f.nu f.to f.un f.sz ([]:List AQ))]:List AH)).length:Int) - 1)
      I (.inr ((k.id,k.up,k.log,k.fo,(k.AE++([(AH.mk f.fr f.nu f.to f.un f.sz ([]:List AQ))]:List AH)),()),tF f,(0,A3,noB,0,([]:List AH),()),v23,())))
      else U)
      else
      I (.inr (tKp k,tF f,(0,A3,noB,0,([]:List AH),()),(Du k.AE f.fr f.nu,())))))=F ((k.id,k.up,k.log,k.fo,(Ab k.AE f).1,()),tF f,(0,A3,noB,0,[],()),((Ab k.AE f).2:Int),()):=by
     intro Ω F;unfold Ab;rcases NV k.AE f.fr f.nu with h|⟨i,h1,h2,_⟩
     .rw[A8<|AZ h,A8 h,A8<|Fs hlen<|by simp];by_cases h4:3<=k.AE.length
      .rw[A8<|AZ (by simp;omega),A8 (by simp;omega),A8 h4];have e1:Bs (AM 1) (k.AE++[(⟨f.fr,f.nu,f.to,f.un,f.sz,[]⟩:AH)])=k.AE.drop 1++[⟨f.fr,f.nu,f.to,f.un,f.sz,[]⟩]:=by
        show Bs 1 _=_;rw[lJ J]
       simp only[e1];rw[Bi,Aa (by first|(simp;done)|(simp;omega)) (by first|(simp;done)|(simp;omega))];congr 1;simp
      .rw[AB (by simp;omega),AB h4];simp only;rw[Bi,Aa (by first|(simp;done)|(simp;omega)) (by first|(simp;done)|(simp;omega))];congr 1;simp
     .rw[AB (by rw[Bf J];exact D0),AB<|show ¬Du k.AE f.fr f.nu<0 by omega,Bi];simp only;rw[h1,Bu]
    rw[k0];have hgl:=zP (hA (Ab k.AE f).1 (Ab k.AE f).2).got f.mix f.da;unfold GG;have hLg:=λhv=>aEq hk.LP hv;revert Dg Ld mL hgl;generalize (Ab k.AE f).1=l;generalize (Ab k.AE f).2=i;intro Dg Ld mL hgl;have ag4:l.set i ⟨(hA l i).fr,(hA l i).nu,(hA l i).to,(hA l i).un,(hA l i).sz,CC (hA l i).got f.mix f.da⟩=By l i f:=rfl;have hal:(By l i f).length=l.length:=by unfold By;rw[Es]
    have hat:hA (By l i f) i=⟨(hA l i).fr,(hA l i).nu,(hA l i).to,(hA l i).un,(hA l i).sz,CC (hA l i).got f.mix f.da⟩:=nq Dg _;simp only[AR Dg,A5,MP,Bu];unfold Mk;rcases tfp ((hA l i).to=f.to) with e1|e1<;>simp only[e1,AS,Ag,AD,AG,A6,A5,AX,AP];rcases tfp ((hA l i).un=f.un) with e2|e2<;>simp only[e2,AS,Ag,AD,AG,A6,A5,AX,AP];rcases tfp ((hA l i).sz=f.sz) with e3|e3<;>simp only[e3,AS,Ag,AD,AG,A6,A5];have e3':(hA l i).sz=f.sz:=of_eq_true e3;rw[afs<|show(hA l i).got.length<=1048576 by omega];simp only[A9,ag4,hat];rw[e3'];rw[afE f.sz _<|show(CC (hA l i).got f.mix f.da).length<=1048576 by omega];simp only[A9];rcases tf (Ch f.sz<|CC (hA l i).got f.mix f.da).2 with c5|c5
    .simp only[c5,AD,A6,A5];rw[A8 (by simp;omega),A8<|Fs (l:=([]:List AH)) (by simp) (by simp;omega),Di (n:=i) (m:=l.length) Dg J,A8 (by simp;omega),A8<|Fs (by simp;omega) (by simp;omega)];rw[W7 (by have:=wi (s:=f.sz) (l:=CC (hA l i).got f.mix f.da);omega)];simp only[A9,EW,Bu];unfold HG;generalize hn:(⟨f.fr,f.nu,f.to,f.un,(Ch f.sz<|CC (hA l i).got f.mix f.da).1⟩:A7)=n;have hL:=hLg<|Db (By l i f) i;have hdr:BU i (By l i f)++Bs (i+1) (By l i f)=Db (By l i f) i:=rfl;rw[hdr];rcases tf (B3 n) with c6|c6
     .have hz:=XX (w:=B [116,97,107,101,32]) (by rw[BM];decide) c6;have hw:=ah hL (r:=GP n) hz;simp only[c6,A5,AX];rw[A8<|AZ (by rw[Bg]at hz;omega)];rw[show NR ((k.id,k.up,k.log,k.fo,Db (By l i f) i,()),B [116,97,107,101,32]++wr n,())=_ from hw];simp only[A9];unfold wrR;rw[hL.stT];cases hc:Bd (stT k) (GP n) with
      | none=>rfl
      | some o=>
       simp only[AD,A6,A5];rw[WR<|uF hL hc];rfl
     .have hb:Bd (stT k) (B [116,97,107,101,32]++noB)=U:=aCP hk.kok yi<|.inr rfl;have hz0:(B [116,97,107,101,32]++noB).size<=1048576:=by rw[Bg,BM];show 5+0<=1048576;omega
      have hw:=ah hL (r:=B [116,97,107,101,32]++noB) hz0;rw[aEg (by rw[hL.stT];exact hb)]at hw;simp only[c6,A6,AP];rw[A8<|AZ (show(B [116,97,107,101,32]).size+noB.size<=4611686018427387904 by rw[BM];show 5+0<=4611686018427387904;omega)];rw[show NR ((k.id,k.up,k.log,k.fo,Db (By l i f) i,()),B [116,97,107,101,32]++noB,())=_ from hw];rfl
    .simp only[c5,AG,A6,A5]
def Nf{α β:Type}[DecidableEq β]{l:List α}{f:α->β}:(l.map f).Nodup↔ ∀(i j:Nat) (hi:i<l.length) (hj:j<l.length),j<i->f l[j]≠f l[i]:=by
 unfold List.Nodup;rw[qw];constructor
 .intro h i j hi hj hlt;have:=h j i (by simpa using hj) (by simpa using hi) hlt;simpa using this
 .intro h i j hi hj hlt;have:=h j i (by simpa using hj) (by simpa using hi) hlt;simpa using this
def fK{l:List AQ}{i:Nat}(h:i<l.length):xA l i=l[i]:=by
 rw[xA,BD,Ax h];rfl
def HZ(m:AQ):Prop:=inB m.nu 0 999=A1/\(m.da.size:Int)=4
structure Pw (l:List AQ):Prop where
 el:∀m∈l,HZ m
 nd:(l.map (·.nu)).Nodup
def aAE{l:List AQ}:Ae l.length (IV l)=A1↔Pw l:=by
 rw[CO];constructor
 .intro h;refine⟨λm hm=> ?_,Nf.2 λi j hi hj hlt=> ?_⟩
  .obtain⟨i,hi,rfl⟩:=uC hm;have:=h i hi;unfold IV at this;simp only[AI]at this;exact⟨this.1.1,BT this.1.2⟩
  .have:=h i hi;unfold IV at this;simp only[AI]at this;have:=CO.1 this.2 j hlt;rw[fK hi,fK hj]at this;simpa using this
 .intro h i hi;unfold IV;simp only[AI];have h1:=h.el l[i] (CQ hi);rw[fK hi];refine⟨⟨h1.1,AZ h1.2⟩,CO.2 λj hj=> ?_⟩;have:=Nf.1 h.nd i j hi J hj;rw[fK<|show j<l.length by omega];simpa using this
def ago{l:List AQ}(h:Pw l)(hl:l.length<=14){mix:Int}{da:A4}(hm:HZ ⟨mix,da⟩):Pw (CC l mix da)/\(CC l mix da).length<=14:=by
 have hf:(l.filter<|Ct mix).length<=l.length:=IG _ _;have Jd:∀g:List AQ,g.Sublist (l.filter<|Ct mix)->Pw (g++[⟨mix,da⟩]):=by
  intro g hg;refine⟨λm hm'=> ?_, ?_⟩
  .rcases Br.1 hm' with h1|h1
   .exact h.el m (Gy.1<|hg.subset h1).1
   .rw[DB.1 h1];exact hm
  .rw[Ev,L7];refine⟨h.nd.sublist<|(hg.trans List.filter_sublist).map _,by simp,λa ha b hb=> ?_⟩;obtain⟨m,h1,rfl⟩:=DP.1 ha;have h2:=(Gy.1<|hg.subset h1).2;have hb:b=mix:=by simpa using hb
   rw[hb];unfold Ct at h2;simpa using h2
 unfold CC;split
 .refine⟨Jd _<|cj _ _, ?_⟩;simp only[Ar,Jg,Dd];omega
 .refine⟨Jd _<|Em _, ?_⟩;simp only[Ar,Jg];omega
abbrev G6(h:AH):Int×Int:=(h.fr,h.nu)
structure JQ (l:List AH):Prop where
 el:∀h∈l,Fp h=A1
 nd:(l.map G6).Nodup
def ZN{l:List AH}:(∀i,i<l.length->Fy l i=A1)↔JQ l:=by
 constructor
 .intro h;refine⟨λm hm=> ?_,Nf.2 λi j hi hj hlt=> ?_⟩
  .obtain⟨i,hi,rfl⟩:=bZ hm;have:=h i hi;unfold Fy at this;rw[AI]at this;exact this.1
  .have:=h i hi;unfold Fy at this;rw[AI]at this;have:=CO.1 this.2 j hlt;rw[FZ hi,FZ hj]at this;intro e;simp only[G6,CM]at e;simp[e.1,e.2]at this
 .intro h i hi;unfold Fy;rw[AI];refine⟨by rw[FZ hi];exact h.el _<|CQ hi,CO.2 λj hj=> ?_⟩;have:=Nf.1 h.nd i j hi J hj;rw[FZ hi,FZ<|show j<l.length by omega];simp only[G6,ne_eq,CM,not_and]at this;by_cases e:l[j].fr=l[i].fr
  .simp[e,this e]
  .simp[e]
def Oa{f:Frame}(h:CP f=A1):isN f.src=A1/\isN f.dst=A1/\isN f.fr=A1/\isN f.to=A1/\inB f.nu 1 99=A1/\inB f.un 1 999=A1/\LX f=A1:=by
 unfold CP at h;simp only[AI]at h;exact h
def Qn{f:Frame}(h:CP f=A1)(h1:f.ki=1):inB f.sz 1 24=A1/\HZ ⟨f.mix,f.da⟩/\f.dst=Ca f.src f.to:=by
 have:=(Oa h).2.2.2.2.2.2;unfold LX at this;rw[A8<|AZ h1]at this;simp only[AI]at this;exact⟨this.1,⟨this.2.1,BT this.2.2.1⟩,BT this.2.2.2⟩
def JQ.sub{l g:List AH}(h:JQ l)(hg:g.Sublist l):JQ g:=⟨λx hx=>h.el x<|hg.subset hx,h.nd.sublist<|hg.map _⟩
def fy{l:List AH}(h:JQ l){f:Frame}(hf:CP f=A1)(h1:f.ki=1):JQ (Ab l f).1:=by
 obtain⟨_,_,r3,r4,r5,r6,_⟩:=Oa hf;have hp:=Qn hf h1;unfold Ab;split
 .rename_i hi;have VO:∀x∈l,G6 x≠(f.fr,f.nu):=by
   intro x hx e;obtain⟨i,hi',rfl⟩:=bZ hx;simp only[G6,CM]at e;rcases FO l.length (λi=>A0 ((hA l i).fr=f.fr)&&A0 ((hA l i).nu=f.nu)) with h|⟨i,h,_⟩
   .have:=h.2 i hi';simp[e.1,e.2]at this
   .have:Du l f.fr f.nu=(i:Int):=h;omega
  have Jd:∀g:List AH,g.Sublist l->JQ (g++[⟨f.fr,f.nu,f.to,f.un,f.sz,[]⟩]):=by
   intro g hg;refine⟨λx hx=> ?_, ?_⟩
   .rcases Br.1 hx with h2|h2
    .exact h.el x (hg.subset h2)
    .rw[DB.1 h2];unfold Fp;simp only[r3,r4,r5,r6,hp.1,AX];rfl
   .rw[Ev,L7];refine⟨h.nd.sublist<|hg.map _,by simp,λa ha b hb=> ?_⟩;obtain⟨m,h2,rfl⟩:=DP.1 ha;have hb:b=(f.fr,f.nu):=by simpa using hb
    rw[hb];exact VO m<|hg.subset h2
  simp only;split
  .exact Jd _ (cj _ _)
  .exact Jd _ (Em _)
 .exact h
def aCi{h:AH}(ok:Fp h=A1):Pw h.got/\h.got.length<=14:=by
 have h1:=wB ok;unfold Fp at ok;simp only[AI]at ok;exact⟨aAE.1 ok.2.2.2.2.2.2,h1⟩
def ao1{h:AH}(ok:Fp h=A1){g:List AQ}(hg:Pw g)(hl:g.length<=14):Fp ⟨h.fr,h.nu,h.to,h.un,h.sz,g⟩=A1:=by
 unfold Fp at ok ⊢;simp only[AI]at ok ⊢;exact⟨ok.1,ok.2.1,ok.2.2.1,ok.2.2.2.1,ok.2.2.2.2.1,AZ J,aAE.2 hg⟩
def qo{l:List AH}(h:JQ l){i:Nat}(hi:i<l.length){f:Frame}(hm:HZ ⟨f.mix,f.da⟩):JQ (By l i f):=by
 have hh:=h.el l[i] (CQ hi);have hg:=aCi hh;have hn:=ago hg.1 hg.2 hm;unfold By;rw[FZ hi];refine⟨λx hx=> ?_, ?_⟩
 .rcases Ox hx with h1|h1
  .exact h.el x h1
  .rw[h1];exact ao1 hh hn.1 hn.2
 .rw[List.map_set];have:(l.map G6).set i (G6 ⟨l[i].fr,l[i].nu,l[i].to,l[i].un,l[i].sz,CC l[i].got f.mix f.da⟩)=l.map G6:=by
   apply List.ext_getElem (by simp);intro j h1 h2;rw[List.getElem_set];split
   .rename_i e;subst e;simp
   .rfl
  rw[this];exact h.nd
def aaz{l:List AH}(h:JQ l)(i:Nat):JQ (Db l i):=by
 refine h.sub ?_;unfold Db;have:(l.take i++l.drop (i+1)).Sublist (l.take i++l.drop i):=List.Sublist.append (Em _) (by rw[← Js];exact cj _ _);rw[Kh]at this;exact this
def cJ{k:AA}{st:AJ}(h:Cj k st)(hu:k.up=A1){hv:List AH}(hl:hv.length<=3)(hf:JQ hv):Cj (GY k hv) st:=by
 obtain⟨rs,ts,h1,h2⟩:=h.lg;have kf:=Df h.ok;exact⟨Ub (k:=GY k hv) kf.id h1 hl (.inl hu) (by rw[show(GY k hv).id=k.id from rfl,h2];rfl)<|ZN.2 hf,h.st⟩
def RJ{k:AA}{st:AJ}(h:Cj k st)(r:A4)(b:Bool):∃o,Cj (wrR k r b).1 o/\((wrR k r b).2=A1->Bd st r=I o)/\((wrR k r b).2=A3->o=st/\Bd st r=U):=by
 unfold wrR;rw[h.stT];cases hc:Bd st r with
 | none=>exact⟨st,h,(λe=>absurd e D0),λ_=>⟨rfl,rfl⟩⟩
 | some o=>
  refine⟨o, ?_,(λ_=>rfl),λe=>absurd e.symm D0⟩;simp only;split
  .exact Rs (X4 h hc)
  .exact X4 h hc
def rU{k:AA}(h:Av k=A1)(hu:k.up=A1){f:Frame}(hf:CP f=A1)(h1:f.ki=1):Av (G4 k f).1=A1:=by
 have hk:=Co h;have kf:=Df h;have hv:=ZN.1 kf.hv;have hp:=Qn hf h1;have Dg:=OK (hv:=k.AE) (f:=f);have Ld:=Ul (hv:=k.AE) (f:=f) kf.hl;have hpf:=fy hv hf h1;have haf:=qo hpf Dg hp.2.1;have hal:(By (Ab k.AE f).1 (Ab k.AE f).2 f).length=(Ab k.AE f).1.length:=by unfold By;rw[Es]
 unfold G4;split
 .exact h
 split
 .exact(Rs hk).ok
 split
 .exact h
 unfold GG;split
 .split
  .unfold HG;have hw:=cJ hk hu (hv:=Db (By (Ab k.AE f).1 (Ab k.AE f).2 f) (Ab k.AE f).2) (by unfold Db;simp;omega)<|aaz haf _;split
   .obtain⟨o,ho,_⟩:=RJ hw (GP ⟨f.fr,f.nu,f.to,f.un,(Ch f.sz<|CC (hA (Ab k.AE f).1 (Ab k.AE f).2).got f.mix f.da).1⟩) A1;exact ho.ok
   .exact hw.ok
  .exact(cJ hk hu (by rw[hal];exact Ld) haf).ok
 .exact(cJ hk hu Ld hpf).ok
def G9(k:AA)(f:Frame):AA×List Frame:=
 if k.up&&(CP f&&A0 (f.dst=k.id)) then
  (if A0 (f.ki=1) then G4 k f
   else if A0 (f.ki=2)&&(!decide (AY (stT k).held f.fr f.nu<0)&&(A0 ((nA (stT k).held (AY (stT k).held f.fr f.nu).toNat).to=f.to)&&A0 ((nA (stT k).held (AY (stT k).held f.fr f.nu).toNat).un=f.un))) then
    ((wrR k (Dh CY f.fr f.nu f.un) A3).1,[])
   else(k,[]))
 else(k,[])
def BI(k:AA)(f:Frame):AA×List Frame:=if Av k then G9 k f else(zKp,[])
def px{f:Frame}(h:CP f=A1):(0<=f.fr/\f.fr<=999)/\(0<=f.nu/\f.nu<=999)/\(0<=f.un/\f.un<=999):=by
 obtain⟨_,_,r3,_,r5,r6,_⟩:=Oa h;have a:=Af.1 r3;have b:=Af.1 r5;have c:=Af.1 r6;exact⟨J,J,J⟩
def aga{k:AA}(sm:Eo k)(f:Frame):SO (tKp k,tF f,())=I ((tKp (BI k f).1,(BI k f).2,()),()):=by
 unfold SO BI;rw[Kk sm];rcases tf (Av k) with h|h
 .have hk:=Co h;have hkf:=Cl hk.kok;have hl:=hkf.hl;have hl':(stT k).held.length<=1048576:=J
  unfold G9;simp only[A9,h,AD,A6,A5,Lg sm,xa,Nk h,Hj hl'];rcases tf k.up with e|e<;>simp only[e,AD,AG,A6,A5,AX,AP];rcases tf (CP f) with e2|e2<;>simp only[e2,AD,AG,A6,A5,AX,AP];rcases tfp (f.dst=k.id) with e3|e3<;>simp only[e3,AS,Ag,AD,AG,A6,A5];obtain⟨r1,r2,r3⟩:=px e2;rcases tfp (f.ki=1) with e4|e4
  .have e4':=of_eq_true e4;simp only[e4,AS,A5];rw[show SW (tKp k,tF f,())=_ from apP h e2 e4'];simp only[A9];rw[Lg<|D7<|rU h e e2 e4'];rfl
  .simp only[e4,Ag,A6];rcases tfp (f.ki=2) with e5|e5<;>simp only[e5,AS,Ag,AD,AG,A6,A5,AX,AP];by_cases hi:AY (stT k).held f.fr f.nu<0
   .simp only[AZ hi,A5,AD,AP,A6]
   .have hi':0<=AY (stT k).held f.fr f.nu:=J
    simp only[Bf hi,A6,AG,AX,A5,Lm hi',Qw];rcases tfp ((nA (stT k).held (AY (stT k).held f.fr f.nu).toNat).un=f.un) with e6|e6<;>simp only[e6,AS,Ag,AD,AG,A6,A5,L8,Bb];rcases tfp ((nA (stT k).held (AY (stT k).held f.fr f.nu).toNat).to=f.to) with e7|e7<;>simp only[e7,AS,Ag,AD,AG,A6,A5];have hz:=Zi (w:=CY) (by decide) r1 r2 r3;have hw:=Uu hk.LP (r:=Dh CY f.fr f.nu f.un) J A3;rw[kb r1 r2 r3];simp only[A9];rw[A8<|AZ (by rw[← af [108,101,116]]at hz;rw[Bg]at hz;rw[show(B [108,101,116,32]).size=(B<|[108,101,116]++[32]).size from rfl];omega)];rw[show(B [108,101,116,32])=B ([108,101,116]++[32]) from rfl,af [108,101,116],hw];rfl
 .simp only[A9,h,AG,A5,A6]
def xS{k:AA}(sm:Eo k)(f:Frame):QA (tKp k,tF f,())=I ((tKp (BI k f).1,(BI k f).2,()),()):=by
 unfold QA BI;rw[K6 sm];rcases tf (Av k) with h|h
 .have hk:=Co h;have hkf:=Cl hk.kok;have hl:=hkf.hl;have hl':(stT k).held.length<=1048576:=J
  unfold G9;simp only[A9,h,AD,A6,A5,Ka sm,adC,Ie h,Ja hl'];rcases tf k.up with e|e<;>simp only[e,AD,AG,A6,A5,AX,AP];rcases tf (CP f) with e2|e2<;>simp only[e2,AD,AG,A6,A5,AX,AP];rcases tfp (f.dst=k.id) with e3|e3<;>simp only[e3,AS,Ag,AD,AG,A6,A5];obtain⟨r1,r2,r3⟩:=px e2;rcases tfp (f.ki=1) with e4|e4
  .have e4':=of_eq_true e4;simp only[e4,AS,A5];rw[show VU (tKp k,tF f,())=_ from aqC h];simp only[A9];rw[Ka<|D7<|rU h e e2 e4'];rfl
  .simp only[e4,Ag,A6];rcases tfp (f.ki=2) with e5|e5<;>simp only[e5,AS,Ag,A6,A5,AX,AP];by_cases hi:AY (stT k).held f.fr f.nu<0
   .rw[AB (show ¬A0 (0<=AY (stT k).held f.fr f.nu)=A1 by simp;omega)];simp only[AZ hi,HF,A5,Bi,AD,AP,A6]
   .have hi':0<=AY (stT k).held f.fr f.nu:=J
    rw[A8<|AZ hi'];simp only[Bf hi,AG,AX,A5,Lm hi',Qw,Cp,Bi];rcases tfp ((nA (stT k).held (AY (stT k).held f.fr f.nu).toNat).to=f.to) with e7|e7<;>simp only[e7,AS,Ag,A6,A5,AX,AP];rcases tfp ((nA (stT k).held (AY (stT k).held f.fr f.nu).toNat).un=f.un) with e6|e6<;>simp only[e6,AS,Ag,A6,A5];have hz:=Zi (w:=CY) (by decide) r1 r2 r3;have hw:=ah hk.LP (r:=Dh CY f.fr f.nu f.un) J;rw[show PY (B [108,101,116],f.fr,f.nu,f.un,())=_ from jv (w:=CY) (by decide) r1 r2 r3];simp only[A9];rw[hw];rfl
 .simp only[A9,h,AG,A5,A6]
def jX{k:AA}(h:Av k=A1)(f:Frame):Av (BI k f).1=A1:=by
 have hk:=Co h;unfold BI G9;rw[A8 h];split
 .rename_i hc;simp only[AI]at hc;split
  .rename_i h1;exact rU h hc.1 hc.2.1 (BT h1)
  .split
   .obtain⟨o,ho,_⟩:=RJ hk (Dh CY f.fr f.nu f.un) A3;exact ho.ok
   .exact h
 .exact h
def alm{k:AA}(h:Av k=A1):Av (Fc k).1=A1:=by
 unfold Fc;split
 .obtain⟨o,ho,_⟩:=RJ (Co h) (G1<|(stT k).ti+1) A1;exact ho.ok
 .exact h
def aoC{k:AA}(h:Av k=A1)(tt un:Int)(tx:A4):Av (EU k tt un tx).1=A1:=by
 unfold EU;split
 .obtain⟨o,ho,_⟩:=RJ (Co h) (OD ⟨k.id,(stT k).nx,tt,un,tx⟩) A1;exact ho.ok
 .exact h
def ahy{k:AA}(h:Av k=A1)(fr nu:Int):Av (EB k fr nu).1=A1:=by
 unfold EB;split
 .obtain⟨o,ho,_⟩:=RJ (Co h) (Dh Ck fr nu (nA (stT k).inbox (AY (stT k).inbox fr nu).toNat).un) A1;exact ho.ok
 .exact h
def adi{k:AA}(h:Av k=A1):Av (E7 k).1=A1:=by
 unfold E7;split
 .exact(aC7<|Co h).ok
 .exact h
def agc{k:AA}(h:Av k=A1):Av (EA k).1=A1:=by
 unfold EA;split
 .exact(Rs<|Co h).ok
 .exact h
def Sb(l:List Int):(BH l).size=l.length:=by
 show(List.toArray _).size=_;simp
def alF(f:Frame):(Cq f).length<=17:=by
 unfold Cq;split
 .rename_i h;have:=dj h;simp only[Ar,Bw,C2];omega
 .simp
def frA(l:List Frame)(i:Nat):Frame:=l.getD i<|dfl .frame
def xM(l:List Frame)(i:Nat): @rd Frame (dfl .frame) l (i:Int)=frA l i:=rfl
def pcF(f:Frame):AT:=⟨f.src,f.dst,BH<|Cq f,A3⟩
def CR(ra:List AT)(fs:List Frame):List AT:=ra++(fs.take<|30 - ra.length).map pcF
def aDO{l:List Frame}{i:Nat}(h:i<l.length):frA l i=l[i]:=by
 rw[frA,BD,Ax h];rfl
def abJ{ra:List AT}{fs:List Frame}(hf:fs.length<=1048576):QU (ra,fs,())=I ((CR ra fs,()),()):=by
 have FW:ny (ra,fs,0,())=I (.inr (CR ra fs,())):=by
  have h0:=CS (b:=WE) (y:= .inr (CR ra fs,())) (λi=>(ra++(fs.take i).map pcF,fs,(i:Int),())) (min fs.length<|30 - ra.length) (λi hi=>by
   have h1:i<fs.length:=J
   have h2:(ra++(fs.take i).map pcF).length=ra.length+i:=by simp;omega
   unfold WE;simp only[B7 h1,AR h1,xM,B2 h1 (by omega:fs.length<=9223372036854775807),h2];rw[A8 (by simp;omega)];simp only[A5];rw[show PO ((_,_,_,_,_,_,_,_,_,_,()),())=_ from aDY<|frA fs i];simp only[A9];rw[A8<|B9 (by simp;omega)];have h3:ra++(fs.take<|i+1).map pcF=(ra++(fs.take i).map pcF)++[pcF (frA fs i)]:=by
    rw[aDO h1,C7,← List.map_singleton (f:=pcF),← Ev,List.take_append_getElem h1]
   rw[h3];rfl) (by
   unfold WE;have h2:(ra++(fs.take<|min fs.length<|30 - ra.length).map pcF).length=ra.length+min fs.length (30 - ra.length):=by simp
   simp only[h2];rw[AB (by simp only[AI,decide_eq_true_eq];omega)];have h3:fs.take (min fs.length<|30 - ra.length)=fs.take (30 - ra.length):=by
    rw[Nat.min_comm,← dq,Ec]
   rw[h3];rfl)
  simp only[List.take_zero,IJ,CH]at h0;exact h0
 unfold QU;simp only[FW,C9]
def OW(f:Frame):Prop:=isN f.src=A1/\isN f.dst=A1/\(f.src - f.dst=1\/f.dst - f.src=1)
def atN{f:Frame}(h:OW f):Dy (pcF f)=A1:=by
 have:=alF f;unfold Dy pcF;simp only[h.1,h.2.1,AX,Sb,AI,Ci,decide_eq_true_eq];exact⟨h.2.2,J⟩
def aav{ra:List AT}{fs:List Frame}(h:ra.length<=30):(CR ra fs).length<=30:=by
 unfold CR;simp;omega
def aEH{ra:List AT}{fs:List Frame}(h:∀p∈ra,Dy p=A1)(hf:∀f∈fs,OW f):∀p∈CR ra fs,Dy p=A1:=by
 intro p hp;rcases Br.1 hp with h1|h1
 .exact h p h1
 .obtain⟨f,h2,rfl⟩:=DP.1 h1;exact atN<|hf f<|Ib h2
def kJ{a t:Int}(h:isN (Ca a t)=A1):isN a=A1/\(a - Ca a t=1\/Ca a t - a=1):=by
 have h0:=Fh h;revert h0;unfold Ca;split
 .omega
 .rename_i h1;intro _;simp only[Ci,DR,not_or,Bool.not_eq_false]at h1;refine⟨h1.1, ?_⟩;split<;>omega
def awY{f:Frame}(h:CP f=A1):OW f:=by
 obtain⟨r1,r2,_,_,_,_,r7⟩:=Oa h;refine⟨r1,r2, ?_⟩;unfold LX at r7;split at r7
 .simp only[AI,decide_eq_true_eq]at r7;have h1:=r7.2.2.2;have:=kJ (a:=f.src) (t:=f.to) (by rw[← h1];exact r2);rw[← h1]at this;exact this.2
 .simp only[AI,decide_eq_true_eq]at r7;have h1:=r7.2.2.2.2;have:=kJ (a:=f.dst) (t:=f.to) (by rw[← h1];exact r1);rw[← h1]at this;exact this.2.symm
def aqD{f:Frame}(n:Int)(h:OW f):OW (Ez n f):=⟨h.2.1,h.1,h.2.2.symm⟩
def aie(k:AA)(f:Frame):(BI k f).2=[]\/(CP f=A1/\ ∃n,(BI k f).2=[Ez n f]):=by
 unfold BI;split
 .unfold G9;split
  .rename_i hc;simp only[AI]at hc;split
   .unfold G4;split
    .exact .inr ⟨hc.2.1,3,rfl⟩
    .split
     .exact .inr ⟨hc.2.1,2,rfl⟩
     .split
      .exact .inl rfl
      .unfold GG;split
       .split
        .unfold HG;split
         .exact .inr ⟨hc.2.1,2,rfl⟩
         .exact .inl rfl
        .exact .inl rfl
       .exact .inl rfl
   .split<;>exact .inl rfl
  .exact .inl rfl
 .exact .inl rfl
def XM(k:AA)(f:Frame):(BI k f).2.length<=1/\ ∀g∈(BI k f).2,OW g:=by
 rcases aie k f with h|⟨h,n,h1⟩
 .rw[h];exact⟨by simp,λg hg=>by cases hg⟩
 .rw[h1];exact⟨by simp,λg hg=>by rw[DB.1 hg];exact aqD n<|awY h⟩
def agz{k:AA}(h:Av k=A1){fr nu mix:Int}(hb:(GJ k fr nu mix).2=A1):OW (GJ k fr nu mix).1:=by
 unfold GJ at hb ⊢;split
 .rename_i hc;simp only[AI,DR,decide_eq_false_iff_not]at hc;have hk:=Co h;have h0:=(HM<|Sc.1 hc.2.1).1;have:=gp hk.kok (n:=nA (stT k).held (AY (stT k).held fr nu).toNat) (by rw[nA,BD,Ax h0];exact CQ h0);rw[hk.id]at this;have h2:=kJ this;exact⟨h2.1,this,h2.2⟩
 .rename_i hc;rw[AB hc]at hb;cases hb
structure BS (w:Am):Prop where
 kl:w.AK.length=4
 ll:w.B1.length=3
 rl:w.AU.length<=30
 sl:w.BJ.length<=6
 gl:w.got.length<=6
 k:∀i,i<4->Av (kA w.AK i)=A1/\(kA w.AK i).id=(i:Int)
 p:∀p∈w.AU,Dy p=A1
 s:∀n∈w.BJ,B3 n=A1
 g:∀n∈w.got,B3 n=A1
def D2(w:Am)(p:AT)(ra:List AT):Am:=
 if(CW<|BA p.data).2&&(A0 ((CW<|BA p.data).1.src=p.src)&&A0 ((CW<|BA p.data).1.dst=p.dst)) then
  ⟨w.ti,w.AK.set p.dst.toNat (BI (kA w.AK p.dst.toNat) (CW<|BA p.data).1).1,w.B1,CR ra (BI (kA w.AK p.dst.toNat) (CW<|BA p.data).1).2,w.BJ,w.got⟩
 else⟨w.ti,w.AK,w.B1,ra,w.BJ,w.got⟩
def OI(p:AT)(mix kp:Int):AT:=⟨p.src,p.dst,BH<|Bq (BA p.data) mix.toNat<|Dm .u8 (@rd Int (dfl .u8) (BA p.data) mix)<|w8 kp,A1⟩
def F7(ra:List AT)(i:Nat):List AT:=ra.take i++ra.drop (i+1)
def lnk(p:AT):Int:=if p.src<p.dst then p.src else p.dst
def EJ(w:Am)(e:Event):Am×Bool:=
 if inB e.wo 0 ((w.AU.length:Int) - 1) then
  if e.ki=6 then
   if !(pA w.AU e.wo.toNat).sp&&(inB e.mix 0 (((pA w.AU e.wo.toNat).data.size:Int) - 1)&&inB e.kp 1 255) then
    (⟨w.ti,w.AK,w.B1,w.AU.set e.wo.toNat<|OI (pA w.AU e.wo.toNat) e.mix e.kp,w.BJ,w.got⟩,A1)
   else(w,A3)
  else if e.ki=5 then(⟨w.ti,w.AK,w.B1,F7 w.AU e.wo.toNat,w.BJ,w.got⟩,A1)
  else if bA w.B1 (lnk<|pA w.AU e.wo.toNat).toNat then(D2 w (pA w.AU e.wo.toNat)<|if e.kp=0 then F7 w.AU e.wo.toNat else w.AU,A1)
  else(w,A3)
 else(w,A3)
def FL(w:Am)(i:Nat)(k:AA):Am:=⟨w.ti,w.AK.set i k,w.B1,w.AU,w.BJ,w.got⟩
def N4(w:Am)(e:Event)(k:AA):Am×Bool:=
 if 6<=w.BJ.length then(w,A3)
 else if(EU k e.to e.un e.tx).2=0 then(w,A3)
 else(⟨w.ti,w.AK.set e.at_.toNat (EU k e.to e.un e.tx).1,w.B1,w.AU,w.BJ++[⟨e.at_,(EU k e.to e.un e.tx).2,e.to,e.un,e.tx⟩],w.got⟩,A1)
def NN(w:Am)(e:Event)(k:AA):Am×Bool:=
 if(EB k e.fr e.nu).2.2&&A0 (w.got.length<6) then
  (⟨w.ti,w.AK.set e.at_.toNat (EB k e.fr e.nu).1,w.B1,w.AU,w.BJ,w.got++[(EB k e.fr e.nu).2.1]⟩,A1)
 else(w,A3)
def Iw(w:Am)(e:Event)(k:AA):Am×Bool:=
 if e.ki=1 then N4 w e k
 else if e.ki=2 then(FL w e.at_.toNat (Fc k).1,(Fc k).2)
 else if e.ki=3 then(if(GJ k e.fr e.nu e.mix).2 then(⟨w.ti,w.AK,w.B1,CR w.AU [(GJ k e.fr e.nu e.mix).1],w.BJ,w.got⟩,A1) else(w,A3))
 else if e.ki=7 then(FL w e.at_.toNat<|faM k e.kp,k.up)
 else if e.ki=8 then(FL w e.at_.toNat<|riM k,!k.up)
 else if e.ki=11 then NN w e k
 else if e.ki=12 then(FL w e.at_.toNat (E7 k).1,(E7 k).2)
 else if e.ki=13 then(FL w e.at_.toNat (EA k).1,(EA k).2)
 else(w,A3)
def GQ(w:Am)(e:Event):Am×Bool:=
 if inB e.at_ 0 ((w.B1.length:Int) - 1)&& !decide (bA w.B1 e.at_.toNat=A0 (e.ki=9)) then
  (⟨w.ti,w.AK,w.B1.set e.at_.toNat<|A0<|e.ki=9,w.AU,w.BJ,w.got⟩,A1)
 else(w,A3)
def doM(w:Am)(e:Event):Am×Bool:=
 if e.ki=4\/e.ki=5\/e.ki=6 then EJ w e
 else if e.ki=9\/e.ki=10 then GQ w e
 else if isN e.at_ then Iw w e (kA w.AK e.at_.toNat)
 else(w,A3)
abbrev tE(e:Event):Int×Int×Int×Int×Int×Int×Int×Int×Int×A4×A2:=(e.ki,e.at_,e.fr,e.nu,e.wo,e.mix,e.kp,e.to,e.un,e.tx,())
abbrev tS(w:Am)(ev:List Event):Int×List AA×List Bool×List AT×List A7×List A7×List Event×A2:=(w.ti,w.AK,w.B1,w.AU,w.BJ,w.got,ev,())
def Hw(w:Am)(b:Bool):Am:=if b then⟨w64<|w.ti+1,w.AK,w.B1,w.AU,w.BJ,w.got⟩ else w
def B8(w:Am)(e:Event):Am:=Hw (doM w e).1 (doM w e).2
def KS(ev:List Event)(e:Event)(b:Bool):List Event:=if b then ev++[e] else ev
def ku(l:List AT)(i:Int): @rd AT (dfl .Ai) l i=pA l i.toNat:=rfl
def Xi(l:List Bool)(i:Int): @rd Bool (dfl .bool) l i=bA l i.toNat:=rfl
def qx{l:List AT}{i:Nat}(h:i<l.length):pA l i=l[i]:=by
 rw[pA,BD,Ax h];rfl
def DC{i:Int}{n:Nat}(h0:0<=i)(h1:i<n):inb i n=A1:=by unfold inb;simp;omega
def KV{p:AT}(h:Dy p=A1):(0<=p.src/\p.src<=3)/\(0<=p.dst/\p.dst<=3)/\p.data.size<=40/\0<=lnk p/\lnk p<3:=by
 unfold Dy at h;simp only[AI,Ci,decide_eq_true_eq]at h;have a:=Fh h.1;have b:=Fh h.2.1;refine⟨a,b,J, ?_, ?_⟩<;>unfold lnk<;>split<;>omega
def auh(a b:Int):cE (a,b,())=I ((if a<b then a else b,()),()):=by
 unfold cE;rcases tfp (a<b) with e|e<;>simp only[e,AS,Ag,A5,if_false,A6]
def MH{w:Am}(h:BS w){i:Nat}(hi:i<w.AU.length):Dy (pA w.AU i)=A1:=by
 rw[qx hi];exact h.p _<|CQ hi
def UX{w:Am}(h:BS w){i:Nat}(hi:i<4):Eo (kA w.AK i):=D7 (h.k i hi).1
def Oe{n:Nat}(h:n<=1048576):w64 ((n:Int) - 1)=(n:Int) - 1:=Aa J J
def nd{p:Prop}[Decidable p](h:¬p):¬(A0 p=A1):=by simpa using h
def aaW{α:Type}(l:List α)(i:Nat)(x y:α):(l.set i x).set i y=l.set i y:=by simp
def aAe{l:List AT}{i:Nat}(h:i<l.length)(p:AT):pA (l.set i p) i=p:=by
 rw[pA,BD,eS h];rfl
def nj(s:A4):(BA s).length=s.size:=by rw[Vl,EM,Ay]
def Qc{n:Int}(h:isN n=A1):n.toNat<4:=by have:=Fh h;omega
section
variable {Ω:Type} {K2:List AA->List AT->Option Ω} {F:Option Ω}
def xc{w:Am}(h:BS w){e:Event}(hk:e.ki≠5){p:AT}(hp:Dy p=A1)(ra:List AT):Rt w.AK ra (tE e) p K2=K2 (D2 w p ra).AK (D2 w p ra).AU:=by
 obtain⟨p1,p2,p3,p4,p5⟩:=KV hp;have hin:inb p.dst w.AK.length=A1:=DC p2.1 (by rw[h.kl];omega);unfold Rt D2;rw[AB<|nd hk,A8<|B9 J,ay7<|BOk.str _];generalize CW (BA p.data)=u;simp only[A9];rcases tf u.2 with e2|e2<;>simp only[e2,AD,AG,A6,A5,AX,AP];rcases tfp (u.1.src=p.src) with e3|e3<;>simp only[e3,AS,Ag,AD,AG,A6,A5,AX,AP];rcases tfp (u.1.dst=p.dst) with e4|e4<;>simp only[e4,AS,Ag,AD,AG,A6,A5];simp only[hin,A5,Ur];rw[show SO ((_,_,_,_,_,()),_,())=_ from aga (UX h (i:=p.dst.toNat) J) u.1];simp only[A9];rw[abJ (by have:=(XM (kA w.AK p.dst.toNat) u.1).1;omega)];rfl
def acX{a:List AA}{ra:List AT}{e:Event}(h0:0<=e.wo)(h1:e.wo<ra.length)(hl:ra.length<=1048576)(p:AT):eJ a ra (tE e) p K2=Rt a (F7 ra e.wo.toNat) (tE e) p K2:=by
 have hw:w64 (e.wo+1)=e.wo+1:=Aa J J;have hn:(e.wo+1).toNat=e.wo.toNat+1:=J
 unfold eJ;simp only[hw,hn];rw[A8 (by simp;omega),A8<|B9 (by simp;omega),A8 (by simp;omega),A8<|B9 (by simp;omega)];rfl
def ai5{w:Am}(h:BS w){e:Event}(hk:e.ki=4\/e.ki=5\/e.ki=6):Qx w.AK w.B1 w.AU (tE e) K2 F=if(EJ w e).2 then K2 (EJ w e).1.AK (EJ w e).1.AU else F:=by
 have rl:=h.rl;unfold Qx EJ;simp only[Hx,A9,Oe<|show w.AU.length<=1048576 by omega,ku];rcases tf (inB e.wo 0<|(w.AU.length:Int) - 1) with e0|e0
 .have ha:=Af.1 e0;have hb:inb e.wo w.AU.length=A1:=DC ha.1 J;have hwl:e.wo.toNat<w.AU.length:=J
  have hp:=MH h (i:=e.wo.toNat) hwl;obtain⟨p1,p2,p3,p4,p5⟩:=KV hp;rw[e0,hb];simp only[AD,A6,A5];rcases tfp (e.ki=6) with c6|c6
  .simp only[c6,AS,A5,Oe<|show(pA w.AU e.wo.toNat).data.size<=1048576 by omega];rcases tf (pA w.AU e.wo.toNat).sp with e1|e1<;>simp only[e1,AD,AG,A6,A5,AX,AP];rcases tf (inB e.mix 0<|((pA w.AU e.wo.toNat).data.size:Int) - 1) with e2|e2<;>simp only[e2,AD,AG,A6,A5,AX,AP];rcases tf (inB e.kp 1 255) with e3|e3<;>simp only[e3,AD,AG,A6,A5];have hm:=Af.1 e2;have hmb:inb e.mix (BA (pA w.AU e.wo.toNat).data).length=A1:=DC hm.1 (by rw[nj];omega);simp only[Es,aaW,aAe hwl,hb,A5];rw[A8<|B9 J,A8 hmb,A8 hmb];rfl
  .simp only[c6,Ag,A6,if_false];rcases tfp (e.ki=4) with c4|c4
   .have c5:¬e.ki=5:=by have:e.ki=4:=of_eq_true c4;omega
    have hl:inb (lnk<|pA w.AU e.wo.toNat) w.B1.length=A1:=by
     have:=h.ll;exact DC p4 (by rw[this];exact p5)
    have hlk:∀q:AT,(if q.src<q.dst then q.src else q.dst)=lnk q:=λ_=>rfl;simp only[c4,AS,A5,auh,A9,hlk,hl,Xi,AB c5];rcases tf (bA w.B1 (lnk<|pA w.AU e.wo.toNat).toNat) with e1|e1<;>simp only[e1,AD,AG,A6,A5];unfold bM;rw[AB<|nd c5];by_cases e5:e.kp=0
    .rw[A8<|AZ e5,A8 e5,acX ha.1 J J,xc h c5 hp]
    .rw[AB<|nd e5,AB e5,xc h c5 hp]
   .have c5:e.ki=5:=by
     have:¬e.ki=4:=by simpa using c4
     have:¬e.ki=6:=by simpa using c6
     omega
    simp only[c4,Ag,A6,A8 c5];unfold bM;rw[A8<|AZ c5,acX ha.1 J J];unfold Rt;rw[A8<|AZ c5];rfl
 .rw[e0];simp only[AG,A5,A6]
def aiQ{w:Am}(h:BS w){e:Event}{K1:List Bool->Option Ω}:Ss w.B1 (tE e) K1 F=if(GQ w e).2 then K1 (GQ w e).1.B1 else F:=by
 have ll:=h.ll;unfold Ss GQ;simp only[Hx,A9,Oe<|show w.B1.length<=1048576 by omega,Xi];rcases tf (inB e.at_ 0<|(w.B1.length:Int) - 1) with e0|e0
 .have ha:=Af.1 e0;have hb:inb e.at_ w.B1.length=A1:=DC ha.1 J;rw[e0,hb];simp only[AD,A6,A5,AX];rcases tfp (bA w.B1 e.at_.toNat=A0 (e.ki=9)) with c|c<;>simp only[c,AS,Ag,AD,AG,A5,A6]
 .rw[e0];simp only[AG,AP,A5,A6]
end
section
variable {Ω:Type} {K:List AA->List Bool->List AT->List A7->List A7->Option Ω} {F:Option Ω} {Kv:List AA->Bool->Option Ω} {Km:List AT->Bool->Option Ω} {Kz:Bool->Option Ω} {R:Option Ω}
def alU{w:Am}(h:BS w){e:Event}(hk:¬(e.ki=4\/e.ki=5\/e.ki=6))(hk':¬(e.ki=9\/e.ki=10))(ht:e.tx.size<=1048576){D:Am×Bool}
  (hK:D.2=A1->K D.1.AK D.1.B1 D.1.AU D.1.BJ D.1.got=R)(hF:D.2=A3->D.1=w->F=R)(hKv:∀k' b,D=(FL w e.at_.toNat k',b)->Kv (w.AK.set e.at_.toNat k') b=R)
  (hKm:∀ra',D=(⟨w.ti,w.AK,w.B1,ra',w.BJ,w.got⟩,A1)->Km ra' A1=R)(hKz:D=(w,A3)->Kz A3=R):
  ∀X,kE w.AK w.AU w.BJ w.got (tE e) (λx y z=>K x w.B1 w.AU y z) F Kv Km Kz=X->doM w e=D->X=R:=by
 intro X;obtain⟨ki,at_,fr,nu,wo,mix,kp,t',un,tx⟩:=e;simp only at hk hk' ht hKv;have hn:∀(l:List A7) (x:A7),l.length<=6->Ac (l.length+[x].length)=A1:=λl x hl=>B9 (by simp;omega);unfold kE doM;rw[AB hk,AB hk'];simp only[JE,A9];rcases tf (isN at_) with e0|e0
 .have ha:=Fh e0;have hal:=Qc e0;have hb:inb at_ w.AK.length=A1:=DC ha.1 (by rw[h.kl];omega);have hko:=(h.k _ hal).1;have hks:=UX h hal;simp only[e0,AD,A6,hb,A5,Ur];unfold Iw;rcases tfp (ki=1) with e1|e1
  .simp only[e1,AS,A5];unfold N4;by_cases hs:6<=w.BJ.length
   .rw[A8<|AZ<|show 6<=(w.BJ.length:Int) by omega,A8 hs];intro hX hd;subst hd;rw[← hX];exact hF rfl rfl
   .rw[AB<|nd<|show ¬6<=(w.BJ.length:Int) by omega,AB hs];rw[show Ve ((_,_,_,_,_,()),_,_,_,())=_ from ajq hko t' un ht];simp only[A9];rcases tfp ((EU (kA w.AK at_.toNat) t' un tx).2=0) with e2|e2<;>simp only[e2,AS,Ag,A6,A5,if_false]
    .intro hX hd;subst hd;rw[← hX];exact hF rfl rfl
    .rw[A8<|hn _ _ h.sl];intro hX hd;subst hd;rw[← hX];exact hK rfl
  .simp only[e1,Ag,A6,if_false];rcases tfp (ki=2) with e2|e2
   .simp only[e2,AS,A5];rw[show V4 ((_,_,_,_,_,()),())=_ from alg hko];simp only[A9];intro hX hd;subst hd;rw[← hX];exact hKv _ _ rfl
   .simp only[e2,Ag,A6,if_false];rcases tfp (ki=3) with e3|e3
    .simp only[e3,AS,A5];rw[show UG ((_,_,_,_,_,()),_,_,_,())=_ from aen hks fr nu mix];simp only[A9];rw[A8 hko];rcases tf (GJ (kA w.AK at_.toNat) fr nu mix).2 with e4|e4<;>simp only[e4,A5,A6]
     .rw[show QU (_,_,())=_ from abJ (ra:=w.AU) (fs:=[(GJ (kA w.AK at_.toNat) fr nu mix).1])<|by simp];simp only[A9];intro hX hd;subst hd;rw[← hX];exact hKm _ rfl
     .intro hX hd;subst hd;rw[← hX];exact hKz rfl
    .simp only[e3,Ag,A6,if_false];rcases tfp (ki=7) with e4|e4
     .simp only[e4,AS,A5];rw[show VY ((_,_,_,_,_,()),_,())=_ from aem hks kp];simp only[A9];rw[A8 hko];intro hX hd;subst hd;rw[← hX];exact hKv _ _ rfl
     .simp only[e4,Ag,A6,if_false];rcases tfp (ki=8) with e5|e5
      .simp only[e5,AS,A5];rw[show UL ((_,_,_,_,_,()),())=_ from alq hko];simp only[A9];intro hX hd;subst hd;rw[← hX];exact hKv _ _ rfl
      .simp only[e5,Ag,A6,if_false];rcases tfp (ki=11) with e6|e6
       .simp only[e6,AS,A5];unfold NN;rw[show Sa ((_,_,_,_,_,()),_,_,())=_ from anp hko fr nu];simp only[A9];rcases tf (EB (kA w.AK at_.toNat) fr nu).2.2 with e7|e7<;>simp only[e7,A5,A6,AX,AP]
        .by_cases hs:w.got.length<6
         .rw[A8<|AZ<|show(w.got.length:Int)<6 by omega,A8<|AZ hs,A8<|hn _ _ h.gl];intro hX hd;subst hd;rw[← hX];exact hK rfl
         .rw[AB<|nd<|show ¬(w.got.length:Int)<6 by omega,AB<|nd hs];intro hX hd;subst hd;rw[← hX];exact hF rfl rfl
        .intro hX hd;subst hd;rw[← hX];exact hF rfl rfl
       .simp only[e6,Ag,A6,if_false];rcases tfp (ki=12) with e7|e7
        .simp only[e7,AS,A5];rw[show Sg ((_,_,_,_,_,()),())=_ from atc hko];simp only[A9];intro hX hd;subst hd;rw[← hX];exact hKv _ _ rfl
        .simp only[e7,Ag,A6,if_false];rcases tfp (ki=13) with e8|e8
         .simp only[e8,AS,A5];rw[show SY ((_,_,_,_,_,()),())=_ from ayU hko];simp only[A9];intro hX hd;subst hd;rw[← hX];exact hKv _ _ rfl
         .simp only[e8,Ag,A6,if_false];intro hX hd;subst hd;rw[← hX];exact hF rfl rfl
 .simp only[e0,AG,A6,A5];intro hX hd;subst hd;rw[← hX];exact hF rfl rfl
def avc{w:Am}{e:Event}(h:(EJ w e).2=A3):(EJ w e).1=w:=by
 unfold EJ at h ⊢;split
 .rename_i h2;rw[A8 h2]at h;split
  .rename_i h3;rw[A8 h3]at h;split
   .rename_i h4;rw[A8 h4]at h;cases h
   .rfl
  .rename_i h3;rw[AB h3]at h;split
   .rename_i h4;rw[A8 h4]at h;cases h
   .rename_i h4;rw[AB h4]at h;split
    .rename_i h5;rw[A8 h5]at h;cases h
    .rfl
 .rfl
def ata(w:Am)(e:Event):(EJ w e).1.B1=w.B1/\(EJ w e).1.BJ=w.BJ/\(EJ w e).1.got=w.got:=by
 unfold EJ;split
 .split
  .split<;>exact⟨rfl,rfl,rfl⟩
  .split
   .exact⟨rfl,rfl,rfl⟩
   .split
    .unfold D2;split<;>exact⟨rfl,rfl,rfl⟩
    .exact⟨rfl,rfl,rfl⟩
 .exact⟨rfl,rfl,rfl⟩
def aEd{w:Am}(h:BS w){e:Event}(ht:e.tx.size<=1048576)
  (hK:(doM w e).2=A1->K (doM w e).1.AK (doM w e).1.B1 (doM w e).1.AU (doM w e).1.BJ (doM w e).1.got=R)(hF:(doM w e).2=A3->(doM w e).1=w->F=R)(hKv:∀k' b,doM w e=(FL w e.at_.toNat k',b)->Kv (w.AK.set e.at_.toNat k') b=R)
  (hKm:∀ra',doM w e=(⟨w.ti,w.AK,w.B1,ra',w.BJ,w.got⟩,A1)->Km ra' A1=R)(hKz:doM w e=(w,A3)->Kz A3=R):
  doK w.AK w.B1 w.AU w.BJ w.got (tE e) K F Kv Km Kz=R:=by
 have rad:(e.ki=4\/e.ki=5\/e.ki=6)->Qx w.AK w.B1 w.AU (tE e) (λx y=>K x w.B1 y w.BJ w.got) F=R:=by
  intro hk;have hd:doM w e=EJ w e:=by
   unfold doM;rw[A8 hk]
  rw[ai5 h hk];rw[hd]at hK hF;obtain⟨r1,r2,r3⟩:=ata w e;rcases tf (EJ w e).2 with c|c
  .have:=hK c;rw[r1,r2,r3]at this;rw[c,A8 rfl];exact this
  .rw[c,A6];exact hF c<|avc c
 have lk:(e.ki=9\/e.ki=10)->Ss w.B1 (tE e) (λy=>K w.AK y w.AU w.BJ w.got) F=R:=by
  intro hk;have hd:doM w e=GQ w e:=by
   unfold doM;rw[AB J,A8 hk]
  rw[aiQ h];rw[hd]at hK hF;rcases tf (GQ w e).2 with c|c
  .have:=hK c;rw[c,A8 rfl,← this];unfold GQ;split<;>rfl
  .rw[c,A6];refine hF c ?_;unfold GQ at c ⊢;split
   .rename_i h3;rw[A8 h3]at c;cases c
   .rfl
 unfold doK;by_cases h4:e.ki=4
 .rw[A8<|AZ h4];exact rad J
 .rw[AB<|nd h4];by_cases h5:e.ki=5
  .rw[A8<|AZ h5];exact rad J
  .rw[AB<|nd h5];by_cases h6:e.ki=6
   .rw[A8<|AZ h6];exact rad J
   .rw[AB<|nd h6];by_cases h9:e.ki=9
    .rw[A8<|AZ h9];exact lk J
    .rw[AB<|nd h9];by_cases h10:e.ki=10
     .rw[A8<|AZ h10];exact lk J
     .rw[AB<|nd h10];exact alU h J J ht hK hF hKv hKm hKz _ rfl rfl
end
def aw0(w:Am)(p:AT)(ra:List AT):(D2 w p ra).ti=w.ti:=by unfold D2;split<;>rfl
def fU(w:Am)(e:Event):(doM w e).1.ti=w.ti:=by
 unfold doM;split
 .unfold EJ;split
  .split
   .split<;>rfl
   .split
    .rfl
    .split
     .exact aw0 _ _ _
     .rfl
  .rfl
 .split
  .unfold GQ;split<;>rfl
  .split
   .unfold Iw;split
    .unfold N4;split
     .rfl
     .split<;>rfl
    .split
     .rfl
     .split
      .split<;>rfl
      .split
       .rfl
       .split
        .rfl
        .split
         .unfold NN;split<;>rfl
         .split
          .rfl
          .split<;>rfl
   .rfl
def ahB{w:Am}(h:BS w){r:List Int×Int×A2}{ev:List Event}(hev:ev.length<=1048576){e:Event}(ht:e.tx.size<=1048576):
  FI ((r,tS w ev),tE e,())=I (((doM w e).2,()),((r,tS (B8 w e)<|KS ev e (doM w e).2),())):=by
 have hr:∀x:Event,Ac (ev.length+[x].length)=A1:=λx=>B9 (by simp;omega);have hti:=fU w e;unfold FI;refine aEd (w:=w) h (e:=e) ht (λc=> ?_) (λc c2=> ?_) (λk b c=> ?_) (λra c=> ?_) (λc=> ?_)
 .unfold B8 Hw KS;rw[c,A8<|hr _,A8 rfl,A8 rfl,hti]
 .unfold B8 Hw KS;rw[c,A6,A6,c2]
 .unfold B8 Hw KS;rw[c];cases b
  .rfl
  .show(if Ac _ then _ else _)=_;rw[A8<|hr _];rfl
 .unfold B8 Hw KS;rw[c,A8 rfl,A8<|hr _];rfl
 .unfold B8 Hw KS;rw[c];rfl
end Go.VS
namespace Go.VS
open Go
def UN(k:AA)(r:A4)(f:Bool):(wrR k r f).1.id=k.id:=by
 unfold wrR;split
 .rfl
 .cases f<;>rfl
def nQ{k:AA}(h:Av k=A1)(f:Frame):(BI k f).1.id=k.id:=by
 unfold BI;rw[A8 h];unfold G9;split
 .split
  .unfold G4;split
   .rfl
   .split
    .rfl
    .split
     .rfl
     .unfold GG;split
      .split
       .unfold HG;split
        .exact UN _ _ _
        .rfl
       .rfl
      .rfl
  .split
   .exact UN _ _ _
   .rfl
 .rfl
def arV(k:AA):(Fc k).1.id=k.id:=by
 unfold Fc;split
 .exact UN _ _ _
 .rfl
def asO(k:AA)(tt un:Int)(tx:A4):(EU k tt un tx).1.id=k.id:=by
 unfold EU;split
 .exact UN _ _ _
 .rfl
def afz(k:AA)(fr nu:Int):(EB k fr nu).1.id=k.id:=by
 unfold EB;split
 .exact UN _ _ _
 .rfl
def ax6(k:AA):(E7 k).1.id=k.id:=by unfold E7;split<;>rfl
def axV(k:AA):(EA k).1.id=k.id:=by unfold EA;split<;>rfl
def zj(k:AA)(n:Int):(faM k n).id=k.id:=by unfold faM;rfl
def ajG(k:AA):(riM k).id=k.id:=rfl
def atZ{k:AA}(h:Av k=A1):Av (riM k)=A1:=(uZ<|Co h).ok
def Ks{l:List AA}{i j:Nat}(hi:i<l.length)(k:AA):kA (l.set i k) j=if j=i then k else kA l j:=by
 unfold kA;simp only[BD,Tt];by_cases h:j=i
 .subst h;simp[hi]
 .have h':¬i=j:=λe=>h e.symm;simp[h,h']
def BS.put{w:Am}(h:BS w){i:Nat}(hi:i<4){k:AA}(hk:Av k=A1)(hid:k.id=(kA w.AK i).id)(ra:List AT)(se go:List A7)
  (rl:ra.length<=30)(sl:se.length<=6)(gl:go.length<=6)(p:∀p∈ra,Dy p=A1)(s:∀n∈se,B3 n=A1)(g:∀n∈go,B3 n=A1):
  BS ⟨w.ti,w.AK.set i k,w.B1,ra,se,go⟩:=by
 refine⟨by rw[Es];exact h.kl,h.ll,rl,sl,gl,λj hj=> ?_,p,s,g⟩;show Av (kA (w.AK.set i k) j)=A1/\(kA (w.AK.set i k) j).id=(j:Int);rw[Ks (by rw[h.kl];exact hi)];split
 .rename_i e;rw[e,hid];exact⟨hk,(h.k i hi).2⟩
 .exact h.k j hj
def BS.FL{w:Am}(h:BS w){i:Nat}(hi:i<4){k:AA}(hk:Av k=A1)(hid:k.id=(kA w.AK i).id):BS (FL w i k):=
 h.put hi hk hid w.AU w.BJ w.got h.rl h.sl h.gl h.p h.s h.g
def BS.ra{w:Am}(h:BS w){ra:List AT}(rl:ra.length<=30)(p:∀p∈ra,Dy p=A1):BS ⟨w.ti,w.AK,w.B1,ra,w.BJ,w.got⟩:=
 ⟨h.kl,h.ll,rl,h.sl,h.gl,h.k,p,h.s,h.g⟩
def BS.ti{w:Am}(h:BS w)(n:Int):BS ⟨n,w.AK,w.B1,w.AU,w.BJ,w.got⟩:=⟨h.kl,h.ll,h.rl,h.sl,h.gl,h.k,h.p,h.s,h.g⟩
def UU{w:Am}(h:BS w)(i:Nat):(F7 w.AU i).length<=30/\ ∀p∈F7 w.AU i,Dy p=A1:=by
 have:=h.rl;refine⟨by unfold F7;simp;omega,λp hp=>h.p p ?_⟩;rcases Br.1 hp with h1|h1
 .exact Ib h1
 .exact Io h1
def ahn{w:Am}(h:BS w){p:AT}(hp:Dy p=A1){ra:List AT}(rl:ra.length<=30)(hra:∀p∈ra,Dy p=A1):BS (D2 w p ra):=by
 unfold D2;obtain⟨_,p2,_⟩:=KV hp;split
 .have hi:p.dst.toNat<4:=J
  exact h.put hi (jX (h.k _ hi).1 _) (nQ (h.k _ hi).1 _) _ _ _ (aav rl) h.sl h.gl (aEH hra (XM _ _).2) h.s h.g
 .exact h.ra rl hra
def alL{p:AT}(hp:Dy p=A1)(mix kp:Int):Dy (OI p mix kp)=A1:=by
 unfold Dy OI at *;simpa[Sb,nj] using hp
def aeO{w:Am}(h:BS w)(e:Event):BS (EJ w e).1:=by
 unfold EJ;split
 .rename_i h0;have h0:=Af.1 h0;have hlt:e.wo.toNat<w.AU.length:=J
  have hp:=MH h hlt;split
  .split
   .refine h.ra (by rw[Es];exact h.rl) λp hp'=> ?_;rcases Ox hp' with h1|h1
    .exact h.p p h1
    .rw[h1];exact alL hp _ _
   .exact h
  .split
   .exact h.ra (UU h _).1 (UU h _).2
   .split
    .refine ahn h hp ?_ ?_<;>split
     .exact(UU h _).1
     .exact h.rl
     .exact(UU h _).2
     .exact h.p
    .exact h
 .exact h
def akN{w:Am}(h:BS w)(e:Event):BS (GQ w e).1:=by
 unfold GQ;split
 .exact⟨h.kl,by show(w.B1.set _ _).length=3;rw[Es];exact h.ll,h.rl,h.sl,h.gl,h.k,h.p,h.s,h.g⟩
 .exact h
def as5{k:AA}{tt un:Int}{tx:A4}(h:(EU k tt un tx).2≠0):B3 ⟨k.id,(EU k tt un tx).2,tt,un,tx⟩=A1:=by
 unfold EU at h ⊢;split
 .rename_i hc;rw[A8 hc]at h;simp only[AI]at hc;simp only at h ⊢;split
  .exact hc.2
  .rename_i h1;rw[AB h1]at h;exact absurd rfl h
 .rename_i hc;rw[AB hc]at h;exact absurd rfl h
def av9{k:AA}(hk:Av k=A1){fr nu:Int}(h:(EB k fr nu).2.2=A1):B3 (EB k fr nu).2.1=A1:=by
 unfold EB at h ⊢;split
 .rename_i hc;rw[A8 hc]at h;simp only at h ⊢;rw[A8 h];simp only[AI,DR,decide_eq_false_iff_not]at hc;exact Gi (Cl (Co hk).kok).i (HM<|Sc.1 hc.2).1
 .rename_i hc;rw[AB hc]at h;cases h
def Mp{α:Type}{l:List α}{P:α->Prop}{a:α}(h:∀x∈l,P x)(ha:P a):∀x∈l++[a],P x:=by
 intro x hx;rcases Br.1 hx with h1|h1
 .exact h x h1
 .rw[DB.1 h1];exact ha
def aqv{w:Am}(h:BS w)(e:Event)(ha:isN e.at_=A1):BS (Iw w e<|kA w.AK e.at_.toNat).1:=by
 have hi:=Qc ha;have hr:=Fh ha;obtain⟨hk,hid⟩:=h.k _ hi;unfold Iw;split
 .unfold N4;split
  .exact h
  .split
   .exact h
   .rename_i h1 h2;refine h.put hi (aoC hk _ _ _) (asO _ _ _ _) _ _ _ h.rl (by simp;omega) h.gl h.p (Mp h.s ?_) h.g;have:=as5 h2;rw[hid,kM hr.1]at this;exact this
 .split
  .exact h.FL hi (alm hk) (arV _)
  .split
   .split
    .rename_i h1;exact h.ra (aav h.rl) (aEH h.p λf hf=>by rw[DB.1 hf];exact agz hk h1)
    .exact h
   .split
    .exact h.FL hi (yL hk _) (zj _ _)
    .split
     .exact h.FL hi (atZ hk) (ajG _)
     .split
      .unfold NN;split
       .rename_i h1;simp only[AI,decide_eq_true_eq]at h1;exact h.put hi (ahy hk _ _) (afz _ _ _) _ _ _ h.rl h.sl (by simp;omega) h.p h.s (Mp h.g<|av9 hk h1.1)
       .exact h
      .split
       .exact h.FL hi (adi hk) (ax6 _)
       .split
        .exact h.FL hi (agc hk) (axV _)
        .exact h
def yb{w:Am}(h:BS w)(e:Event):BS (doM w e).1:=by
 unfold doM;split
 .exact aeO h e
 .split
  .exact akN h e
  .split
   .rename_i h1;exact aqv h e h1
   .exact h
def aE5{w:Am}(h:BS w)(b:Bool):BS (Hw w b):=by
 unfold Hw;split
 .exact h.ti _
 .exact h
def bG{w:Am}(h:BS w)(e:Event):BS (B8 w e):=aE5 (yb h e) _
def kp0(i:Int):AA:=⟨i,A1,noB,0,[]⟩
def rv0:Am:=⟨0,[kp0 0,kp0 1,kp0 2,kp0 3],[A1,A1,A1],[],[],[]⟩
def ahT{i:Int}(h:isN i=A1):Av (kp0 i)=A1:=by
 refine Ub (k:=kp0 i) (rs:=[]) (ts:=[]) h ⟨?_,(show noB.size<=2400 by decide),by rfl,by rfl⟩ (show 0<=3 by decide) (.inl rfl) ?_ (λi hi=>absurd hi<|SF _)
 .intro r hr;cases hr
 .unfold D8;rw[A8<|show isN (kp0 i).id=A1 from h];rfl
def qZ{i:Nat}(hi:i<4):kA rv0.AK i=kp0 i:=by
 have:i=0\/i=1\/i=2\/i=3:=J
 obtain rfl|rfl|rfl|rfl:=this<;>rfl
def aqj{i:Nat}(hi:i<4):isN (i:Int)=A1:=Af.2 ⟨J,J⟩
def aeg:BS rv0:=by
 refine⟨rfl,rfl,by decide,by decide,by decide,λi hi=> ?_,(λp hp=>by cases hp),(λp hp=>by cases hp),(λp hp=>by cases hp)⟩;rw[qZ hi];exact⟨ahT<|aqj hi,rfl⟩
def Pc(k:AA):Prop:=k.up=A3->k.fo=(k.log.size:Int)
def TG(k:AA)(r:A4)(f:Bool):(wrR k r f).1.up=k.up:=by
 unfold wrR;split
 .rfl
 .cases f<;>rfl
def ajp{k:AA}(h:Av k=A1)(f:Frame):(BI k f).1.up=k.up:=by
 unfold BI;rw[A8 h];unfold G9;split
 .split
  .unfold G4;split
   .rfl
   .split
    .rfl
    .split
     .rfl
     .unfold GG;split
      .split
       .unfold HG;split
        .exact TG _ _ _
        .rfl
       .rfl
      .rfl
  .split
   .exact TG _ _ _
   .rfl
 .rfl
def agH{k:AA}(ok:Av k=A1)(h:k.up=A3)(f:Frame):BI k f=(k,[]):=by
 unfold BI;rw[A8 ok];unfold G9;rw[h,AP,A6]
def azW{k:AA}(h:k.up=A3)(tt un:Int)(tx:A4):EU k tt un tx=(k,0):=by
 unfold EU;rw[h,AP,A6]
def aqA{k:AA}(h:k.up=A3)(a b:Int):EB k a b=(k,zN,A3):=by
 unfold EB;rw[h,AP,A6]
def aiU{k:AA}(h:k.up=A3):Fc k=(k,A3):=by
 unfold Fc;rw[h,A6]
def apZ{k:AA}(h:k.up=A3):E7 k=(k,A3):=by
 unfold E7;rw[h,A6]
def apR{k:AA}(h:k.up=A3):EA k=(k,A3):=by
 unfold EA;rw[h,AP,A6]
def anQ(k:AA)(tt un:Int)(tx:A4):(EU k tt un tx).1.up=k.up:=by
 unfold EU;split
 .exact TG _ _ _
 .rfl
def aef(k:AA)(a b:Int):(EB k a b).1.up=k.up:=by
 unfold EB;split
 .exact TG _ _ _
 .rfl
def ar1(k:AA):(Fc k).1.up=k.up:=by
 unfold Fc;split
 .exact TG _ _ _
 .rfl
def axQ(k:AA):(E7 k).1.up=k.up:=by unfold E7;split<;>rfl
def ayh(k:AA):(EA k).1.up=k.up:=by unfold EA;split<;>rfl
def S6{k k':AA}(h:Pc k)(hu:k'.up=k.up)(hd:k.up=A3->k'=k):Pc k':=λe=>by
 rw[hu]at e;rw[hd e];exact h e
def ar0(k:AA)(n:Int):Pc (faM k n):=by
 intro _;unfold faM;simp only;have h:=(NY<|k.log.extract 0 (k.fo+max 0 (min n<|(k.log.size:Int) - k.fo)).toNat).1;rw[@TI];omega
def auI{k:AA}(ok:Av k=A1)(h:k.up=A3)(d:Pc k)(n:Int):faM k n=k:=by
 obtain⟨_,h2,h3⟩:=xu (Co ok) (d h) n;have h4:=aD3 ok h;have:faM k n=⟨(faM k n).id,(faM k n).up,(faM k n).log,(faM k n).fo,(faM k n).AE⟩:=rfl;rw[this,h2,h3,zj,show(faM k n).up=k.up from by rw[h];rfl,show(faM k n).AE=k.AE from by rw[h4];rfl]
def at7{k:AA}(h:k.up=A1):riM k=k:=by
 unfold riM;rw[← h]
def VG{l:List AA}{i:Nat}:l.set i (kA l i)=l:=by
 apply rD;intro j;rw[Tt];by_cases h:i=j
 .subst h;by_cases h1:i<l.length
  .rw[A8 rfl,A8 h1,kA,BD,Ax h1];rfl
  .rw[A8 rfl,AB h1,I7 J]
 .rw[AB h]
def Ux{w:Am}{i:Nat}{k:AA}(h:k=kA w.AK i):FL w i k=w:=by
 subst h;unfold FL;rw[VG]
structure PW (w:Am):Prop where
 d:∀i,i<4->Pc (kA w.AK i)
def ang{w:Am}(h:BS w)(hd:PW w){e:Event}(ho:(doM w e).2=A3):(doM w e).1=w:=by
 unfold doM at ho ⊢;split
 .rename_i h1;rw[A8 h1]at ho;unfold EJ at ho ⊢;split
  .rename_i h2;rw[A8 h2]at ho;split
   .rename_i h3;rw[A8 h3]at ho;split
    .rename_i h4;rw[A8 h4]at ho;cases ho
    .rfl
   .rename_i h3;rw[AB h3]at ho;split
    .rename_i h4;rw[A8 h4]at ho;cases ho
    .rename_i h4;rw[AB h4]at ho;split
     .rename_i h5;rw[A8 h5]at ho;cases ho
     .rfl
  .rfl
 .rename_i h1;rw[AB h1]at ho;split
  .rename_i h2;rw[A8 h2]at ho;unfold GQ at ho ⊢;split
   .rename_i h3;rw[A8 h3]at ho;cases ho
   .rfl
  .rename_i h2;rw[AB h2]at ho;split
   .rename_i h3;rw[A8 h3]at ho;have hi:=Qc h3;obtain⟨ok,_⟩:=h.k _ hi;have hdk:=hd.d _ hi;unfold Iw at ho ⊢;split
    .rename_i c;rw[A8 c]at ho;unfold N4 at ho ⊢;split
     .rfl
     .rename_i c1;rw[AB c1]at ho;split
      .rfl
      .rename_i c2;rw[AB c2]at ho;cases ho
    .rename_i c;rw[AB c]at ho;split
     .rename_i c;rw[A8 c]at ho;refine Ux ?_;unfold Fc at ho ⊢;split
      .rename_i c1;rw[A8 c1]at ho;exact Tx ho
      .rfl
     .rename_i c;rw[AB c]at ho;split
      .rename_i c;rw[A8 c]at ho;split
       .rename_i c1;rw[A8 c1]at ho;cases ho
       .rfl
      .rename_i c;rw[AB c]at ho;split
       .rename_i c;rw[A8 c]at ho;exact Ux (auI ok ho hdk _)
       .rename_i c;rw[AB c]at ho;split
        .rename_i c;rw[A8 c]at ho;exact Ux (at7<|by simpa using ho)
        .rename_i c;rw[AB c]at ho;split
         .rename_i c;rw[A8 c]at ho;unfold NN at ho ⊢;split
          .rename_i c1;rw[A8 c1]at ho;cases ho
          .rfl
         .rename_i c;rw[AB c]at ho;split
          .rename_i c;rw[A8 c]at ho;refine Ux ?_;unfold E7 at ho ⊢;split
           .rename_i c1;rw[A8 c1]at ho;cases ho
           .rfl
          .rename_i c;rw[AB c]at ho;split
           .rename_i c;rw[A8 c]at ho;refine Ux ?_;unfold EA at ho ⊢;split
            .rename_i c1;rw[A8 c1]at ho;cases ho
            .rfl
           .rfl
   .rfl
inductive KMv (k:AA):AA->Prop
 | aEK (f:Frame):KMv k (BI k f).1
 | own (tt un:Int) (tx:A4):KMv k (EU k tt un tx).1
 | time:KMv k (Fc k).1
 | eat (a b:Int):KMv k (EB k a b).1
 | eT (n:Int):KMv k (faM k n)
 | aB1:KMv k (riM k)
 | pack:KMv k (E7 k).1
 | force:KMv k (EA k).1
def ahj{w:Am}(h:BS w)(e:Event):(doM w e).1.AK=w.AK\/ ∃i k',i<4/\KMv (kA w.AK i) k'/\(doM w e).1.AK=w.AK.set i k':=by
 unfold doM;split
 .unfold EJ;split
  .rename_i h2;split
   .split
    .exact .inl rfl
    .exact .inl rfl
   .split
    .exact .inl rfl
    .split
     .unfold D2;split
      .refine .inr ⟨_,_, ?_,.aEK _,rfl⟩;have:=Af.1 h2;have:=KV<|MH h (i:=e.wo.toNat) J;omega
      .exact .inl rfl
     .exact .inl rfl
  .exact .inl rfl
 .split
  .unfold GQ;split
   .exact .inl rfl
   .exact .inl rfl
  .split
   .rename_i h3;have hi:=Qc h3;unfold Iw;split
    .unfold N4;split
     .exact .inl rfl
     .split
      .exact .inl rfl
      .exact .inr ⟨_,_,hi,.own _ _ _,rfl⟩
    .split
     .exact .inr ⟨_,_,hi,.time,rfl⟩
     .split
      .split
       .exact .inl rfl
       .exact .inl rfl
      .split
       .exact .inr ⟨_,_,hi,.eT _,rfl⟩
       .split
        .exact .inr ⟨_,_,hi,.aB1,rfl⟩
        .split
         .unfold NN;split
          .exact .inr ⟨_,_,hi,.eat _ _,rfl⟩
          .exact .inl rfl
         .split
          .exact .inr ⟨_,_,hi,.pack,rfl⟩
          .split
           .exact .inr ⟨_,_,hi,.force,rfl⟩
           .exact .inl rfl
   .exact .inl rfl
def apg{w:Am}(h:BS w)(e:Event):(B8 w e).AK=w.AK\/ ∃i k',i<4/\KMv (kA w.AK i) k'/\(B8 w e).AK=w.AK.set i k':=by
 have:=ahj h e;unfold B8 Hw;split<;>exact this
def aqT{P:AA->Prop}(hP:∀k k',Av k=A1->P k->KMv k k'->P k'){w:Am}(h:BS w)(hw:∀i,i<4->P (kA w.AK i))(e:Event):∀i,i<4->P (kA (B8 w e).AK i):=by
 intro i hi;rcases apg h e with e1|⟨j,k',hj,m,e1⟩
 .rw[e1];exact hw i hi
 .rw[e1,Ks (by rw[h.kl];exact hj)];split
  .exact hP _ _ (h.k j hj).1 (hw j hj) m
  .exact hw i hi
def KMv.dur{k k':AA}(ok:Av k=A1)(h:Pc k)(m:KMv k k'):Pc k':=by
 cases m with
 | aEK f=>exact S6 h (ajp ok f) λe=>by rw[agH ok e]
 | own a b c=>exact S6 h (anQ _ _ _ _) λe=>by rw[azW e]
 | time=>exact S6 h (ar1 _) λe=>by rw[aiU e]
 | eat a b=>exact S6 h (aef _ _ _) λe=>by rw[aqA e]
 | eT n=>exact ar0 _ _
 | aB1=>intro e;cases e
 | pack=>exact S6 h (axQ _) λe=>by rw[apZ e]
 | force=>exact S6 h (ayh _) λe=>by rw[apR e]
def PW.sim{w:Am}(hd:PW w)(h:BS w)(e:Event):PW (B8 w e):=⟨aqT (λ_ _ ok d m=>m.dur ok d) h hd.d e⟩
inductive Reach:List Event->Am->Prop
 | nil:Reach [] rv0
 | snoc {ev:List Event} {w:Am} {e:Event} :Reach ev w->(doM w e).2=A1->e.tx.size<=1048576->Reach (ev++[e]) (B8 w e)
def Reach.both{ev:List Event}{w:Am}(h:Reach ev w):BS w/\PW w:=by
 induction h with
 | nil=>exact⟨aeg,⟨λi hi e=>by rw[qZ hi]at e;cases e⟩⟩
 | snoc _ _ _ ih=>exact⟨bG ih.1 _,ih.2.sim ih.1 _⟩
def Reach.ok{ev:List Event}{w:Am}(h:Reach ev w):BS w:=h.both.1
def Reach.dur{ev:List Event}{w:Am}(h:Reach ev w):PW w:=h.both.2
def Reach.step{ev:List Event}{w:Am}(h:Reach ev w){e:Event}(ht:e.tx.size<=1048576):Reach (KS ev e (doM w e).2) (B8 w e):=by
 unfold KS;rcases tf (doM w e).2 with c|c
 .rw[c,A8 rfl];exact h.snoc c ht
 .have:=ang h.ok h.dur c;rw[c,A6];unfold B8 Hw;rw[c,A6,this];exact h
def Reach.ind{P:Am->Prop}(h0:P rv0)(hs:∀w e,BS w->PW w->P w->(doM w e).2=A1->P (B8 w e)){ev:List Event}{w:Am}(h:Reach ev w):P w:=by
 induction h with
 | nil=>exact h0
 | snoc h1 h2 _ ih=>exact hs _ _ h1.ok h1.dur ih h2
def Qq{l:List Int}(h:BOk l):BA (BH l)=l:=by
 unfold BA BH;simp only[IQ]
 conv=>rhs;rw[← eG l]
 refine Gz λn hn=> ?_;have:=h n hn;simp only[Function.comp,id];rw[UInt8.toNat_ofNat'];omega
def ain{a b:List Int}(ha:BOk a)(hb:BOk b)(h:BH a=BH b):a=b:=by
 rw[← Qq ha,h,Qq hb]
def Rr(f:Frame):BOk (Cq f):=by
 unfold Cq;split
 .exact BOk.app (bj f) (.cons _<|.cons _ .nil)
 .exact .nil
def II{n:Int}(h0:0<=n)(h1:n<=255):w8 n=n:=by
 rw[NX];omega
def V0{n:Int}(h0:0<=n)(h1:n<=65535):256 * w8 (w64<|B0 n 256)+w8 (BC n 256)=n:=by
 rw[NX,NX,GF h0,LH h0,Aa J J];omega
def aqZ{s:A4}(h:s.size=4):∃a b c d,s=B [a,b,c,d]:=by
 have h':(L s).length=4:=h;rcases hl:L s with _|⟨a,_|⟨b,_|⟨c,_|⟨d,_|⟨e,l⟩⟩⟩⟩⟩<;>rw[hl]at h'<;>simp at h';exact⟨a,b,c,d,Fm (by rw[L_B,hl])⟩
def xZ{a1 a2 a3 a4 a5 a6 a7 a8 a9 b1 b2 b3 b4 b5 b6 b7 b8 b9:Int}{s t:A4}(h1:a1=b1)(h2:a2=b2)(h3:a3=b3)(h4:a4=b4)(h5:a5=b5)(h6:a6=b6)(h7:a7=b7)(h8:a8=b8)(h9:a9=b9)(h:s=t):
  (⟨a1,a2,a3,a4,a5,a6,a7,a8,a9,s⟩:Frame)=⟨b1,b2,b3,b4,b5,b6,b7,b8,b9,t⟩:=by
 subst h1 h2 h3 h4 h5 h6 h7 h8 h9 h;rfl
def abU{f:Frame}(h:CP f=A1):CW (Cq f)=(f,A1):=by
 have hr:=Oa h;have r1:=Af.1 hr.1;have r2:=Af.1 hr.2.1;have r3:=Af.1 hr.2.2.1;have r4:=Af.1 hr.2.2.2.1;have r5:=Af.1 hr.2.2.2.2.1;have r6:=Af.1 hr.2.2.2.2.2.1;have r7:=hr.2.2.2.2.2.2;have vT:FJ (Cq f)=f/\((Cq f).length=10\/(Cq f).length=17):=by
  obtain⟨ki,src,dst,fr,nu,t',un,sz,mix,da⟩:=f;simp only at r1 r2 r3 r4 r5 r6 r7;unfold Cq;rw[A8 h];unfold LX at r7;by_cases hk:ki=1
  .subst hk;simp only[AS,A5,AI,decide_eq_true_eq]at r7;obtain⟨q1,q2,q3,q4⟩:=r7;have q1:=Af.1 q1;have q2:=Af.1 q2;obtain⟨a,b,c,d,rfl⟩:=aqZ (s:=da) J;unfold Eg;simp only[AS,A5];have hb:BA (B [a,b,c,d])=[(a.toNat:Int),b.toNat,c.toNat,d.toNat]:=rfl;rw[hb];refine⟨?_,.inr rfl⟩;have e1:=V0 (n:=un) J J;have e2:=V0 (n:=mix) J J;unfold FJ;rw[A8<|by rfl];have g1:=II (n:=src) J J;have g2:=II (n:=dst) J J;have g3:=II (n:=fr) J J;have g4:=II (n:=nu) J J;have g5:=II (n:=t') J J;have g6:=II (n:=sz) J J;have g7:=T4 [a,b,c,d];exact xZ rfl g1 g2 g3 g4 g5 e1 g6 e2 g7
  .rw[AB<|by simpa using hk]at r7;simp only[AI,Ci,decide_eq_true_eq]at r7;obtain⟨q0,q1,q2,q3,q4⟩:=r7;unfold Eg;simp only[Bf hk,A6];refine⟨?_,.inl rfl⟩;have e1:=V0 (n:=un) J J;unfold FJ;rw[AB<|by simp];have g0:=II (n:=ki) J J;have g1:=II (n:=src) J J;have g2:=II (n:=dst) J J;have g3:=II (n:=fr) J J;have g4:=II (n:=nu) J J;have g5:=II (n:=t') J J;exact xZ g0 g1 g2 g3 g4 g5 e1 q1.symm q2.symm q3.symm
 unfold CW;rw[vT.1,A8,A8<|AZ rfl];rw[Ci,decide_eq_true_eq,decide_eq_true_eq];have:=vT.2;omega
def Nu:List Int->Nat->Int
 | [],_=>0
 | x::r,i=>x * ((i % 1000:Nat)+1)+Nu r (i+1)
def s8:∀ {l:List Int} {i:Nat} {n:Int},BOk l->0<=n->n<65521->F1 l i n=(n+Nu l i) % 65521
 | [],i,n,_,h0,h1=>by
  unfold F1 Nu;omega
 | x::r,i,n,hb,h0,h1=>by
  have hx:=hb x Ap;have hp:0<=x * ((i % 1000:Nat)+1:Int):=nO hx.1 J;unfold F1 Nu;rw[LH J,s8 (λy hy=>hb y<|Al x hy) J J];omega
def wO:∀ {l:List Int} {j i:Nat} {x:Int} (h:j<l.length),Nu (l.set j x) i=Nu l i+(x - l[j]) * (((i+j) % 1000:Nat)+1)
 | y::r,0,i,x,h=>by
  rw[List.set_cons_zero];unfold Nu;simp only[List.getElem_cons_zero,Hn];rw[Int.sub_mul];omega
 | y::r,j+1,i,x,h=>by
  rw[List.set_cons_succ];unfold Nu;rw[wO (j:=j) (i:=i+1)<|by simpa using h,List.getElem_cons_succ,show i+1+j=i+(j+1) by omega];omega
structure XK (b body:List Int):Prop where
 e:b=body++two (F1 body 0 0)
 ok:BOk body
 len:body.length<=15
def ak6{a b:Int}(h0:0<=a/\a<65521)(h1:0<=b/\b<65521)(h:two a=two b):a=b:=by
 have e1:=V0 (n:=a) J J;have e2:=V0 (n:=b) J J;unfold two at h;simp only[MC,and_true]at h;rw[← e1,← e2,h.1,h.2]
def afv{b body P8:List Int}{j:Nat}{x:Int}(h:XK b body)(hj:j<b.length)(hx:x≠b[j])(hr:0<=x/\x<=255):¬XK (b.set j x) P8:=by
 intro h';have hlb:b.length=body.length+2:=by rw[h.e];simp
 have ayC:(b.set j x).length=P8.length+2:=by rw[h'.e];simp
 rw[Es]at ayC;have hs:=gq (i:=0) (n:=0) h.ok J J;have hs':=gq (i:=0) (n:=0) h'.ok J J;have e:=h'.e;have hbl:body.length=P8.length:=J
 by_cases hlt:j<body.length
 .have e1:(body.set j x)++two (F1 body 0 0)=P8++two (F1 P8 0 0):=by
   rw[← e,h.e,List.set_append_left _ _ hlt]
  obtain⟨e2,e3⟩:=List.append_inj e1 (by rw[Es];exact hbl);have e4:=ak6 hs hs' e3;have hbj:b[j]=body[j]:=by simp only[h.e,List.getElem_append_left hlt]
  rw[← e2]at e4 h';rw[s8 h.ok J J,s8 h'.ok J J,wO hlt]at e4;have hb1:=h.ok body[j] (CQ hlt);have hlen:=h.len;rw[hbj]at hx;have hm:((0+j) % 1000:Nat)=j:=J
  rw[hm]at e4;have hd:∃d:Int,d=(x - body[j]) * ((j:Int)+1):=⟨_,rfl⟩;obtain⟨d,hd⟩:=hd;rw[← hd]at e4;have h1:d≠0:=by
   rw[hd];exact Int.mul_ne_zero J J
  have h2:d<=255 * 15:=by
   rw[hd];have a1:(x - body[j]) * ((j:Int)+1)<=255 * ((j:Int)+1):=oT J J;omega
  have h3: -(255 * 15)<=d:=by
   rw[hd];have a1:(-255) * ((j:Int)+1)<=(x - body[j]) * ((j:Int)+1):=oT J J;omega
  omega
 .have e1:body++(two<|F1 body 0 0).set (j - body.length) x=P8++two (F1 P8 0 0):=by
   rw[← e,h.e,yn _ _ J]
  obtain⟨e2,e3⟩:=List.append_inj e1 hbl;rw[← e2]at e3;have e4:b.set j x=b:=by
   rw[e,← e2];exact h.e.symm
  have:(b.set j x)[j]'(by rw[Es];exact hj)=x:=List.getElem_set_self ..;rw[List.getElem_of_eq e4]at this;exact hx this.symm
def aCh{f:Frame}(h:CP f=A1):XK (Cq f) (Eg f):=⟨by unfold Cq;rw[A8 h],bj f,dj h⟩
def agi{b:List Int}(hb:BOk b)(h:(CW b).2=A1):XK b (Eg (CW b).1):=by
 have ok:=awr h;have:Cq (CW b).1=b:=by
  unfold CW at h ⊢;split
  .rename_i h1;rw[A8 h1]at h;split
   .rename_i h2;exact ain (Rr _) hb (BT h2)
   .rename_i h2;rw[AB h2]at h;cases h
  .rename_i h1;rw[AB h1]at h;cases h
 have hs:=aCh ok;rw[this]at hs;exact hs
def att{x k:Int}(hx:0<=x/\x<=255)(hk:1<=k/\k<=255):Dm .u8 x (w8 k)≠x/\0<=Dm .u8 x (w8 k)/\Dm .u8 x (w8 k)<=255:=by
 rw[II J J];have e:Dm .u8 x k=w8 ((FE 8 x ^^^ FE 8 k).toNat:Int):=rfl;have hlt:=(FE 8 x ^^^ FE 8 k).isLt;rw[e,II J J];refine⟨λh=> ?_,J,J⟩;obtain⟨m,rfl⟩:=HO hx.1;obtain⟨n,rfl⟩:=HO (show 0<=k by omega);have e1:(FE 8 (m:Int) ^^^ FE 8 (n:Int))=FE 8 (m:Int):=by
  apply pO;rw[Qm];omega
 have e2:FE 8 (n:Int)=0#8:=by
  have:=congrArg (λz=>FE 8 (m:Int) ^^^ z) e1;simpa[← BitVec.xor_assoc] using this
 have e3:=congrArg BitVec.toNat e2;rw[Qm]at e3;simp at e3;omega
def aiJ{f:Frame}{p:AT}(hf:CP f=A1)(hd:p.data=BH (Cq f)){mix kp:Int}(hm:inB mix 0 ((p.data.size:Int) - 1)=A1)(hk:inB kp 1 255=A1):(CW<|BA (OI p mix kp).data).2=A3:=by
 have hm:=Af.1 hm;have hk:=Af.1 hk;rw[hd,Sb]at hm;rcases tf (CW<|BA (OI p mix kp).data).2 with h|h
 .exfalso;have hs:=agi (BOk.str _) h;unfold OI at hs;simp only at hs;rw[hd,Qq<|Rr f]at hs;have hlt:mix.toNat<(Cq f).length:=J
  have hrd: @rd Int (dfl .u8) (Cq f) mix=(Cq f)[mix.toNat]:=by
   show(Cq f).getD mix.toNat 0=_;rw[BD,Ax hlt];rfl
  rw[hrd]at hs;have hx:=Rr f _<|CQ hlt;have hne:=att hx hk;have hb:BOk ((Cq f).set mix.toNat<|Dm .u8 (Cq f)[mix.toNat] (w8 kp)):=by
   intro y hy;rcases Ox hy with h1|h1
   .exact Rr f y h1
   .rw[h1];exact hne.2
  rw[Qq hb]at hs;exact afv (aCh hf) hlt hne.1 hne.2 hs
 .exact h
def aD6{α β:Type}{f g:α->β->α}:∀ {l:List β} {a:α},(∀a,∀b∈l,f a b=g a b)->l.foldl f a=l.foldl g a
 | [],_,_=>rfl
 | x::l,a,h=>by
  rw[Dx,Dx,h a x Ap];exact aD6 λa b hb=>h a b<|Al x hb
def NA(b:Nat)(bl:Nat->List UInt8)(kn:List A4):Prop:=∀k,k<b->bsA kn k=noB\/bsA kn k=B (bl k)
def adx{b:Nat}{bl:Nat->List UInt8}{kn kn':List A4}{m:AQ}(hb:∀k,(bl k).length=4)(hm:HZ m->m.da=B (Dn 4 bl<|BV (b:Int) m.nu))
  (h:CN b kn)(ht:NA b bl kn)(e:Dl b kn m=I kn'):NA b bl kn':=by
 unfold Dl at e;split at e
 .rename_i hc;rw[AI]at hc;have hda:=hm ⟨hc.1,BT hc.2⟩;split at e
  .rename_i u hu;injection e with e;subst e;have Eu:u∈Cm kn (BV (b:Int) m.nu):=by rw[hu];exact LN u
   obtain⟨h1,h2⟩:=Gy.1 Eu;have h3:=KA h1;have hul:u<kn.length:=by rw[h.1];omega
   have hv:E8 kn (BV (b:Int) m.nu) (L m.da)=bl u:=by
    have hp:=atO (n:=4) (bl:=bl) (p:=λk=> !unk kn k) (ks:=BV (b:Int) m.nu) (u:=u) (λk _=>hb k) (by
     have:(BV (b:Int) m.nu).filter (λk=> !(!unk kn k))=Cm kn (BV (b:Int) m.nu):=by
      unfold Cm;congr 1;funext k;rw[Bool.not_not]
     rw[this,hu])
    rw[← hp,hda,L_B];unfold E8;refine aD6 λx k hk=> ?_;rcases tf (unk kn k) with c|c
    .rw[c];rfl
    .rw[c];have hkb:=KA hk;rcases ht k J with h4|h4
     .exact absurd h4 (IP c)
     .rw[h4,L_B];rfl
   intro k hk;rw[RD _ hul];by_cases ek:k=u
   .rw[A8 ek,hv,ek];exact .inr rfl
   .rw[AB ek];exact ht k hk
  .cases e
 .cases e
def pL{b:Nat}{bl:Nat->List UInt8}(hb:∀k,(bl k).length=4):∀(list:List AQ) (s:List A4×Bool),(∀m∈list,HZ m->m.da=B (Dn 4 bl<|BV (b:Int) m.nu))->CN b s.1->NA b bl s.1->NA b bl (list.foldl (C5 b) s).1
 | [],_,_,_,h=>h
 | m::list,s,hm,h,ht=>by
  rw[Dx];cases e:Dl b s.1 m with
  | none=>
   rw[show C5 b s m=s by unfold C5;rw[e]];exact pL hb list s (λx hx=>hm x<|Al m hx) h ht
  | some kn=>
   rw[show C5 b s m=(kn,A1) by unfold C5;rw[e]];exact pL hb list (kn,A1) (λx hx=>hm x<|Al m hx) (QT h e).1<|adx hb (hm m Ap) h ht e
def aBf{b:Nat}{bl:Nat->List UInt8}(hb:∀k,(bl k).length=4){list:List AQ}(hm:∀m∈list,HZ m->m.da=B (Dn 4 bl<|BV (b:Int) m.nu)):∀(n:Nat) (kn:List A4),CN b kn->NA b bl kn->NA b bl (F2 b list n kn)
 | 0,_,_,h=>h
 | n+1,kn,h,ht=>by
  have h1:=(Lt list (kn,A3) h).1;have h2:=pL hb list (kn,A3) hm h ht;unfold F2;split
  .exact aBf hb hm n _ h1 h2
  .exact h2
def aCq{b:Nat}{list:List AQ}:∀(n:Nat) (kn:List A4),CN b kn->∀k,unk (F2 b list n kn) k=A1->unk kn k=A1
 | 0,_,_,_,h=>h
 | n+1,kn,h,k,hk=>by
  obtain⟨h1,h2,_⟩:=Lt list (kn,A3) h;unfold F2 at hk;split at hk
  .exact h2 k (aCq n _ h1 k hk)
  .exact h2 k hk
def aar{b:Nat}{k:Nat}:∀(list:List AQ) (s:List A4×Bool),(∃m∈list,HZ m/\BV (b:Int) m.nu=[k])->CN b s.1->unk (list.foldl (C5 b) s).1 k=A3
 | [],_,h,_=>by
  obtain⟨m,hm,_⟩:=h;cases hm
 | m::list,s,h,hk=>by
  rw[Dx];have hs:CN b (C5 b s m).1:=by
   unfold C5;split
   .rename_i kn e;exact(QT hk e).1
   .exact hk
  obtain⟨x,hx,hf,hof⟩:=h;rcases Bk.1 hx with rfl|hx
  .have h1:unk (C5 b s x).1 k=A3:=by
    unfold C5 Dl;rw[A8 (by rw[AI];exact⟨hf.1,AZ hf.2⟩),hof];unfold Cm;rw[J6,Ti];rcases tf (unk s.1 k) with c|c
    .have hul:k<s.1.length:=by
      have h3:=KA (b:=(b:Int)) (n:=x.nu) (k:=k) (by rw[hof];exact LN k);rw[hk.1];omega
     simp only[c,A5];unfold unk;rw[RD _ hul,A8 rfl];refine Bf λhh=> ?_;have h4:(B<|E8 s.1 [k] (L x.da)).size=4:=by
      rw[BM,rk hk (by have:=hf.2;rw[Ay];omega) λj hj=>by rw[DB.1 hj,← hk.1];exact hul]
     rw[hh]at h4;cases h4
    .simp only[c,A6]
   rcases tf (unk (list.foldl (C5 b)<|C5 b s x).1 k) with c|c
   .have:=(Lt list (C5 b s x) hs).2.1 k c;rw[h1]at this;cases this
   .exact c
  .exact aar list _ ⟨x,hx,hf,hof⟩ hs
def aqg{b:Nat}{k:Nat}{list:List AQ}(h:∃m∈list,HZ m/\BV (b:Int) m.nu=[k])(n:Nat){kn:List A4}(hk:CN b kn):unk (F2 b list (n+1) kn) k=A3:=by
 have h1:=aar list (kn,A3) h hk;have h2:=(Lt list (kn,A3) hk).1;unfold F2;split
 .rcases tf (unk (F2 b list n (FR b list kn).1) k) with c|c
  .have:=aCq n _ h2 k c;rw[h1]at this;cases this
  .exact c
 .exact h1
def abl:∀ {l:List (List UInt8)} {a:A4},(∀x∈l,x.length=4)->FA (l.map B) a=I (a++B l.flatten)
 | [],a,_=>by
  show I a=_;congr 1;apply Fm;rw[GL,L_B];simp
 | x::l,a,h=>by
  rw[DW];unfold FA;have hx:=h x Ap;rw[AB (λe=>by have:(B x).size=0:=(by rw[e];rfl);rw[BM]at this;omega),abl λy hy=>h y<|Al x hy];congr 1;apply Fm;simp only[GL,L_B,List.flatten_cons,C7]
def ayz{b:Nat}{bl:Nat->List UInt8}{kn:List A4}(h:CN b kn)(ht:NA b bl kn)(hu:∀k,k<b->unk kn k=A3):kn=((BN b).map bl).map B:=by
 apply rD;intro i;by_cases hi:i<b
 .rw[IQ,DE,Gd hi];have h1:=hu i hi;rcases ht i hi with h2|h2
  .exact absurd h2 (IP h1)
  .have hl:i<kn.length:=by rw[h.1];exact hi
   rw[bsA,BD,Ax hl]at h2;rw[Ax hl];exact congrArg I h2
 .rw[I7 (by rw[h.1];omega),I7 (by simp;omega)]
def aEB(t:List UInt8):∀b:Nat,((BN b).map<|GC t).flatten=(BN<|4 * b).map λi=>t.getD i 0
 | 0=>rfl
 | b+1=>by
  rw[L5,Ev,List.flatten_append,aEB t b];have:BN (4 * (b+1))=BN (4 * b)++[4 * b,4 * b+1,4 * b+2,4 * b+3]:=by
   rw[show 4 * (b+1)=4 * b+1+1+1+1 by omega];simp only[L5,C7];rfl
  rw[this,Ev];rfl
def ajh{s:Int}(h:inB s 1 24=A1):B0 (s+3) 4=(((s.toNat+3) / 4:Nat):Int)/\inB (B0 (s+3) 4) 1 6=A1:=by
 have h:=Af.1 h;have:B0 (s+3) 4=(((s.toNat+3) / 4:Nat):Int):=by
  rw[GF J];omega
 refine⟨this,Af.2 ?_⟩;rw[this];omega
def iI{s:Int}(h:inB s 1 24=A1)(list:List AQ):Ch s list=(match FA (F2 ((s.toNat+3) / 4) list 7<|BW ((s.toNat+3) / 4) noB) noB with
  | none=>(noB,A3)
  | some c=>if JV c s.toNat then(c.extract 0 s.toNat,A1) else(noB,A3)):=by
 obtain⟨h1,h2⟩:=ajh h;unfold Ch Hu;rw[A8 h,A8 h2,h1,Bu]<;>rfl
def awV{tx:A4}(h:inB tx.size 1 24=A1):(let c:=noB++B ((BN<|(tx.size+3) / 4).map<|GC<|L tx).flatten
  (if JV c tx.size then(c.extract 0 tx.size,A1) else(noB,A3)))=(tx,A1):=by
 have h:=Af.1 h;have hc:L (noB++B ((BN<|(tx.size+3) / 4).map<|GC<|L tx).flatten)=(BN<|4 * ((tx.size+3) / 4)).map λi=>(L tx).getD i 0:=by
  rw[GL,L_B,aEB];rfl
 generalize noB++B ((BN<|(tx.size+3) / 4).map<|GC<|L tx).flatten=c at hc;have hsz:c.size=4 * ((tx.size+3) / 4):=by rw[← Ay,hc];simp
 have hz:JV c tx.size=A1:=by
  unfold JV;rw[CO];intro i hi;refine AZ ?_;unfold bt;show(((L c).getD (tx.size+i) 0).toNat:Int)=0;rw[hc,BD,DE,Gd J];simp only[Pq,C8];rw[BD,I7 (by rw[Ay];omega)];rfl
 show(if JV c tx.size then(c.extract 0 tx.size,A1) else(noB,A3))=(tx,A1);rw[A8 hz];congr 1;apply Fm;rw[E5,J0,hc,JM];apply rD;intro i;rw[Gu];split
 .rename_i hi;rw[DE,Gd J];simp only[Pq];rw[BD,Ax (by rw[Ay];exact hi)];rfl
 .rw[I7 (by rw[Ay];omega)]
def zT(tx:A4)(list:List AQ):Prop:=∀m∈list,HZ m->m.da=JA tx m.nu
def ae5{tx:A4}(h:inB tx.size 1 24=A1):(DG tx).length=(tx.size+3) / 4:=by
 unfold DG;rw[A8 h];simp
def ax7{tx:A4}(h:inB tx.size 1 24=A1):inB (((tx.size+3) / 4:Nat):Int) 1 6=A1:=by
 have h:=Af.1 h;exact Af.2 J
def aEs{b:Nat}{f:Nat->Bool}:∀(n:Nat) (x:Int),0<b->(∃k,k<b/\f k=A1)->∃k,k<b/\JJ b n f x k=A1
 | 0,_,_,h=>h
 | n+1,x,hb,h=>by
  obtain⟨k,hk,e⟩:=h;exact aEs n _ hb ⟨k,hk,by unfold IH;split;rfl;exact e⟩
def apv{b:Nat}{f:Nat->Bool}{n:Nat}{x:Int}(hb:0<b)(hn:0<n):∃k,k<b/\JJ b n f x k=A1:=by
 obtain⟨n,rfl⟩:∃m,n=m+1:=⟨n - 1,J⟩;rw[JJ];refine aEs n _ hb ⟨_, ?_,by unfold IH;rw[A8 rfl]⟩;refine Ta _ _ ?_;have:BC (B0 (rnd x) 16) (b:Int)<b:=Ro _ J;have h0:0<=BC (B0 (rnd x) 16) (b:Int):=Qs _<|j0 (TD x).1 J;omega
def aDm{b r:Int}(hb:1<=b):∀(ws:List Int) (acc d:Int),1<=d->1<=MS (LR b r ws acc d)
 | [],_,_,_=>hb
 | w::ws,acc,d,h=>by
  unfold LR;split
  .exact h
  .exact aDm hb ws _ _ J
def afD{b n:Int}(h:De b n=A1):1<=Fz b n:=by
 have hb:1<=b:=by
  unfold De at h;rw[AI]at h;exact(Af.1 h.1).1
 unfold Fz;rw[A8 h];split
 .exact Jk _
 .exact aDm hb _ _ _<|Jk _
def aan{b n:Int}(h:De b n=A1):BV b n≠[]:=by
 have hb:1<=b:=by
  unfold De at h;rw[AI]at h;exact(Af.1 h.1).1
 unfold BV;rw[A8 h];split
 .simp
 .obtain⟨k,hk,e⟩:=apv (b:=b.toNat) (f:=λ_=>A3) (n:=(Fz b n).toNat) (x:=rnd<|7 * n+1) J (by have:=afD h;omega);intro hh;have:k∈HJ (JJ b.toNat (Fz b n).toNat (λ_=>A3)<|rnd<|7 * n+1) b.toNat:=Gy.2 ⟨DV.2 hk,e⟩;rw[hh]at this;cases this
def o3{n:Int}(h:inB n 0 999=A1):BV 1 n=[0]:=by
 have hm:De 1 n=A1:=by unfold De;rw[h];rfl
 have hne:=aan hm;unfold BV at hne ⊢;rw[A8 hm]at hne ⊢;split
 .rename_i hc;rw[A8 hc]at hne;have h1:=BT hc;have h2:=Af.1 h;rw[show n.toNat=0 by omega]
 .rename_i hc;rw[AB hc]at hne;unfold HJ at hne ⊢;rw[show(1:Int).toNat=1 from rfl,List.range_one]at hne ⊢;rw[J6]at hne ⊢;split
  .rfl
  .rename_i h3;rw[AB h3]at hne;exact absurd rfl hne
def wT{tx:A4}(h:inB tx.size 1 24=A1){n:Int}(hn:inB n 0 999=A1):JA tx n=B (Dn 4 (GC<|L tx)<|BV (((tx.size+3) / 4:Nat):Int) n):=by
 unfold JA;rw[ae5 h];have:=aan (b:=(((tx.size+3) / 4:Nat):Int)) (n:=n) (by unfold De;rw[ax7 h,hn];rfl);rw[AB (by rw[List.isEmpty_iff];exact this)]
def al5{tx:A4}(h:inB tx.size 1 24=A1){n:Int}(hn:inB n 0 999=A1):HZ ⟨n,JA tx n⟩:=by
 refine⟨hn, ?_⟩;show((JA tx n).size:Int)=4;rw[wT h hn,BM,Rw λk _=>Uz _ k];rfl
def ayp{tx:A4}(h:inB tx.size 1 24=A1){list:List AQ}(hl:zT tx list):∀m∈list,HZ m->m.da=B (Dn 4 (GC<|L tx)<|BV (((tx.size+3) / 4:Nat):Int) m.nu):=by
 intro m hm hf;rw[hl m hm hf,wT h hf.1]
def akZ(b:Nat)(bl:Nat->List UInt8):NA b bl (BW b noB):=by
 intro k hk;left;rw[bsA,BD,UP,A8 hk];rfl
def ah6{tx:A4}(h:inB tx.size 1 24=A1){list:List AQ}(hl:zT tx list)(hf:∀k:Nat,k<(tx.size+3) / 4->∃m∈list,HZ m/\BV (((tx.size+3) / 4:Nat):Int) m.nu=[k]):Ch tx.size list=(tx,A1):=by
 rw[iI h,Bu];have h1:=Zr list 7 _<|CN.new<|(tx.size+3) / 4;have h2:=aBf (λk=>Uz (L tx) k) (ayp h hl) 7 _ (CN.new<|(tx.size+3) / 4)<|akZ _ _;have h3:∀k,k<(tx.size+3) / 4->unk (F2 ((tx.size+3) / 4) list 7<|BW ((tx.size+3) / 4) noB) k=A3:=λk hk=>aqg (hf k hk) 6<|CN.new<|(tx.size+3) / 4;rw[ayz h1 h2 h3,abl (by
  intro x hx;obtain⟨k,_,rfl⟩:=DP.1 hx;exact Uz _ _)]
 exact awV h
def Pe(S:A7->Prop)(f:Frame):Prop:=f.ki=1->∃n,S n/\B3 n=A1/\f.fr=n.fr/\f.nu=n.nu/\f.to=n.to/\f.un=n.un/\f.sz=n.tx.size/\f.da=JA n.tx f.mix
structure PcI (S:A7->Prop) (p:AT):Prop where
 wU:p.sp=A3->∃f,p.data=BH (Cq f)/\p.src=f.src/\p.dst=f.dst/\(CP f=A1->Pe S f)
 bad:p.sp=A1->(CW<|BA p.data).2=A3
def agE:(CW<|BA<|BH []).2=A3:=by rfl
def PcI.frame{S:A7->Prop}{p:AT}(h:PcI S p)(hu:(CW<|BA p.data).2=A1):∃f,CW (BA p.data)=(f,A1)/\CP f=A1/\p.src=f.src/\p.dst=f.dst/\Pe S f/\p.data=BH (Cq f):=by
 rcases tf p.sp with c|c
 .rw[h.bad c]at hu;cases hu
 .obtain⟨f,h1,h2,h3,h4⟩:=h.wU c;rcases tf (CP f) with e|e
  .refine⟨f, ?_,e,h2,h3,h4 e,h1⟩;rw[h1,Qq<|Rr f,abU e]
  .rw[h1]at hu;unfold Cq at hu;rw[e,A6,agE]at hu;cases hu
def PcI.apD{S:A7->Prop}{p:AT}(h:PcI S p)(hs:p.sp=A3){mix kp:Int}(hm:inB mix 0 ((p.data.size:Int) - 1)=A1)(hk:inB kp 1 255=A1):PcI S (OI p mix kp):=by
 obtain⟨f,h1,_,_,_⟩:=h.wU hs;refine⟨λe=>(by cases e),λ_=> ?_⟩;rcases tf (CP f) with e|e
 .exact aiJ e h1 hm hk
 .have h2:=Af.1 hm;rw[h1]at h2;unfold Cq at h2;rw[e,A6,Sb]at h2;simp at h2;omega
def PcI.send{S:A7->Prop}{f:Frame}(h:CP f=A1->Pe S f):PcI S (pcF f):=⟨λ_=>⟨f,rfl,rfl,rfl,h⟩,λe=>by cases e⟩
def aag{ra:List AT}{fs:List Frame}{p:AT}(h:p∈CR ra fs):p∈ra\/ ∃f∈fs,p=pcF f:=by
 unfold CR at h;rcases Br.1 h with h|h
 .exact .inl h
 .obtain⟨f,hf,rfl⟩:=DP.1 h;exact .inr ⟨f,Ib hf,rfl⟩
def aDy{ra:List AT}{i:Nat}{p:AT}(h:p∈F7 ra i):p∈ra:=by
 unfold F7 at h;rcases Br.1 h with h|h
 .exact Ib h
 .exact Io h
def tX{k:AA}{f g:Frame}(h:g∈(BI k f).2):g=Ez 2 f\/g=Ez 3 f:=by
 unfold BI at h;split at h
 .unfold G9 at h;split at h
  .split at h
   .unfold G4 at h;split at h
    .exact .inr (DB.1 h)
    .split at h
     .exact .inl (DB.1 h)
     .split at h
      .cases h
      .unfold GG at h;split at h
       .split at h
        .unfold HG at h;split at h
         .exact .inl (DB.1 h)
         .cases h
        .cases h
       .cases h
   .split at h<;>cases h
  .cases h
 .cases h
def ati(S:A7->Prop){k:AA}{f g:Frame}(h:g∈(BI k f).2):Pe S g:=by
 intro hk;rcases tX h with rfl|rfl
 .exact absurd hk (show ¬(2:Int)=1 by decide)
 .exact absurd hk<|show ¬(3:Int)=1 by decide
def ahi{l:List A7}{i:Int}(h0:0<=i)(h1:i.toNat<l.length):nA l i.toNat∈l:=by
 rw[nA,BD,Ax h1];exact CQ h1
def aqb{st:AJ}(h:Aw st=A1){n:A7}(hn:n∈st.held):B3 n=A1:=by
 unfold Aw at h;simp only[AI]at h;have hh:=h.2.2.2.1.2;obtain⟨j,hj,rfl⟩:=Dt hn;have:=CO.1 hh j hj;rw[AI,nA,BD,Ax hj]at this;exact this.1
def aqk{S:A7->Prop}{k:AA}(h:Av k=A1)(hS:∀n∈(stT k).held,S n){fr nu mix:Int}(hb:(GJ k fr nu mix).2=A1):Pe S (GJ k fr nu mix).1:=by
 intro _;unfold GJ at hb ⊢;split at hb
 .rename_i hc;rw[A8 hc];simp only[AI,DR,decide_eq_false_iff_not]at hc;have h0:=HM<|Sc.1 hc.2.1;have hm:=ahi (Sc.1 hc.2.1) h0.1;exact⟨_,hS _ hm,aqb (Co h).kok hm,rfl,rfl,rfl,rfl,rfl,rfl⟩
 .cases hb
def jn{n:A7}(h:B3 n=A1):inB n.tx.size 1 24=A1:=by
 unfold B3 LC at h;simp only[AI]at h;exact h.2.2.2.2.1
def Vp(hv:List AH)(f:Frame):(∃i,Ab hv f=(hv,i)/\i<hv.length/\(hA hv i).fr=f.fr/\(hA hv i).nu=f.nu/\Du hv f.fr f.nu=(i:Int))\/
  (Du hv f.fr f.nu<0/\ ∃l:List AH,l.Sublist hv/\Ab hv f=(l++[⟨f.fr,f.nu,f.to,f.un,f.sz,[]⟩],l.length)):=by
 unfold Ab;rcases NV hv f.fr f.nu with h|⟨i,h1,h2,h3,h4⟩
 .rw[A8 h];refine .inr ⟨h,_, ?_,rfl⟩;split
  .exact cj _ _
  .exact Em _
 .rw[AB J];exact .inl ⟨i,by rw[h1];rfl,h2,h3,h4,h1⟩
def S2(l:List AH)(h:AH):hA (l++[h]) l.length=h:=by
 unfold hA;rw[BD,EC<|As _];simp
def aR(mix:Int)(da:A4):CC [] mix da=[⟨mix,da⟩]:=rfl
def as9(l:List AH)(h:AH):Db (l++[h]) l.length=l:=by
 unfold Db;rw[List.take_left,KR<|by simp,CH]
def ah5(l:List AH)(h:AH)(f:Frame):∃g,By (l++[h]) l.length f=l++[g]:=by
 unfold By;rw[yn _ _<|As _,Mj];exact⟨_,rfl⟩
def WH(k:AA)(r:A4)(f:Bool):(wrR k r f).1.AE=k.AE:=by
 unfold wrR;split
 .rfl
 .cases f<;>rfl
def HT(k:AA):Prop:=∀h∈k.AE,5<=h.sz
def ur{l:List AH}{i:Nat}{f:Frame}(hi:i<l.length)(h:∀x∈l,5<=x.sz):∀x∈By l i f,5<=x.sz:=by
 intro x hx;unfold By at hx;rcases Ox hx with h1|h1
 .exact h x h1
 .rw[h1];exact h (hA l i) (by rw[FZ hi];exact CQ hi)
def uw{l:List AH}{i:Nat}{x:AH}(h:x∈Db l i):x∈l:=by
 unfold Db at h;rcases Br.1 h with h|h
 .exact Ib h
 .exact Io h
def agX{f:Frame}{n:A7}(hn:B3 n=A1)(hs:f.sz=n.tx.size)(hd:f.da=JA n.tx f.mix)(h4:f.sz<=4)(hm:inB f.mix 0 999=A1):Ch f.sz [⟨f.mix,f.da⟩]=(n.tx,A1):=by
 have htx:=jn hn;have h1:=Af.1 htx;rw[hs];refine ah6 htx ?_ ?_
 .intro m hmm _;rw[DB.1 hmm];exact hd
 .intro k hk;refine⟨_,LN _, ?_, ?_⟩
  .rw[hd];exact al5 htx hm
  .have hb:(n.tx.size+3) / 4=1:=J
   rw[hb];have hk0:k=0:=J
   rw[hk0];exact o3 hm
def qE(k:AA)(n:A7)(f:Frame):(HG k n f).1.AE=k.AE:=by
 unfold HG;split
 .exact WH _ _ _
 .rfl
def lp(f:Frame):Mk ⟨f.fr,f.nu,f.to,f.un,f.sz,[]⟩ f=A1:=by
 unfold Mk;simp
def ax1{S:A7->Prop}{k:AA}{f:Frame}(hb:HT k)(hf:CP f=A1)(h1:f.ki=1)(g:Pe S f):HT (GG k f).1:=by
 obtain⟨n,_,hn,_,_,_,_,hs,hd⟩:=g h1;have hp:=Qn hf h1;have hlt:=OK (hv:=k.AE) (f:=f);unfold GG;rcases Vp k.AE f with⟨i,e,hi,_,_,_⟩|⟨_,l,hl,e⟩
 .rw[e]at hlt ⊢;split
  .have hab:=ur (f:=f) hi hb;split
   .intro h hh;rw[qE]at hh;exact hab h (uw hh)
   .exact hab
  .exact hb
 .have hlb:∀x∈l,5<=x.sz:=λx hx=>hb x<|hl.subset hx;rw[e]at hlt ⊢;simp only[S2,lp,A5];obtain⟨g',hg'⟩:=ah5 l ⟨f.fr,f.nu,f.to,f.un,f.sz,[]⟩ f;by_cases h5:5<=f.sz
  .have hab:=ur (f:=f) (l:=l++[⟨f.fr,f.nu,f.to,f.un,f.sz,[]⟩]) (i:=l.length) hlt (by
    intro x hx;rcases Br.1 hx with h|h
    .exact hlb x h
    .rw[DB.1 h];exact h5)
   split
   .intro h hh;rw[qE]at hh;exact hab h (uw hh)
   .exact hab
  .rw[aR,agX hn hs hd J hp.2.1.1];simp only[A5];intro h hh;rw[qE,hg']at hh;rw[show(GY k<|Db (l++[g']) l.length).AE=Db (l++[g']) l.length from rfl,as9]at hh;exact hlb h hh
def avw{S:A7->Prop}{k:AA}{f:Frame}(hk:Av k=A1)(hb:HT k)(g:CP f=A1->Pe S f):HT (BI k f).1:=by
 unfold BI;rw[A8 hk];unfold G9;split
 .rename_i hc;simp only[AI]at hc;split
  .rename_i h1;unfold G4;split
   .exact hb
   .split
    .exact hb
    .split
     .exact hb
     .exact ax1 hb hc.2.1 (BT h1) (g hc.2.1)
  .split
   .intro h hh;rw[WH]at hh;exact hb h hh
   .exact hb
 .exact hb
structure Jl (S:A7->Prop) (w:Am):Prop where
 p:∀p∈w.AU,PcI S p
 b:∀i,i<4->HT (kA w.AK i)
def azF(k:AA)(tt un:Int)(tx:A4):(EU k tt un tx).1.AE=k.AE:=by
 unfold EU;split
 .exact WH _ _ _
 .rfl
def ahD(k:AA)(a b:Int):(EB k a b).1.AE=k.AE:=by
 unfold EB;split
 .exact WH _ _ _
 .rfl
def aev(k:AA):(Fc k).1.AE=k.AE:=by
 unfold Fc;split
 .exact WH _ _ _
 .rfl
def at4(k:AA):(E7 k).1.AE=k.AE:=by unfold E7;split<;>rfl
def afU(k:AA):(EA k).1.AE=k.AE:=by unfold EA;split<;>rfl
def HT.of{k k':AA}(h:HT k)(e:k'.AE=k.AE):HT k':=λx hx=>h x (by rw[← e];exact hx)
def Jl.put{S:A7->Prop}{w:Am}(h:Jl S w)(hr:BS w){i:Nat}(hi:i<4){k':AA}(hb:HT k')(li:List Bool)(se go:List A7):Jl S ⟨w.ti,w.AK.set i k',li,w.AU,se,go⟩:=by
 refine⟨h.p,λj hj=> ?_⟩;show HT (kA (w.AK.set i k') j);rw[Ks (by rw[hr.kl];exact hi)];split
 .exact hb
 .exact h.b j hj
def arN{l:List AT}{i:Nat}(h:i<l.length):pA l i∈l:=by
 rw[qx h];exact CQ h
def Jl.doM{S:A7->Prop}{w:Am}(h:Jl S w)(hr:BS w)(hS:∀i,i<4->∀n∈(stT<|kA w.AK i).held,S n)(e:Event):Jl S (doM w e).1:=by
 unfold Go.VS.doM;split
 .unfold EJ;split
  .rename_i h2;have h2:=Af.1 h2;have hlt:e.wo.toNat<w.AU.length:=J
   have hpc:=h.p _<|arN hlt;split
   .split
    .rename_i h3;simp only[AI,DR]at h3;refine⟨λp hp=> ?_,h.b⟩;rcases Ox hp with h4|h4
     .exact h.p p h4
     .rw[h4];exact hpc.apD h3.1 h3.2.1 h3.2.2
    .exact h
   .split
    .exact⟨λp hp=>h.p p<|aDy hp,h.b⟩
    .split
     .have hra:∀p∈(if e.kp=0 then F7 w.AU e.wo.toNat else w.AU),PcI S p:=by
       intro p hp;split at hp
       .exact h.p p (aDy hp)
       .exact h.p p hp
      unfold D2;split
      .rename_i hc;simp only[AI,decide_eq_true_eq]at hc;obtain⟨f,hu,hfo,_,hd,hg,_⟩:=hpc.frame hc.1;rw[hu];have hrg:=KV<|MH hr hlt;have hi:(pA w.AU e.wo.toNat).dst.toNat<4:=J
       have hb:HT (BI (kA w.AK (pA w.AU e.wo.toNat).dst.toNat) f).1:=avw (hr.k _ hi).1 (h.b _ hi) (λ_=>hg);refine⟨λp hp=> ?_,(h.put hr hi hb w.B1 w.BJ w.got).b⟩;rcases aag hp with h4|⟨g,hg',rfl⟩
       .exact hra p h4
       .exact PcI.send λ_=>ati S hg'
      .exact⟨hra,h.b⟩
     .exact h
  .exact h
 .split
  .unfold GQ;split
   .exact⟨h.p,h.b⟩
   .exact h
  .split
   .rename_i h3;have hi:=Qc h3;have hb:=h.b _ hi;unfold Iw;split
    .unfold N4;split
     .exact h
     .split
      .exact h
      .exact h.put hr hi (hb.of<|azF _ _ _ _) _ _ _
    .split
     .exact h.put hr hi (hb.of<|aev _) _ _ _
     .split
      .split
       .rename_i hm;refine⟨λp hp=> ?_,h.b⟩;rcases aag hp with h4|⟨g,hg',rfl⟩
        .exact h.p p h4
        .rw[DB.1 hg'];exact PcI.send λ_=>aqk (hr.k _ hi).1 (hS _ hi) hm
       .exact h
      .split
       .exact h.put hr hi (λx hx=>by cases hx) _ _ _
       .split
        .exact h.put hr hi (k':=riM<|kA w.AK e.at_.toNat) (hb.of rfl) _ _ _
        .split
         .unfold NN;split
          .exact h.put hr hi (hb.of<|ahD _ _ _) _ _ _
          .exact h
         .split
          .exact h.put hr hi (hb.of<|at4 _) _ _ _
          .split
           .exact h.put hr hi (hb.of<|afU _) _ _ _
           .exact h
   .exact h
def Jl.sim{S:A7->Prop}{w:Am}(h:Jl S w)(hr:BS w)(hS:∀i,i<4->∀n∈(stT<|kA w.AK i).held,S n)(e:Event):Jl S (B8 w e):=by
 have:=h.doM hr hS e;unfold B8 Hw;split
 .exact⟨this.p,this.b⟩
 .exact this
def Reach.gen{ev:List Event}{w:Am}(h:Reach ev w):Jl (λ_=>True) w:=
 h.ind (P:=Jl λ_=>True) ⟨λp hp=>(by cases hp),λi hi=>by rw[qZ hi];intro x hx;cases hx⟩ λ_ e hr _ hg _=>hg.sim hr (λ_ _ _ _=>trivial) e
def arU{l:List A7}{f n:Int}{x:A7}(h:x∈l)(h1:x.fr=f)(h2:x.nu=n):0<=AY l f n:=by
 rcases Vc l f n with h3|h3
 .exact absurd ⟨h1,h2⟩ (TY J x h)
 .exact h3
def vO{l:List Mark}{f n:Int}{x:Mark}(h:x∈l)(h1:x.mf=f)(h2:x.mn=n):0<=Bo l f n:=by
 rcases aep l f n with h3|h3
 .exact absurd ⟨h1,h2⟩ (aEI J x h)
 .exact h3
structure kZ (k o:AJ) (n:A7):Prop where
 id:o.id=k.id
 ti:o.ti=k.ti
 nx:o.nx=k.nx
 at_:(n.to=k.id/\o.held=k.held/\o.marks=ET k.marks ⟨n.fr,n.nu,n.un⟩/\o.inbox=Cu k.inbox n)\/(n.to≠k.id/\o.held=Cu k.held n/\o.marks=k.marks/\o.inbox=k.inbox)
def kZ.has{k o:AJ}{n:A7}(h:kZ k o n):0<=AY o.held n.fr n.nu\/0<=Bo o.marks n.fr n.nu:=by
 obtain⟨_,_,h1,_⟩|⟨_,h1,_,_⟩:=h.at_
 .rw[h1];exact .inr (vO (Xp _<|.inl rfl) rfl rfl)
 .rw[h1];exact .inl<|arU (Xp _<|.inl rfl) rfl rfl
structure Safe (k:AA) (st:AJ):Prop where
 is:Cj k st
 fo:k.fo=(k.log.size:Int)
structure RG (a b:A7):Prop where
 fr:a.fr=b.fr
 nu:a.nu=b.nu
 to':a.to=b.to
 un:a.un=b.un
 ok:B3 a=B3 b
def RG.refl(a:A7):RG a a:=⟨rfl,rfl,rfl,rfl,rfl⟩
structure OJ (l m:List A7):Prop where
 len:l.length=m.length
 nA:∀i,RG (nA l i)<|nA m i
def OJ.refl(l:List A7):OJ l l:=⟨rfl,λ_=> .refl _⟩
def OJ.ins{a b:A7}(h:RG a b)(l:List A7):OJ (Cu l a) (Cu l b):=by
 have e:Cu l b=l.takeWhile (λx=>bef x.fr x.nu a.fr a.nu)++b::l.dropWhile (λx=>bef x.fr x.nu a.fr a.nu):=by
  unfold Cu Go.VS.ins;rw[h.fr,h.nu]
 rw[e];unfold Cu Go.VS.ins;refine⟨by simp,λi=> ?_⟩;unfold Go.VS.nA;rw[BD,BD];generalize l.takeWhile (λx=>bef x.fr x.nu a.fr a.nu)=A;generalize l.dropWhile (λx=>bef x.fr x.nu a.fr a.nu)=C;rcases I8 i A.length with h1|h1|h1
 .rw[G0 h1,G0 h1];exact .refl _
 .subst h1;rw[EC<|As _,EC<|As _];simpa using h
 .rw[EC J,EC J];obtain⟨j,hj⟩:∃j,i - A.length=j+1:=⟨i - A.length - 1,J⟩;rw[hj];exact .refl _
def LZ(hv:List AH):Prop:=∀h∈hv,5<=h.sz\/ ∃n,h.got=[⟨n,B [97,98,99,100]⟩]
def oJ(tx:A4)(i:Nat):List AQ:=(BN i).map λj:Nat=>⟨(j:Int),JA tx (j:Int)⟩
structure azv (x:AA) (d t:Int) (hv:List AH):Prop where
 ok:Av x=A1
 up:x.up=A1
 id:x.id=d
 st:stT x=⟨d,t,1,[],[],[]⟩
 hv:x.AE=hv
variable {E:List Event}
def Tot{α:Type}(o:Option α)(P:α->Prop):Prop:=∃a,o=I a/\P a
def Rn{α β:Type}(A:α->Prop)(B:β->Prop):α ⊕ β->Prop
 | .inl a=>A a
 | .inr b=>B b
def Tot.ret{α:Type}{a:α}{P:α->Prop}(h:P a):Tot (I a) P:=⟨a,rfl,h⟩
def Tot.eq{α:Type}{o:Option α}{a:α}(h:o=I a):Tot o (λx=>x=a):=⟨a,h,rfl⟩
def Tot.mono{α:Type}{o:Option α}{P Q:α->Prop}(h:Tot o P)(hq:∀a,P a->Q a):Tot o Q:=by
 obtain⟨a,e,p⟩:=h;exact⟨a,e,hq a p⟩
def Tot.bind{α β:Type}{o:Option α}{f:α->Option β}{P:α->Prop}{Q:β->Prop}(h:Tot o P)(hf:∀a,P a->Tot (f a) Q):Tot (o.bind f) Q:=by
 obtain⟨a,rfl,p⟩:=h;exact hf a p
def Tot.ite{α:Type}{c:Bool}{a b:Option α}{P:α->Prop}(ha:c=A1->Tot a P)(hb:c=A3->Tot b P):Tot (if c=A1 then a else b) P:=by
 cases c
 .rw[A6];exact hb rfl
 .rw[A8 rfl];exact ha rfl
def Tot.pos{α:Type}{c:Bool}{a b:Option α}{P:α->Prop}(hc:c=A1)(ha:Tot a P):Tot (if c=A1 then a else b) P:=by
 rw[A8 hc];exact ha
def Tot.neg{α:Type}{c:Bool}{a b:Option α}{P:α->Prop}(hc:c=A3)(hb:Tot b P):Tot (if c=A1 then a else b) P:=by
 rw[hc,A6];exact hb
def Tot.join{Ω X:Type}{f:X->Option Ω}{m:Option (Ω ⊕ X)}{A:X->Prop}{Q:Ω->Prop}(h:Tot m (Rn Q A))(hf:∀x,A x->Tot (f x) Q):Tot (BF f m) Q:=by
 obtain⟨r,rfl,p⟩:=h;cases r with
 | inl o=>exact⟨o,rfl,p⟩
 | inr x=>exact hf x p
def Tot.sum{A D Ω:Type}{m:Option (A ⊕ D)}{f:A->Option Ω}{g:D->Option Ω}{P:A->Prop}{Q:D->Prop}{R:Ω->Prop}(h:Tot m (Rn P Q))
  (hf:∀a,P a->Tot (f a) R)(hg:∀d,Q d->Tot (g d) R):Tot (AO m f g) R:=by
 obtain⟨r,rfl,p⟩:=h;cases r with
 | inl o=>exact hf o p
 | inr x=>exact hg x p
def Tot.loop{σ ρ:Type}{b:σ->Option (σ ⊕ ρ)}(Inv:Nat->σ->Prop)(O4:ρ->Prop)(n:Nat)
  (h:∀i s,i<=n->Inv i s->Tot (b s) (Rn (λs'=>i<n/\Inv (i+1) s') O4)){s0:σ}(h0:Inv 0 s0):Tot (AW b s0) O4:=by
 refine amN Inv O4 n (λi s hi hs=> ?_) (λs hs=> ?_) h0
 .obtain⟨r,e,p⟩:=h i s J hs;cases r with
  | inl s'=>exact .inl ⟨s',e,p.2⟩
  | inr y=>exact .inr ⟨y,e,p⟩
 .obtain⟨r,e,p⟩:=h n s (As _) hs;cases r with
  | inl s'=>exact absurd p.1<|Nat.lt_irrefl _
  | inr y=>exact⟨y,e,p⟩
structure C1 (N:Nat) (r:List Int×Int×A2):Prop where
 l:r.1.length<=2000
 b:BOk r.1
 p0:0<=r.2.1
 p1:r.2.1<=(N:Int)
def C1.up{N M:Nat}{r:List Int×Int×A2}(h:C1 N r)(hM:N<=M):C1 M r:=⟨h.l,h.b,h.p0,by have:=h.p1;omega⟩
def aki{a b:Int}(ha:0<=a)(ha':a<9223372036854775808)(hb:0<=b)(hb':b<9223372036854775808):0<=Dm .i64 a b:=by
 obtain⟨m,rfl⟩:=HO ha;obtain⟨n,rfl⟩:=HO hb;have hm:m<2 ^ 63:=J
 have hn:n<2 ^ 63:=J
 have hx:=Nat.xor_lt_two_pow hm hn;have e:(FE 64 (m:Int) ^^^ FE 64 (n:Int)).toNat=m ^^^ n:=by
  rw[BitVec.toNat_xor,Qm,Qm];congr 1<;>omega
 show 0<=w64 (((FE 64 (m:Int) ^^^ FE 64 (n:Int)).toNat:Int));rw[e,Aa J J];omega
def Au{N:Nat}{x:(List Int×Int×A2)×Int×A2}(h:C1 N x.1)(hN:N<=1000000):
  Tot (At x) λa=>C1 (N+1) a.2.1/\0<=a.1.1/\(1<=x.2.1->a.1.1<x.2.1):=by
 obtain⟨⟨l,p,_⟩,n,_⟩:=x;obtain⟨hl,hb,p0,p1⟩:=h;simp only at hl hb p0 p1;have e1:w64 (p+1)=p+1:=Aa J J;have e2:w64 (p+1 - 1)=p:=by rw[Aa J J];omega
 have hq:C1 (N+1) (l,p+1,()):=⟨hl,hb,by show 0<=p+1;omega,by show p+1<=((N+1:Nat):Int);omega⟩;unfold At;simp only[e1,e2];refine Tot.ite (λhc=> ?_) (λhc=> ?_)
 .refine Tot.ret ⟨hq,Jk _,λh=>by show(0:Int)<n;omega⟩
 .simp only[RW,decide_eq_false_iff_not]at hc;have hn:1<=n:=J
  have hln:0<l.length:=J
  have hl0:¬((l.length:Int)=0):=hc.2;have hn0:(!decide (n=0))=A1:=by simp;omega
  have oo:(!decide ((l.length:Int)=0))=A1:=by simpa using hl0
  refine Tot.ite (λhc1=> ?_) (λhc1=> ?_)
  .have hc1:=BT hc1;refine Tot.pos (DC p0 hc1) (Tot.pos hn0<|Tot.ret ⟨hq, ?_,λ_=> ?_⟩)
   .have:=hb.rd p;exact Qs _ (by rw[Aa J J];exact this.1)
   .exact Ro _ J
  .have hp:0<=BC p l.length/\BC p l.length<l.length:=⟨Qs _ p0,Ro _ J⟩;have e3:w64 (w64 (p * 7)+3)=p * 7+3:=by rw[Aa (n:=p * 7) J J,Aa J J]
   have hp2:0<=BC (p * 7+3) l.length/\BC (p * 7+3) l.length<l.length:=⟨Qs _ J,Ro _ J⟩;simp only[e3];refine Tot.pos oo (Tot.pos (DC hp.1 hp.2)<|Tot.pos oo<|Tot.pos (DC hp2.1 hp2.2)<|Tot.pos oo<|Tot.pos hn0<|Tot.ret ⟨hq, ?_,λ_=> ?_⟩)
   .have b1:=hb.rd<|BC p l.length;have b2:=hb.rd<|BC (p * 7+3) l.length;have hd:0<=B0 p l.length/\B0 p l.length<=p:=⟨j0 p0 J,Int.tdiv_le_self _ p0⟩;generalize @rd Int (dfl .u8) l (BC p l.length)=u1 at b1 ⊢;generalize @rd Int (dfl .u8) l (BC (p * 7+3) l.length)=u2 at b2 ⊢;generalize B0 p l.length=d at hd ⊢;have w1:w64 u1=u1:=Aa J J;have w2:w64 u2=u2:=Aa J J;have w3:w64 (u1 * 131)=u1 * 131:=Aa J J;have w4:w64 (u2 * 1117)=u2 * 1117:=Aa J J;have w5:w64 (p * 29)=p * 29:=Aa J J;have w6:w64 d=d:=Aa J J;have w7:w64 (d * 53)=d * 53:=Aa J J;simp only[w1,w2,w3,w4,w5,w6,w7];have w8:w64 (u1 * 131+u2 * 1117)=u1 * 131+u2 * 1117:=Aa J J;rw[w8];have w9:w64 (u1 * 131+u2 * 1117+p * 29)=u1 * 131+u2 * 1117+p * 29:=Aa J J;rw[w9];have w10:w64 (u1 * 131+u2 * 1117+p * 29+d * 53)=u1 * 131+u2 * 1117+p * 29+d * 53:=Aa J J;rw[w10];have hv:0<=u1 * 131+u2 * 1117+p * 29+d * 53/\u1 * 131+u2 * 1117+p * 29+d * 53<=1000000000:=J
    generalize u1 * 131+u2 * 1117+p * 29+d * 53=v at hv ⊢;have hdv:0<=B0 v 64/\B0 v 64<=v:=⟨j0 hv.1 J,Int.tdiv_le_self _ hv.1⟩;have w11:w64 (B0 v 64)=B0 v 64:=Aa J J;rw[w11];exact Qs _ (aki hv.1 J hdv.1 J)
   .exact Ro _ J
def agm(l:List A4){i:Int}(h0:0<=i)(h1:i<l.length): @rd A4 (dfl .str) l i∈l:=by
 unfold rd;rw[BD,Ax (by omega:i.toNat<l.length)];exact CQ _
def O0{N:Nat}{r:List Int×Int×A2}{l:List A4}(h:C1 N r)(hN:N<=1000000)(hl:1<=l.length):
  Tot (KX (r,l,())) λa=>C1 (N+1) a.2.1/\a.1.1∈l:=by
 unfold KX;refine Tot.bind (Au h hN) λa ha=> ?_;have h1:=ha.2.2 (by show(1:Int)<=(l.length:Int);omega);exact Tot.pos (DC ha.2.1 h1)<|Tot.ret ⟨ha.1,agm l ha.2.1 h1⟩
def WOk(E:List Event)(N:Nat)(t:Int×List AA×List Bool×List AT×List A7×List A7×List Event×A2):Prop:=∃w ev,t=tS w ev/\Reach (E++ev) w/\ev.length<=N
structure SOk (E:List Event) (N:Nat) (s:(List Int×Int×A2)×Int×List AA×List Bool×List AT×List A7×List A7×List Event×A2):Prop where
 r:C1 N s.1
 w:WOk E N s.2
def WOk.up{N M:Nat}{t:_}(h:WOk E N t)(hM:N<=M):WOk E M t:=by
 obtain⟨w,ev,e,h1,h2⟩:=h;exact⟨w,ev,e,h1,J⟩
def SOk.up{N M:Nat}{s:_}(h:SOk E N s)(hM:N<=M):SOk E M s:=⟨h.r.up hM,h.w.up hM⟩
def SOk.rd{N M:Nat}{s:_}(h:SOk E N s){r:List Int×Int×A2}(hr:C1 M r)(hM:N<=M):SOk E M (r,s.2):=⟨hr,h.w.up hM⟩
abbrev zTx(y:Int×Int×Int×Int×Int×Int×Int×Int×Int×A4×A2):A4:=y.2.2.2.2.2.2.2.2.2.1
def Gk{N:Nat}{s:_}{y:Int×Int×Int×Int×Int×Int×Int×Int×Int×A4×A2}(h:SOk E N s)(hN:N<=1000000)(hy:(zTx y).size<=1048576):
  Tot (FI (s,y,())) λa=>SOk E (N+1) a.2.1:=by
 obtain⟨hr,w,ev,e,hw,hev⟩:=h;obtain⟨r,t⟩:=s;obtain⟨a,b,c,d,f,g,i,j,k,tx,_⟩:=y;simp only at e hr;subst e;have:=ahB hw.ok (r:=r) (ev:=ev) J (e:=⟨a,b,c,d,f,g,i,j,k,tx⟩) hy;refine⟨_,this,hr.up J,⟨_,KS ev ⟨a,b,c,d,f,g,i,j,k,tx⟩ (doM w ⟨a,b,c,d,f,g,i,j,k,tx⟩).2,rfl, ?_, ?_⟩⟩
 .have:=hw.step (e:=⟨a,b,c,d,f,g,i,j,k,tx⟩) hy;unfold KS at this ⊢;split
  .rename_i hc;rw[A8 hc,C7]at this;exact this
  .rename_i hc;rw[AB hc]at this;exact this
 unfold KS;split
 .simp;omega
 .omega
def WOk.has{N:Nat}{t:_}(h:WOk E N t){i:Int}(h0:0<=i)(h1:i<4):Av (kA t.2.1 i.toNat)=A1/\(kA t.2.1 i.toNat).id=i/\inb i t.2.1.length=A1:=by
 obtain⟨w,ev,rfl,hw,_⟩:=h;have:=hw.ok.k i.toNat J;refine⟨this.1, ?_,DC h0 (by show i<(w.AK.length:Int);rw[hw.ok.kl];exact h1)⟩;rw[this.2];omega
def WOk.big{N:Nat}{t:_}(h:WOk E N t){i:Int}(h0:0<=i)(h1:i<4):HT (kA t.2.1 i.toNat):=by
 obtain⟨w,ev,rfl,hw,_⟩:=h;exact hw.gen.b i.toNat J
def YJ{l:List AA}{i:Int}(h:Av (kA l i.toNat)=A1):
  Tot (Ey (((@rd AA (dfl .AN) l i).id,(@rd AA (dfl .AN) l i).up,(@rd AA (dfl .AN) l i).log,(@rd AA (dfl .AN) l i).fo,(@rd AA (dfl .AN) l i).AE,()),()))
   λa=>a=((tK<|stT<|kA l i.toNat,A1,()),()):=Tot.eq<|Nk h
end Go.VS
namespace Go.VS
open Go
variable {E:List Event}
def Qk{l:List A4}{s:A4}(h:s∈l)(hl:(l.all λx=>A0<|x.size<=1000)=A1):s.size<=1000:=by
 have:=Cr.1 hl s h;exact BT this
def adO{N:Nat}{s:_}(h:SOk E N s)(hN:N<=900000):Tot (SZ (s,())) λa=>SOk E (N+10) a.2.1:=by
 unfold SZ;refine Tot.bind (Au h.r J) λr1 h1=>Tot.bind (O0 h1.1 J<|by decide) λr2 h2=>Tot.join (A:=λj=>SOk E (N+2) j.1/\0<=j.2.1/\j.2.1<4/\j.2.2.1.size<=1000) ?_ (λj hj=> ?_)
 .have hz:=Qk h2.2 (by decide);have hat:r1.1.1<4:=h1.2.2 (show(1:Int)<=4 by decide);refine Tot.ite (λhc=>Tot.pos ?_<|Tot.ret ⟨h.rd h2.1 J,h1.2.1,hat, ?_⟩) (λhc=>Tot.ret ⟨h.rd h2.1 J,h1.2.1,hat,hz⟩)
  .have:=BT hc;simp;omega
  .show(r2.1.1.extract 0 24).size<=1000;rw[TI];omega
 .obtain⟨hs,a0,a1,hz⟩:=hj;have hk:=hs.w.has a0 a1;refine Tot.pos hk.2.2 (Tot.bind (YJ hk.1) λr6 h6=>Tot.bind (Au hs.r J) λr7 h7=>Tot.bind (Au h7.1 J) λr8 h8=>
   Tot.bind (Gk (hs.rd h8.1 J) J ?_) λr9 h9=>Tot.ret<|h9.up J)
  show j.2.2.1.size<=1048576;omega
def uB{a:Int}(h0:0<=a)(h1:a<4):0<=BC (w64<|a+1) 4/\BC (w64<|a+1) 4<4:=by
 rw[Aa J J];exact⟨Qs _ J,Ro _ J⟩
def ad4{N:Nat}{s:_}(h:SOk E N s)(hN:N<=900000):Tot (V6 (s,())) λa=>SOk E (N+2) a.2.1/\a.2.1.2=s.2/\(a.1.2.2.1=A1->0<=a.1.1/\a.1.1<4/\isN (Ca a.1.1 a.1.2.1.2.2.1)=A1):=by
 unfold V6;refine Tot.bind (Au h.r J) λr1 h1=>Tot.sum (P:=λy=>SOk E (N+2) y.1/\y.1.2=s.2/\(0<=y.2.1/\y.2.1<4/\isN (Ca y.2.1 y.2.2.1.2.2.1)=A1)) (Q:=λy=>SOk E (N+2) y.1/\y.1.2=s.2) ?_ (λy hy=>Tot.ret ⟨hy.1,hy.2.1,λ_=>hy.2.2⟩) (λy hy=>Tot.ret ⟨hy.1,hy.2,λh=>by cases h⟩);refine Tot.loop (λi x=>SOk E (N+1) x.1/\x.1.2=s.2/\0<=x.2.2.1/\x.2.2.1<4/\x.2.2.2.1=(i:Int)) _ 4 (λi x hi hx=> ?_) ⟨h.rd h1.1 J,rfl,h1.2.1,h1.2.2<|show(1:Int)<=4 by decide,rfl⟩;obtain⟨hs,hw,a0,a1,hx⟩:=hx;have hk:=hs.w.has a0 a1;unfold qf;refine Tot.ite (λhc=> ?_) (λhc=>Tot.ret ⟨hs.up J,hw⟩);have hc:=BT hc;refine Tot.pos hk.2.2 (Tot.bind (YJ hk.1) λr6 h6=> ?_);subst h6;refine Tot.ite (λhl=> ?_) (λhl=> ?_)
 .have hl:(0:Int)<((stT<|kA x.1.2.2.1 x.2.2.1.toNat).held.length:Int):=BT hl;refine Tot.bind (Au hs.r J) λr7 h7=> ?_;have hlt:=h7.2.2 hl;refine Tot.pos (DC h7.2.1 hlt)<|Tot.ret ⟨hs.rd h7.1 J,hw,a0,a1, ?_⟩;have hkk:=Co hk.1;have hid:=hkk.id;have h9:r7.1.1.toNat<(stT<|kA x.1.2.2.1 x.2.2.1.toNat).held.length:=by
   have:r7.1.1<((stT<|kA x.1.2.2.1 x.2.2.1.toNat).held.length:Int):=hlt;have:=h7.2.1;omega
  have:=gp hkk.kok (n:=nA (stT<|kA x.1.2.2.1 x.2.2.1.toNat).held r7.1.1.toNat) (by rw[nA,BD,Ax h9];exact CQ h9);rw[hid,hk.2.1]at this;exact this
 .have hm:=uB a0 a1;refine Tot.ret ⟨?_,hs,hw,hm.1,hm.2, ?_⟩
  .omega
  .show w64 (x.2.2.2.1+1)=_;rw[hx,Aa J J];rfl
def amd{N:Nat}{s:_}(h:SOk E N s)(hN:N<=900000):Tot (fE (s,())) λa=>SOk E (N+2) a.2.1/\a.2.1.2=s.2/\(a.1.2.2.1=A1->0<=a.1.1/\a.1.1<4/\isN (Ca a.1.1 a.1.2.1.2.2.1)=A1):=by
 unfold fE;refine Tot.bind (Au h.r J) λr1 h1=>Tot.sum (P:=λy=>SOk E (N+2) y.1/\y.1.2=s.2/\(0<=y.2.1/\y.2.1<4/\isN (Ca y.2.1 y.2.2.1.2.2.1)=A1)) (Q:=λy=>SOk E (N+2) y.1/\y.1.2=s.2) ?_ (λy hy=>Tot.ret ⟨hy.1,hy.2.1,λ_=>hy.2.2⟩) (λy hy=>Tot.ret ⟨hy.1,hy.2,λh=>by cases h⟩);refine Tot.loop (λi x=>SOk E (N+1) x.1/\x.1.2=s.2/\0<=x.2.2.1/\x.2.2.1<4/\x.2.2.2.1=(i:Int)) _ 4 (λi x hi hx=> ?_) ⟨h.rd h1.1 J,rfl,h1.2.1,h1.2.2<|show(1:Int)<=4 by decide,rfl⟩;obtain⟨hs,hw,a0,a1,hx⟩:=hx;have hk:=hs.w.has a0 a1;unfold mO;refine Tot.ite (λhc=> ?_) (λhc=>Tot.ret ⟨hs.up J,hw⟩);have hc:=BT hc;refine Tot.pos hk.2.2 (Tot.bind (YJ hk.1) λr6 h6=> ?_);subst h6;refine Tot.ite (λhl=> ?_) (λhl=> ?_)
 .have hl:(0:Int)<((stT<|kA x.1.2.2.1 x.2.2.1.toNat).held.length:Int):=BT hl;refine Tot.bind (Au hs.r J) λr7 h7=> ?_;have hlt:=h7.2.2 hl;refine Tot.pos (DC h7.2.1 hlt)<|Tot.ret ⟨hs.rd h7.1 J,hw,a0,a1, ?_⟩;have hkk:=Co hk.1;have hid:=hkk.id;have h9:r7.1.1.toNat<(stT<|kA x.1.2.2.1 x.2.2.1.toNat).held.length:=by
   have:r7.1.1<((stT<|kA x.1.2.2.1 x.2.2.1.toNat).held.length:Int):=hlt;have:=h7.2.1;omega
  have:=gp hkk.kok (n:=nA (stT<|kA x.1.2.2.1 x.2.2.1.toNat).held r7.1.1.toNat) (by rw[nA,BD,Ax h9];exact CQ h9);rw[hid,hk.2.1]at this;exact this
 .have hm:=uB a0 a1;refine Tot.ret ⟨?_,hs,hw,hm.1,hm.2, ?_⟩
  .omega
  .show w64 (x.2.2.2.1+1)=_;rw[hx,Aa J J];rfl
def W0{N:Nat}{s:_}(h:SOk E N s){DU odd:Int}(hm:DU<=64)(hN:N<=900000):Tot (NE (s,DU,odd,())) λa=>SOk E (N+1000) a.2.1:=by
 unfold NE;refine Tot.sum (P:=λ_=>False) (Q:=λy=>SOk E (N+1000) y.1) ?_ (λ_ h=>h.elim) (λy hy=>Tot.ret hy);refine Tot.loop (λi x=>SOk E (N+12 * i) x.1/\x.2.1=DU/\x.2.2.2.1=(i:Int)) _ DU.toNat (λi x hi hx=> ?_) ⟨h,rfl,rfl⟩;obtain⟨hs,hx1,hx⟩:=hx;unfold mj;refine Tot.ite (λhc=> ?_) (λhc=>Tot.ret<|show SOk E (N+1000) _ from hs.up J);rw[AI,hx1,hx]at hc;have hlt:(i:Int)<DU:=BT hc.1;have hN1:N+12 * i<=950000:=J
 generalize hM:N+12 * i=M at hs hN1;refine Tot.join (A:=λj=>SOk E (M+5) j.1/\j.2.1=DU/\j.2.2.2.1=(i:Int)/\(zTx j.2.2.2.2.1).size<=1000) ?_ (λj hj=> ?_)
 .refine Tot.join (A:=λj=>SOk E (M+1) j.1/\j.2.1=DU/\j.2.2.2.1=(i:Int)/\(zTx j.2.2.2.2.1).size<=1000) ?_ (λj hj=> ?_)
  .refine Tot.ite (λhc=>Tot.bind (Au hs.r J) λr1 h1=>Tot.ret ?_) (λhc=>Tot.ret ?_)
   .exact⟨hs.rd h1.1 J,hx1,hx,show noB.size<=1000 by decide⟩
   .exact⟨hs.up J,hx1,hx,show noB.size<=1000 by decide⟩
  .obtain⟨hs,hj1,hj2,hj3⟩:=hj;refine Tot.ite (λhc=> ?_) (λhc=>Tot.ret ⟨hs.up J,hj1,hj2,hj3⟩);refine Tot.bind (Au hs.r J) λr1 h1=> ?_;refine Tot.ite (λhc=>Tot.ret ⟨hs.rd (h1.1.up J) J,hj1,hj2,hj3⟩) (λhc=> ?_);refine Tot.ite (λhc=>Tot.ret ⟨hs.rd (h1.1.up J) J,hj1,hj2,hj3⟩) (λhc=> ?_);refine Tot.ite (λhc=> ?_) (λhc=> ?_)
   .exact Tot.bind (Au h1.1 J) λr2 h2=>Tot.bind (Au h2.1 J) λr3 h3=>Tot.bind (Au h3.1 J) λr4 h4=>
     Tot.ret ⟨hs.rd (h4.1.up J) J,hj1,hj2,hj3⟩
   .exact Tot.bind (Au h1.1 J) λr2 h2=>Tot.ret ⟨hs.rd (h2.1.up J) J,hj1,hj2,hj3⟩
 .obtain⟨hs,hj1,hj2,hj3⟩:=hj;have hw:w64 (j.2.2.2.1+1)=((i+1:Nat):Int):=by rw[hj2,Aa J J];rfl
  refine Tot.join (A:=λj=>SOk E (M+7) j.1/\j.2.1=DU/\j.2.2.2.1=(i:Int)/\(zTx j.2.2.2.2.1).size<=1000) ?_ (λj hj=> ?_)
  .refine Tot.bind (Gk hs J<|CB hj3<|by decide) λr1 h1=>Tot.ite (λhc=> ?_) (λhc=>Tot.ret ⟨h1.up J,hj1,hj2,hj3⟩);exact Tot.bind (Gk h1 J<|show noB.size<=1048576 by decide) λr2 h2=>Tot.ret ⟨h2.up J,hj1,hj2,hj3⟩
  .obtain⟨hs,hj1,hj2,hj3⟩:=hj;refine Tot.join (A:=λj=>SOk E (M+8) j.1/\j.2.1=DU/\j.2.2.2.1=(i:Int)/\(zTx j.2.2.2.2.1).size<=1000) ?_ (λj hj=> ?_)
   .refine Tot.ite (λhc=>Tot.bind (Au hs.r J) λr1 h1=>Tot.ret ⟨hs.rd h1.1 J,hj1,hj2,hj3⟩) (λhc=>Tot.ret ⟨hs.up J,hj1,hj2,hj3⟩)
   .obtain⟨hs,hj1,hj2,hj3⟩:=hj;have hw:w64 (j.2.2.2.1+1)=((i+1:Nat):Int):=by rw[hj2,Aa J J];rfl
    refine Tot.ite (λhc=> ?_) (λhc=>Tot.ret ⟨J, ?_,hj1,hw⟩)
    .refine Tot.bind (Au hs.r J) λr1 h1=>Tot.bind (Au h1.1 J) λr2 h2=>Tot.bind (Gk (hs.rd h2.1 J) J ?_) λr3 h3=>Tot.ret ⟨J, ?_,hj1,hw⟩
     .show(zTx j.2.2.2.2.1).size<=1048576;omega
     .exact h3.up J
    .exact hs.up J
end Go.VS
namespace Go.VS
open Go
variable {E:List Event}
def nz:noB.size<=1048576:=by decide
def WOk.rl{N:Nat}{t:_}(h:WOk E N t):t.2.2.2.1.length<=30:=by
 obtain⟨w,ev,rfl,hw,_⟩:=h;exact hw.ok.rl
def NC{n:Int}{i:Nat}(h:n=(i:Int))(hi:i<=1000000):w64 (n+1)=((i+1:Nat):Int):=by
 rw[h,Aa J J];rfl
def W8{N:Nat}{s:_}(h:SOk E N s){DU odd:Int}(h0:0<=DU)(hm:DU<=8)(hN:N<=800000):Tot (N3 (s,DU,odd,())) λa=>SOk E (N+1100) a.2.1:=by
 unfold N3;refine Tot.bind (ad4 h J) λr1 h1=>Tot.ite (λhc=>Tot.ret<|h1.1.up J) (λhc=> ?_);refine Tot.bind (Au h1.1.r J) λr2 h2=>Tot.bind (Au h2.1 J) λr3 h3=> ?_;refine Tot.sum (P:=λ_=>False) (Q:=λy=>SOk E (N+20) y.1/\y.2.1=DU) ?_ (λ_ h=>h.elim) (λy hy=> ?_)
 .refine Tot.loop (λi x=>SOk E (N+4+i) x.1/\x.2.1=DU/\x.2.2.2.2.2.2.1=(i:Int)) _ DU.toNat (λi x hi hx=> ?_) ⟨h1.1.rd h3.1 J,rfl,rfl⟩;obtain⟨hs,hx1,hx⟩:=hx;unfold sJ;refine Tot.ite (λhc=> ?_) (λhc=>Tot.ret ⟨hs.up J,hx1⟩);have hc:=BT hc;exact Tot.bind (Gk hs J nz) λr4 h4=>Tot.ret ⟨J,h4.up J,hx1,NC hx J⟩
 .have hy2:=hy.2;refine Tot.bind (Au hy.1.r J) λr4 h4=> ?_;have h5:r4.1.1<=64:=by
   have:w64 (y.2.1+4)=DU+4:=by rw[hy.2,Aa J J]
   have:=h4.2.2 (by show 1<=w64 (y.2.1+4);omega);have:r4.1.1<w64 (y.2.1+4):=this;omega
  exact Tot.bind (W0 (hy.1.rd h4.1 J) h5 J) λr5 h6=>Tot.ret<|h6.up J
def anZ{N:Nat}{s:_}(h:SOk E N s)(hN:N<=700000):Tot (XU (s,())) λa=>SOk E (N+4500) a.2.1:=by
 unfold XU;refine Tot.bind (W0 h (by decide) J) λr1 h1=>Tot.bind (W8 h1 (by decide) (by decide) J) λr2 h2=> ?_;refine Tot.sum (P:=λ_=>False) (Q:=λy=>SOk E (N+2220) y.1) ?_ (λ_ h=>h.elim) (λy hy=> ?_)
 .refine Tot.loop (λi x=>SOk E (N+2100+40 * i) x.1/\x.2.1=(i:Int)) _ 2 (λi x hi hx=> ?_) ⟨h2.up J,rfl⟩;obtain⟨hs,hx⟩:=hx;unfold lI;refine Tot.bind (Au hs.r J) λr3 h3=>Tot.ite (λhc=> ?_) (λhc=>Tot.ret<|show SOk E (N+2220) _ from hs.rd (h3.1.up J) J);have hc:=BT hc;have hv:=h3.2.2 (show(1:Int)<=2 by decide);have hv:r3.1.1<2:=hv;have hv0:=h3.2.1;rw[Aa J J]at hc;have hrl:=hs.w.rl;refine Tot.sum (P:=λ_=>False) (Q:=λy=>SOk E (N+2100+40 * (i+1)) y.1/\y.2.1=(i:Int)) ?_ (λ_ h=>h.elim) (λy hy=>Tot.ret ⟨J,hy.1,NC hy.2 J⟩);refine Tot.loop (λk y=>SOk E (N+2100+40 * i+1+k) y.1/\y.2.1=(i:Int)/\y.2.2.1=(x.1.2.2.2.2.1.length:Int)/\y.2.2.2.1=(k:Int)) _ x.1.2.2.2.2.1.length (λk y hk hy=> ?_) ⟨hs.rd h3.1 J,hx,rfl,rfl⟩;obtain⟨hs,y1,y2,y3⟩:=hy;unfold pT;refine Tot.ite (λhc=> ?_) (λhc=>Tot.ret ⟨hs.up J,y1⟩);have hc:=BT hc;exact Tot.bind (Gk hs J nz) λr4 h4=>Tot.ret ⟨J,h4.up J,y1,y2,NC y3 J⟩
 .refine Tot.bind (Au (SOk.r hy) J) λr3 h3=>Tot.join (A:=λj=>SOk E (N+2240) j.1) ?_ (λj hj=> ?_)
  .refine Tot.bind (Au h3.1 J) λr4 h4=>Tot.ite (λhc=> ?_) (λhc=>Tot.ite (λhc=> ?_) λhc=> ?_)
   .exact Tot.bind (Au h4.1 J) λr5 h5=>Tot.bind (Gk (SOk.rd hy h5.1 J) J nz) λr6 h6=>Tot.bind (Gk h6 J nz) λr7 h7=>Tot.ret (show SOk E (N+2240) _ from h7.up J)
   .refine Tot.bind (Au h4.1 J) λr5 h5=>Tot.sum (P:=λ_=>False) (Q:=λy=>SOk E (N+2240) y.1) ?_ (λ_ h=>h.elim) (λy hy=>Tot.ret<|show SOk E (N+2240) y.1 from hy);have hv:r5.1.1<9:=h5.2.2 (show(1:Int)<=9 by decide);have hv0:=h5.2.1;refine Tot.loop (λk y=>SOk E (N+2224+k) y.1/\y.2.2.1=r5.1.1 - (k:Int)) _ r5.1.1.toNat (λk y hk hy=> ?_) ⟨SOk.rd hy (h5.1.up J) J,by show r5.1.1=r5.1.1 - 0;omega⟩;obtain⟨hs,y1⟩:=hy;unfold oV;refine Tot.ite (λhc=> ?_) (λhc=>Tot.ret<|show SOk E (N+2240) _ from hs.up J);have hc:=BT hc;refine Tot.bind (Gk hs J nz) λr6 h6=>Tot.ret ⟨J,h6.up J, ?_⟩;show w64 (y.2.2.1 - 1)=r5.1.1 - ((k+1:Nat):Int);rw[Aa J J];omega
   .exact Tot.ret (show SOk E (N+2240) _ from SOk.rd hy (h4.1.up J) J)
  .have hj:SOk E (N+2240) j.1:=hj;refine Tot.bind (W8 hj (by decide) (by decide) J) λr4 h4=>Tot.sum (P:=λ_=>False) (Q:=λy=>SOk E (N+3400) y.1) ?_ (λ_ h=>h.elim) (λy hy=> ?_)
   .refine Tot.loop (λk y=>SOk E (N+3340+k) y.1/\y.2.2.1=(k:Int)) _ 12 (λk y hk hy=> ?_) ⟨h4.up J,rfl⟩;obtain⟨hs,y1⟩:=hy;unfold gn;refine Tot.ite (λhc=> ?_) (λhc=>Tot.ret<|show SOk E (N+3400) _ from hs.up J);rw[AI]at hc;have hc:=BT hc.1;exact Tot.bind (Gk hs J nz) λr6 h6=>Tot.ret ⟨J,h6.up J,NC y1 J⟩
   .exact Tot.bind (W0 (SOk.up hy<|As _) (by decide) J) λr5 h5=>Tot.ret<|h5.up J
def azL{N:Nat}{s:_}(h:SOk E N s)(odd:Int)(hN:N<=690000):Tot (Yw (s,odd,())) λa=>SOk E (N+25000) a.2.1:=by
 unfold Yw;refine Tot.bind (Au h.r J) λr1 h1=>Tot.bind (Au h1.1 J) λr2 h2=> ?_;have a0:=h1.2.1;have a1:r1.1.1<4:=h1.2.2 (show(1:Int)<=4 by decide);have hs:SOk E (N+2) (r2.2.1,s.2):=h.rd h2.1 J;refine Tot.join (A:=λj=>SOk E (N+2) j.1/\0<=j.2.2.1/\j.2.2.1<4) ?_ (λj hj=> ?_)
 .exact Tot.ite (λ_=>Tot.ret ⟨hs,a0,a1⟩) λ_=>Tot.ite (λ_=>Tot.ret ⟨hs,a0,a1⟩) λ_=>Tot.ret ⟨hs,a0,a1⟩
 clear hs a0 a1;refine Tot.ite (λ_=>Tot.bind (adO hj.1 J) λr4 h4=>Tot.ret<|h4.up J) (λ_=> ?_);refine Tot.join (A:=λj=>SOk E (N+2) j.1/\0<=j.2.2.1/\j.2.2.1<4) ?_ (λj hj=> ?_)
 .exact Tot.ite (λ_=>Tot.ret hj) λ_=>Tot.ite (λ_=>Tot.ret hj) λ_=>Tot.ite (λ_=>Tot.ret hj) λ_=>Tot.ite (λ_=>Tot.ret hj) λ_=>Tot.ite (λ_=>Tot.ret hj) λ_=>Tot.ret hj
 refine Tot.ite (λ_=> ?_) (λ_=> ?_)
 .refine Tot.bind (Au hj.1.r J) λr3 h3=> ?_;have hv:r3.1.1<7:=h3.2.2 (show(1:Int)<=7 by decide);have hv0:=h3.2.1;have hw:w64 (1+r3.1.1)=1+r3.1.1:=Aa J J;exact Tot.bind (W8 (hj.1.rd h3.1 J) (by rw[hw];omega) (by rw[hw];omega) J) λr4 h4=>Tot.ret<|h4.up J
 refine Tot.join (A:=λj=>SOk E (N+2) j.1/\0<=j.2.2.1/\j.2.2.1<4) ?_ (λj hj=> ?_)
 .exact Tot.ite (λ_=>Tot.ret hj) λ_=>Tot.ret hj
 refine Tot.ite (λ_=> ?_) (λ_=> ?_)
 .refine Tot.bind (Au hj.1.r J) λr3 h3=> ?_;have hv:r3.1.1<20:=h3.2.2 (show(1:Int)<=20 by decide);have hv0:=h3.2.1;have hw:w64 (1+r3.1.1)=1+r3.1.1:=Aa J J;exact Tot.bind (W0 (hj.1.rd h3.1 J) (by rw[hw];omega) J) λr4 h4=>Tot.ret<|h4.up J
 refine Tot.join (A:=λj=>SOk E (N+2) j.1/\0<=j.2.1/\j.2.1<4) ?_ (λj hj=> ?_)
 .exact Tot.ite (λ_=>Tot.ret hj) λ_=>Tot.ret hj
 refine Tot.ite (λ_=>Tot.bind (Gk hj.1 J nz) λr4 h4=>Tot.ret<|h4.up J) (λ_=> ?_);refine Tot.ite (λ_=>Tot.bind (Au hj.1.r J) λr3 h3=>Tot.bind (Gk (hj.1.rd h3.1 J) J nz) λr4 h4=>Tot.ret<|h4.up J) (λ_=> ?_);refine Tot.join (A:=λj=>SOk E (N+2) j.1/\0<=j.2.1/\j.2.1<4) ?_ (λj hj=> ?_)
 .exact Tot.ite (λ_=>Tot.ret hj) λ_=>Tot.ret hj
 refine Tot.ite (λ_=>Tot.bind (Gk hj.1 J nz) λr4 h4=>Tot.ret<|h4.up J) (λ_=> ?_);refine Tot.ite (λ_=>Tot.bind (Au hj.1.r J) λr3 h3=>Tot.bind (Au h3.1 J) λr4 h4=>Tot.bind (Gk (hj.1.rd h4.1 J) J nz) λr5 h5=>Tot.ret<|h5.up J) (λ_=> ?_);refine Tot.join (A:=λj=>SOk E (N+2) j.1/\0<=j.2.1/\j.2.1<4) ?_ (λj hj=> ?_)
 .exact Tot.ite (λ_=>Tot.ret hj) λ_=>Tot.ret hj
 refine Tot.ite (λ_=> ?_) (λ_=> ?_)
 .have hk:=hj.1.w.has hj.2.1 hj.2.2;refine Tot.pos hk.2.2 (Tot.bind (YJ hk.1) λr6 h6=> ?_);subst h6;refine Tot.ite (λhl=> ?_) (λhl=>Tot.ret<|hj.1.up J);have hl:(0:Int)<((stT<|kA j.1.2.2.1 j.2.1.toNat).inbox.length:Int):=BT hl;refine Tot.bind (Au hj.1.r J) λr7 h7=>Tot.pos (DC h7.2.1<|h7.2.2 hl)<|Tot.bind (Gk (hj.1.rd h7.1 J) J nz) λr8 h8=>Tot.ret<|h8.up J
 refine Tot.ite (λ_=>Tot.bind (Au hj.1.r J) λr3 h3=>Tot.bind (Gk (hj.1.rd h3.1 J) J nz) λr4 h4=>Tot.ret<|h4.up J) (λ_=> ?_);refine Tot.join (A:=λj=>SOk E (N+2) j.1) ?_ (λj hj=> ?_)
 .exact Tot.ite (λ_=>Tot.ret hj.1) λ_=>Tot.ite (λ_=>Tot.ret hj.1) λ_=>Tot.ret hj.1
 have hj:SOk E (N+2) j.1:=hj;refine Tot.ite (λ_=>Tot.bind (anZ hj J) λr4 h4=>Tot.ret<|h4.up J) (λ_=> ?_);refine Tot.sum (P:=λ_=>False) (Q:=λy=>SOk E (N+25000) y.1) ?_ (λ_ h=>h.elim) (λy hy=>Tot.ret hy);refine Tot.loop (λk y=>SOk E (N+2+2200 * k) y.1/\y.2.1=(k:Int)) _ 4 (λk y hk hy=> ?_) ⟨hj,rfl⟩;unfold jh;refine Tot.ite (λhc=> ?_) (λhc=>Tot.ret<|show SOk E (N+25000) _ from hy.1.up J);have hc:=BT hc;have hy2:=hy.2;exact Tot.bind (W8 hy.1 (by decide) (by decide) J) λr5 h5=>Tot.bind (W0 h5 (by decide) J) λr6 h6=>Tot.ret ⟨J,h6.up J,NC hy.2 J⟩
end Go.VS
namespace Go.VS
open Go
variable {E:List Event}
def ajS{i:Int}(h:isN i=A1):Te (i,())=I (((i,A1,noB,0,[],()),()),()):=by
 unfold Te;simp only[JE,A9,h,AD,A6]
def ao2:eh ()=I (((rv0.ti,rv0.AK,rv0.B1,rv0.AU,rv0.BJ,rv0.got,()),()),()):=by
 have h0:nc ((0,([]:List AA),([]:List Bool),([]:List AT),([]:List A7),([]:List A7),()),(0,([]:List AA),([]:List Bool),([]:List AT),([]:List A7),([]:List A7),()),0,())
   =I (.inr ((0,[],[],[],[],[],()),(0,[kp0 0,kp0 1,kp0 2,kp0 3],[],[],[],[],()),())):=by
  have st:∀(n:Nat) (l:List AA),n<4->l.length<=4->Wz ((0,[],[],[],[],[],()),(0,l,[],[],[],[],()),(n:Int),())=I (.inl ((0,[],[],[],[],[],()),(0,l++[kp0 n],[],[],[],[],()),((n+1:Nat):Int),())):=by
   intro n l hn hl;unfold Wz;have hi:isN (n:Int)=A1:=Af.2 ⟨J,J⟩;rw[A8<|AZ<|show(n:Int)<4 by omega];rw[show Te (_,())=_ from ajS hi];simp only[A9];rw[A8<|B9 (by simp;omega),Aa J J];rfl
  exact B4 (st 0 [] (by decide)<|by decide)<|B4 (st 1 _ (by decide)<|by decide)<|B4 (st 2 _ (by decide)<|by decide)<|B4 (st 3 _ (by decide)<|by decide)<|BR<|by rfl
 have h1:lv ((0,([]:List AA),([]:List Bool),([]:List AT),([]:List A7),([]:List A7),()),(0,[kp0 0,kp0 1,kp0 2,kp0 3],[],[],[],[],()),0,())
   =I (.inr ((0,[],[],[],[],[],()),(0,[kp0 0,kp0 1,kp0 2,kp0 3],[A1,A1,A1],[],[],[],()),())):=by
  have st:∀(n:Nat) (l:List Bool),n<3->l.length<=4->Tj ((0,[],[],[],[],[],()),(0,[kp0 0,kp0 1,kp0 2,kp0 3],l,[],[],[],()),(n:Int),())=I (.inl ((0,[],[],[],[],[],()),(0,[kp0 0,kp0 1,kp0 2,kp0 3],l++[A1],[],[],[],()),((n+1:Nat):Int),())):=by
   intro n l hn hl;unfold Tj;have hw:w64 ((n:Int)+1)=((n+1:Nat):Int):=by rw[Aa J J];rfl
   simp only[hw];rw[A8<|AZ<|show((n+1:Nat):Int)<4 by omega,A8<|B9 (by simp;omega)]
  refine B4 (st 0 [] (by decide)<|by decide) (B4 (st 1 _ (by decide)<|by decide)<|B4 (st 2 _ (by decide)<|by decide)<|BR ?_);unfold Tj;have hw:w64 (((2+1:Nat):Int)+1)=4:=by rw[Aa J J];rfl
  simp only[hw];rfl
 unfold eh;rw[h0];simp only[C9];rw[h1];rfl
def yf{N M:Nat}{r:List Int×Int×A2}(h:C1 N r){DU:Int}(hm0:1<=DU)(hm:DU<=(M:Int))(hN:N+25000 * M<=710000):
  Tot (RR (r,DU,())) λa=>C1 (N+12+25000 * M) a.2.1/\WOk [] (N+12+25000 * M) a.1.1.2:=by
 unfold RR;rw[ao2];simp only[A9];refine Tot.bind (Au h J) λr2 h2=>Tot.pos (DC h2.2.1<|h2.2.2<|show(1:Int)<=5 by decide) ?_;have hs:SOk [] (N+1) (r2.2.1,rv0.ti,rv0.AK,rv0.B1,rv0.AU,rv0.BJ,rv0.got,([]:List Event),()):=⟨h2.1,rv0,[],rfl,.nil,Cw _⟩;refine Tot.bind (adO hs J) λr4 h4=>Tot.bind (Au h4.r J) λr9 h9=> ?_;refine Tot.sum (P:=λ_=>False) (Q:=λy=>C1 (N+12+25000 * M) y.1/\WOk [] (N+12+25000 * M) y.2.1.2) ?_ (λ_ h=>h.elim) (λy hy=>Tot.ret hy);have hn0:=h9.2.1;have hn:r9.1.1<(M:Int):=by
  have:r9.1.1<DU:=h9.2.2 hm0;omega
 refine Tot.loop (λi y=>C1 (N+12+25000 * i) y.1/\WOk [] (N+12+25000 * i) y.2.1.2/\y.2.2.2.1=r9.1.1 - (i:Int)) _ r9.1.1.toNat (λi y hi hy=> ?_) ⟨h9.1.up J,h4.w.up J,by show r9.1.1=r9.1.1 - 0;omega⟩;obtain⟨hr,hw,hy⟩:=hy;unfold nS;refine Tot.ite (λhc=> ?_) (λhc=>Tot.ret ⟨hr.up J,hw.up J⟩);have hc:=BT hc;refine Tot.bind (azL (s:=(y.1,y.2.1.2)) ⟨hr,hw⟩ _ J) λr5 h5=>Tot.ret ⟨J,h5.r.up J,h5.w.up J, ?_⟩;show w64 (y.2.2.2.1 - 1)=r9.1.1 - ((i+1:Nat):Int);rw[Aa J J];omega
def au5{N:Nat}{r:List Int×Int×A2}(h:C1 N r){DU:Int}(hm0:1<=DU)(hm:DU<=12)(hN:N<=400000):
  Tot (RR (r,DU,())) λa=>C1 (N+310000) a.2.1/\WOk [] (N+310000) a.1.1.2:=
 (yf (M:=12) h hm0 hm J).mono λ_ ha=>⟨ha.1.up J,ha.2.up J⟩
end Go.VS
namespace Go.VS
open Go
def ani{l:List Int}(hb:BOk l):Tot (Za (l,())) λa=>C1 0 a.1.1:=by
 unfold Za;refine Tot.ite (λhc=> ?_) (λhc=>Tot.ret ⟨?_,hb,Jk _,Jk _⟩)
 .have hc:(2000:Int)<(l.length:Int):=BT hc;refine Tot.pos (by simp;omega) (Tot.ret ⟨?_,λx hx=>hb x<|Ib hx,Jk _,Jk _⟩);show(BU (AM 2000) l).length<=2000;rw[DX];omega
 .have:¬(2000:Int)<(l.length:Int):=IP hc;show l.length<=2000;omega
def Qe{s:A4}{n:Int}(hs:s.size<=1)(h0:0<=n)(hn:n<128):Tot (M6 (s,n,())) λa=>a.1.1.size<=1000:=by
 unfold M6;refine Tot.sum (P:=λ_=>False) (Q:=λy=>y.1.size<=1000) ?_ (λ_ h=>h.elim) (λy hy=>Tot.ret hy);refine Tot.loop (λi x=>x.1.size<=2 ^ i/\0<=x.2.1/\x.2.1<((2 ^ (7 - i):Nat):Int)/\x.2.2.1.size<=128 * i) _ 7 (λi x hi hx=> ?_) ⟨by simpa using hs,h0,by simpa using hn,Cw _⟩;obtain⟨h1,h2,h3,h4⟩:=hx;unfold oH;refine Tot.ite (λhc=> ?_) (λhc=>Tot.ret<|show x.2.2.1.size<=1000 by omega);have hc:=BT hc;have hi7:i<7:=by
  rcases GN i 7 with h|h
  .exact h
  .have:i=7:=J
   subst this;simp at h3;omega
 have hp:2 ^ i<=128:=aEa (by decide) (by omega:i<=7);have hp2:(2:Nat) ^ (i+1)=2 * 2 ^ i:=by rw[Qz];omega
 have hp3:(2:Nat) ^ (7 - i)=2 * 2 ^ (7 - (i+1)):=by
  rw[show 7 - i=(7 - (i+1))+1 by omega,Qz];omega
 have hp4:(2:Nat) ^ (7 - i)<=128:=aEa (by decide) (by omega:7 - i<=7);refine Tot.join (A:=λj=>j.1=x.1/\j.2.1=x.2.1/\j.2.2.1.size<=128 * (i+1)) ?_ (λj hj=> ?_)
 .refine Tot.ite (λhc=>Tot.pos (by simp;omega)<|Tot.ret ⟨rfl,rfl, ?_⟩) (λhc=>Tot.ret ⟨rfl,rfl,J⟩);show(x.2.2.1++x.1).size<=128 * (i+1);rw[Bg];omega
 .obtain⟨j1,j2,j3⟩:=hj;refine Tot.pos (by rw[j1];simp;omega) (Tot.ret ⟨J, ?_, ?_, ?_,j3⟩)
  .show(j.1++j.1).size<=2 ^ (i+1);rw[Bg,j1];omega
  .show 0<=w64 (B0 j.2.1 2);rw[j2,GF h2,Aa J J];omega
  .show w64 (B0 j.2.1 2)<((2 ^ (7 - (i+1)):Nat):Int);rw[j2,GF h2,Aa J J];omega
def ajI{N:Nat}{r:List Int×Int×A2}(h:C1 N r)(hN:N<=900000):Tot (cG (r,())) λa=>C1 (N+30) a.2.1/\a.1.1.size<=1000:=by
 unfold cG;refine Tot.bind (Au h J) λr1 h1=>Tot.ite (λ_=> ?_) (λ_=>Tot.ite (λ_=> ?_) λ_=> ?_)
 .refine Tot.bind (Qe (by decide) (by decide)<|by decide) λr14 h14=>Tot.bind (Qe (by decide) (by decide)<|by decide) λr15 h15=>Tot.bind (O0 h1.1 J<|by simp) λr16 h16=>Tot.ret ⟨h16.1.up J, ?_⟩;have hx:=h16.2;simp only[Bk,M7,or_false]at hx;obtain hx|hx|hx|hx|hx:=hx<;>rw[hx]
  .decide
  .exact h14
  .exact h15
  .decide
  .decide
 .refine Tot.bind (Au h1.1 J) λr2 h2=>Tot.sum (P:=λ_=>False) (Q:=λy=>C1 (N+30) y.1/\y.2.1.length<=30) ?_ (λ_ h=>h.elim) (λy hy=>Tot.ret ⟨hy.1, ?_⟩)
  .have hv:r2.1.1<20:=h2.2.2 (show(1:Int)<=20 by decide);have hv0:=h2.2.1;have hw:w64 (1+r2.1.1)=1+r2.1.1:=Aa J J;refine Tot.loop (λi x=>C1 (N+2+i) x.1/\x.2.1.length<=i/\x.2.2.1=1+r2.1.1 - (i:Int)) _ (1+r2.1.1).toNat (λi x hi hx=> ?_) ⟨h2.1,Cw _,by show w64 (1+r2.1.1)=1+r2.1.1 - 0;omega⟩;obtain⟨x1,x2,x3⟩:=hx;unfold gu;refine Tot.ite (λhc=> ?_) (λhc=>Tot.ret ⟨x1.up J,by show x.2.1.length<=30;omega⟩);have hc:=BT hc;refine Tot.bind (Au x1 J) λr3 h3=>Tot.pos (B9 (by simp;omega)) (Tot.ret ⟨J,h3.1.up J,by simp;omega, ?_⟩);show w64 (x.2.2.1 - 1)=1+r2.1.1 - ((i+1:Nat):Int);rw[Aa J J];omega
  .show(BH y.2.1).size<=1000;rw[Sb];omega
 .exact Tot.bind (O0 h1.1 J<|by decide) λr16 h16=>Tot.ret ⟨h16.1.up J,Qk h16.2<|by decide⟩
def rr{N:Nat}{r:List Int×Int×A2}(h:C1 N r)(hN:N<=800000):Tot (R9 (r,())) λa=>C1 (N+60) a.2.1/\a.1.1.2.2.2.2.1.size<=1000:=by
 unfold R9;refine Tot.bind (Au h J) λr1 h1=>Tot.bind (Au h1.1 J) λr2 h2=>Tot.bind (Au h2.1 J) λr3 h3=>Tot.bind (Au h3.1 J) λr4 h4=>Tot.bind (O0 h4.1 J<|by decide) λr5 h5=>Tot.bind (Au h5.1 J) λr6 h6=> ?_;have hz:=Qk h5.2 (by decide);refine Tot.ite (λ_=> ?_) (λ_=> ?_)
 .exact Tot.bind (Au h6.1 J) λr7 h7=>Tot.pos (DC h7.2.1<|h7.2.2<|show(1:Int)<=2 by decide)<|Tot.ret ⟨h7.1.up J,hz⟩
 refine Tot.ite (λ_=> ?_) (λ_=> ?_)
 .exact Tot.bind (Au h6.1 J) λr7 h7=>Tot.pos (DC h7.2.1<|h7.2.2<|show(1:Int)<=3 by decide)<|Tot.ret ⟨h7.1.up J,hz⟩
 refine Tot.ite (λ_=> ?_) (λ_=> ?_)
 .exact Tot.bind (Au h6.1 J) λr7 h7=>Tot.pos (DC h7.2.1<|h7.2.2<|show(1:Int)<=3 by decide)<|Tot.ret ⟨h7.1.up J,hz⟩
 refine Tot.ite (λ_=> ?_) (λ_=> ?_)
 .exact Tot.bind (ajI h6.1 J) λr7 h7=>Tot.ret ⟨h7.1.up J,h7.2⟩
 refine Tot.ite (λ_=> ?_) (λ_=> ?_)
 .exact Tot.bind (Au h6.1 J) λr7 h7=>Tot.pos (DC h7.2.1<|h7.2.2<|show(1:Int)<=2 by decide) (Tot.ret ⟨h7.1.up J,hz⟩)
 .exact Tot.ret ⟨h6.1.up J,hz⟩
def aiP{n:A7}(h:B3 n=A1):(wr n).size<=100:=by
 obtain⟨⟨a,b⟩,⟨c,d⟩,⟨e,f⟩,_,t,_,_,z,_⟩:=ju h;have t:=Fh t;have h1:(BK n.fr).size<=3:=H5 a J (by decide);have h2:(BK n.nu).size<=3:=H5 c J (by decide);have h3:(BK n.to).size<=3:=H5 t.1 J (by decide);have h4:(BK n.un).size<=3:=H5 e J (by decide);unfold wr;simp only[Bg,BM,Bw,C2];omega
def agt{a b c:Int}(ha:0<=a/\a<=999)(hb:0<=b/\b<=999)(hc:0<=c/\c<=999):(((((BK a++B [32])++BK b)++B [32])++BK c)).size<=100:=by
 have h1:(BK a).size<=3:=H5 ha.1 J (by decide);have h2:(BK b).size<=3:=H5 hb.1 J (by decide);have h3:(BK c).size<=3:=H5 hc.1 J (by decide);simp only[Bg,BM,Bw,C2];omega
def aBM{a b c:Int}(ha:0<=a/\a<=999)(hb:0<=b/\b<=999)(hc:0<=c/\c<=999):Tot (Nv (a,b,c,())) λr=>r.1.1.size<=100:=
 ⟨_,kb ha hb hc,agt ha hb hc⟩
def rQ{N S:Nat}{w:List UInt8}{s:A4}{r:(List Int×Int×A2)×A2}(hw:w.length<=10)(hs:s.size<=S)(hS:S<=100000)(hr:C1 N r.1):
  Tot (if A0 ((B w).size+s.size<=4611686018427387904)=A1 then(let v:=B w++s;I ((v,()),r)) else U) λa=>C1 N a.2.1/\a.1.1.size<=S+10:=by
 have hw:(B w).size<=10:=by rw[BM];exact hw
 refine Tot.pos (AZ J)<|Tot.ret ⟨hr, ?_⟩;show(B w++s).size<=S+10;rw[Bg];omega
def vE{N:Nat}{r:List Int×Int×A2}(h:C1 N r)(hN:N<=700000):Tot (UZ (r,())) λa=>C1 (N+80) a.2.1/\a.1.1.size<=2000:=by
 unfold UZ;refine Tot.bind (Au h J) λr1 h1=> ?_;refine Tot.ite (λ_=> ?_) (λ_=> ?_)
 .refine Tot.bind (Au h1.1 J) λr2 h2=> ?_;have hv:r2.1.1<30:=h2.2.2 (show(1:Int)<=30 by decide);have hv0:=h2.2.1;refine Tot.bind (Tot.eq<|FG (n:=r2.1.1) J J) λr3 h3=> ?_;subst h3;have hz:(BK r2.1.1).size<=2:=H5 hv0 J (by decide);exact(rQ (N:=N+2) (S:=2) (by decide) hz (by decide)<|show C1 (N+2) _ from h2.1).mono λa ha=>⟨ha.1.up J,J⟩
 refine Tot.ite (λ_=> ?_) (λ_=> ?_)
 .refine Tot.bind (Au h1.1 J) λr2 h2=>Tot.bind (Au h2.1 J) λr3 h3=>Tot.bind (Au h3.1 J) λr4 h4=> ?_;have u1:r2.1.1<4:=h2.2.2 (show(1:Int)<=4 by decide);have u2:r3.1.1<3:=h3.2.2 (show(1:Int)<=3 by decide);have u3:r4.1.1<30:=h4.2.2 (show(1:Int)<=30 by decide);have v1:=h2.2.1;have v2:=h3.2.1;have v3:=h4.2.1;rw[Aa (n:=1+r3.1.1) J J,Aa (n:=1+r4.1.1) J J];refine Tot.bind (aBM J J J) λr5 h5=> ?_;exact(rQ (N:=N+4) (S:=100) (by decide) h5 (by decide)<|show C1 (N+4) _ from h4.1).mono λa ha=>⟨ha.1.up J,J⟩
 refine Tot.ite (λ_=> ?_) (λ_=> ?_)
 .refine Tot.bind (Au h1.1 J) λr2 h2=>Tot.bind (Au h2.1 J) λr3 h3=>Tot.bind (Au h3.1 J) λr4 h4=> ?_;have u1:r2.1.1<4:=h2.2.2 (show(1:Int)<=4 by decide);have u2:r3.1.1<3:=h3.2.2 (show(1:Int)<=3 by decide);have u3:r4.1.1<30:=h4.2.2 (show(1:Int)<=30 by decide);have v1:=h2.2.1;have v2:=h3.2.1;have v3:=h4.2.1;rw[Aa (n:=1+r3.1.1) J J,Aa (n:=1+r4.1.1) J J];refine Tot.bind (aBM J J J) λr5 h5=> ?_;exact(rQ (N:=N+4) (S:=100) (by decide) h5 (by decide)<|show C1 (N+4) _ from h4.1).mono λa ha=>⟨ha.1.up J,J⟩
 refine Tot.ite (λ_=> ?_) (λ_=> ?_)
 .refine Tot.bind (Qe (by decide) (by decide)<|by decide) λr14 h14=>Tot.bind (Qe (by decide) (by decide)<|by decide) λr15 h15=>Tot.bind (O0 h1.1 J<|by simp) λr16 h16=>Tot.ret ⟨h16.1.up J, ?_⟩;have hx:=h16.2;simp only[Bk,M7,or_false]at hx;show r16.1.1.size<=2000;obtain hx|hx|hx|hx|hx|hx|hx|hx|hx|hx|hx|hx|hx|hx:=hx<;>rw[hx]
  all_goals first|decide|(exact CB h14<|by decide)|(exact CB h15<|by decide)
 .refine Tot.bind (O0 h1.1 J<|by decide) λr2 h2=>Tot.bind (rr h2.1 J) λr3 h3=> ?_;have hz:=Qk h2.2 (by decide);have hn:=h3.2;have hw:Tot (KZ r3.1) λa=>a.1.1.size<=100:=by
   obtain⟨⟨⟨fr,nu,tt,un,tx,_⟩,_⟩,q⟩:=r3;refine⟨_,Q8 (show tx.size<=1048576 by have:tx.size<=1000:=hn;omega), ?_⟩;show Zq (if B3 ⟨fr,nu,tt,un,tx⟩=A1 then _ else _)<=100;split
   .exact aiP (by assumption)
   .decide
  refine Tot.bind hw λr4 h4=>Tot.pos (AZ J)<|Tot.ret ⟨h3.1.up J, ?_⟩;show(r2.1.1++r4.1.1).size<=2000;rw[Bg];omega
def lG(s:A4)(a b:Nat):(s.extract a b).size<=s.size:=by
 rw[TI];omega
def az6{N S:Nat}{r:List Int×Int×A2}{s:A4}(h:C1 N r)(hN:N<=900000)(hs:s.size<=S)(hS:S<=100000):Tot (We (r,s,())) λa=>C1 (N+10) a.2.1/\a.1.1.size<=2 * S+1000:=by
 unfold We;refine Tot.ite (λ_=>Tot.ret ⟨h.up J,show s.size<=2 * S+1000 by omega⟩) (λhc=> ?_);have hc:¬((s.size:Int)=0):=IP hc;refine Tot.bind (Au h J) λr1 h1=>Tot.ite (λ_=>Tot.ret ⟨h1.1.up J,show s.size<=2 * S+1000 by omega⟩) (λ_=> ?_);refine Tot.bind (Au h1.1 J) λr4 h4=>Tot.bind (Au h4.1 J) λr5 h5=> ?_;have v0:=h4.2.1;have v1:r4.1.1<(s.size:Int):=h4.2.2 (show(1:Int)<=(s.size:Int) by omega);have hw:w64 (r4.1.1+1)=r4.1.1+1:=Aa J J;have c1:(A0 (0<=r4.1.1)&&A0 (r4.1.1<=(s.size:Int)))=A1:=by simp;omega
 have c2:(A0 (0<=r4.1.1+1)&&A0 (r4.1.1+1<=(s.size:Int)))=A1:=by simp;omega
 simp only[hw];have e1:=lG s 0 r4.1.1.toNat;have e2:=lG s (r4.1.1+1).toNat s.size;have e3:=lG s r4.1.1.toNat s.size;have app:∀a b:A4,(a++b).size=a.size+b.size:=Bg;refine Tot.ite (λ_=>Tot.pos c1<|Tot.pos c2<|Tot.pos (AZ J)<|Tot.ret ⟨h5.1.up J, ?_⟩) (λ_=> ?_)
 .show(s.extract 0 r4.1.1.toNat++s.extract (r4.1.1+1).toNat s.size).size<=2 * S+1000;rw[app];omega
 refine Tot.ite (λ_=>Tot.pos c1<|Tot.bind (O0 h5.1 J<|by decide) λr6 h6=> ?_) (λ_=> ?_)
 .have hz:=Qk h6.2 (by decide);refine Tot.pos (AZ J) (Tot.pos c1<|Tot.pos (AZ (by rw[app];omega))<|Tot.ret ⟨h6.1.up J, ?_⟩);show((s.extract 0 r4.1.1.toNat++r6.1.1)++s.extract r4.1.1.toNat s.size).size<=2 * S+1000;rw[app,app];rw[TI,TI]at *;omega
 refine Tot.ite (λ_=>Tot.pos c1<|Tot.bind (O0 h5.1 J<|by decide) λr6 h6=> ?_) (λ_=> ?_)
 .have hz:=Qk h6.2 (by decide);refine Tot.pos (AZ J) (Tot.pos c2<|Tot.pos (AZ (by rw[app];omega))<|Tot.ret ⟨h6.1.up J, ?_⟩);show((s.extract 0 r4.1.1.toNat++r6.1.1)++s.extract (r4.1.1+1).toNat s.size).size<=2 * S+1000;rw[app,app];omega
 refine Tot.ite (λ_=>Tot.pos (AZ<|show s.size+s.size<=4611686018427387904 by omega)<|Tot.ret ⟨h5.1.up J, ?_⟩) (λ_=>Tot.pos c1<|Tot.ret ⟨h5.1.up J, ?_⟩)
 .show(s++s).size<=2 * S+1000;rw[app];omega
 .show(s.extract 0 r4.1.1.toNat).size<=2 * S+1000;omega
def aex{lg r:A4}{fo:Int}(h:lg.size<=2400):(IT lg fo r).1.1.size<=2400:=by
 unfold IT;split
 .split
  .rename_i h1;simp only[AI,decide_eq_true_eq]at h1;show(lg++Ce r).size<=2400;rw[Bg];omega
  .exact h
 .exact Cw _
def af3{lg:A4}{fo:Int}(h:lg.size<=2400):(J3 lg fo).1.size<=2400:=by
 unfold J3;split
 .exact h
 .exact Cw _
def auP{N:Nat}{r:List Int×Int×A2}(h:C1 N r)(hN:N<=690000):Tot (XB (r,())) λa=>C1 (N+2000) a.2.1/\a.1.1.1.size<=100000:=by
 unfold XB;refine Tot.bind (Au h J) λr1 h1=> ?_;have v0:=h1.2.1;have v1:r1.1.1<9:=h1.2.2 (show(1:Int)<=9 by decide);refine Tot.sum (P:=λ_=>False) (Q:=λy=>C1 (N+1000) y.1/\y.2.2.1.1.size<=2400) ?_ (λ_ h=>h.elim) (λy hy=> ?_)
 .refine Tot.loop (λi x=>C1 (N+1+81 * i) x.1/\x.2.2.1.1.size<=2400/\x.2.2.2.1=r1.1.1 - (i:Int)) _ r1.1.1.toNat (λi x hi hx=> ?_) ⟨h1.1,show noB.size<=2400 by decide,by show r1.1.1=r1.1.1 - 0;omega⟩;obtain⟨x1,x2,x3⟩:=hx;unfold qL;refine Tot.ite (λhc=> ?_) (λhc=>Tot.ret ⟨x1.up J,x2⟩);have hc:=BT hc;have hw:w64 (x.2.2.2.1 - 1)=r1.1.1 - ((i+1:Nat):Int):=by
   rw[Aa J J];omega
  refine Tot.bind (vE x1 J) λr2 h2=> ?_;have ha:=js (lg:=x.2.2.1.1) (r:=r2.1.1) (fo:=x.2.2.1.2.1) J J;refine Tot.bind (Tot.eq<|show Nz (x.2.2.1,r2.1)=_ from ha) λr3 h3=> ?_;subst h3;have hz:=aex (r:=r2.1.1) (fo:=x.2.2.1.2.1) x2;refine Tot.bind (Au h2.1 J) λr4 h4=>Tot.ite (λ_=> ?_) (λ_=>Tot.ret ⟨J,h4.1.up J,hz,hw⟩);refine Tot.bind (Tot.eq<|dk J) λr5 h5=> ?_;subst h5;exact Tot.ret ⟨J,h4.1.up J,af3 hz,hw⟩
 .obtain⟨y1,y2⟩:=hy;refine Tot.bind (Au y1 J) λr2 h2=> ?_;refine Tot.ite (λ_=>Tot.bind (az6 h2.1 J y2<|by decide) λr3 h3=>Tot.ret ⟨h3.1.up J,CB h3.2<|by decide⟩) (λ_=> ?_);refine Tot.ite (λ_=> ?_) (λ_=> ?_)
  .exact Tot.bind (Au h2.1 J) λr3 h3=>Tot.bind (Au h3.1 J) λr4 h4=>Tot.pos (DC h4.2.1<|h4.2.2<|show(1:Int)<=3 by decide)<|Tot.ret ⟨h4.1.up J,CB y2<|by decide⟩
  refine Tot.ite (λ_=> ?_) (λ_=>Tot.ret ⟨h2.1.up J,CB y2<|by decide⟩);refine Tot.sum (P:=λ_=>False) (Q:=λy=>C1 (N+2000) y.1/\y.2.2.1.1.size<=100000) ?_ (λ_ h=>h.elim) (λy hy=>Tot.ret hy);refine Tot.loop (λi x=>C1 (N+1001+2 * i) x.1/\x.2.2.1.1.size<=2400+1100 * i/\x.2.2.2.1=(i:Int)) _ 40 (λi x hi hx=> ?_) ⟨h2.1,y2,rfl⟩;obtain⟨x1,x2,x3⟩:=hx;unfold qU;refine Tot.bind (Au x1 J) λr3 h3=>Tot.ite (λhc=> ?_) (λhc=>Tot.ret ⟨h3.1.up J,by show x.2.2.1.1.size<=100000;omega⟩);have hc:=BT hc;have v0:=h3.2.1;have v1:r3.1.1<3:=h3.2.2 (show(1:Int)<=3 by decide);rw[Aa J J]at hc;refine Tot.bind (Au h3.1 J) λr4 h4=> ?_;have u0:=h4.2.1;have u1:r4.1.1<3:=h4.2.2 (show(1:Int)<=3 by decide);have hw:w64 (58+r4.1.1)=58+r4.1.1:=Aa J J;refine Tot.bind (Qe (by decide) (by rw[hw];omega) (by rw[hw];omega)) λr5 h5=> ?_;refine Tot.bind (Tot.eq<|show K8 r5.1=_ from dd (r:=r5.1.1) J) λr6 h6=> ?_;subst h6;have hz:=QF (r:=r5.1.1) J;refine Tot.pos (AZ (by show x.2.2.1.1.size+(Ce r5.1.1).size<=4611686018427387904;omega))<|Tot.ret ⟨J,h4.1.up J, ?_,NC x3 J⟩;show(x.2.2.1.1++Ce r5.1.1).size<=2400+1100 * (i+1);rw[Bg];omega
variable {E:List Event}
def KOk(y:Int×Bool×A4×Int×List AH×A2):Prop:=∃k,y=tKp k/\Eo k/\LZ k.AE
def HT.odd{k:AA}(h:HT k):LZ k.AE:=λx hx=> .inl<|h x hx
def YOk(t:Int×List AA×List Bool×List AT×List A7×List A7×A2):Prop:=∃(w:Am) (ev:List Event),t=(w.ti,w.AK,w.B1,w.AU,w.BJ,w.got,())/\Reach ev w
def ajD{N:Nat}{r:List Int×Int×A2}(h:C1 N r)(hN:N<=370000):Tot (ZO (r,())) λa=>C1 (N+320000) a.2.1/\YOk a.1.1/\KOk a.1.2.1:=by
 unfold ZO;refine Tot.bind (au5 h (by decide) (by decide) J) λr1 h1=>Tot.join (A:=λj=>C1 (N+312000) j.1/\WOk [] (N+312000) j.2.2.2.1.2) ?_ (λj hj=> ?_)
 .refine Tot.bind (Au h1.1 J) λr2 h2=>Tot.ite (λ_=> ?_) (λ_=>Tot.ret ⟨h2.1.up J,h1.2.up J⟩);exact Tot.bind (W8 (s:=(r2.2.1,r1.1.1.2)) ⟨h2.1,h1.2.up J⟩ (by decide) (by decide) J) λr3 h3=>Tot.ret ⟨h3.r.up J,h3.w.up J⟩
 .obtain⟨hr,hw⟩:=hj;have hy:YOk (j.2.2.2.1.2.1,j.2.2.2.1.2.2.1,j.2.2.2.1.2.2.2.1,j.2.2.2.1.2.2.2.2.1,j.2.2.2.1.2.2.2.2.2.1,j.2.2.2.1.2.2.2.2.2.2.1,()):=by
   obtain⟨w,ev,e,hw,_⟩:=hw;rw[e];exact⟨w,_,rfl,hw⟩
  refine Tot.bind (Au hr J) λr7 h7=> ?_;have hk:=hw.has h7.2.1 (h7.2.2<|show(1:Int)<=4 by decide);have hsm:=D7 hk.1;have Sr:=hw.big h7.2.1 (h7.2.2<|show(1:Int)<=4 by decide);refine Tot.pos hk.2.2 (Tot.bind (Tot.eq<|show G7 ((_,_,_,_,_,()),())=_ from Lg hsm) λr8 h8=>Tot.bind (Au h7.1 J) λr9 h9=> ?_);have h8':∃K,r8=((tKp K,()),())/\Eo K/\LZ K.AE/\K.log.size<=2400/\K.AE.length<=3:=⟨_,h8,hsm,Sr.odd,(OB (Df hk.1).sh).1,(Df hk.1).hl⟩;obtain⟨K,rfl,hsm,PM,hlg,hhl⟩:=h8';refine Tot.ite (λ_=> ?_) (λ_=> ?_)
  .exact Tot.bind (Au h9.1 J) λr10 h10=>Tot.pos (DC h10.2.1<|h10.2.2<|show(1:Int)<=3 by decide)<|Tot.ret ⟨h10.1.up J,hy,⟨_,K.up,K.log,K.fo,K.AE⟩,rfl,hsm,PM⟩
  refine Tot.ite (λ_=> ?_) (λ_=> ?_)
  .exact Tot.bind (auP h9.1 J) λr10 h10=>Tot.ret ⟨h10.1.up J,hy,⟨K.id,K.up,_,_,K.AE⟩,rfl,⟨CB h10.2<|by decide,hsm.2⟩,PM⟩
  refine Tot.ite (λ_=> ?_) (λ_=> ?_)
  .exact Tot.bind (Au h9.1 J) λr10 h10=>Tot.pos (DC h10.2.1<|h10.2.2<|show(1:Int)<=4 by decide)<|Tot.ret ⟨h10.1.up J,hy,⟨K.id,K.up,K.log,_,K.AE⟩,rfl,hsm,PM⟩
  refine Tot.ite (λ_=> ?_) (λ_=> ?_)
  .refine Tot.bind (Au h9.1 J) λr10 h10=>Tot.bind (Au h10.1 J) λr11 h11=>Tot.bind (Au h11.1 J) λr12 h12=>Tot.bind (Au h12.1 J) λr13 h13=>Tot.bind (Au h13.1 J) λr14 h14=> ?_;refine Tot.pos (B9 (by show K.AE.length+1<=4294967296;have:=hsm.2.1;omega)) (Tot.ret ⟨h14.1.up J,hy,⟨K.id,K.up,K.log,K.fo,K.AE++[⟨r10.1.1,w64<|1+r11.1.1,r12.1.1,9,r13.1.1,[⟨r14.1.1,B [97,98,99,100]⟩]⟩]⟩,rfl,⟨hsm.1, ?_,Mp hsm.2.2 ?_⟩, ?_⟩)
   .show(K.AE++[_]).length<=1048576;simp;omega
   .refine⟨DQ rfl,λm hm=> ?_⟩;rw[DB.1 hm];show(B [97,98,99,100]).size<=1048576;decide
   .exact Mp PM<|.inr ⟨_,rfl⟩
  refine Tot.ite (λ_=> ?_) (λ_=> ?_)
  .exact Tot.ret ⟨h9.1.up J,hy,⟨K.id,!K.up,K.log,K.fo,K.AE⟩,rfl,hsm,PM⟩
  refine Tot.ite (λ_=> ?_) (λ_=> ?_)
  .refine Tot.bind (vE h9.1 J) λr10 h10=> ?_;refine Tot.bind (Tot.eq<|show K8 r10.1=_ from dd (r:=r10.1.1) J) λr11 h11=> ?_;subst h11;have hz:=QF (r:=r10.1.1) J;refine Tot.pos (AZ (by show K.log.size+(Ce r10.1.1).size<=4611686018427387904;omega))<|Tot.ret ⟨h10.1.up J,hy,⟨K.id,K.up,K.log++Ce r10.1.1,K.fo,K.AE⟩,rfl,⟨?_,hsm.2⟩,PM⟩;show(K.log++Ce r10.1.1).size<=1048576;rw[Bg];omega
  .exact Tot.ret ⟨h9.1.up J,hy,K,rfl,hsm,PM⟩
end Go.VS
namespace Go.VS
open Go
abbrev tR(w:Am):YR:=(w.ti,w.AK,w.B1,w.AU,w.BJ,w.got,())
abbrev zR:Am:=⟨0,[],[],[],[],[]⟩
abbrev SmR(w:Am):Prop:=E4 w.AK w.B1 w.AU w.BJ w.got
def BS.sm{w:Am}(h:BS w):SmR w:=by
 have h1:=h.kl;have h2:=h.ll;have h3:=h.rl;have h4:=h.sl;have h5:=h.gl;refine⟨J,λk hk=> ?_,J,J,λp hp=> ?_,J,λn hn=> ?_,J,λn hn=> ?_⟩
 .obtain⟨i,hi,rfl⟩:=Dt hk;have:=(h.k i J).1;rw[kA,BD,Ax hi]at this;exact D7 this
 .have:=(KV<|h.p p hp).2.2.1;unfold rH;omega
 .have:=Af.1<|jn<|h.s n hn;unfold Fu;omega
 .have:=Af.1<|jn<|h.g n hn;unfold Fu;omega
def aiV{l:List AA}(hl:l.length<=1048576):Yt (l,())=I ((l,()),()):=LU hl
def agW{l:List Bool}(hl:l.length<=1048576):Yc (l,())=I ((l,()),()):=LU hl
def atI{l:List AT}(hl:l.length<=1048576):ba (l,())=I ((l,()),()):=LU hl
def Zp{w:Am}(sm:SmR w):Ly (tR w,())=I ((tR w,()),()):=by
 obtain⟨ti,ks,ls,ra,se,go⟩:=w;have kl:=sm.kl;unfold Ly;rw[show Yt ((tR ⟨ti,ks,ls,ra,se,go⟩).2.1,())=_ from aiV sm.kl,show Yc ((tR ⟨ti,ks,ls,ra,se,go⟩).2.2.1,())=_ from agW sm.l,show ba ((tR ⟨ti,ks,ls,ra,se,go⟩).2.2.2.1,())=_ from atI sm.rl,
  show NI ((tR ⟨ti,ks,ls,ra,se,go⟩).2.2.2.2.1,())=_ from Yd sm.sl,show NI (tR ⟨ti,ks,ls,ra,se,go⟩).2.2.2.2.2=_ from Yd sm.gl]
 simp only[A9];have h:dX (tR zR,tR ⟨ti,ks,ls,ra,se,go⟩,(ks.length:Int),0,())=I (.inr (tR zR,tR ⟨ti,ks,ls,ra,se,go⟩,())):=by
  refine CS (λi=>(tR zR,tR ⟨ti,ks,ls,ra,se,go⟩,(ks.length:Int),(i:Int),())) ks.length ?_ ?_
  .intro i hi;unfold fZ;have hc:=Ka<|Kw sm.k i;simp only[Ia hi,A5,AR hi,JL,hc,A9,Bu];rw[Di hi kl,show(⟨(kA ks i).id,(kA ks i).up,(kA ks i).log,(kA ks i).fo,(kA ks i).AE⟩:AA)=kA ks i from rfl,VG]
  .unfold fZ;simp only[Fe,A6]
 rw[show dX _=_ from h];rfl
def iQ{w:Am}{fs:List Frame}(hr:w.AU.length<=1048000)(hf:fs.length<=40):My (tR w,fs,())=I ((),(tR ⟨w.ti,w.AK,w.B1,CR w.AU fs,w.BJ,w.got⟩,())):=by
 obtain⟨ti,ks,ls,ra,se,go⟩:=w;unfold My;have h0:CR ra (fs.take 0)=ra:=by
  unfold CR;simp
 have h:ch (tR ⟨ti,ks,ls,CR ra<|fs.take 0,se,go⟩,fs,(fs.length:Int),((0:Nat):Int),())=I (.inr (tR ⟨ti,ks,ls,CR ra fs,se,go⟩,())):=by
  refine CS (λi=>(tR ⟨ti,ks,ls,CR ra<|fs.take i,se,go⟩,fs,(fs.length:Int),(i:Int),())) fs.length ?_ ?_
  .intro i hi;unfold Yz;simp only[Ia hi,A5,AR hi,xM];have hz:(CR ra<|fs.take i).length<=1048100:=by
    unfold CR;simp;have:min (30 - ra.length) (min i fs.length)<=40:=J
    simp only at hr;omega
   have hw:w64 ((i:Int)+1)=((i+1:Nat):Int):=Di hi J;have hrm:∀p:AT,Ac ((CR ra<|fs.take i).length+[p].length)=A1:=λp=>B9 (by simp;omega);have ht:fs.take (i+1)=fs.take i++[frA fs i]:=by rw[K5,Ax hi,aDO hi];rfl
   have hl:(fs.take i).length=i:=by rw[DX];omega
   have hlen:(CR ra<|fs.take i).length=ra.length+min (30 - ra.length) i:=by
    unfold CR;simp;omega
   by_cases h30:(CR ra<|fs.take i).length<30
   .rw[A8<|AZ<|show((CR ra<|fs.take i).length:Int)<30 by omega];rw[show PC ((_,_,_,_,_,_,_,_,_,_,()),())=_ from acd<|frA fs i];simp only[A9,hrm,A5];have e:CR ra (fs.take<|i+1)=CR ra (fs.take i)++[pcF (frA fs i)]:=by
     rw[hlen]at h30;have a1:BU (30 - ra.length) (fs.take i++[frA fs i])=fs.take i++[frA fs i]:=J8 (by rw[Ar,hl];simp;omega);have a2:BU (30 - ra.length) (fs.take i)=fs.take i:=J8 (by rw[hl];omega);unfold CR;rw[ht,a1,a2,Ev,← C7];rfl
    rw[e,hw];rfl
   .rw[AB<|nd<|show ¬((CR ra<|fs.take i).length:Int)<30 by omega];have e:CR ra (fs.take<|i+1)=CR ra (fs.take i):=by
     rw[hlen]at h30;unfold CR;rw[ht,List.take_append_of_le_length (by rw[hl];omega)]
    rw[e,hw]
  .unfold Yz;simp only[Fe,A6,Ec]
 rw[h0]at h;have h':ch (tR ⟨ti,ks,ls,ra,se,go⟩,fs,(fs.length:Int),0,())=I (.inr (tR ⟨ti,ks,ls,CR ra fs,se,go⟩,())):=h;simp only[h'];rfl
def apb{l:List AT}{i:Int}(h0:0<=i)(h1:i<l.length)(hl:l.length<=1048576):V7 (l,i,())=I ((F7 l i.toNat,()),()):=by
 unfold V7;have hw:w64 (i+1)=i+1:=Aa J J;have hn:(i+1).toNat=i.toNat+1:=J
 simp only[hw,hn];rw[A8 (by simp;omega),A8<|B9 (by simp;omega),A8 (by simp;omega),A8<|B9 (by simp;omega)];rfl
def axl{w:Am}(h:BS w)(e:Event):((e.ki=9\/e.ki=10)->XI (tR w,tE e,())=I (((GQ w e).2,()),(tR (GQ w e).1,()))):=by
 intro _;have ll:=h.ll;unfold XI GQ;simp only[EF,A9,Oe<|show w.B1.length<=1048576 by omega,Xi];rcases tf (inB e.at_ 0<|(w.B1.length:Int) - 1) with e0|e0
 .have ha:=Af.1 e0;have hb:inb e.at_ w.B1.length=A1:=DC ha.1 J;rw[e0,hb];simp only[AD,AG,Cp,A5,BY,AX];rcases tfp (bA w.B1 e.at_.toNat=A0 (e.ki=9)) with c|c<;>simp only[c,AS,Ag,AD,AG,A5,A6]
 .rw[e0];simp only[AD,AG,HF,A5,Bh,AP,A6]
def ayQ(l:List AT)(i:Int){inst:Decidable ((@rd AT (dfl .Ai) l i).dst<(@rd AT (dfl .Ai) l i).src)}:(@ite Int ((@rd AT (dfl .Ai) l i).dst<(@rd AT (dfl .Ai) l i).src) inst (@rd AT (dfl .Ai) l i).dst (@rd AT (dfl .Ai) l i).src)=lnk (pA l i.toNat):=by
 show _=lnk (@rd AT (dfl .Ai) l i);unfold lnk;split<;>split<;>omega
def awC{w:Am}(h:BS w)(e:Event):((e.ki=4\/e.ki=5\/e.ki=6)->Ps (tR w,tE e,())=I (((EJ w e).2,()),(tR (EJ w e).1,()))):=by
 intro hk;have rl:=h.rl;unfold Ps EJ;simp only[↓ayQ,EF,A9,Oe<|show w.AU.length<=1048576 by omega,ku];rcases tf (inB e.wo 0<|(w.AU.length:Int) - 1) with e0|e0
 .have ha:=Af.1 e0;have hb:inb e.wo w.AU.length=A1:=DC ha.1 J;have hwl:e.wo.toNat<w.AU.length:=J
  have hp:=MH h (i:=e.wo.toNat) hwl;obtain⟨p1,p2,p3,p4,p5⟩:=KV hp;have Ew:=apb (l:=w.AU) ha.1 J J;rw[e0,hb];simp only[AD,A6,A5];rcases tfp (e.ki=5) with c5|c5
  .have c6:¬e.ki=6:=by have:e.ki=5:=of_eq_true c5;omega
   simp only[c5,AS,A5,Ew,A9,c6,if_false]
  .rcases tfp (e.ki=6) with c6|c6
   .simp only[c5,c6,AS,Ag,A5,A6,Oe<|show(pA w.AU e.wo.toNat).data.size<=1048576 by omega];rcases tf (inB e.mix 0<|((pA w.AU e.wo.toNat).data.size:Int) - 1) with e2|e2<;>simp only[e2,AD,AG,A6,A5,AX,AP,Bb];rcases tf (pA w.AU e.wo.toNat).sp with e1|e1<;>simp only[e1,AD,AG,A6,A5,AX,AP];rcases tf (inB e.kp 1 255) with e3|e3<;>simp only[e3,AD,AG,A6,A5];have hm:=Af.1 e2;have hmb:inb e.mix (BA (pA w.AU e.wo.toNat).data).length=A1:=DC hm.1 (by rw[nj];omega);simp only[Es,aaW,aAe hwl,hb,A5];rw[A8<|B9 J,A8 hmb,A8 hmb];rfl
   .have c4:e.ki=4:=by
     have:¬e.ki=5:=by simpa using c5
     have:¬e.ki=6:=by simpa using c6
     omega
    have hl:inb (lnk<|pA w.AU e.wo.toNat) w.B1.length=A1:=by
     have:=h.ll;exact DC p4 (by rw[this];exact p5)
    have hin:inb (pA w.AU e.wo.toNat).dst w.AK.length=A1:=DC p2.1 (by rw[h.kl];omega);have c4':(e.ki=4)=True:=eq_true c4;simp only[c5,c6,c4',AS,Ag,A5,A6,hl,Xi,if_false];rcases tf (bA w.B1 (lnk<|pA w.AU e.wo.toNat).toNat) with e1|e1<;>simp only[e1,AD,AG,A6,A5];have hlo:=(UU h e.wo.toNat).1;rcases tfp (e.kp=0) with e5|e5
    .simp only[e5,AS,A5,Ew,A9,Bi];simp only[B9<|show(pA w.AU e.wo.toNat).data.size<=4294967296 by omega,A5,jB<|BOk.str _,A9];unfold D2;generalize CW (BA (pA w.AU e.wo.toNat).data)=u;rcases tf u.2 with e2|e2<;>simp only[e2,A6,A5,AX,AP,Bi];rcases tf (A0 (u.1.src=(pA w.AU e.wo.toNat).src)&&A0 (u.1.dst=(pA w.AU e.wo.toNat).dst)) with e3|e3<;>simp only[e3,A6,A5,hin,Ur];rw[show QA ((_,_,_,_,_,()),_,())=_ from xS (UX h (i:=(pA w.AU e.wo.toNat).dst.toNat) J) u.1];simp only[A9];have hs:=iQ (w:=⟨w.ti,w.AK.set (pA w.AU e.wo.toNat).dst.toNat (BI (kA w.AK (pA w.AU e.wo.toNat).dst.toNat) u.1).1,w.B1,F7 w.AU e.wo.toNat,w.BJ,w.got⟩) (fs:=(BI (kA w.AK (pA w.AU e.wo.toNat).dst.toNat) u.1).2) (by show(F7 w.AU e.wo.toNat).length<=1048000;omega) (by have:=(XM (kA w.AK (pA w.AU e.wo.toNat).dst.toNat) u.1).1;omega);rw[show My _=_ from hs];rfl
    .simp only[e5,Ag,A6,Bi,if_false];simp only[B9<|show(pA w.AU e.wo.toNat).data.size<=4294967296 by omega,A5,jB<|BOk.str _,A9];unfold D2;generalize CW (BA (pA w.AU e.wo.toNat).data)=u;rcases tf u.2 with e2|e2<;>simp only[e2,A6,A5,AX,AP,Bi];rcases tf (A0 (u.1.src=(pA w.AU e.wo.toNat).src)&&A0 (u.1.dst=(pA w.AU e.wo.toNat).dst)) with e3|e3<;>simp only[e3,A6,A5,hin,Ur];rw[show QA ((_,_,_,_,_,()),_,())=_ from xS (UX h (i:=(pA w.AU e.wo.toNat).dst.toNat) J) u.1];simp only[A9];have hs:=iQ (w:=⟨w.ti,w.AK.set (pA w.AU e.wo.toNat).dst.toNat (BI (kA w.AK (pA w.AU e.wo.toNat).dst.toNat) u.1).1,w.B1,w.AU,w.BJ,w.got⟩) (fs:=(BI (kA w.AK (pA w.AU e.wo.toNat).dst.toNat) u.1).2) (by show(w.AU).length<=1048000;omega) (by have:=(XM (kA w.AK (pA w.AU e.wo.toNat).dst.toNat) u.1).1;omega);rw[show My _=_ from hs];rfl
 .rw[e0];simp only[AG,A5,A6]
def ais{w:Am}(h:BS w){e:Event}(hk:¬(e.ki=4\/e.ki=5\/e.ki=6))(hk':¬(e.ki=9\/e.ki=10))(ht:e.tx.size<=1048576):
  R4 (tR w,tE e,())=I (((doM w e).2,()),(tR (doM w e).1,())):=by
 obtain⟨ki,at_,fr,nu,wo,mix,kp,t',un,tx⟩:=e;simp only at hk hk' ht;have hn:∀(l:List A7) (x:A7),l.length<=6->Ac (l.length+[x].length)=A1:=λl x hl=>B9 (by simp;omega);have rl:=h.rl;unfold R4 doM;rw[AB hk,AB hk'];simp only[KI,A9];rcases tf (isN at_) with e0|e0
 .have ha:=Fh e0;have hal:=Qc e0;have hb:inb at_ w.AK.length=A1:=DC ha.1 (by rw[h.kl];omega);have hko:=(h.k _ hal).1;have hks:=UX h hal;simp only[e0,AD,A6,hb,A5,Ur];unfold Iw;rcases tfp (ki=1) with e1|e1
  .simp only[e1,AS,A5];unfold N4;by_cases hs:6<=w.BJ.length
   .rw[A8<|AZ<|show 6<=(w.BJ.length:Int) by omega,A8 hs];rfl
   .rw[AB<|nd<|show ¬6<=(w.BJ.length:Int) by omega,AB hs];rw[show VK ((_,_,_,_,_,()),_,_,_,())=_ from alp hko t' un ht];simp only[A9];rcases tfp ((EU (kA w.AK at_.toNat) t' un tx).2=0) with e2|e2<;>simp only[e2,AS,Ag,A6,A5,if_false]
    .rfl
    .rw[A8<|hn _ _ h.sl,Bi];simp only[hb,A5]
  .simp only[e1,Ag,A6,if_false];rcases tfp (ki=2) with e2|e2
   .simp only[e2,AS,A5];rw[show V1 ((_,_,_,_,_,()),())=_ from ajF hko];simp only[A9,Bi,hb,A5];rfl
   .simp only[e2,Ag,A6,if_false];rcases tfp (ki=3) with e3|e3
    .simp only[e3,AS,A5];rw[show UW ((_,_,_,_,_,()),_,_,_,())=_ from ae9 hks fr nu mix];simp only[A9];rw[A8 hko];rcases tf (GJ (kA w.AK at_.toNat) fr nu mix).2 with e4|e4<;>simp only[e4,A5,A6]
     .have hs:=iQ (w:=w) (fs:=[(GJ (kA w.AK at_.toNat) fr nu mix).1]) J (by simp);rw[show My (_,_,())=_ from hs];simp only[A9,Bi,hb,A5];rw[show(⟨(kA w.AK at_.toNat).id,(kA w.AK at_.toNat).up,(kA w.AK at_.toNat).log,(kA w.AK at_.toNat).fo,(kA w.AK at_.toNat).AE⟩:AA)=kA w.AK at_.toNat from rfl,VG]
     .simp only[Bi,hb,A5];rw[show(⟨(kA w.AK at_.toNat).id,(kA w.AK at_.toNat).up,(kA w.AK at_.toNat).log,(kA w.AK at_.toNat).fo,(kA w.AK at_.toNat).AE⟩:AA)=kA w.AK at_.toNat from rfl,VG]
    .simp only[e3,Ag,A6,if_false];rcases tfp (ki=7) with e4|e4
     .simp only[e4,AS,A5];rw[show TP ((_,_,_,_,_,()),_,())=_ from atX hks kp];rw[A8 hko];simp only[A9,Bi,hb,A5];rfl
     .simp only[e4,Ag,A6,if_false];rcases tfp (ki=8) with e5|e5
      .simp only[e5,AS,A5];rw[show Ui ((_,_,_,_,_,()),())=_ from asl hko];simp only[A9,Bi,hb,A5];rfl
      .simp only[e5,Ag,A6,if_false];rcases tfp (ki=11) with e6|e6
       .simp only[e6,AS,A5];unfold NN;by_cases hs:w.got.length<6
        .rw[AB<|nd<|show ¬6<=(w.got.length:Int) by omega];rw[show Vh ((_,_,_,_,_,()),_,_,())=_ from axL hko fr nu];simp only[A9];rcases tf (EB (kA w.AK at_.toNat) fr nu).2.2 with e7|e7<;>simp only[e7,AD,AG,A5,A6,AX,AP]
         .rw[A8<|AZ hs,A8<|hn _ _ h.gl,Bi];simp only[hb,A5]
         .rfl
        .rw[A8<|AZ<|show 6<=(w.got.length:Int) by omega,Bf hs,Bb,A6];rfl
       .simp only[e6,Ag,A6,if_false];rcases tfp (ki=12) with e7|e7
        .simp only[e7,AS,A5];rw[show UY ((_,_,_,_,_,()),())=_ from atK hko];simp only[A9,Bi,hb,A5];rfl
        .simp only[e7,Ag,A6,if_false];rcases tfp (ki=13) with e8|e8
         .simp only[e8,AS,A5];rw[show Vn ((_,_,_,_,_,()),())=_ from apX hko];simp only[A9,Bi,hb,A5];rfl
         .simp only[e8,Ag,A6,if_false,Bi,hb,A5];rw[show(⟨(kA w.AK at_.toNat).id,(kA w.AK at_.toNat).up,(kA w.AK at_.toNat).log,(kA w.AK at_.toNat).fo,(kA w.AK at_.toNat).AE⟩:AA)=kA w.AK at_.toNat from rfl,VG]
 .simp only[e0,AG,A6,A5]
noncomputable abbrev FU(w:Am):Bool:=GW w.ti w.AK w.B1 w.AU w.BJ w.got
def abf{l:List A7}(h:HK l=A1):∀n∈l,B3 n=A1:=by
 intro n hn;obtain⟨i,hi,rfl⟩:=Dt hn;have:=CO.1 h i hi;rw[nA,BD,Ax hi]at this;exact this
def I4{w:Am}(h:FU w=A1):BS w/\0<=w.ti/\w.ti<=99999:=by
 unfold FU GW at h;simp only[AI,Af,decide_eq_true_eq,CO]at h;obtain⟨ht,hk,hl,hr,⟨hs,hs6⟩,⟨hg,hg6⟩,hks,hps⟩:=h;refine⟨⟨J,J,J,J,J,λi hi=> ?_,λp hp=> ?_,abf hs,abf hg⟩,ht.1,ht.2⟩
 .have:=hks i J;unfold Jb at this;simp only[AI,decide_eq_true_eq]at this;exact⟨this.2,this.1⟩
 .obtain⟨i,hi,rfl⟩:=Dt hp;have:=hps i hi;rw[qx hi]at this;exact this
def adn{w:Am}(h:BS w)(h0:0<=w.ti)(h1:w.ti<=99999):FU w=A1:=by
 have k1:=h.kl;have k2:=h.ll;have k3:=h.rl;have k4:=h.sl;have k5:=h.gl;unfold FU GW;simp only[AI,Af,decide_eq_true_eq,CO];refine⟨⟨h0,h1⟩,J,J,J,⟨?_,J⟩,⟨?_,J⟩,λi hi=> ?_,λi hi=> ?_⟩
 .unfold HK;exact CO.2 λi hi=>h.s _ (by rw[nA,BD,Ax hi];exact CQ hi)
 .unfold HK;exact CO.2 λi hi=>h.g _ (by rw[nA,BD,Ax hi];exact CQ hi)
 .unfold Jb;have:=h.k i J;rw[this.1,this.2];simp
 .exact MH h hi
def Bt(w:Am)(e:Event):Am×Bool:=
 if FU w then(if A0 (99999<=w.ti) then(w,A3) else if(doM w e).2 then(B8 w e,A1) else(w,A3)) else(zR,A3)
def ay3{w:Am}(h:BS w)(ht0:0<=w.ti)(ht1:w.ti<=99999){e:Event}(ht:e.tx.size<=1048576):
  bL (tR w,tE e,())=I ((tR (if A0 (99999<=w.ti) then(w,A3) else if(doM w e).2 then(B8 w e,A1) else(w,A3)).1,(if A0 (99999<=w.ti) then(w,A3) else if(doM w e).2 then(B8 w e,A1) else(w,A3)).2,()),()):=by
 have hti:=fU w e;have ayl:∀b:Bool,b=A0 (e.ki=9\/e.ki=10)->(BF (X:=YR×YR×YR×Bool×A2) (λj16=>
   (if((!j16.2.2.2.1)||(A0<|j16.1.1=99999)) then
   (Ly (j16.1,())).bind λr29=>
   I ((r29.1.1,A3,()),())
   else
   (Ly (((w64<|j16.2.2.1.1+1),j16.2.2.1.2),())).bind λr30=>
   I ((r30.1.1,A1,()),()))) (I<|.inr (tR w,tR zR,tR (doM w e).1,(doM w e).2,())):Option ((YR×Bool×A2)×A2))=I ((tR (if A0 (99999<=w.ti) then(w,A3) else if(doM w e).2 then(B8 w e,A1) else(w,A3)).1,(if A0 (99999<=w.ti) then(w,A3) else if(doM w e).2 then(B8 w e,A1) else(w,A3)).2,()),()):=by
  intro b hb;rw[Bi];have awE:A0 (w.ti=99999)=A0 (99999<=w.ti):=decide_eq_decide.2 J;simp only[awE];rcases tf (A0<|99999<=w.ti) with c|c
  .simp only[c,D3,A5,Zp h.sm,A9]
  .rcases tf (doM w e).2 with c2|c2
   .simp only[c,c2,AD,EX,A6,A5];have hs:=Zp (bG h e).sm;have e1:tR (B8 w e)=(w64<|(doM w e).1.ti+1,(doM w e).1.AK,(doM w e).1.B1,(doM w e).1.AU,(doM w e).1.BJ,(doM w e).1.got,()):=by
     unfold B8 Hw;rw[c2,A8 rfl]
    rw[e1]at hs ⊢;rw[show Ly ((w64<|(doM w e).1.ti+1,(doM w e).1.AK,(doM w e).1.B1,(doM w e).1.AU,(doM w e).1.BJ,(doM w e).1.got,()),())=_ from hs];rfl
   .simp only[c,c2,AG,Bh,A6,A5,Zp h.sm,A9]
 unfold bL;rw[Zp h.sm];simp only[A9];have Ig:=ayl _ rfl;by_cases h9:e.ki=9\/e.ki=10
 .have hdo:doM w e=GQ w e:=by
   unfold doM;rw[AB J,A8 h9]
  have hL:=axl h e h9;rw[← hdo]at hL;rw[← Ig];congr 1;rcases tfp (e.ki=9) with c|c
  .simp only[c,AS,A5,Bi,hL,A9]
  .have c10:(e.ki=10)=True:=eq_true (by have:¬e.ki=9:=(by simpa using c);omega);simp only[c,c10,AS,Ag,A6,Bi,A5,hL,A9]
 .have n9:(e.ki=9)=False:=by simp;omega
  have n10:(e.ki=10)=False:=by simp;omega
  simp only[n9,n10,Ag,A6,Bi];rw[← Ig];congr 1;by_cases h4:e.ki=4\/e.ki=5\/e.ki=6
  .have hdo:doM w e=EJ w e:=by
    unfold doM;rw[A8 h4]
   have hP:=awC h e h4;rw[← hdo]at hP;rcases tfp (e.ki=4) with c|c
   .simp only[c,AS,A5,hP,A9]
   .rcases tfp (e.ki=5) with c1|c1
    .simp only[c,c1,AS,Ag,A6,A5,hP,A9]
    .have c6:(e.ki=6)=True:=eq_true (by have h4:¬e.ki=4:=(by simpa using c);have h5:¬e.ki=5:=(by simpa using c1);omega);simp only[c,c1,c6,AS,Ag,A6,A5,hP,A9]
  .have n4:(e.ki=4)=False:=by simp;omega
   have n5:(e.ki=5)=False:=by simp;omega
   have n6:(e.ki=6)=False:=by simp;omega
   have hN:=ais h h4 h9 ht;simp only[n4,n5,n6,Ag,A6,hN,A9]
def P0{w:Am}(sm:SmR w){e:Event}(ht:e.tx.size<=1048576):HN (tR w,tE e,())=I ((tR (Bt w e).1,(Bt w e).2,()),()):=by
 unfold HN Bt;rw[show Rv ((tR w,tE e,()).1,())=_ from aEp sm];simp only[A9];rcases tf (FU w) with c|c
 .have hw:=I4 c;rw[ay3 hw.1 hw.2.1 hw.2.2 ht];simp only[show GW w.ti w.AK w.B1 w.AU w.BJ w.got=A1 from c,AD,A6,A5,A9]
 .simp only[show GW w.ti w.AK w.B1 w.AU w.BJ w.got=A3 from c,AG,A6,A5]
end Go.VS
end
