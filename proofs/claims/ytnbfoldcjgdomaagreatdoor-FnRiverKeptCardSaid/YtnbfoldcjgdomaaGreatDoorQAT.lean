/- Part 9. -/
import Derived.Test.YtnbfoldcjgdomaaGreatDoorQAR
open BitVec renaming eq_of_toNat_eq->oM,ofInt->FG,toNat_ofInt->Qu
open Bool renaming and_eq_true->AD,and_false->Ba,and_self->EB,and_true->LC,eq_iff_iff->MK,false->A0,false_and->AL,false_ne_true->CW,false_or->Bk,not_eq_true'->C6,not_eq_true->GS,not_false->AH,not_true->AB,or_eq_false_iff->NG,or_eq_true->Bw,or_false->Ed,or_self->GU,or_true->DS,true->Y,true_and->AS,true_or->Bs
open ByteArray renaming size_extract->aEJ
open Decidable renaming decide->U
open Eq renaming refl->Gv,trans->KN
open Go.Lib renaming itoa->B6
open Int renaming eq_ofNat_of_zero_le->HS,le_refl->Cz,le_trans->KM,mul_comm->R4,mul_le_mul_of_nonneg_right->nY,mul_nonneg->nt,not_lt->Qz,tdiv->B1,tdiv_eq_ediv_of_nonneg->HQ,tdiv_nonneg->oJ,tmod->BL,tmod_eq_emod_of_nonneg->L9,tmod_lt_of_pos->Qq,tmod_nonneg->Qv,toNat->AM,toNat_natCast->BV,toNat_of_nonneg->R7
open List renaming all_cons->PF,all_eq_true->Cy,append_assoc->C5,append_nil->CP,drop->Br,drop_append_of_le_length->Tu,drop_drop->J0,drop_sublist->Qp,drop_zero->Iu,eq_nil_of_length_eq_zero->Dz,ext_getElem?->nc,filter_append->RA,filter_cons->KG,filter_nil->aJ,foldl_cons->Dy,getD_eq_getElem?_getD->BA,getElem?_append_right->FU,getElem?_eq_getElem->Ap,getElem?_eq_none->Ht,getElem?_map->DD,getElem?_range->Gu,getElem?_replicate->aA,getElem?_set->P4,getElem?_set_self->aB,getElem?_take->Gp,getElem_mem->CU,getElem_of_mem->Cq,length->j8,length_append->Aw,length_cons->Bf,length_drop->EJ,length_filter_le->Ix,length_map->Da,length_nil->CK,length_set->Ga,length_singleton->JU,length_take->Di,map_append->Ec,map_congr_left->Gt,map_cons->DU,map_id->aE,map_map->IT,map_nil->Jc,mem_append->BM,mem_append_left->Bv,mem_append_right->CV,mem_cons->Bl,mem_cons_of_mem->Aj,mem_cons_self->Ao,mem_filter->FH,mem_iff_getElem->ng,mem_map->By,mem_of_getElem?->Cn,mem_of_mem_drop->KE,mem_of_mem_take->IL,mem_or_eq_of_mem_set->Qx,mem_range->Cw,mem_singleton->C9,mem_singleton_self->P9,nil_append->Eb,nodup_append->JZ,pairwise_append->NJ,pairwise_iff_getElem->JW,pairwise_singleton->oH,range->B8,range_succ->IK,replicate->BS,set->Bq,take->BR,take_add_one->Iw,take_append_drop->JV,take_length->E0,take_of_length_le->KH,take_take->aL
open List.Sublist renaming append->oA,refl->Ea
open List.cons renaming injEq->ML
open Nat renaming add_zero->Hu,le_refl->Au,le_trans->CZ,lt_or_gt_of_ne->UD,lt_succ_self->P7,lt_trichotomy->IM,min_eq_left->R0,not_lt_zero->oI,sub_zero->Jd,zero_add->DN,zero_le->D5
open Option renaming bind_eq_some_iff->Ai,bind_some->A6,filter_eq_some_iff->JX,getD_some->D4,isSome_some->DC,map_some->R8,none->G,some->I
open Option.some renaming inj->Dc
open Or renaming inl->NO,inr->NQ
open Prod.mk renaming injEq->CQ
set_option linter.all false
noncomputable section
namespace Go.VS
open Go
def G7:List A1->A1->Option A1
 | [],a=>I a
 | x::r,a=>if x=noB then G else G7 r (a++x)
def YO:∀ {l:List A1} {a c:A1},(∀x∈l,x=noB\/x.size=4)->G7 l a=I c->c.size=a.size+4 * l.length
 | [],a,c,_,h=>by
  injection h with h;rw[h];rfl
 | x::r,a,c,hx,h=>by
  unfold G7 at h;split at h
  .cases h
  .rename_i hne;rw[YO (λy hy=>hx y<|Aj x hy) h,C2,Bf];obtain h1|h1:=hx x Ao
   .exact absurd h1 hne
   .omega
def N7(pre:List A1)(x:A1)(post:List A1): @rd A1 aIr (pre++x::post) (j8 pre:Int)=x:=by
 rw[Ov,BA,FU<|Au _];simp
abbrev bD(s:Int)(o:Option A1):(A1×Bool×D) ⊕ (Int×A1×D):=match o with|none=> .inl (noB,A0,())|some c=> .inr (s,c,())
def avs(s:Int)(post:List A1):∀(pre:List A1) (a:A1),(pre++post).length<=1048576->(∀x∈post,x.size<=4)->a.size<=4 * pre.length->
  dW (s,a,pre++post,((pre++post).length:Int),(j8 pre:Int),())=I (bD s<|G7 post a):=by
 induction post with
 | nil=>
  intro pre a _ _ _;refine BF ?_;unfold WD;simp only[CP,show U ((j8 pre:Int)<(j8 pre:Int))=A0 from BG J,A4];rfl
 | cons x post ih=>
  intro pre a hl hx ha;have hlen:pre.length<(pre++x::post).length:=by simp
  have hw:=Dd hlen hl;have hx4:=hx x Ao;by_cases e:x=noB
  .refine BF ?_;unfold WD G7;simp only[show U ((j8 pre:Int)<((pre++x::post).length:Int))=Y from AU J,A2,AR hlen,N7];rw[A5<|AU e,A5 e]
  .refine As (x':=(s,a++x,pre++x::post,((pre++x::post).length:Int),((pre++[x]).length:Int),())) ?_ ?_
   .unfold WD;simp only[show U ((j8 pre:Int)<((pre++x::post).length:Int))=Y from AU J,A2,AR hlen,N7];rw[A9 (by rw[BG e];exact CW),A5<|AU (by simp at hl;omega),hw,@Aw _ pre [x]];rfl
   .have:=ih (pre++[x]) (a++x) (by rw[← snoc];exact hl) (λy hy=>hx y<|Aj x hy) (by rw[C2,Aw,JU];omega);rw[← snoc]at this;rw[show G7 (x::post) a=G7 post (a++x) from A9 e];exact this
def au3(s:Int)(post:List A1):∀(pre:List A1) (a:A1),(pre++post).length<=1048576->(∀x∈post,x.size<=4)->a.size<=4 * pre.length->
  dK (s,pre++post,a,(j8 pre:Int),())=I (bD s<|G7 post a):=by
 induction post with
 | nil=>
  intro pre a _ _ _;refine BF ?_;unfold W6;simp only[CP,show U ((j8 pre:Int)<(j8 pre:Int))=A0 from BG J,A4];rfl
 | cons x post ih=>
  intro pre a hl hx ha;have hlen:pre.length<(pre++x::post).length:=by simp
  have hw:=Dd hlen hl;have hx4:=hx x Ao;by_cases e:x=noB
  .refine BF ?_;unfold W6 G7;simp only[show U ((j8 pre:Int)<((pre++x::post).length:Int))=Y from AU J,A2,AR hlen,N7];rw[A5<|AU e,A5 e]
  .refine As (x':=(s,pre++x::post,a++x,((pre++[x]).length:Int),())) ?_ ?_
   .unfold W6;simp only[show U ((j8 pre:Int)<((pre++x::post).length:Int))=Y from AU J,A2,AR hlen,N7];rw[A9 (by rw[BG e];exact CW),A5<|AU (by simp at hl;omega),hw,@Aw _ pre [x]];rfl
   .have:=ih (pre++[x]) (a++x) (by rw[← snoc];exact hl) (λy hy=>hx y<|Aj x hy) (by rw[C2,Aw,JU];omega);rw[← snoc]at this;rw[show G7 (x::post) a=G7 post (a++x) from A9 e];exact this
def N4(c:A1)(s:Nat):Bool:=An (c.size - s) λi=>U<|bt c ((s+i:Nat):Int)=0
def atQ{c:A1}{s:Nat}(h:s<=c.size)(hc:c.size<=1048576):tV ((s:Int),c,(s:Int),())=I (if N4 c s then .inr ((s:Int),c,()) else .inl (noB,A0,())):=by
 refine Ck (λi=>((s:Int),c,((s+i:Nat):Int),())) (c.size - s) _ _ _ ?_ ?_
 .intro i hi;unfold gF;simp only[show U (((s+i:Nat):Int)<(c.size:Int))=Y from AU J,A2,AR (J:s+i<c.size)];rw[AZ J J];obtain e|e:=tf (U<|bt c ((s+i:Nat):Int)=0)
  .simp only[e,AB,A4,A2];rfl
  .simp only[e,AH,A4,A2]
 .unfold gF;simp only[show U (((s+(c.size - s):Nat):Int)<(c.size:Int))=A0 from BG J,A4]
def asp{c:A1}{s:Nat}(h:s<=c.size)(hc:c.size<=1048576):sj ((s:Int),c,(s:Int),())=I (if N4 c s then .inr ((s:Int),c,()) else .inl (noB,A0,())):=by
 refine Ck (λi=>((s:Int),c,((s+i:Nat):Int),())) (c.size - s) _ _ _ ?_ ?_
 .intro i hi;unfold fb;simp only[show U (((s+i:Nat):Int)<(c.size:Int))=Y from AU J,A2,AR (J:s+i<c.size)];rw[AZ J J];obtain e|e:=tf (U<|bt c ((s+i:Nat):Int)=0)
  .simp only[e,AB,A4,A2];rfl
  .simp only[e,AH,A4,A2]
 .unfold fb;simp only[show U (((s+(c.size - s):Nat):Int)<(c.size:Int))=A0 from BG J,A4]
def ZF{b:Nat}(list:List AQ):∀(n:Nat) (kn:List A1),Ca b kn->Ca b (Gl b list n kn)
 | 0,_,h=>h
 | n+1,kn,h=>by
  have:=(Ms list (kn,A0) h).1;unfold Gl;split
  .exact ZF list n _ this
  .exact this
def Ca.all{b:Nat}{kn:List A1}(h:Ca b kn):∀x∈kn,x=noB\/x.size=4:=by
 intro x hx;obtain⟨k,hk,rfl⟩:=ng.1 hx;have:=h.2 k (by rw[← h.1];exact hk);rw[bsA,BA,Ap hk]at this;exact this
def my{b:Int}(hb:inB b 1 6=Y)(list:List AQ):Ca b.toNat (Hi b list):=by
 unfold Hi;rw[A5 hb];exact ZF list 7 _<|Ca.new _
def Ca.le{b:Nat}{kn:List A1}(h:Ca b kn):∀x∈kn,x.size<=4:=by
 intro x hx;obtain h1|h1:=h.all x hx
 .rw[h1];exact D5 _
 .omega
def FC(s:Int)(list:List AQ):A1×Bool:=
 if inB s 1 24 then(match G7 (Hi (B1 (s+3) 4) list) noB with
  | none=>(noB,A0)
  | some c=>if N4 c s.toNat then(c.extract 0 s.toNat,Y) else(noB,A0)) else(noB,A0)
def aD5(s:Int)(hs:0<=s)(c:A1)(hc:s<=c.size)(b:Bool):
  AN (I<|if b then(.inr (s,c,()):(A1×Bool×D) ⊕ (Int×A1×D)) else .inl (noB,A0,())) (λy=>I (y,()))
   (λy=>if(U (0<=y.1)&&U (y.1<=(y.2.1.size:Int))) then I ((y.2.1.extract 0<|AM y.1,Y,()),()) else G)=
   I (((if b then(c.extract 0 s.toNat,Y) else(noB,A0)).1,(if b then(c.extract 0 s.toNat,Y) else(noB,A0)).2,()),()):=by
 cases b
 .rfl
 .show(if(U (0<=s)&&U (s<=(c.size:Int))) then _ else _)=_;rw[A5 y8];rfl
def an4(s:Int)(list:List AQ)(hl:list.length<=1048576):gu (s,list,())=I (((FC s list).1,(FC s list).2,()),()):=by
 unfold gu FC;simp only[EO,A6];obtain e|e:=tf (inB s 1 24)
 .have h1:=Aa.1 e;have hd:B1 (s+3) 4=(s+3) / 4:=HQ J;simp only[e,AB,A4,A2];rw[AZ (n:=s+4) J J,AZ (n:=s+4 - 1) J J,show s+4 - 1=s+3 by omega,AZ J J,aoC _ _ hl];simp only[A6];have hb:inB (B1 (s+3) 4) 1 6=Y:=Aa.2 J;have hk:=my hb list;have nR:=avs s (Hi (B1 (s+3) 4) list) [] noB (by rw[Eb,hk.1];omega) (Ca.le hk)<|Au _;have qc:dW (s,noB,Hi (B1 (s+3) 4) list,((Hi (B1 (s+3) 4) list).length:Int),0,())=_:=nR;rw[qc];cases hc:G7 (Hi (B1 (s+3) 4) list) noB with
  | none=>rfl
  | some c=>
   have hz:=YO hk.all hc;have hz0:noB.size=0:=rfl;rw[hk.1,hz0]at hz;have hzero:=atQ (c:=c) (s:=s.toNat) J J;rw[show((s.toNat:Nat):Int)=s by omega]at hzero;simp only[AN,A6,bD];rw[hzero];exact aD5 s J c J _
 .simp only[e,AH,A2,A4]
def al9(s:Int)(list:List AQ)(hl:list.length<=1048576):gJ (s,list,())=I (((FC s list).1,(FC s list).2,()),()):=by
 unfold gJ FC;simp only[I3,A6];obtain e|e:=tf (inB s 1 24)
 .have h1:=Aa.1 e;have hd:B1 (s+3) 4=(s+3) / 4:=HQ J;simp only[e,AB,A4,A2,gB (n:=s) J J,A6];rw[alA _ _ hl];simp only[A6];have hb:inB (B1 (s+3) 4) 1 6=Y:=Aa.2 J;have hk:=my hb list;have nR:=au3 s (Hi (B1 (s+3) 4) list) [] noB (by rw[Eb,hk.1];omega) (Ca.le hk)<|Au _;have qc:dK (s,Hi (B1 (s+3) 4) list,noB,0,())=_:=nR;rw[qc];cases hc:G7 (Hi (B1 (s+3) 4) list) noB with
  | none=>rfl
  | some c=>
   have hz:=YO hk.all hc;have hz0:noB.size=0:=rfl;rw[hk.1,hz0]at hz;have hzero:=asp (c:=c) (s:=s.toNat) J J;rw[show((s.toNat:Nat):Int)=s by omega]at hzero;simp only[AN,A6,bD];rw[hzero];exact aD5 s J c J _
 .simp only[e,AH,A2,A4]
abbrev tF(f:Frame):Int×Int×Int×Int×Int×Int×Int×Int×Int×A1×D:=(f.ki,f.src,f.dst,f.fr,f.nu,f.to,f.un,f.sz,f.mix,f.da,())
def Jy(f:Frame):Bool:=
 if U (f.ki=1) then inB f.sz 1 24&&(inB f.mix 0 999&&(U ((f.da.size:Int)=4)&&U (f.dst=BW f.src f.to)))
 else(U (f.ki=2)||decide (f.ki=3))&&(U (f.sz=0)&&(U (f.mix=0)&&(U (f.da=noB)&&U (f.src=BW f.dst f.to))))
def C1(f:Frame):Bool:=isN f.src&&(isN f.dst&&(isN f.fr&&(isN f.to&&(inB f.nu 1 99&&(inB f.un 1 999&&Jy f)))))
def aAY(f:Frame):Wb (tF f,())=I ((C1 f,()),()):=by
 obtain⟨ki,src,dst,fr,nu,t',un,sz,mix,da⟩:=f;unfold Wb C1;simp only[Jr,EO,A6];obtain e|e:=tf (isN src)<;>simp only[e,AB,AH,A2,A4,AS,AL];obtain e|e:=tf (isN dst)<;>simp only[e,AB,AH,A2,A4,AS,AL];obtain e|e:=tf (isN fr)<;>simp only[e,AB,AH,A2,A4,AS,AL];obtain e|e:=tf (isN t')<;>simp only[e,AB,AH,A2,A4,AS,AL];obtain e|e:=tf (inB nu 1 99)<;>simp only[e,AB,AH,A2,A4,AS,AL];obtain e|e:=tf (inB un 1 999)<;>simp only[e,AB,AH,A2,A4,AS,AL];unfold Jy;simp only[fv,DC,D4,Ft,A2];obtain e|e:=tfp (ki=1)<;>simp only[e,AW,Ac,A2,A4]
 .rcases tf (inB sz 1 24) with e|e<;>simp only[e,A2,A4,AS,AL];obtain e|e:=tf (inB mix 0 999)<;>simp only[e,A2,A4,AS,AL]
 .rcases tfp (ki=2) with e|e<;>simp only[e,AW,Ac,A2,A4,Bg,Bs,Bk,AS]
  .rcases tfp (sz=0) with e|e<;>simp only[e,AW,Ac,A2,A4,AS,AL];obtain e|e:=tfp (mix=0)<;>simp only[e,AW,Ac,A2,A4,AS,AL]
  .rcases tfp (ki=3) with e|e<;>simp only[e,AW,Ac,A2,A4,AS,AL];obtain e|e:=tfp (sz=0)<;>simp only[e,AW,Ac,A2,A4,AS,AL];obtain e|e:=tfp (mix=0)<;>simp only[e,AW,Ac,A2,A4,AS,AL]
def ayG{ki:Int}(h1:(ki=1)=False):inB ki 1 3=(U (ki=2)||decide (ki=3)):=by
 have h1:ki≠1:=of_eq_false h1;rw[MK,Aa,Bw,decide_eq_true_iff,decide_eq_true_iff];omega
def aAn(f:Frame):WU (tF f,())=I ((C1 f,()),()):=by
 obtain⟨ki,src,dst,fr,nu,t',un,sz,mix,da⟩:=f;unfold WU C1;simp only[Jp,I3,A6];have hk:inB ki 1 3=(U (ki=1)||(U (ki=2)||decide (ki=3))):=by
  obtain e|e:=tfp (ki=1)
  .have:ki=1:=of_eq_true e;subst this;rfl
  .rw[ayG e];simp only[e,Ac,Bk]
 rw[hk];unfold Jy;obtain e0|e0:=tfp (ki=1)<;>simp only[e0,AW,Ac,Bs,Bk,AB,AH,A2,A4]
 .rcases tf (isN src) with e|e<;>simp only[e,AB,AH,A2,A4,AS,AL];obtain e|e:=tf (isN dst)<;>simp only[e,AB,AH,A2,A4,AS,AL];obtain e|e:=tf (isN fr)<;>simp only[e,AB,AH,A2,A4,AS,AL];obtain e|e:=tf (isN t')<;>simp only[e,AB,AH,A2,A4,AS,AL];obtain e|e:=tf (inB nu 1 99)<;>simp only[e,AB,AH,A2,A4,AS,AL];obtain e|e:=tf (inB un 1 999)<;>simp only[e,AB,AH,A2,A4,AS,AL];simp only[vQ,A6];rw[show U (BW src t'=dst)=U (dst=BW src t') from decide_eq_decide.2 eq_comm];obtain e|e:=tf (inB sz 1 24)<;>obtain e1|e1:=tf (inB mix 0 999)<;>obtain e2|e2:=tf (U<|(da.size:Int)=4)<;>obtain e3|e3:=tfp (dst=BW src t')<;>simp only[e,e1,e2,e3,AW,Ac,A2,A4,AS,AL,EB,Ba]
 .rcases tf (U (ki=2)||decide (ki=3)) with e9|e9<;>simp only[e9,AB,AH,A2,A4,AS,AL,Ba];obtain e|e:=tf (isN src)<;>simp only[e,AB,AH,A2,A4,AS,AL];obtain e|e:=tf (isN dst)<;>simp only[e,AB,AH,A2,A4,AS,AL];obtain e|e:=tf (isN fr)<;>simp only[e,AB,AH,A2,A4,AS,AL];obtain e|e:=tf (isN t')<;>simp only[e,AB,AH,A2,A4,AS,AL];obtain e|e:=tf (inB nu 1 99)<;>simp only[e,AB,AH,A2,A4,AS,AL];obtain e|e:=tf (inB un 1 999)<;>simp only[e,AB,AH,A2,A4,AS,AL];simp only[vQ,A6];rw[show U (BW dst t'=src)=U (src=BW dst t') from decide_eq_decide.2 eq_comm];obtain e|e:=tfp (sz=0)<;>obtain e1|e1:=tfp (mix=0)<;>obtain e2|e2:=tfp (da=noB)<;>obtain e3|e3:=tfp (src=BW dst t')<;>simp only[e,e1,e2,e3,AW,Ac,A2,A4,AS,AL,EB,Ba]
def BOk(l:List Int):Prop:=∀x∈l,0<=x/\x<=255
def BOk.rd{l:List Int}(h:BOk l)(i:Int):0<= @rd Int aIp l i/\ @rd Int aIp l i<=255:=by
 show 0<=l.getD i.toNat 0/\l.getD i.toNat 0<=255;rw[BA];cases e:l[i.toNat]? with
 | none=>exact⟨by decide,by decide⟩
 | some x=>exact h x<|Cn e
def BOk.str(s:A1):BOk (BC s):=by
 intro x hx;obtain⟨b,_,rfl⟩:=By.1 hx;have:=b.toNat_lt;omega
def BOk.app{a b:List Int}(ha:BOk a)(hb:BOk b):BOk (a++b):=by
 intro x hx;obtain h|h:=BM.1 hx
 .exact ha x h
 .exact hb x h
def axu(n:Int):0<=w8 n/\w8 n<=255:=by
 rw[N5];omega
def BOk.nil:BOk []:=λx hx=>by cases hx
def BOk.cons(n:Int){l:List Int}(h:BOk l):BOk (w8 n::l):=by
 intro x hx;obtain h1|h1:=Bl.1 hx
 .rw[h1];exact axu n
 .exact h x h1
def F1:List Int->Nat->Int->Int
 | [],_,n=>n
 | x::r,i,n=>F1 r (i+1) (BL (n+x * ((i % 1000:Nat)+1)) 65521)
def nC:∀ {l:List Int} {i:Nat} {n:Int},BOk l->0<=n->n<65521->0<=F1 l i n/\F1 l i n<65521
 | [],_,_,_,h0,h1=>⟨h0,h1⟩
 | x::r,i,n,hb,h0,h1=>by
  have hx:=hb x Ao;have hp:0<=x * ((i % 1000:Nat)+1:Int):=nt hx.1 J;unfold F1;rw[L9 J];exact nC (λy hy=>hb y<|Aj x hy) J J
def aHr{x:Int}(i:Nat)(h:0<=x/\x<=255):0<=x * ((i % 1000:Nat)+1:Int)/\x * ((i % 1000:Nat)+1:Int)<=255000:=by
 refine⟨nt h.1 J, ?_⟩;have h1:x * ((i % 1000:Nat)+1:Int)<=255 * ((i % 1000:Nat)+1:Int):=nY h.2 J;omega
def abT(pre:List Int)(x:Int)(post:List Int): @rd Int aIp (pre++x::post) (j8 pre:Int)=x:=by
 rw[Ov,BA,FU<|Au _];simp
def atW(post:List Int):∀(pre:List Int) (n:Int),BOk post->0<=n->n<65521->(pre++post).length<=1048576->
  cw (n,pre++post,((pre++post).length:Int),(j8 pre:Int),())=I (.inr (F1 post pre.length n,())):=by
 induction post with
 | nil=>
  intro pre n _ _ _ _;refine BF ?_;unfold fG;simp only[CP,show U ((j8 pre:Int)<(j8 pre:Int))=A0 from BG J,A4];rfl
 | cons x post ih=>
  intro pre n hb h0 h1 hl;have hlen:pre.length<(pre++x::post).length:=by simp
  have hw:=Dd hlen hl;have hx:=hb x Ao;have hm:=aHr pre.length hx;have ht:BL (j8 pre:Int) 1000=((pre.length % 1000:Nat):Int):=rfl;refine As (x':=(BL (n+x * ((pre.length % 1000:Nat)+1)) 65521,pre++x::post,((pre++x::post).length:Int),((pre++[x]).length:Int),())) ?_ ?_
  .unfold fG;simp only[show U ((j8 pre:Int)<((pre++x::post).length:Int))=Y from AU J,A2,AR hlen,abT,ht];rw[AZ (n:=x) J J,AZ (n:=((pre.length % 1000:Nat):Int)+1) J J,AZ (n:=x * _) J J,AZ (n:=n+_) J J,hw,@Aw _ pre [x]];rfl
  .have hr:0<=BL (n+x * ((pre.length % 1000:Nat)+1)) 65521/\BL (n+x * ((pre.length % 1000:Nat)+1)) 65521<65521:=by
    rw[L9 J];omega
   have:=ih (pre++[x]) _ (λy hy=>hb y<|Aj x hy) hr.1 hr.2 (by rw[← snoc];exact hl);rw[← snoc]at this;rw[F1];rw[show(pre++[x]).length=pre.length+1 by simp]at this ⊢;exact this
def asv(post:List Int):∀(pre:List Int) (n:Int),BOk post->0<=n->n<65521->(pre++post).length<=1048576->
  cf (pre++post,n,(j8 pre:Int),())=I (.inr (F1 post pre.length n,())):=by
 induction post with
 | nil=>
  intro pre n _ _ _ _;refine BF ?_;unfold eZ;simp only[CP,show U ((j8 pre:Int)<(j8 pre:Int))=A0 from BG J,A4];rfl
 | cons x post ih=>
  intro pre n hb h0 h1 hl;have hlen:pre.length<(pre++x::post).length:=by simp
  have hw:=Dd hlen hl;have hx:=hb x Ao;have hm:=aHr pre.length hx;have ht:BL (j8 pre:Int) 1000=((pre.length % 1000:Nat):Int):=rfl;refine As (x':=(pre++x::post,BL (n+x * ((pre.length % 1000:Nat)+1)) 65521,((pre++[x]).length:Int),())) ?_ ?_
  .unfold eZ;simp only[show U ((j8 pre:Int)<((pre++x::post).length:Int))=Y from AU J,A2,AR hlen,abT,ht];rw[AZ (n:=x) J J,AZ (n:=((pre.length % 1000:Nat):Int)+1) J J,R4 _ x,AZ (n:=x * _) J J,AZ (n:=n+_) J J,hw,@Aw _ pre [x]];rfl
  .have hr:0<=BL (n+x * ((pre.length % 1000:Nat)+1)) 65521/\BL (n+x * ((pre.length % 1000:Nat)+1)) 65521<65521:=by
    rw[L9 J];omega
   have:=ih (pre++[x]) _ (λy hy=>hb y<|Aj x hy) hr.1 hr.2 (by rw[← snoc];exact hl);rw[← snoc]at this;rw[F1];rw[show(pre++[x]).length=pre.length+1 by simp]at this ⊢;exact this
def akX{l:List Int}(h:BOk l)(hl:l.length<=1048576):WJ (l,())=I ((F1 l 0 0,()),()):=by
 unfold WJ;have h1:cw (0,l,(j8 l:Int),0,())=I (.inr (F1 l 0 0,())):=atW l [] 0 h J J hl;rw[h1];rfl
def ajj{l:List Int}(h:BOk l)(hl:l.length<=1048576):SI (l,())=I ((F1 l 0 0,()),()):=by
 unfold SI;have h1:cf (l,0,0,())=I (.inr (F1 l 0 0,())):=asv l [] 0 h J J hl;rw[h1];rfl
abbrev two(n:Int):List Int:=[w8 (w64<|B1 n 256),w8<|BL n 256]
abbrev RR(f:Frame):List Int:=[w8 f.ki,w8 f.src,w8 f.dst,w8 f.fr,w8 f.nu,w8 f.to,w8<|w64<|B1 f.un 256,w8<|BL f.un 256]
def Ez(f:Frame):List Int:=if U (f.ki=1) then(RR f++[w8 f.sz,w8<|w64<|B1 f.mix 256,w8<|BL f.mix 256])++BC f.da else RR f
def Ce(f:Frame):List Int:=if C1 f then Ez f++two (F1 (Ez f) 0 0) else []
def ja{l:List Int}(n:Int)(hl:l.length<=1048576):O7 (l,n,())=I ((l++two n,()),()):=by
 unfold O7;rw[A5<|BD y8]
def ZN(f:Frame):BOk (Ez f):=by
 unfold Ez;split
 .exact BOk.app (.cons _<|.cons _<|.cons _<|.cons _<|.cons _<|.cons _<|.cons _<|.cons _<|.cons _<|.cons _<|.cons _ .nil) (BOk.str _)
 .exact .cons _<|.cons _<|.cons _<|.cons _<|.cons _<|.cons _<|.cons _<|.cons _ .nil
def pG{f:Frame}(h:C1 f=Y)(hk:U (f.ki=1)=Y):f.da.size=4:=by
 unfold C1 Jy at h;simp only[AD]at h;have h:=h.2.2.2.2.2.2;rw[A5 hk]at h;simp only[AD]at h;have:=BZ h.2.2.1;omega
def YQ{f:Frame}(h:C1 f=Y):(Ez f).length<=15:=by
 unfold Ez;split
 .rename_i hk;have:=pG h hk;simp[TE,Az];omega
 .simp
def yb(f:Frame):Ps (tF f,())=I ((Ce f,()),()):=by
 unfold Ps Ce;simp only[aAY,A6];obtain e|e:=tf (C1 f)
 .simp only[e,AB,A4,A2];have hl:=YQ e;have hj:∀ {X Ω:Type} (g:X->Option Ω) (y:X),BT g (I<|.inr y)=g y:=λ_ _=>rfl;have hs:=akX (ZN f) J;have key:∀l,l=Ez f->((WJ (l,())).bind λr4=>if Ab (l.length+(two r4.1.1).length) then(dP ((l++two r4.1.1),())).bind λr5=>I (r5.1,()) else G)=I ((Ez f++two (F1 (Ez f) 0 0),()),()):=by
   rintro l rfl;simp only[hs,A6];rw[A5<|BD y8,afB y8];rfl
  obtain e1|e1:=tf (U<|f.ki=1)
  .have hd:=pG e e1;have hb:Ez f=(RR f++[w8 f.sz,w8<|w64<|B1 f.mix 256,w8<|BL f.mix 256])++BC f.da:=by unfold Ez;rw[A5 e1]
   rw[A5 e1,A5<|BD aIg,A5<|BD (by simp[TE,Az];omega),hj];exact key _ hb.symm
  .have hb:Ez f=RR f:=by unfold Ez;rw[e1,A4]
   rw[A9 (by rw[e1];exact CW),hj];exact key _ hb.symm
 .simp only[e,AH,A2,A4]
def yI(f:Frame):Pn (tF f,())=I ((Ce f,()),()):=by
 unfold Pn Ce;simp only[aAn,A6];obtain e|e:=tf (C1 f)
 .simp only[e,AB,A4,A2];have hl:=YQ e;have hs:=ajj (ZN f) J;have key:∀l,l=Ez f->((SI (l,())).bind λr6=>(O7 (l,r6.1)).bind λr7=>I (r7.1,()))=I ((Ez f++two (F1 (Ez f) 0 0),()),()):=by
   rintro l rfl;simp only[hs,A6];rw[ja _ J];rfl
  rw[A5<|by rfl,ja _ aIg];simp only[A6];obtain e1|e1:=tf (U<|f.ki=1)
  .have hd:=pG e e1;have hb:Ez f=(RR f++[w8 f.sz,w8<|w64<|B1 f.mix 256,w8<|BL f.mix 256])++BC f.da:=by unfold Ez;rw[A5 e1]
   rw[A5 e1,A5<|by rfl,ja _ aIg];simp only[A6];rw[A5<|BD J,A5<|BD (by simp[TE,Az];omega)];exact key _ (by rw[hb];rfl)
  .have hb:Ez f=RR f:=by unfold Ez;rw[e1,A4]
   rw[A9 (by rw[e1];exact CW)];exact key _ (by rw[hb];rfl)
 .simp only[e,AH,A2,A4]
abbrev zF:Frame:=⟨0,0,0,0,0,0,0,0,0,noB⟩
abbrev r8(b:List Int)(i:Int):Int:= @rd Int aIp b i
def Ff(b:List Int):Frame:=
 if U ((j8 b:Int)=17) then⟨r8 b 0,r8 b 1,r8 b 2,r8 b 3,r8 b 4,r8 b 5,256 * r8 b 6+r8 b 7,r8 b 8,256 * r8 b 9+r8 b 10,BJ<|Br 11<|BR 15 b⟩
 else⟨r8 b 0,r8 b 1,r8 b 2,r8 b 3,r8 b 4,r8 b 5,256 * r8 b 6+r8 b 7,0,0,noB⟩
def Cs(b:List Int):Frame×Bool:=
 if U ((j8 b:Int)=10)||decide ((j8 b:Int)=17) then(if U (BJ (Ce<|Ff b)=BJ b) then(Ff b,Y) else(zF,A0)) else(zF,A0)
def abh{b:List Int}(h:BOk b)(i:Int):w64 (r8 b i)=r8 b i:=by
 have:0<=r8 b i/\r8 b i<=255:=h.rd i;exact AZ J J
def aat{b:List Int}(h:BOk b)(i j:Int):w64 (w64 (256 * r8 b i)+r8 b j)=256 * r8 b i+r8 b j:=by
 have h1:0<=r8 b i/\r8 b i<=255:=h.rd i;have h2:0<=r8 b j/\r8 b j<=255:=h.rd j;rw[AZ (n:=256 * r8 b i) J J,AZ J J]
def wS{b:List Int}(h:BOk b):dY (b,())=I ((tF (Cs b).1,(Cs b).2,()),()):=by
 unfold dY Cs;by_cases h1:b.length=10\/b.length=17
 .have hn:10<=b.length:=J
  have hI:∀i:Int,(0<=i/\i<10)->inb i b.length=Y:=λi hi=>by simp[inb];omega
  rw[A9 y8];dsimp only;rw[A5<|hI 0 J,A5<|hI 1 J,A5<|hI 2 J,A5<|hI 3 J,A5<|hI 4 J,A5<|hI 5 J,A5<|hI 6 J,A5<|hI 7 J];rw[A5 (show(U ((j8 b:Int)=10)||decide ((j8 b:Int)=17))=Y by simp;omega)];simp only[abh h,aat h];have fin:∀f:Frame,Ff b=f->((Ps (tF f,())).bind λr16=>if(!decide ((BJ r16.1.1)=(BJ b))) then I ((tF zF,A0,()),()) else I ((tF f,Y,()),()))=
    I ((tF (if U (BJ (Ce<|Ff b)=BJ b) then(Ff b,Y) else(zF,A0)).1,(if U (BJ (Ce<|Ff b)=BJ b) then(Ff b,Y) else(zF,A0)).2,()),()):=by
   rintro f rfl;simp only[yb,A6];obtain e|e:=tf (U<|BJ (Ce<|Ff b)=BJ b)<;>simp only[e,AB,AH,A2,A4]
  obtain e|e:=tf (U<|(j8 b:Int)=17)
  .have e17:b.length=17:=by have:=BZ e;omega
   have hJ:∀i:Int,(0<=i/\i<17)->inb i b.length=Y:=λi hi=>by simp[inb];omega
   rw[A5 e,A5<|hJ 8 J,A5<|hJ 9 J,A5<|hJ 10 J,A5 y8,Bg];refine fin ⟨r8 b 0,r8 b 1,r8 b 2,r8 b 3,r8 b 4,r8 b 5,256 * r8 b 6+r8 b 7,r8 b 8,256 * r8 b 9+r8 b 10,BJ<|Br 11<|BR 15 b⟩ ?_;unfold Ff;rw[A5 e]
  .rw[A9 (by rw[e];exact CW),Bg];refine fin ⟨r8 b 0,r8 b 1,r8 b 2,r8 b 3,r8 b 4,r8 b 5,256 * r8 b 6+r8 b 7,0,0,noB⟩ ?_;unfold Ff;rw[A9 (by rw[e];exact CW)]
 .rw[A5 y8,A9 y8]
def afQ{b:List Int}(h:BOk b):dM (b,())=I ((tF (Cs b).1,(Cs b).2,()),()):=by
 unfold dM Cs;by_cases h1:b.length=10\/b.length=17
 .have hn:10<=b.length:=J
  have hI:∀i:Int,(0<=i/\i<10)->inb i b.length=Y:=λi hi=>by simp[inb];omega
  rw[A9 y8];dsimp only;rw[A5<|hI 0 J,A5<|hI 1 J,A5<|hI 2 J,A5<|hI 3 J,A5<|hI 4 J,A5<|hI 5 J,A5<|hI 6 J,A5<|hI 7 J];rw[A5 (show(U ((j8 b:Int)=10)||decide ((j8 b:Int)=17))=Y by simp;omega)];simp only[abh h,R4 _ 256,aat h];have fin:∀f:Frame,Ff b=f->((Pn (tF f,())).bind λr16=>if(!decide ((BJ r16.1.1)=(BJ b))) then I ((tF zF,A0,()),()) else I ((tF f,Y,()),()))=
    I ((tF (if U (BJ (Ce<|Ff b)=BJ b) then(Ff b,Y) else(zF,A0)).1,(if U (BJ (Ce<|Ff b)=BJ b) then(Ff b,Y) else(zF,A0)).2,()),()):=by
   rintro f rfl;simp only[yI,A6];obtain e|e:=tf (U<|BJ (Ce<|Ff b)=BJ b)<;>simp only[e,AB,AH,A2,A4]
  obtain e|e:=tf (U<|(j8 b:Int)=17)
  .have e17:b.length=17:=by have:=BZ e;omega
   have hJ:∀i:Int,(0<=i/\i<17)->inb i b.length=Y:=λi hi=>by simp[inb];omega
   rw[A5<|AU J,A5<|hJ 8 J,A5<|hJ 9 J,A5<|hJ 10 J,A5 y8,Bg];refine fin ⟨r8 b 0,r8 b 1,r8 b 2,r8 b 3,r8 b 4,r8 b 5,256 * r8 b 6+r8 b 7,r8 b 8,256 * r8 b 9+r8 b 10,BJ<|Br 11<|BR 15 b⟩ ?_;unfold Ff;rw[A5 e]
  .have e17:b.length≠17:=by have:=KD e;omega
   rw[A9 y8,Bg];refine fin ⟨r8 b 0,r8 b 1,r8 b 2,r8 b 3,r8 b 4,r8 b 5,256 * r8 b 6+r8 b 7,0,0,noB⟩ ?_;unfold Ff;rw[A9 (by rw[e];exact CW)]
 .rw[A5 y8,A9 y8]
def arK{b:List Int}(h:(Cs b).2=Y):C1 (Cs b).1=Y:=by
 unfold Cs at h ⊢;split
 .rename_i h1;rw[A5 h1]at h;split
  .rename_i h2;have h2:=BZ h2;unfold Ce at h2;split at h2
   .assumption
   .have h3:(BJ b).size=b.length:=by simp[BJ,ByteArray.size]
    have h4:(BJ ([]:List Int)).size=0:=rfl;rw[← h2,h4]at h3;rw[← h3]at h1;cases h1
  .rename_i h2;rw[A9 h2]at h;cases h
 .rename_i h1;rw[A9 h1]at h;cases h
def Oc{n:Int}(h0:0<=n)(k:Nat)(hk:1<=k)(h:n<(10 ^ k:Nat)):(BY n).size<=k:=by
 show(B6 n).length<=k;exact Ln h0 k hk h
def aBU{r:A1}(hr:r.size<=1048576):Q8 (r,())=I ((D0 r,()),()):=by
 have hd:=Oc (n:=(r.size:Int)) J 7 J J;unfold Q8;simp only[JH (n:=(r.size:Int)) J J,A6];rw[A5<|AU (by rw[BQ];simp;omega),A5<|AU (by rw[C2,BQ];simp;omega),A5<|AU (by rw[C2,C2,BQ,BQ];simp;omega)];rfl
def aBd{r:A1}(hr:r.size<=1048576):Q6 (r,())=I ((D0 r,()),()):=by
 have hd:=Oc (n:=(r.size:Int)) J 7 J J;unfold Q6;simp only[Fs (n:=(r.size:Int)) J J,A6];rw[A5<|AU (by rw[BQ];simp;omega),A5<|AU (by rw[C2,BQ];simp;omega),A5<|AU (by rw[C2,C2,BQ,BQ];simp;omega)];rfl
def YU{r:A1}(hr:r.size<=1048576):(D0 r).size<=r.size+9:=by
 have hd:=Oc (n:=(r.size:Int)) J 7 J J;unfold D0;simp only[C2,BQ];simp;omega
def rOk(r:A1):Bool:=inB r.size 1 60
def kR(r:A1):XK (r,())=I ((rOk r,()),()):=rfl
def kV(r:A1):fW (r,())=I ((rOk r,()),()):=rfl
def JT(lg:A1)(fo:Int)(r:A1):(A1×Int)×Bool:=
 if DI lg fo then(if rOk r&&U (lg.size+(D0 r).size<=2400) then((lg++D0 r,fo),Y) else((lg,fo),A0)) else((noB,0),A0)
def aaa{lg st:A1}{fo:Int}(b:Bool)(hl:lg.size<=1048576)(hs:st.size<=1048585):
  (if((!b)||(U<|2400<(w64<|(lg.size:Int)+(st.size:Int)))) then I (((lg,fo,()),A0,()),()) else(if U (lg.size+st.size<=4611686018427387904) then I (((lg++st,fo,()),Y,()),()) else G))=
   I ((((if b&&U (lg.size+st.size<=2400) then((lg++st,fo),Y) else((lg,fo),A0)).1.1,(if b&&U (lg.size+st.size<=2400) then((lg++st,fo),Y) else((lg,fo),A0)).1.2,()),(if b&&U (lg.size+st.size<=2400) then((lg++st,fo),Y) else((lg,fo),A0)).2,()),()):=by
 rw[AZ J J];cases b
 .rfl
 .by_cases h:lg.size+st.size<=2400
  .rw[A9 y8,A5<|AU J,A5 y8]
  .rw[A5 y8,A9 y8]
def zo{lg r:A1}{fo:Int}(hl:lg.size<=1048576)(hr:r.size<=1048576):
  SM ((lg,fo,()),r,())=I ((((JT lg fo r).1.1,(JT lg fo r).1.2,()),(JT lg fo r).2,()),()):=by
 unfold SM JT;simp only[WX hl,A6];obtain e|e:=tf (DI lg fo)
 .simp only[e,AB,A4,A2,kR,aBU hr,A6,DC,D4,Ft];exact aaa (rOk r) hl (by have:=YU hr;omega)
 .simp only[e,AH,A4,A2]
def zz{lg r:A1}{fo:Int}(hl:lg.size<=1048576)(hr:r.size<=1048576):
  SF ((lg,fo,()),r,())=I ((((JT lg fo r).1.1,(JT lg fo r).1.2,()),(JT lg fo r).2,()),()):=by
 unfold SF JT;simp only[WR hl,A6];obtain e|e:=tf (DI lg fo)
 .simp only[e,AB,A4,A2,kV,aBd hr,A6,DC,D4,Ft];exact aaa (rOk r) hl (by have:=YU hr;omega)
 .simp only[e,AH,A4,A2]
def K8(lg:A1)(fo:Int):A1×Int:=if DI lg fo then(lg,(lg.size:Int)) else(noB,0)
def agr{lg:A1}{fo:Int}(hl:lg.size<=1048576):dt ((lg,fo,()),())=I ((((K8 lg fo).1,(K8 lg fo).2,()),()),()):=by
 unfold dt K8;simp only[WX hl,A6];obtain e|e:=tf (DI lg fo)<;>simp only[e,AB,AH,A4,A2]
def tj{lg:A1}{fo:Int}(hl:lg.size<=1048576):Pt ((lg,fo,()),())=I ((((K8 lg fo).1,(K8 lg fo).2,()),()),()):=by
 unfold Pt K8;simp only[WR hl,A6];obtain e|e:=tf (DI lg fo)<;>simp only[e,AB,AH,A4,A2]
def Sk{lg:A1}{fo:Int}(h:DI lg fo=Y):lg.size<=2400/\0<=fo/\fo<=lg.size:=by
 unfold DI at h;simp only[AD]at h;have h1:=BZ h.1;have h2:=Aa.1 h.2.1;omega
def Ej(lg:A1)(fo keep:Int):Nat:=(fo+max 0 (min keep<|(lg.size:Int) - fo)).toNat
def ME(lg:A1)(fo keep:Int):A1×Int:=
 if DI lg fo then((lg.extract 0<|Ej lg fo keep).extract 0 (D7<|lg.extract 0<|Ej lg fo keep).2,((D7<|lg.extract 0<|Ej lg fo keep).2:Int)) else(noB,0)
def awu{lg:A1}{fo keep:Int}(h0:0<=fo)(h1:fo<=lg.size)(h2:lg.size<=2400):
  w64 (fo+(if 0<(if w64 ((lg.size:Int) - fo)<keep then w64 ((lg.size:Int) - fo) else keep) then(if w64 ((lg.size:Int) - fo)<keep then w64 ((lg.size:Int) - fo) else keep) else 0))=(Ej lg fo keep:Int)/\Ej lg fo keep<=lg.size:=by
 rw[AZ (n:=(lg.size:Int) - fo) J J];unfold Ej;by_cases h3:(lg.size:Int) - fo<keep
 .rw[A5 h3];by_cases h4:(0:Int)<(lg.size:Int) - fo
  .rw[A5 h4,AZ J J];omega
  .rw[A9 h4,AZ J J];omega
 .rw[A9 h3];by_cases h4:(0:Int)<keep
  .rw[A5 h4,AZ J J];omega
  .rw[A9 h4,AZ J J];omega
def aie{lg:A1}{fo keep:Int}(hl:lg.size<=1048576):eE ((lg,fo,()),keep,())=I ((((ME lg fo keep).1,(ME lg fo keep).2,()),()),()):=by
 unfold eE ME;simp only[WX hl,A6];obtain e|e:=tf (DI lg fo)
 .have hr:=Sk e;obtain⟨c1,c2⟩:=awu (keep:=keep) hr.2.1 hr.2.2 hr.1;simp only[e,AB,A4,A2,c1,BV];have hz:(lg.extract 0<|Ej lg fo keep).size=Ej lg fo keep:=by rw[Fv J];omega
  have hg:=QD<|lg.extract 0<|Ej lg fo keep;rw[A5 y8,fB J];simp only[A6,BV];rw[A5 y8]
 .simp only[e,AH,A4,A2]
def axB{s:A1}{a b:Nat}(h:b<=a)(ha:a<=s.size):s.extract 0 b=(s.extract 0 a).extract 0 b:=by
 apply G5;rw[EE,EE,EE,Jd,Jd,Iu,Iu,aL,R0 h]
def aht{lg:A1}{fo keep:Int}(hl:lg.size<=1048576):eP ((lg,fo,()),keep,())=I ((((ME lg fo keep).1,(ME lg fo keep).2,()),()),()):=by
 unfold eP ME;simp only[WR hl,A6];obtain e|e:=tf (DI lg fo)
 .have hr:=Sk e;simp only[e,AB,A4,A2];rw[AZ (n:=(lg.size:Int) - fo) J J];have hz:(lg.extract 0<|Ej lg fo keep).size=Ej lg fo keep:=by rw[Fv (by unfold Ej;omega)];omega
  have hg:=QD<|lg.extract 0<|Ej lg fo keep;have fin:∀n:Int,n=(Ej lg fo keep:Int)->(if(U (0<=n)&&U (n<=(lg.size:Int))) then(LZ ((lg.extract (0)<|AM n),())).bind λr9=>
    (if(U (0<=r9.1.2.1)&&U (r9.1.2.1<=(lg.size:Int))) then I (((lg.extract (0)<|AM r9.1.2.1,r9.1.2),()),()) else G) else G)=
    I ((((lg.extract 0<|Ej lg fo keep).extract 0 (D7<|lg.extract 0<|Ej lg fo keep).2,((D7<|lg.extract 0<|Ej lg fo keep).2:Int),()),()),()):=by
   rintro n rfl;have hc:Ej lg fo keep<=lg.size:=by unfold Ej;omega
   rw[A5 y8,BV,Vo J];simp only[A6,BV];rw[A5 y8,axB (a:=Ej lg fo keep) J hc]
  obtain h3|h3:=tf (U<|(lg.size:Int) - fo<keep)<;>simp only[h3,A2,A4,Bg]
  .have h3:=BZ h3;obtain h4|h4:=tf (U<|(0:Int)<(lg.size:Int) - fo)<;>simp only[h4,A2,A4,Bg]
   .have h4:=BZ h4;rw[AZ (n:=fo+((lg.size:Int) - fo)) J J];exact fin _ (by unfold Ej;omega)
   .have h4:=KD h4;exact fin _ (by unfold Ej;omega)
  .have h3:=KD h3;obtain h4|h4:=tf (U<|0<keep)<;>simp only[h4,A2,A4,Bg]
   .have h4:=BZ h4;rw[AZ (n:=fo+keep) J J];exact fin _ (by unfold Ej;omega)
   .have h4:=KD h4;exact fin _ (by unfold Ej;omega)
 .simp only[e,AH,A4,A2]
def Fm(rs:List A1):Bool:=rs.all rOk
def JN(lg:A1)(fo:Int)(rs:List A1):(A1×Int)×Bool:=
 if DI lg fo then(if Fm rs&&U ((D8 rs).size<=2400) then((D8 rs,((D8 rs).size:Int)),Y) else((lg,fo),A0)) else((noB,0),A0)
def aas{r:A1}(h:rOk r=Y):1<=r.size/\r.size<=60:=by
 have:=Aa.1 h;omega
def aHa(pre:List A1)(r:A1):B (cat<|pre++[r])=B (cat pre)++D0 r:=by
 apply G5;rw[GP,L_B,L_B,Kj,I5,Jv,CP]
abbrev zS:A1×Int×D:=(noB,0,())
def atT{sl:A1×Int×D}(post:List A1):∀(pre:List A1),(pre++post).length<=1048576->(cat pre).length<=69 * pre.length->
  (Rx (sl,zS,B<|cat pre,pre++post,((pre++post).length:Int),(j8 pre:Int),())=I (.inl (sl,A0,()))/\(Fm post=A0\/2400<(cat<|pre++post).length))\/
  (Rx (sl,zS,B<|cat pre,pre++post,((pre++post).length:Int),(j8 pre:Int),())=I (.inr (sl,zS,B<|cat<|pre++post,()))/\Fm post=Y):=by
 induction post with
 | nil=>
  intro pre _ _;refine NQ ⟨BF ?_,rfl⟩;unfold S5;simp only[CP,show U ((j8 pre:Int)<(j8 pre:Int))=A0 from BG J,A4]
 | cons r post ih=>
  intro pre hl hc;have hlen:pre.length<(pre++r::post).length:=by simp
  have hw:=Dd hlen hl;have hb:(U<|(j8 pre:Int)<((pre++r::post).length:Int))=Y:=AU J;by_cases h:rOk r=Y/\(cat pre).length<=2400
  .have hz:=aas h.1;have hs:=YU (r:=r) J;have MY:S5 (sl,zS,B<|cat pre,pre++r::post,((pre++r::post).length:Int),(j8 pre:Int),())=I (.inl (sl,zS,B<|cat<|pre++[r],(pre++[r])++post,(((pre++[r])++post).length:Int),((pre++[r]).length:Int),())):=by
    unfold S5;simp only[hb,A2,AR hlen,N7,kR,A6,h.1,AB,Bk];rw[A9 (by rw[BQ];exact λg=>absurd (BZ g) J),aBU (r:=r) J];simp only[A6];rw[A5<|AU (by rw[BQ];omega),hw,aHa,@Aw _ pre [r],← snoc];rfl
   have hc2:(cat<|pre++[r]).length<=69 * (pre++[r]).length:=by
    rw[Kj,I5,Jv,CP,Aw,Az,Aw,JU];omega
   have e:Fm (r::post)=Fm post:=by
    unfold Fm;rw[PF,h.1,AS]
   rw[e];rcases ih (pre++[r]) (by rw[← snoc];exact hl) hc2 with⟨h1,h2⟩|⟨h1,h2⟩
   .rw[← snoc]at h2;exact NO ⟨As MY h1,h2⟩
   .refine NQ ⟨?_,h2⟩;rw[snoc];rw[← snoc]at MY ⊢;rw[snoc pre r post]at MY ⊢;exact As MY h1
  .refine NO ⟨BF ?_, ?_⟩
   .unfold S5;simp only[hb,A2,AR hlen,N7,kR,A6];rw[A5];obtain e|e:=tf (rOk r)
    .rw[e,AB,Bk];refine AU ?_;rw[BQ];have:¬(cat pre).length<=2400:=λg=>h ⟨e,g⟩;omega
    .rw[e];rfl
   .rcases tf (rOk r) with e|e
    .have:¬(cat pre).length<=2400:=λg=>h ⟨e,g⟩;refine NQ ?_;rw[Kj,Aw];omega
    .refine NO ?_;unfold Fm;rw[PF,e,AL]
def asr{sl:A1×Int×D}(post:List A1):∀(pre:List A1),(pre++post).length<=1048576->(cat pre).length<=69 * pre.length->
  cR (pre++post,sl,zS,B<|cat pre,(j8 pre:Int),())=I (if Fm post then .inr (sl,zS,B<|cat<|pre++post,()) else .inl (sl,A0,())):=by
 induction post with
 | nil=>
  intro pre _ _;refine BF ?_;unfold S1;simp only[CP,show U ((j8 pre:Int)<(j8 pre:Int))=A0 from BG J,A4];rfl
 | cons r post ih=>
  intro pre hl hc;have hlen:pre.length<(pre++r::post).length:=by simp
  have hw:=Dd hlen hl;have hb:(U<|(j8 pre:Int)<((pre++r::post).length:Int))=Y:=AU J;obtain h|h:=tf (rOk r)
  .have hz:=aas h;have hs:=YU (r:=r) J;have MY:S1 (pre++r::post,sl,zS,B<|cat pre,(j8 pre:Int),())=I (.inl ((pre++[r])++post,sl,zS,B<|cat<|pre++[r],((pre++[r]).length:Int),())):=by
    unfold S1;simp only[hb,A2,AR hlen,N7,kV,A6,h,AB,A4];rw[aBd (r:=r) J];simp only[A6];rw[A5<|AU (by rw[BQ];simp at hl;omega),hw,aHa,@Aw _ pre [r],← snoc];rfl
   have hc2:(cat<|pre++[r]).length<=69 * (pre++[r]).length:=by
    rw[Kj,I5,Jv,CP,Aw,Az,Aw,JU];omega
   have e:Fm (r::post)=Fm post:=by
    unfold Fm;rw[PF,h,AS]
   rw[e];have:=ih (pre++[r]) (by rw[← snoc];exact hl) hc2;rw[snoc pre r post];rw[snoc pre r post]at MY;exact As MY this
  .refine BF ?_;unfold S1;simp only[hb,A2,AR hlen,N7,kV,A6,h,AH];rw[A9 (by unfold Fm;rw[PF,h,AL];exact CW)]
def n7{lg:A1}{fo:Int}(rs:List A1)(s:(((A1×Int×D)×Bool×D) ⊕ ((A1×Int×D)×(A1×Int×D)×A1×D)))
  (h:(s= .inl ((lg,fo,()),A0,())/\(Fm rs&&U ((D8 rs).size<=2400))=A0)\/(s= .inr ((lg,fo,()),zS,D8 rs,())/\Fm rs=Y)):
  AN (I s) (λy28=>I (y28,())) (λy28=>(if(U<|2400<(y28.2.2.1.size:Int)) then I ((y28.1,A0,()),()) else I (((y28.2.2.1,(y28.2.2.1.size:Int),()),Y,()),())))=
   I ((((if Fm rs&&U ((D8 rs).size<=2400) then((D8 rs,((D8 rs).size:Int)),Y) else((lg,fo),A0)).1.1,(if Fm rs&&U ((D8 rs).size<=2400) then((D8 rs,((D8 rs).size:Int)),Y) else((lg,fo),A0)).1.2,()),(if Fm rs&&U ((D8 rs).size<=2400) then((D8 rs,((D8 rs).size:Int)),Y) else((lg,fo),A0)).2,()),()):=by
 obtain⟨rfl,h⟩|⟨rfl,h⟩:=h
 .rw[h];rfl
 .simp only[AN,A6];by_cases h2:(D8 rs).size<=2400
  .rw[A9 y8,h,AU h2];rfl
  .rw[A5<|AU J,h,BG h2];rfl
def z8{lg:A1}{fo:Int}{rs:List A1}(hl:lg.size<=1048576)(hr:rs.length<=1048576):
  SD ((lg,fo,()),rs,())=I ((((JN lg fo rs).1.1,(JN lg fo rs).1.2,()),(JN lg fo rs).2,()),()):=by
 unfold SD JN;simp only[WX hl,A6];obtain e|e:=tf (DI lg fo)
 .simp only[e,AB,A4,A2];rcases atT (sl:=(lg,fo,())) rs [] hr (by simp[Jv]) with⟨h1,h2⟩|⟨h1,h2⟩
  .rw[show Rx ((lg,fo,()),(noB,0,()),noB,rs,(j8 rs:Int),0,())=_ from h1];refine n7 rs _<|NO ⟨rfl, ?_⟩;obtain h2|h2:=h2
   .rw[h2];rfl
   .rw[BG,Ba];show ¬(B<|cat rs).size<=2400;rw[BQ];exact Nat.not_le.2 h2
  .rw[show Rx ((lg,fo,()),(noB,0,()),noB,rs,(j8 rs:Int),0,())=_ from h1];exact n7 rs _ (NQ ⟨rfl,h2⟩)
 .simp only[e,AH,A4,A2]
def xz{lg:A1}{fo:Int}{rs:List A1}(hl:lg.size<=1048576)(hr:rs.length<=1048576):
  S9 ((lg,fo,()),rs,())=I ((((JN lg fo rs).1.1,(JN lg fo rs).1.2,()),(JN lg fo rs).2,()),()):=by
 unfold S9 JN;simp only[WR hl,A6];obtain e|e:=tf (DI lg fo)
 .simp only[e,AB,A4,A2];have h1:=asr (sl:=(lg,fo,())) rs [] hr (by simp[Jv]);rw[show cR (rs,(lg,fo,()),(noB,0,()),noB,0,())=_ from h1];refine n7 rs _ ?_;obtain h2|h2:=tf (Fm rs)
  .exact NQ ⟨A5 h2,h2⟩
  .exact NO ⟨A9 (by rw[h2];exact CW),by rw[h2];rfl⟩
 .simp only[e,AH,A4,A2]
def Zi{β:Type}(f:A3->β){l:List A3}{i:Nat}(h:i<l.length):(l.take<|i+1).map f=(l.take i).map f++[f (nA l i)]:=by
 rw[Mt h,Ec,DA<|Ap h];rfl
def aaG{β:Type}(f:Mark->β){l:List Mark}{i:Nat}(h:i<l.length):(l.take<|i+1).map f=(l.take i).map f++[f (mA l i)]:=by
 rw[Mt h,Ec,Fg<|Ap h];rfl
def Fw{α:Type}{l m:List α}(hl:l.length<=1048576)(hm:m.length<=1048576):Ab (l.length+m.length)=Y:=BD J
def aq{n:A3}(h:Ax n=Y):(wr n).size<=4000:=by have:=RI h;omega
def Qg{n:A3}(h:Ax n=Y):n.tx.size<=1048576:=by
 have h2:=RI h;by_cases hs:n.tx.size<=1048576
 .exact hs
 .exfalso;unfold Ax at h;simp only[AD]at h;have hx:LG n.tx=Y:=by simp_all
  unfold LG at hx;rw[AD]at hx;have:=Aa.1 hx.1;omega
def nw{n:A3}(h:Ax n=Y):(if Ax ⟨n.fr,n.nu,n.to,n.un,n.tx⟩ then wr ⟨n.fr,n.nu,n.to,n.un,n.tx⟩ else noB)=wr n:=by
 rw[show(⟨n.fr,n.nu,n.to,n.un,n.tx⟩:A3)=n from rfl,A5 h]
def HP{n:Int}(h0:0<=n)(h1:n<=999):(BY n).size<=3:=Oc h0 3 J J
def uZ{w:A1}{a b c:Int}(hw:w.size<=1048576)(ha:0<=a/\a<=999)(hb:0<=b/\b<=999)(hc:0<=c/\c<=999):Po (w,a,b,c,())=I ((CX w a b c,()),()):=by
 have h1:=HP ha.1 ha.2;have h2:=HP hb.1 hb.2;have h3:=HP hc.1 hc.2;unfold Po;simp only[JH (n:=a) J J,JH (n:=b) J J,JH (n:=c) J J,A6];rw[A5<|AU (by simp[BQ];omega),A5<|AU (by simp[C2,BQ];omega),A5<|AU (by simp[C2,BQ];omega),A5<|AU (by simp[C2,BQ];omega),A5<|AU (by simp[C2,BQ];omega),A5<|AU (by simp[C2,BQ];omega)];rfl
def Ic{i n:Nat}(h:i<n):U ((i:Int)<(n:Int))=Y:=AU J
def H9(n:Nat):U ((n:Int)<(n:Int))=A0:=BG J
section
variable {k:AE} (hf:Eo k)
include hf
def aro(o:List A1)(ho:o.length<=100):
  ct (tK k,o,k.marks,(j8 k.marks:Int),0,())=I (.inr (tK k,o++k.marks.map λm=>CX D6 m.mf m.mn m.mu,())):=by
 have ml:=hf.ml;refine KN (congrArg _ ?_) (CG (λi=>(tK k,o++(k.marks.take i).map (λm=>CX D6 m.mf m.mn m.mu),k.marks,(j8 k.marks:Int),(i:Int),())) k.marks.length ?_ ?_)
 .simp
 .intro i hi;have hm:=Oa<|T7 hf.m hi;unfold fF;simp only[Ic hi,A2,AR hi,FA,uZ (w:=D6) aIm (J:0<=(mA k.marks i).mf/\(mA k.marks i).mf<=999) (J:0<=(mA k.marks i).mn/\(mA k.marks i).mn<=999) (J:0<=(mA k.marks i).mu/\(mA k.marks i).mu<=999),A6];rw[A5<|Fw y8 aIg,aaG _ hi,Dd hi J,C5]
 .unfold fF;simp only[H9,A4,E0]
def arn(o:List A1)(ho:o.length<=200):
  cr (tK k,o,k.held,(j8 k.held:Int),0,())=I (.inr (tK k,o++k.held.map Lz,())):=by
 have hl:=hf.hl;refine KN (congrArg _ ?_) (CG (λi=>(tK k,o++(k.held.take i).map Lz,k.held,(j8 k.held:Int),(i:Int),())) k.held.length ?_ ?_)
 .simp
 .intro i hi;have hm:=H8 hf.h hi;have hz:=aq hm;unfold fE;simp only[Ic hi,A2,AR hi,Co,Vw<|Qg hm,nw hm,A6];rw[A5<|AU (by rw[BQ];simp;omega),A5<|Fw y8 aIg,Zi _ hi,Dd hi J,C5];rfl
 .unfold fE;simp only[H9,A4,E0]
def arm(o:List A1)(ho:o.length<=200):
  cq (o,k.inbox,(j8 k.inbox:Int),0,())=I (.inr (o++k.inbox.map Mx,())):=by
 have il:=hf.il;refine KN (congrArg _ ?_) (CG (λi=>(o++(k.inbox.take i).map Mx,k.inbox,(j8 k.inbox:Int),(i:Int),())) k.inbox.length ?_ ?_)
 .simp
 .intro i hi;have hm:=H8 hf.i hi;have hz:=aq hm;unfold fD;simp only[Ic hi,A2,AR hi,Co,Vw<|Qg hm,nw hm,A6];rw[A5<|AU (by rw[BQ];simp;omega),A5<|Fw y8 aIg,Zi _ hi,Dd hi J,C5];rfl
 .unfold fD;simp only[H9,A4,E0]
def arB(o:List A1)(ho:o.length<=100):
  cd (tK k,o,0,())=I (.inr (tK k,o++k.marks.map λm=>CX D6 m.mf m.mn m.mu,())):=by
 have ml:=hf.ml;refine KN (congrArg _ ?_) (CG (λi=>(tK k,o++(k.marks.take i).map (λm=>CX D6 m.mf m.mn m.mu),(i:Int),())) k.marks.length ?_ ?_)
 .simp
 .intro i hi;have hm:=Oa<|T7 hf.m hi;have h1:=HP (n:=(mA k.marks i).mf) J J;have h2:=HP (n:=(mA k.marks i).mn) J J;have h3:=HP (n:=(mA k.marks i).mu) J J;unfold eY;simp only[Ic hi,A2,AR hi,FA,Fs (n:=(mA k.marks i).mf) J J,Fs (n:=(mA k.marks i).mn) J J,Fs (n:=(mA k.marks i).mu) J J,A6];rw[A5<|AU (by simp[C2,BQ];omega),A5<|AU (by simp[C2,BQ];omega),A5<|AU (by simp[C2,BQ];omega),A5<|AU (by simp[C2,BQ];omega),A5<|AU (by simp[C2,BQ];omega)];rw[A5<|Fw y8 aIg,aaG _ hi,Dd hi J,C5];rfl
 .unfold eY;simp only[H9,A4,E0]
def arA(o:List A1)(ho:o.length<=200):
  cc (tK k,o,0,())=I (.inr (tK k,o++k.held.map Lz,())):=by
 have hl:=hf.hl;refine KN (congrArg _ ?_) (CG (λi=>(tK k,o++(k.held.take i).map Lz,(i:Int),())) k.held.length ?_ ?_)
 .simp
 .intro i hi;have hm:=H8 hf.h hi;have hz:=aq hm;unfold eX;simp only[Ic hi,A2,AR hi,Co,Vp<|Qg hm,nw hm,A6];rw[A5<|AU (by rw[BQ];simp;omega),A5<|Fw y8 aIg,Zi _ hi,Dd hi J,C5];rfl
 .unfold eX;simp only[H9,A4,E0]
def ar9(o:List A1)(ho:o.length<=200):
  cJ (tK k,o,0,())=I (.inr (o++k.inbox.map Mx,())):=by
 have il:=hf.il;refine KN (congrArg _ ?_) (CG (λi=>(tK k,o++(k.inbox.take i).map Mx,(i:Int),())) k.inbox.length ?_ ?_)
 .simp
 .intro i hi;have hm:=H8 hf.i hi;have hz:=aq hm;unfold eW;simp only[Ic hi,A2,AR hi,Co,Vp<|Qg hm,nw hm,A6];rw[A5<|AU (by rw[BQ];simp;omega),A5<|Fw y8 aIg,Zi _ hi,Dd hi J,C5];rfl
 .unfold eW;simp only[H9,A4,E0]
def QZ:DV k.held k.marks k.inbox:=by
 have hl:=hf.hl;have ml:=hf.ml;have il:=hf.il;refine⟨J,λx hx=> ?_,J,J,λx hx=> ?_⟩
 .obtain⟨i,hi,rfl⟩:=Cq hx;have:=H8 hf.h hi;rw[DA<|Ap hi]at this;exact Qg this
 .obtain⟨i,hi,rfl⟩:=Cq hx;have:=H8 hf.i hi;rw[DA<|Ap hi]at this;exact Qg this
def ap4:(AN (ct (tK k,(if 0<k.ti then [Fe k.ti] else [])++(if 1<k.nx then [Ks k.nx] else []),k.marks,(j8 k.marks:Int),0,()))
  (λ_=>G)
  (λy34=>(AN (cr (y34.1,y34.2.1,y34.1.2.2.2.1,(j8 y34.1.2.2.2.1:Int),0,()))
  (λ_=>G)
  (λy72=>(AN (cq (y72.2.1,y72.1.2.2.2.2.2.1,(j8 y72.1.2.2.2.2.2.1:Int),0,()))
  (λ_=>G)
  (λqz=>(Rw qz).bind λrH=>
  I (rH.1,())))))))=I ((CF k,()),()):=by
 have hl:=hf.hl;have ml:=hf.ml;have il:=hf.il;have ho:((if 0<k.ti then [Fe k.ti] else [])++(if 1<k.nx then [Ks k.nx] else [])).length<=2:=by
  rw[Aw];split<;>split<;>simp
 rw[aro hf _ J];simp only[AN,A6];rw[arn hf _ (by rw[Aw,Da];omega)];simp only[A6];rw[arm hf _ (by rw[Aw,Aw,Da,Da];omega)];simp only[A6];rw[ry (by rw[Aw,Aw,Aw,Da,Da,Da];omega)];rfl
def aoW:(AN (cd (tK k,(if 0<k.ti then [Fe k.ti] else [])++(if 1<k.nx then [Ks k.nx] else []),0,()))
  (λ_=>G)
  (λy46=>(AN (cc (y46.1,y46.2.1,0,()))
  (λ_=>G)
  (λy54=>(AN (cJ (y54.1,y54.2.1,0,()))
  (λ_=>G)
  (λy62=>I (y62,())))))))=I ((CF k,()),()):=by
 have hl:=hf.hl;have ml:=hf.ml;have il:=hf.il;have ho:((if 0<k.ti then [Fe k.ti] else [])++(if 1<k.nx then [Ks k.nx] else [])).length<=2:=by
  rw[Aw];split<;>split<;>simp
 rw[arB hf _ J];simp only[AN,A6];rw[arA hf _ (by rw[Aw,Da];omega)];simp only[A6];rw[ar9 hf _ (by rw[Aw,Aw,Da,Da];omega)];rfl
end
def zr{k:AE}(sm:DV k.held k.marks k.inbox):WI (tK k,())=I ((if Av k then CF k else [],()),()):=by
 unfold WI;rw[jr sm];simp only[A6];obtain e|e:=tf (Av k)
 .have hf:=Bz e;have t0:=hf.t0;have t1:=hf.t1;have n0:=hf.n0;have n1:=hf.n1;have e2:Av ⟨k.id,k.ti,k.nx,k.held,k.marks,k.inbox⟩=Y:=e;have d1:=HP t0 J;have d2:=HP (n:=k.nx) J J;have fin:=ap4 hf;simp only[e,e2,AB,A4,A2,JH (n:=k.ti) J J,JH (n:=k.nx) J J,A6];have h5:U ((B [116,105,109,101,32]).size+(BY k.ti).size<=4611686018427387904)=Y:=AU (by rw[BQ];simp;omega);have h6:U ((B [110,101,120,116,32]).size+(BY k.nx).size<=4611686018427387904)=Y:=AU (by rw[BQ];simp;omega);have q1:∀a:A1,Ab ([a]:List A1).length=Y:=λ_=>rfl;have q2:∀a b:A1,Ab (([a]:List A1).length+([b]:List A1).length)=Y:=λ_ _=>rfl;have q3:∀b:A1,Ab (([]:List A1).length+([b]:List A1).length)=Y:=λ_=>rfl;have q4:∀a b:A1,Ab ((([]:List A1)++[a]).length+([b]:List A1).length)=Y:=λ_ _=>rfl;by_cases h1:0<k.ti<;>by_cases h2:1<k.nx<;>simp only[h1,h2,AW,Ac,A2,A4,if_false]at fin ⊢ <;>simp only[Bg,h2,AW,Ac,A2,A4,h5,h6,q1,q2,q3,q4,JH (n:=k.nx) J J,Fs (n:=k.nx) J J,A6]<;>exact fin
 .have e2:Av ⟨k.id,k.ti,k.nx,k.held,k.marks,k.inbox⟩=A0:=e;simp only[e,e2,AH,A4,A2]
def zQ{k:AE}(sm:DV k.held k.marks k.inbox):W7 (tK k,())=I ((if Av k then CF k else [],()),()):=by
 unfold W7;rw[jd sm];simp only[A6];obtain e|e:=tf (Av k)
 .have hf:=Bz e;have t0:=hf.t0;have t1:=hf.t1;have n0:=hf.n0;have n1:=hf.n1;have e2:Av ⟨k.id,k.ti,k.nx,k.held,k.marks,k.inbox⟩=Y:=e;have d1:=HP t0 J;have d2:=HP (n:=k.nx) J J;have fin:=aoW hf;simp only[e,e2,AB,A4,A2,Fs (n:=k.ti) J J,Fs (n:=k.nx) J J,A6];have h5:U ((B [116,105,109,101,32]).size+(BY k.ti).size<=4611686018427387904)=Y:=AU (by rw[BQ];simp;omega);have h6:U ((B [110,101,120,116,32]).size+(BY k.nx).size<=4611686018427387904)=Y:=AU (by rw[BQ];simp;omega);have q1:∀a:A1,Ab ([a]:List A1).length=Y:=λ_=>rfl;have q2:∀a b:A1,Ab (([a]:List A1).length+([b]:List A1).length)=Y:=λ_ _=>rfl;have q3:∀b:A1,Ab (([]:List A1).length+([b]:List A1).length)=Y:=λ_=>rfl;have q4:∀a b:A1,Ab ((([]:List A1)++[a]).length+([b]:List A1).length)=Y:=λ_ _=>rfl;by_cases h1:0<k.ti<;>by_cases h2:1<k.nx<;>simp only[h1,h2,AW,Ac,A2,A4,if_false]at fin ⊢ <;>simp only[Bg,h2,AW,Ac,A2,A4,h5,h6,q1,q2,q3,q4,JH (n:=k.nx) J J,Fs (n:=k.nx) J J,A6]<;>exact fin
 .have e2:Av ⟨k.id,k.ti,k.nx,k.held,k.marks,k.inbox⟩=A0:=e;simp only[e,e2,AH,A4,A2]
end Go.VS
namespace Go.VS
open Go
def aae{l:List AQ}{m:AQ}(h:m∈l):∃i,i<l.length/\xA l i=m:=by
 obtain⟨i,hi,rfl⟩:=ng.1 h;exact⟨i,hi,by rw[xA,BA,Ap hi];rfl⟩
def Oo{l:List AG}{m:AG}(h:m∈l):∃i,i<l.length/\hA l i=m:=by
 obtain⟨i,hi,rfl⟩:=ng.1 h;exact⟨i,hi,by rw[hA,BA,Ap hi];rfl⟩
def ax0{h:AG}(ok:G1 h=Y):Ou h:=by
 unfold G1 at ok;simp only[AD]at ok;have h1:=BZ ok.2.2.2.2.2.1;have h2:=CA.1 ok.2.2.2.2.2.2;refine⟨J,λm hm=> ?_⟩;obtain⟨i,hi,rfl⟩:=aae hm;have:=h2 i hi;unfold IH at this;simp only[AD]at this;have:=BZ this.1.2;show(xA h.got i).da.size<=1048576;omega
def D9{k:A7}(h:Ae k=Y):FK k:=by
 have hf:=Dk h;have hr:=Sk hf.sh;have hl:=hf.hl;refine⟨J,J,λx hx=> ?_⟩;obtain⟨i,hi,rfl⟩:=Oo hx;have:=hf.hv i hi;unfold Fl at this;rw[AD]at this;exact ax0 this.1
def afE{l:List AG}(hl:l.length<=1048576):sa (l,())=I ((l,()),()):=Ls hl
def aee{l:List AQ}(hl:l.length<=1048576):sQ (l,())=I ((l,()),()):=Ls hl
def MD(l:List AG)(i:Nat): @rd AG aIi l (i:Int)=hA l i:=rfl
def IG{l:List AG}{i:Nat}(h:i<l.length):hA l i=l[i]:=by
 rw[hA,BA,Ap h];rfl
def Kd{k:A7}(sm:FK k):I2 (tKp k,())=I ((tKp k,()),()):=by
 obtain⟨id,up,lg,fo,hv⟩:=k;obtain⟨sl,hl,hs⟩:=sm;simp only at sl hl hs;unfold I2;simp only[afE hl,A6];have h:rU ((0,A0,noB,0,[],()),(id,up,lg,fo,hv,()),(j8 hv:Int),0,())=I (.inr ((0,A0,noB,0,[],()),(id,up,lg,fo,hv,()),())):=by
  refine CG (λi=>((0,A0,noB,0,[],()),(id,up,lg,fo,hv,()),(j8 hv:Int),(i:Int),())) hv.length ?_ ?_
  .intro i hi;unfold dN;have hg:(hA hv i).got.length<=1048576:=by rw[IG hi];exact(hs _<|CU hi).1
   simp only[Ic hi,A2,AR hi,MD,aee hg,A6,BV];rw[Dd hi hl,show(⟨(hA hv i).fr,(hA hv i).nu,(hA hv i).to,(hA hv i).un,(hA hv i).sz,(hA hv i).got⟩:AG)=hA hv i from rfl,IG hi,List.set_getElem_self]
  .unfold dN;simp only[H9,A4]
 rw[h];rfl
def Mh{k:A7}(sm:FK k):H6 (tKp k,())=I ((tKp k,()),()):=by
 obtain⟨id,up,lg,fo,hv⟩:=k;obtain⟨sl,hl,hs⟩:=sm;simp only at sl hl hs;unfold H6;have h:tJ ((id,up,lg,fo,hv,()),(0,A0,noB,0,[],()),[],0,())=I (.inr ((id,up,lg,fo,hv,()),(0,A0,noB,0,[],()),hv,())):=by
  refine CG (λi=>((id,up,lg,fo,hv,()),(0,A0,noB,0,[],()),hv.take i,(i:Int),())) hv.length ?_ ?_
  .intro i hi;unfold gE;have hg:(hA hv i).got.length<=1048576:=by rw[IG hi];exact(hs _<|CU hi).1
   have e1:Ab (([]:List AQ).length+(hA hv i).got.length)=Y:=Fw aIg hg;have e2:∀h:AG,Ab ((hv.take i).length+([h]:List AG).length)=Y:=λh=>Fw y8 aIg;simp only[Ic hi,A2,AR hi,MD,Eb,e1,e2];rw[Dd hi hl,Mt hi,← IG hi]
  .unfold gE;simp only[H9,A4,E0]
 rw[h];rfl
structure Hz (k:A7) (st:AE):Prop where
 sh:DI k.log k.fo=Y
 st:DP k.id k.log=I st
def DH.LR{k:A7}{st:AE}(h:DH k st):Hz k st:=⟨(Dk h.ok).sh,h.st⟩
def Hz.kok{k:A7}{st:AE}(h:Hz k st):Av st=Y:=QK h.st
def Hz.sz{k:A7}{st:AE}(h:Hz k st):k.log.size<=1048576:=by have:=Sk h.sh;omega
def Hz.stT{k:A7}{st:AE}(h:Hz k st):Go.VS.stT k=st:=by
 unfold Go.VS.stT;rw[h.st];rfl
def QS{k:AE}(hk:Av k=Y):(D8<|CF k).size<=800:=by
 have:=(XI hk).2;unfold D8;rw[BQ];exact this
def ZA{k:AE}(hk:Av k=Y):(CF k).length<=1048576:=by
 have hf:=Bz hk;have h1:=hf.hl;have h2:=hf.ml;have h3:=hf.il;unfold CF;simp only[Aw,Da];have a2:(if 0<k.ti then [Fe k.ti] else []).length<=1:=by split<;>simp
 have b2:(if 1<k.nx then [Ks k.nx] else []).length<=1:=by split<;>simp
 omega
def TZ{k:A7}{st o:AE}{r:A1}(h:Hz k st)(hr:BK st r=I o):
  DI (D1 st k.log k.fo r).1 (D1 st k.log k.fo r).2=Y/\
  (JT k.log k.fo r=(D1 st k.log k.fo r,Y)\/
   (JT k.log k.fo r=((k.log,k.fo),A0)/\JN k.log k.fo (CF st)=((D8<|CF st,((D8<|CF st).size:Int)),Y)/\
    JT (D8<|CF st) ((D8<|CF st).size:Int) r=(D1 st k.log k.fo r,Y))):=by
 have hz:=oP h.kok hr;have hrk:rOk r=Y:=Aa.2 J;have hrs:=XI h.kok;have hps:=QS h.kok;have hpo:=(Qf h.kok).qf;have hst:=Mu hz.2;obtain⟨rs,ts,hl⟩:=abZ h.sh;obtain⟨rs',ts',hl',_⟩:=aHx (id:=k.id) (k:=st) hl (by rw[← hl.state];exact h.st) hr;refine⟨hl'.qf, ?_⟩;unfold D1 JT;rw[A5 h.sh,hrk,AS];by_cases hc:k.log.size+(D0 r).size<=2400
 .rw[A5 hc,A5<|AU hc];exact .inl rfl
 .rw[A9 hc,A9 (by rw[BG hc];exact CW)];refine .inr ⟨rfl, ?_, ?_⟩
  .unfold JN;rw[A5 h.sh,A5];rw[AD];refine⟨?_,AU J⟩;unfold Fm;rw[Cy];exact λx hx=>by
    have:=hrs.1 x hx;exact Aa.2 J
  .rw[A5 hpo,AS,A5<|AU J]
def wrR(k:A7)(r:A1)(f:Bool):A7×Bool:=
 match BK (stT k) r with
 | none=>(k,A0)
 | some _=>(if f then foM (wrM k r) else wrM k r,Y)
def aFm{k:AE}{r:A1}:(FP k r).2=(BK k r).isSome:=by
 unfold BK;obtain e|e:=tf (FP k r).2<;>rw[e]<;>rfl
def aoc{k:AE}(hk:Av k=Y){r:A1}(hr:r.size<=1048576):Sa (tK k,r,())=I ((tK (FP k r).1,(FP k r).2,()),()):=aBf (QZ<|Bz hk) hr
def apF{k:AE}(hk:Av k=Y){r:A1}(hr:r.size<=1048576):Sg (tK k,r,())=I ((tK (FP k r).1,(FP k r).2,()),()):=aBb (QZ<|Bz hk) hr
def axs{k:A7}{st o:AE}{r:A1}(h:Hz k st)(hr:BK st r=I o):K8 (D1 st k.log k.fo r).1 (D1 st k.log k.fo r).2=((D1 st k.log k.fo r).1,((D1 st k.log k.fo r).1.size:Int)):=by
 unfold K8;rw[A5 (TZ h hr).1]
def WN{k:A7}{st:AE}(h:Hz k st){r:A1}(hr:r.size<=1048576)(f:Bool):Kb (tKp k,r,f,())=I ((tKp (wrR k r f).1,(wrR k r f).2,()),()):=by
 have hs:=h.sz;have hk:=h.kok;have hsm:=QZ<|Bz hk;have hrl:=ZA hk;have hpz:=QS hk;unfold Kb wrR;rw[h.stT];rw[show GC (tKp k,())=I ((tK<|(DP k.id k.log).getD zK,(DP k.id k.log).isSome,()),()) from lS hs];rw[h.st];simp only[A6,D4,aoc hk hr,aFm];cases hc:BK st r with
 | none=>rfl
 | some o=>
  have hL:=axs h hc;have hwr:wrM k r=⟨k.id,k.up,(D1 st k.log k.fo r).1,(D1 st k.log k.fo r).2,k.AJ⟩:=by unfold wrM;rw[h.stT]
  have hsz:(D1 st k.log k.fo r).1.size<=1048576:=by have:=Sk (TZ h hc).1;omega
  have hF:=tj (lg:=(D1 st k.log k.fo r).1) (fo:=(D1 st k.log k.fo r).2) hsz;rw[hL]at hF;simp only[DC,AB,A4,zz hs hr,A6];have fin:BT (X:=Bool×(Int×Bool×A1×Int×List AG×D)×(Int×Bool×A1×Int×List AG×D)×(A1×Int×D)×Bool×D) (λj7=>
    (if(!j7.2.2.2.2.1) then
    I ((j7.2.1,A0,()),())
    else
    (if j7.1 then
    (Pt (j7.2.2.2.1,())).bind λr12=>
    I (((j7.2.1.1,j7.2.1.2.1,r12.1.1.1,r12.1.1.2.1,j7.2.1.2.2.2.2),Y,()),())
    else
    I (((j7.2.1.1,j7.2.1.2.1,j7.2.2.2.1.1,j7.2.2.2.1.2.1,j7.2.1.2.2.2.2),Y,()),())))) (I<|.inr (f,tKp k,(0,A0,noB,0,[],()),((D1 st k.log k.fo r).1,(D1 st k.log k.fo r).2,()),Y,()))=
    I ((tKp<|if f then foM (wrM k r) else wrM k r,Y,()),()):=by
   rw[Bg,hwr];cases f
   .rfl
   .simp only[AB,A4,A2,hF,A6];rfl
  rcases(TZ h hc).2 with ha|⟨ha,hb,hd⟩
  .rw[ha];simp only[AB,A4];exact fin
  .rw[ha];simp only[AH,A2,zQ hsm,hk,A6];rw[show S9 ((k.log,k.fo,()),CF st,())=_ from xz hs hrl,hb];simp only[A6];rw[show SF ((D8<|CF st,((D8<|CF st).size:Int),()),r,())=_ from zz J hr,hd];simp only[A6];exact fin
def XY{k:A7}{st:AE}(h:Hz k st){r:A1}(hr:r.size<=1048576):OE (tKp k,r,())=I ((tKp (wrR k r A0).1,(wrR k r A0).2,()),()):=by
 have hs:=h.sz;have hk:=h.kok;have hsm:=QZ<|Bz hk;have hrl:=ZA hk;have hpz:=QS hk;unfold OE wrR;rw[h.stT];simp only[Q2 hs,h.st,A6,D4,apF hk hr,aFm];cases hc:BK st r with
 | none=>rfl
 | some o=>
  have hwr:wrM k r=⟨k.id,k.up,(D1 st k.log k.fo r).1,(D1 st k.log k.fo r).2,k.AJ⟩:=by unfold wrM;rw[h.stT]
  simp only[DC,AB,A4,zo hs hr,A6];rcases(TZ h hc).2 with ha|⟨ha,hb,hd⟩
  .rw[ha];simp only[AB,A4,Bg,hwr]
  .rw[ha];simp only[AH,A2,zr hsm,hk,A6];rw[show SD ((k.log,k.fo,()),CF st,())=_ from z8 hs hrl,hb];simp only[A6,AB,A4];rw[show SM ((D8<|CF st,((D8<|CF st).size:Int),()),r,())=_ from zo J hr,hd];simp only[A6,Bg,AB,A4,hwr]
def iV{k:A7}(h:DI k.log k.fo=Y):OA (tKp k,())=I ((tKp<|foM k,()),()):=by
 have hs:k.log.size<=1048576:=by have:=Sk h;omega
 unfold OA;simp only[agr hs,A6];unfold K8;rw[A5 h];rfl
def aag{k:A7}{st o:AE}{r:A1}(h:Hz k st)(hr:BK st r=I o):DI (wrM k r).log (wrM k r).fo=Y:=by
 have:=(TZ h hr).1;unfold wrM;rw[h.stT];exact this
def gj{k:A7}{st:AE}(h:DH k st){r:A1}(hr:r.size<=1048576):O5 (tKp k,r,())=I ((tKp (wrR k r Y).1,(wrR k r Y).2,()),()):=by
 have hl:=h.LR;unfold O5;simp only[XY hl hr,A6];unfold wrR;rw[hl.stT];cases hc:BK st r with
 | none=>
  simp only[AH,A2,Kd<|D9 h.ok,A6]
 | some o=>
  simp only[AB,A4,A2];rw[iV<|aag hl hc];simp only[A6];have hsm:FK (foM<|wrM k r):=D9 (Qn<|Om h hc).ok;rw[show I2 (tKp<|foM<|wrM k r,())=_ from Kd hsm];rfl
abbrev zKp:A7:=⟨0,A0,noB,0,[]⟩
abbrev zN:A3:=⟨0,0,0,0,noB⟩
abbrev tN(n:A3):Int×Int×Int×Int×A1×D:=(n.fr,n.nu,n.to,n.un,n.tx,())
def QX{k:A7}(h:Ae k=Y):k.log.size<=1048576:=(D9 h).1
def OG{k:A7}(h:Ae k=Y):GC (tKp k,())=I ((tK<|stT k,Y,()),()):=by
 have:=lS (id:=k.id) (fo:=k.fo) (up:=k.up) (hv:=k.AJ)<|QX h;rw[(Dk h).st]at this;exact this
def La{k:A7}(h:Ae k=Y):Gw (tKp k,())=I ((tK<|stT k,()),()):=by
 unfold Gw;rw[Jn<|D9 h];simp only[A6,h,AB,A4];rw[show Jl (k.id,k.log,())=_ from Q2<|QX h,(Dk h).st];rfl
def aX{w:A1}{n:A3}(hw:w.size<=10)(hn:Ax n=Y):(w++wr n).size<=1048576:=by
 have:=RI hn;rw[C2];omega
def FR(k:A7):A7×Bool:=if k.up then wrR k (Fe<|(stT k).ti+1) Y else(k,A0)
def at1{st:AE}(hk:Av st=Y)(h:999<=st.ti):BK st (Fe<|st.ti+1)=G:=by
 have hf:=Bz hk;have h1:=hf.t1;cases hc:BK st (Fe<|st.ti+1) with
 | none=>rfl
 | some o=>
  exfalso;obtain⟨a,b⟩:=(I4 hk).1 hc;rw[I8 ld<|YS _]at a;have c:=lD (k:=st) (t:=st.ti+1) (by have:=hf.t0;omega) J J;rw[show B [116,105,109,101]=E8 from rfl,c]at a;injection a with a;have:=(Bz b).t1;rw[← a]at this;simp only at this;omega
def aDW{t:Int}(h0:0<=t)(h1:t<=1000):(Fe t).size<=100:=by
 unfold Fe;have:=Oc h0 4 J J;rw[C2,BQ];simp;omega
def agV{k:A7}(h:Ae k=Y):Vf (tKp k,())=I ((tKp (FR k).1,(FR k).2,()),()):=by
 have hk:=C0 h;have hf:=Bz hk.kok;have t0:=hf.t0;have t1:=hf.t1;have hz:=aDW (t:=(stT k).ti+1) J J;have hd:=Oc (n:=(stT k).ti+1) J 4 J J;unfold Vf FR;rw[Li<|D9 h];simp only[A6,h,AB,A4,OG h,Mh<|D9 h];obtain e|e:=tf k.up
 .simp only[e,AB,Bk,A2];rw[AZ J J,Fs J J];simp only[A6];by_cases hc:999<=(stT k).ti
  .rw[A5<|AU hc];unfold wrR;rw[at1 hk.kok hc]
  .rw[A9 (by rw[BG hc];exact CW),A5<|AU (by rw[BQ];simp;omega)];rw[show Kb (tKp k,B [116,105,109,101,32]++BY ((stT k).ti+1),Y,())=_ from WN hk.LR (r:=Fe<|(stT k).ti+1) J Y];rfl
 .simp only[e,AH,Bs,A2,A4]
def agu{k:A7}(h:Ae k=Y):Va (tKp k,())=I ((tKp (FR k).1,(FR k).2,()),()):=by
 have hk:=C0 h;have hf:=Bz hk.kok;have t0:=hf.t0;have t1:=hf.t1;have hz:=aDW (t:=(stT k).ti+1) J J;have hd:=Oc (n:=(stT k).ti+1) J 4 J J;unfold Va FR;rw[Jn<|D9 h];simp only[A6,h,AB,A4,La h,Kd<|D9 h];obtain e|e:=tf k.up
 .simp only[e,AB,A4,A2];rw[AZ J J,JH J J];simp only[A6];rw[A5<|AU (by rw[BQ];simp;omega)];rw[show O5 (tKp k,B [116,105,109,101,32]++BY ((stT k).ti+1),())=_ from gj hk (r:=Fe<|(stT k).ti+1) J];rfl
 .simp only[e,AH,A2,A4]
def Ky(n:A3):A1:=B [111,119,110,32]++wr n
def Dt(k:A7)(tt un:Int)(tx:A1):A7×Int:=
 if k.up&&Ax ⟨k.id,(stT k).nx,tt,un,tx⟩ then
  ((wrR k (Ky ⟨k.id,(stT k).nx,tt,un,tx⟩) Y).1,if(wrR k (Ky ⟨k.id,(stT k).nx,tt,un,tx⟩) Y).2 then(stT k).nx else 0)
 else(k,0)
def px{n:A3}:wr n≠noB:=by
 intro h;have h1:(wr n).size=0:=by rw[h];rfl
 unfold wr at h1;simp only[C2,BQ,Bf,CK]at h1;omega
def aDT:DK (B [])=G:=by
 unfold DK;split
 .rename_i h;obtain⟨n,_,h⟩:=h;exact absurd h px
 .rfl
def aHA:CY [111,119,110]:=by unfold CY;decide
def lh:CY [116,97,107,101]:=by unfold CY;decide
def aEP{st:AE}{w:List UInt8}(hk:Av st=Y)(hw:CY w)(h:B w=Df\/B w=EW):BK st (B (w++[32])++noB)=G:=by
 cases hc:BK st (B (w++[32])++noB) with
 | none=>rfl
 | some o=>
  exfalso;obtain⟨a,_⟩:=(I4 hk).1 hc;rw[I8 (w:=w) (r:=[]) hw (by rw[GP,L_B];simp[L,noB])]at a;have h2:∀v,v=Df\/v=EW->Bb st v (B [])=G:=by
   rintro v (rfl|rfl)
   .unfold Bb;rw[A9 aIm,A5 aIm,aDT]
   .unfold Bb;rw[A9 aIm,A5 aIm,aDT]
  rw[h2 _ h]at a;cases a
def aGX{k:A7}{r:A1}{f:Bool}(h:BK (stT k) r=G):wrR k r f=(k,A0):=by
 unfold wrR;rw[h]
def Qb{k:A7}{r:A1}{f:Bool}(h:(wrR k r f).2=A0):(wrR k r f).1=k:=by
 unfold wrR at h ⊢;split at h
 .rfl
 .cases h
def ahv{k:A7}(h:Ae k=Y)(tt un:Int){tx:A1}(ht:tx.size<=1048576):Vq (tKp k,tt,un,tx,())=I ((tKp (Dt k tt un tx).1,(Dt k tt un tx).2,()),()):=by
 have hk:=C0 h;unfold Vq Dt;rw[Li<|D9 h];simp only[A6,h,AB,A4,OG h,Mh<|D9 h,Vp ht];obtain e|e:=tf k.up
 .rcases tf (Ax ⟨k.id,(stT k).nx,tt,un,tx⟩) with e2|e2
  .have hz:=aX (w:=B [111,119,110,32]) (by rw[BQ];decide) e2;simp only[e,e2,AB,Bk,EB,A2];rw[A9 (by rw[BG px];exact CW),A5<|AU (by rw[C2]at hz;omega)];rw[show Kb (tKp k,B [111,119,110,32]++wr ⟨k.id,(stT k).nx,tt,un,tx⟩,Y,())=_ from WN hk.LR (r:=Ky ⟨k.id,(stT k).nx,tt,un,tx⟩) hz Y];simp only[A6];obtain e3|e3:=tf (wrR k (Ky ⟨k.id,(stT k).nx,tt,un,tx⟩) Y).2
   .simp only[e3,AB,A4,A2]
   .simp only[e3,AH,A4,A2,Qb e3]
  .simp only[e,e2,AB,Bk,Ba,A4,AW,A2]
 .simp only[e,AH,Bs,AL,A2,A4]
def aij{k:A7}(h:Ae k=Y)(tt un:Int){tx:A1}(ht:tx.size<=1048576):Vy (tKp k,tt,un,tx,())=I ((tKp (Dt k tt un tx).1,(Dt k tt un tx).2,()),()):=by
 have hk:=C0 h;unfold Vy Dt;rw[Jn<|D9 h];simp only[A6,h,AB,A4,La h,Kd<|D9 h,Vw ht];obtain e|e:=tf k.up
 .rcases tf (Ax ⟨k.id,(stT k).nx,tt,un,tx⟩) with e2|e2
  .have hz:=aX (w:=B [111,119,110,32]) (by rw[BQ];decide) e2;simp only[e,e2,AB,A4,EB,A2];rw[A5<|AU (by rw[C2]at hz;omega)];rw[show O5 (tKp k,B [111,119,110,32]++wr ⟨k.id,(stT k).nx,tt,un,tx⟩,())=_ from gj hk (r:=Ky ⟨k.id,(stT k).nx,tt,un,tx⟩) hz];simp only[A6];obtain e3|e3:=tf (wrR k (Ky ⟨k.id,(stT k).nx,tt,un,tx⟩) Y).2
   .simp only[e3,AB,A4,A2]
   .simp only[e3,AH,A4,A2]
  .simp only[e,e2,AB,A4,Ba];have hb:BK (stT k) (B [111,119,110,32]++noB)=G:=aEP hk.kok aHA<|.inl rfl;have hz0:(B [111,119,110,32]++noB).size<=1048576:=by rw[C2,BQ];show 4+0<=1048576;omega
   have hl:=gj hk (r:=B [111,119,110,32]++noB) hz0;rw[aGX hb]at hl;rw[A5<|AU (show(B [111,119,110,32]).size+noB.size<=4611686018427387904 by rw[BQ];show 4+0<=4611686018427387904;omega),hl];rfl
 .simp only[e,AH,AL,A2,A4]
def DZ(k:A7)(fr nu:Int):A7×A3×Bool:=
 if k.up&& !decide (AY (stT k).inbox fr nu<0) then
  ((wrR k (CX CM fr nu (nA (stT k).inbox (AY (stT k).inbox fr nu).toNat).un) Y).1,
   (if(wrR k (CX CM fr nu (nA (stT k).inbox (AY (stT k).inbox fr nu).toNat).un) Y).2 then nA (stT k).inbox (AY (stT k).inbox fr nu).toNat else zN),
   (wrR k (CX CM fr nu (nA (stT k).inbox (AY (stT k).inbox fr nu).toNat).un) Y).2)
 else(k,zN,A0)
def RG(l:List A3)(i:Int): @rd A3 y5 l i=nA l i.toNat:=rfl
def Sr{n:A3}(h:Ax n=Y):(0<=n.fr/\n.fr<=999)/\(0<=n.nu/\n.nu<=999)/\(0<=n.un/\n.un<=999)/\isN n.fr=Y/\isN n.to=Y/\inB n.nu 1 99=Y/\inB n.un 1 999=Y/\n.tx.size<=24/\1<=n.tx.size:=by
 unfold Ax at h;simp only[AD]at h;obtain⟨a,b,c,d,e⟩:=h;have a1:=Aa.1 a;have c1:=Aa.1 c;have d1:=Aa.1 d;unfold LG at e;rw[AD]at e;have e1:=Aa.1 e.1;exact⟨J,J,J,a,b,c,d,J,J⟩
def YC{w:A1}{a b c:Int}(hw:w.size<=10)(ha:0<=a/\a<=999)(hb:0<=b/\b<=999)(hc:0<=c/\c<=999):(CX w a b c).size<=100:=by
 have h1:=HP ha.1 ha.2;have h2:=HP hb.1 hb.2;have h3:=HP hc.1 hc.2;unfold CX;simp only[C2,BQ,Bf,CK];omega
def aCP{a b c:Int}(ha:0<=a/\a<=999)(hb:0<=b/\b<=999)(hc:0<=c/\c<=999):WO (a,b,c,())=I ((((((BY a++B [32])++BY b)++B [32])++BY c),()),()):=by
 have h1:=HP ha.1 ha.2;have h2:=HP hb.1 hb.2;have h3:=HP hc.1 hc.2;unfold WO;simp only[Fs (n:=a) J J,Fs (n:=b) J J,Fs (n:=c) J J,A6];rw[A5<|AU (by simp only[C2,BQ,Bf,CK];omega),A5<|AU (by simp only[C2,BQ,Bf,CK];omega),A5<|AU (by simp only[C2,BQ,Bf,CK];omega),A5<|AU (by simp only[C2,BQ,Bf,CK];omega)]
def Xw(w:List UInt8)(a b c:Int):B (w++[32])++((((BY a++B [32])++BY b)++B [32])++BY c)=CX (B w) a b c:=by
 apply G5;unfold CX;simp only[GP,L_B,C5]
def ahx{k:A7}(h:Ae k=Y)(fr nu:Int):Vs (tKp k,fr,nu,())=I ((tKp (DZ k fr nu).1,tN (DZ k fr nu).2.1,(DZ k fr nu).2.2,()),()):=by
 have hk:=C0 h;have hf:=Bz hk.kok;have il:=hf.il;unfold Vs DZ;rw[Li<|D9 h];simp only[A6,h,AB,A4,OG h,Mh<|D9 h,Jk (l:=(stT k).inbox)<|show(stT k).inbox.length<=1048576 by omega];obtain e|e:=tf k.up
 .by_cases hi:AY (stT k).inbox fr nu<0
  .simp only[e,AB,Bk,AU hi,A2,Ba,A4]
  .have hi':0<=AY (stT k).inbox fr nu:=J
   obtain⟨i1,i2,i3,i4⟩:=FB hi';have hn:=H8 hf.i i1;obtain⟨r1,r2,r3,_⟩:=Sr hn;rw[i3]at r1;rw[i4]at r2;have hz:=YC (w:=CM) aIm r1 r2 r3;have hl:=WN hk.LR (r:=CX CM fr nu (nA (stT k).inbox (AY (stT k).inbox fr nu).toNat).un) J Y;simp only[e,AB,Bk,BG hi,A4,AH,EB,A2,My hi',RG,aCP r1 r2 r3,A6];rw[A5<|AU (by rw[← Xw [101,97,116]]at hz;rw[C2]at hz;rw[show(B [101,97,116,32]).size=(B<|[101,97,116]++[32]).size from rfl];omega)];rw[show(B [101,97,116,32])=B ([101,97,116]++[32]) from rfl,Xw [101,97,116],hl];simp only[A6];obtain e3|e3:=tf (wrR k (CX CM fr nu (nA (stT k).inbox (AY (stT k).inbox fr nu).toNat).un) Y).2
   .simp only[e3,AB,A4,A2]
   .simp only[e3,AH,A4,A2,Qb e3]
 .simp only[e,AH,Bs,AL,A2,A4]
def ail{k:A7}(h:Ae k=Y)(fr nu:Int):W0 (tKp k,fr,nu,())=I ((tKp (DZ k fr nu).1,tN (DZ k fr nu).2.1,(DZ k fr nu).2.2,()),()):=by
 have hk:=C0 h;have hf:=Bz hk.kok;have il:=hf.il;unfold W0 DZ;rw[Jn<|D9 h];simp only[A6,h,AB,A4,La h,Kd<|D9 h,Jq (l:=(stT k).inbox)<|show(stT k).inbox.length<=1048576 by omega];obtain e|e:=tf k.up
 .by_cases hi:AY (stT k).inbox fr nu<0
  .simp only[e,AB,Bk,AU hi,A2,Ba,A4]
  .have hi':0<=AY (stT k).inbox fr nu:=J
   obtain⟨i1,i2,i3,i4⟩:=FB hi';have hn:=H8 hf.i i1;obtain⟨r1,r2,r3,_⟩:=Sr hn;rw[i3]at r1;rw[i4]at r2;have hz:=YC (w:=CM) aIm r1 r2 r3;have hl:=gj hk (r:=CX CM fr nu (nA (stT k).inbox (AY (stT k).inbox fr nu).toNat).un) J;simp only[e,AB,Bk,BG hi,A4,AH,EB,A2,My hi',RG,uZ (w:=CM) aIm r1 r2 r3,A6,hl];obtain e3|e3:=tf (wrR k (CX CM fr nu (nA (stT k).inbox (AY (stT k).inbox fr nu).toNat).un) Y).2
   .simp only[e3,AB,A4,A2]
   .simp only[e3,AH,A4,A2]
 .simp only[e,AH,Bs,AL,A2,A4]
def EI(k:A7)(fr nu mix:Int):Frame×Bool:=
 if k.up&&(!decide (AY (stT k).held fr nu<0)&&inB mix 0 999) then
  let n:=nA (stT k).held (AY (stT k).held fr nu).toNat
  (⟨1,k.id,BW k.id n.to,n.fr,n.nu,n.to,n.un,n.tx.size,mix,GN n.tx mix⟩,Y)
 else(zF,A0)
def ahw{k:A7}(sm:FK k)(fr nu mix:Int):Vr (tKp k,fr,nu,mix,())=I ((tF (if Ae k then EI k fr nu mix else(zF,A0)).1,(if Ae k then EI k fr nu mix else(zF,A0)).2,()),()):=by
 unfold Vr EI;rw[Li sm];obtain h|h:=tf (Ae k)
 .have hk:=C0 h;have hf:=Bz hk.kok;have hl:=hf.hl;obtain e|e:=tf k.up
  .simp only[A6,h,e,AB,GU,A4,A2,OG h,Jk (l:=(stT k).held)<|show(stT k).held.length<=1048576 by omega,I3,DC,D4,Ft];by_cases hi:AY (stT k).held fr nu<0
   .simp only[AU hi,Bs,A2,AB,AL,Ba,A4]
   .have hi':0<=AY (stT k).held fr nu:=J
    obtain e2|e2:=tf (inB mix 0 999)
    .simp only[BG hi,e2,AB,GU,A4,AH,EB,A2,My hi',RG,vQ,alB,A6]
    .simp only[BG hi,e2,AH,DS,A2,Ba,A4]
  .simp only[A6,h,e,AB,AH,DS,A2,AL,A4]
 .simp only[A6,h,AH,Bs,A2,A4]
def aik{k:A7}(sm:FK k)(fr nu mix:Int):Vz (tKp k,fr,nu,mix,())=I ((tF (if Ae k then EI k fr nu mix else(zF,A0)).1,(if Ae k then EI k fr nu mix else(zF,A0)).2,()),()):=by
 unfold Vz EI;rw[Jn sm];obtain h|h:=tf (Ae k)
 .have hk:=C0 h;have hf:=Bz hk.kok;have hl:=hf.hl;obtain e|e:=tf k.up
  .simp only[A6,h,e,AB,A4,A2,EO];obtain e2|e2:=tf (inB mix 0 999)
   .simp only[e2,AB,A4,La h,Jq (l:=(stT k).held)<|show(stT k).held.length<=1048576 by omega,A6];by_cases hi:AY (stT k).held fr nu<0
    .simp only[AU hi,A2,AB,AL,Ba,A4]
    .have hi':0<=AY (stT k).held fr nu:=J
     simp only[BG hi,A4,AH,EB,A2,My hi',RG,fv,aoD,A6]
   .simp only[e2,AH,A2,Ba,A4]
  .simp only[A6,h,e,AB,AH,A2,AL,A4]
 .simp only[A6,h,AH,A2,A4]
def FT(k:A7):A7×Bool:=if k.up then(pkM k,Y) else(k,A0)
def aax{k:A7}{st:AE}(h:Hz k st):JN k.log k.fo (CF st)=((D8<|CF st,((D8<|CF st).size:Int)),Y):=by
 have hrs:=XI h.kok;have hps:=QS h.kok;unfold JN;rw[A5 h.sh,A5];rw[AD];refine⟨?_,AU J⟩;unfold Fm;rw[Cy];exact λx hx=>by
  have:=hrs.1 x hx;exact Aa.2 J
def agX{k:A7}(h:Ae k=Y):Vh (tKp k,())=I ((tKp (FT k).1,(FT k).2,()),()):=by
 have hk:=C0 h;have hsm:=QZ<|Bz hk.kok;have hP:=xz (lg:=k.log) (fo:=k.fo) (rs:=CF<|stT k) (QX h)<|ZA hk.kok;rw[aax hk.LR]at hP;unfold Vh FT;rw[Li<|D9 h];simp only[A6,h,AB,A4,OG h,Mh<|D9 h,zQ hsm,hk.kok,A2,hP];obtain e|e:=tf k.up
 .simp only[e,AB,GU,A4,A2];unfold pkM;simp only[e]
 .simp only[e,AH,Bs,A2,A4]
def agw{k:A7}(h:Ae k=Y):Vc (tKp k,())=I ((tKp (FT k).1,(FT k).2,()),()):=by
 have hk:=C0 h;have hsm:=QZ<|Bz hk.kok;have hP:=z8 (lg:=k.log) (fo:=k.fo) (rs:=CF<|stT k) (QX h)<|ZA hk.kok;rw[aax hk.LR]at hP;unfold Vc FT;rw[Jn<|D9 h];simp only[A6,h,AB,A4,Kd<|D9 h];obtain e|e:=tf k.up
 .simp only[e,AB,A4,A2,La h,zr hsm,hk.kok,hP,A6];unfold pkM;simp only[e]
 .simp only[e,AH,A2,A4]
def FQ(k:A7):A7×Bool:=if k.up&& !decide (k.fo=(k.log.size:Int)) then(foM k,Y) else(k,A0)
def afP{k:A7}(h:Ae k=Y):VU (tKp k,())=I ((tKp (FQ k).1,(FQ k).2,()),()):=by
 have hf:=Dk h;have hF:=tj (lg:=k.log) (fo:=k.fo)<|QX h;rw[show K8 k.log k.fo=(k.log,(k.log.size:Int)) from A5 hf.sh]at hF;unfold VU FQ;rw[Li<|D9 h];simp only[A6,h,AB,A4,Mh<|D9 h];obtain e|e:=tf k.up<;>obtain e2|e2:=tfp (k.fo=(k.log.size:Int))<;>simp only[e,e2,AW,Ac,AB,AH,DS,Bs,GU,EB,Ba,AL,A2,A4,hF,A6];unfold foM;simp only[e]
def aew{k:A7}(h:Ae k=Y):VM (tKp k,())=I ((tKp (FQ k).1,(FQ k).2,()),()):=by
 have hf:=Dk h;unfold VM FQ;rw[Jn<|D9 h];simp only[A6,h,AB,A4,Kd<|D9 h];obtain e|e:=tf k.up<;>obtain e2|e2:=tfp (k.fo=(k.log.size:Int))<;>simp only[e,e2,AW,Ac,AB,AH,DS,Bs,GU,EB,Ba,AL,A2,A4];rw[show OA ((tKp k,()))=_ from iV hf.sh];rfl
def aHO{k:A7}(h:Ae k=Y)(keep:Int):(faM k keep)=⟨k.id,A0,(ME k.log k.fo keep).1,(ME k.log k.fo keep).2,[]⟩:=by
 unfold faM ME Ej;rw[A5 (Dk h).sh]
def agZ{k:A7}(sm:FK k)(keep:Int):Vk (tKp k,keep,())=I ((tKp<|if Ae k then faM k keep else zKp,()),()):=by
 unfold Vk;rw[Li sm];obtain h|h:=tf (Ae k)
 .simp only[A6,h,AB,A4,A2,aht sm.1,aHO h]
 .simp only[A6,h,AH,A2,A4]
def agx{k:A7}(sm:FK k)(keep:Int):Vd (tKp k,keep,())=I ((tKp<|if Ae k then faM k keep else zKp,()),()):=by
 unfold Vd;rw[Jn sm];obtain h|h:=tf (Ae k)
 .simp only[A6,h,AB,A4,A2,aie sm.1,aHO h]
 .simp only[A6,h,AH,A2,A4]
def aHS{k:A7}(h:Ae k=Y)(hu:k.up=A0):k.AJ=[]:=by
 rcases(Dk h).up with h1|h1
 .rw[hu]at h1;cases h1
 .exact Dz h1
def agW{k:A7}(h:Ae k=Y):Vg (tKp k,())=I ((tKp<|riM k,()),()):=by
 unfold Vg riM;rw[Li<|D9 h];simp only[A6,h,AB,A4];obtain e|e:=tf k.up
 .simp only[e,A2,Mh<|D9 h,A6];rw[← e]
 .simp only[e,A4,aHS h e]
def agv{k:A7}(h:Ae k=Y):Vb (tKp k,())=I ((tKp<|riM k,()),()):=by
 unfold Vb riM;rw[Jn<|D9 h];simp only[A6,h,AB,A4,Kd<|D9 h]
def abC{hv:List AG}{i:Nat}(h:i<hv.length)(x:AG):hA (hv.set i x) i=x:=by
 rw[hA,BA,aB h];rfl
def al5{l:List AG}{f n:Int}(hl:l.length<=1048576):gX (l,f,n,())=I ((EH l f n,()),()):=by
 have h:tI (l,f,n,0,())=I (if EH l f n<0 then .inr () else .inl (EH l f n,())):=
  QH (λi=>(l,f,n,(i:Int),())) l.length (λi=>U ((hA l i).fr=f)&&U ((hA l i).nu=n)) (λi=>(i,())) () (λi hi=>by
   unfold gD;simp only[Ic hi,AR hi,A2,MD,Ft,Dd hi hl];obtain e|e:=tfp ((hA l i).fr=f)<;>obtain e2|e2:=tfp ((hA l i).nu=n)<;>simp only[e,e2,AW,Ac,EB,Ba,AL,A2,A4]) (by
   unfold gD;simp only[H9,A4])
 unfold gX;rw[h];by_cases e':EH l f n<0
 .have:EH l f n= -1:=by
   obtain h|⟨i,h,_⟩:=GD l.length (λi=>U ((hA l i).fr=f)&&U ((hA l i).nu=n))
   .exact h.1
   .have:EH l f n=(i:Int):=h;omega
  rw[A5 e',this];rfl
 .rw[A9 e'];rfl
def So(l:List AG)(f n:Int):EH l f n<0\/ ∃i:Nat,EH l f n=(i:Int)/\i<l.length/\(hA l i).fr=f/\(hA l i).nu=n:=by
 obtain h|⟨i,h,h2,h3,_⟩:=GD l.length (λi=>U ((hA l i).fr=f)&&U ((hA l i).nu=n))
 .left;have:EH l f n= -1:=h.1;omega
 .right;rw[AD]at h3;exact⟨i,h,h2,BZ h3.1,BZ h3.2⟩
def Aq(hv:List AG)(f:Frame):List AG×Nat:=
 if EH hv f.fr f.nu<0 then((if 3<=hv.length then hv.drop 1 else hv)++[⟨f.fr,f.nu,f.to,f.un,f.sz,[]⟩],(if 3<=hv.length then hv.drop 1 else hv).length)
 else(hv,(EH hv f.fr f.nu).toNat)
def Og{hv:List AG}{f:Frame}:(Aq hv f).2<(Aq hv f).1.length:=by
 unfold Aq;obtain h|⟨i,h1,h2,_⟩:=So hv f.fr f.nu
 .rw[A5 h];simp
 .rw[A9 J];show(EH hv f.fr f.nu).toNat<hv.length;omega
def TP{hv:List AG}{f:Frame}(h:hv.length<=3):(Aq hv f).1.length<=3:=by
 unfold Aq;split
 .simp only[Aw,JU];split
  .rw[EJ];omega
  .omega
 .exact h
def Dp(mix:Int)(m:AQ):Bool:= !decide (m.nu=mix)
def Cu(got:List AQ)(mix:Int)(da:A1):List AQ:=
 (if 14<=(got.filter<|Dp mix).length then(got.filter<|Dp mix).drop 1 else got.filter (Dp mix))++[⟨mix,da⟩]
def aFP{p:AQ->Bool}(pre:List AQ)(m:AQ):(pre++[m]).filter p=pre.filter p++if p m then [m] else []:=by
 rw[RA];congr 1;simp only[KG,aJ]
def aqT{mix:Int}{da:A1}(post:List AQ):∀(pre:List AQ),(pre++post).length<=1048576->
  fl ((mix,da,()),pre.filter<|Dp mix,pre++post,((pre++post).length:Int),(j8 pre:Int),())=I (.inr ((mix,da,()),(pre++post).filter<|Dp mix,())):=by
 induction post with
 | nil=>
  intro pre _;refine BF ?_;unfold XM;simp only[CP,H9,A4]
 | cons m post ih=>
  intro pre hl;have hlen:pre.length<(pre++m::post).length:=by simp
  have hw:=Dd hlen hl;have hf:(pre.filter<|Dp mix).length<=pre.length:=Ix _ _;have:=ih (pre++[m]) (by rw[← snoc];exact hl);rw[← snoc]at this;refine As ?_ this;unfold XM;simp only[Ic hlen,A2,AR hlen,MC,hw,aFP,@Aw _ pre [m],JU];obtain e|e:=tfp (m.nu=mix)
  .have:Dp mix m=A0:=by unfold Dp;simp only[e,AW,AB]
   simp only[e,this,AW,AB,A4,CP]
  .have:Dp mix m=Y:=by unfold Dp;simp only[e,Ac,AH]
   simp only[e,this,Ac,AH,A2];rw[A5<|BD (by simp at hl ⊢; omega)]
def ar0{got:List AQ}{mix:Int}{da:A1}(hl:got.length<=1048576):Xh (got,(mix,da,()),())=I ((Cu got mix da,()),()):=by
 have hf:(got.filter<|Dp mix).length<=got.length:=Ix _ _;unfold Xh Cu;rw[show fl ((mix,da,()),[],got,(j8 got:Int),0,())=_ from aqT got [] hl];simp only[AN,A6,Eb];by_cases h:14<=(got.filter<|Dp mix).length
 .rw[A5<|AU J,A5 h,A5 y8,A5<|Fw (by rw[EJ];omega) aIg];rfl
 .rw[A9 (by rw[BG J];exact CW),A9 h,A5<|Fw J aIg]
def aqE{k:Int×Bool×A1×Int×List AG×D}{f:Frame}{z:Int×Bool×A1×Int×List AG×D}{i:Int}{h:AG}(post:List AQ):∀(pre:List AQ),h.got=pre++post->(pre++post).length<=1048576->
  dh (k,tF f,z,i,(h.fr,h.nu,h.to,h.un,h.sz,h.got,()),pre.filter<|Dp f.mix,(j8 pre:Int),())=I (.inr (k,tF f,z,i,(h.fr,h.nu,h.to,h.un,h.sz,h.got,()),h.got.filter<|Dp f.mix,())):=by
 induction post with
 | nil=>
  intro pre hg _;rw[CP]at hg;refine BF ?_;unfold gY;simp only[hg,H9,A4]
 | cons m post ih=>
  intro pre hg hl;have hlen:pre.length<(pre++m::post).length:=by simp
  have hw:=Dd hlen hl;have hf:(pre.filter<|Dp f.mix).length<=pre.length:=Ix _ _;have:=ih (pre++[m]) (by rw[hg,snoc]) (by rw[← snoc];exact hl);refine As ?_ this;unfold gY;simp only[hg,Ic hlen,A2,AR hlen,MC,hw,aFP,@Aw _ pre [m],JU];obtain e|e:=tfp (m.nu=f.mix)
  .have:Dp f.mix m=A0:=by unfold Dp;simp only[e,AW,AB]
   simp only[e,this,AW,AB,A4,CP]
  .have:Dp f.mix m=Y:=by unfold Dp;simp only[e,Ac,AH]
   simp only[e,this,Ac,AH,A2];rw[A5<|BD (by simp at hl ⊢; omega)]
def FF(hv:List AG)(i:Nat):List AG:=hv.take i++hv.drop (i+1)
def aAB{hv:List AG}{i:Nat}(hi:i<hv.length)(hl:hv.length<=1048576):Q0 (hv,(i:Int),())=I ((FF hv i,()),()):=by
 unfold Q0 FF;simp only[BV,Eb];rw[Dd hi hl,A5 y8,A5<|Fw (l:=([]:List AG)) aIg y8,A5 y8,A5<|Fw y8 y8,BV]
def D3(hv:List AG)(i:Nat)(f:Frame):List AG:=hv.set i ⟨(hA hv i).fr,(hA hv i).nu,(hA hv i).to,(hA hv i).un,(hA hv i).sz,Cu (hA hv i).got f.mix f.da⟩
def MA(h:AG)(f:Frame):Bool:=U (h.to=f.to)&&(U (h.un=f.un)&&U (h.sz=f.sz))
def aoZ{k:A7}(sm:FK k)(h3:k.AJ.length<=3)(f:Frame):
  iK (tKp k,tF f,())=I ((if MA (hA (Aq k.AJ f).1 (Aq k.AJ f).2) f then((k.id,k.up,k.log,k.fo,D3 (Aq k.AJ f).1 (Aq k.AJ f).2 f,()),((Aq k.AJ f).2:Int),()) else((k.id,k.up,k.log,k.fo,(Aq k.AJ f).1,()),-1,()),())):=by
 obtain⟨id,up,lg,fo,hv⟩:=k;obtain⟨sl,hl,hs⟩:=sm;simp only at sl hl hs h3;unfold iK;simp only[al5 hl,A6];have Ep:=Og (hv:=hv) (f:=f);have LP:=TP (hv:=hv) (f:=f) h3;have V7:(hA (Aq hv f).1 (Aq hv f).2).got.length<=1048576:=by
  unfold Aq;obtain h|⟨i,h1,h2,_⟩:=So hv f.fr f.nu
  .rw[A5 h];simp only;rw[hA,BA,FU<|Au _];simp
  .rw[A9 J];show(hA hv (EH hv f.fr f.nu).toNat).got.length<=1048576;rw[h1,BV,IG h2];exact(hs _<|CU h2).1
 have qb:∀ {Ω:Type} (F:(Int×Bool×A1×Int×List AG×D)×(Int×Int×Int×Int×Int×Int×Int×Int×Int×A1×D)×(Int×Bool×A1×Int×List AG×D)×Int×D->Option Ω),
   BT F ((if(U<|EH hv f.fr f.nu<0) then
    (BT (X:=(Int×Bool×A1×Int×List AG×D)×(Int×Int×Int×Int×Int×Int×Int×Int×Int×A1×D)×(Int×Bool×A1×Int×List AG×D)×D) (λj7=>
    (if Ab (j7.1.2.2.2.2.1.length+([(AG.mk j7.2.1.2.2.2.1 j7.2.1.2.2.2.2.1 j7.2.1.2.2.2.2.2.1 j7.2.1.2.2.2.2.2.2.1 j7.2.1.2.2.2.2.2.2.2.1 ([]:List AQ))]:List AG).length) then
    let v9:=(w64<|((j7.1.2.2.2.2.1++([(AG.mk j7.2.1.2.2.2.1 j7.2.1.2.2.2.2.1 j7.2.1.2.2.2.2.2.1 j7.2.1.2.2.2.2.2.2.1 j7.2.1.2.2.2.2.2.2.2.1 ([]:List AQ))]:List AG)).length:Int) - 1)
    I (.inr ((j7.1.1,j7.1.2.1,j7.1.2.2.1,j7.1.2.2.2.1,(j7.1.2.2.2.2.1++([(AG.mk j7.2.1.2.2.2.1 j7.2.1.2.2.2.2.1 j7.2.1.2.2.2.2.2.1 j7.2.1.2.2.2.2.2.2.1 j7.2.1.2.2.2.2.2.2.2.1 ([]:List AQ))]:List AG)),()),j7.2.1,j7.2.2.1,v9,()))
    else G))
    ((if(U<|3<=(j8 hv:Int)) then
    (Q0 (hv,0,())).bind λr8=>
    I (.inr ((id,up,lg,fo,r8.1),tF f,(0,A0,noB,0,([]:List AG),()),()))
    else
    I (.inr ((id,up,lg,fo,hv,()),tF f,(0,A0,noB,0,([]:List AG),()),())))))
    else
    I (.inr ((id,up,lg,fo,hv,()),tF f,(0,A0,noB,0,([]:List AG),()),(EH hv f.fr f.nu,())))))=F ((id,up,lg,fo,(Aq hv f).1,()),tF f,(0,A0,noB,0,[],()),((Aq hv f).2:Int),()):=by
  intro Ω F;unfold Aq;obtain h|⟨i,h1,h2,_⟩:=So hv f.fr f.nu
  .rw[A5<|AU h,A5 h];by_cases h4:3<=hv.length
   .have hd:=aAB (hv:=hv) (i:=0) J hl;rw[A5<|AU J,show Q0 (hv,0,())=_ from hd];simp only[A6,Bg,A5 h4];rw[show FF hv 0=hv.drop 1 from by simp[FF],A5<|Fw y8 aIg,Bg,AZ (by first|(simp;done)|(simp;omega)) (by first|(simp;done)|(simp;omega))];congr 1;simp
   .rw[A9 (by rw[BG J];exact CW)];simp only[Bg,A9 h4];rw[A5<|Fw J aIg,Bg,AZ (by first|(simp;done)|(simp;omega)) (by first|(simp;done)|(simp;omega))];congr 1;simp
  .rw[A9 (by rw[BG J];exact CW),A9 (J:¬EH hv f.fr f.nu<0),Bg];simp only;rw[h1,BV]
 rw[qb];revert Ep LP V7;generalize (Aq hv f).1=l;generalize (Aq hv f).2=i;intro Ep LP V7;unfold MA;have hff:((hA l i).got.filter<|Dp f.mix).length<=(hA l i).got.length:=Ix _ _;simp only[AR Ep,A2,MD,BV];obtain e1|e1:=tfp ((hA l i).to=f.to)<;>simp only[e1,AW,Ac,AB,AH,A4,A2,AS,AL];obtain e2|e2:=tfp ((hA l i).un=f.un)<;>simp only[e2,AW,Ac,AB,AH,A4,A2,AS,AL];obtain e3|e3:=tfp ((hA l i).sz=f.sz)<;>simp only[e3,AW,Ac,AB,AH,A4,A2];have hgo:=aqE (k:=(id,up,lg,fo,l,())) (f:=f) (z:=(0,A0,noB,0,[],())) (i:=(i:Int)) (h:=hA l i) (hA l i).got [] rfl V7;rw[show dh ((id,up,lg,fo,l,()),tF f,(0,A0,noB,0,[],()),(i:Int),((hA l i).fr,(hA l i).nu,(hA l i).to,(hA l i).un,(hA l i).sz,(hA l i).got,()),[],0,())=_ from hgo];simp only[AN,A6];unfold D3 Cu;by_cases h:14<=((hA l i).got.filter<|Dp f.mix).length
 .rw[A5<|AU J,A5 h,A5 y8,A5<|Fw (l:=([]:List AQ)) aIg (by rw[EJ];omega),Bg];simp only[Eb,show AM 1=1 from rfl];rw[A5<|Fw (by rw[EJ];omega) aIg,A5<|AR Ep];rfl
 .rw[A9 (by rw[BG J];exact CW),A9 h,Bg];dsimp only;rw[A5<|Fw J aIg,A5<|AR Ep];rfl
def Dh(kind:Int)(f:Frame):Frame:=⟨kind,f.dst,f.src,f.fr,f.nu,f.to,f.un,0,0,noB⟩
def JE(n:A3):A1:=B [116,97,107,101,32]++wr n
abbrev Gj(k:A7)(hv:List AG):A7:=⟨k.id,k.up,k.log,k.fo,hv⟩
def Jz(k:A7)(n:A3)(f:Frame):A7×List Frame:=
 if Ax n&&(wrR k (JE n) Y).2 then((wrR k (JE n) Y).1,[Dh 2 f]) else(k,[])
def JO(k:A7)(f:Frame):A7×List Frame:=
 if MA (hA (Aq k.AJ f).1 (Aq k.AJ f).2) f then
  (if(FC f.sz<|Cu (hA (Aq k.AJ f).1 (Aq k.AJ f).2).got f.mix f.da).2 then
   Jz (Gj k<|FF (D3 (Aq k.AJ f).1 (Aq k.AJ f).2 f) (Aq k.AJ f).2) ⟨f.fr,f.nu,f.to,f.un,(FC f.sz<|Cu (hA (Aq k.AJ f).1 (Aq k.AJ f).2).got f.mix f.da).1⟩ f
  else(Gj k<|D3 (Aq k.AJ f).1 (Aq k.AJ f).2 f,[]))
 else(Gj k (Aq k.AJ f).1,[])
def E6(k:A7)(f:Frame):A7×List Frame:=
 if f.un<=(stT k).ti then(k,[Dh 3 f])
 else if 0<=AY (stT k).held f.fr f.nu\/0<=Bp (stT k).marks f.fr f.nu then(foM k,[Dh 2 f])
 else if f.fr=k.id then(k,[])
 else JO k f
def aGK{s:Int}{l:List AQ}:(FC s l).1.size<=24:=by
 unfold FC;split
 .rename_i h;have h1:=Aa.1 h;split
  .exact D5 _
  .rename_i c hc;split
   .have hb:inB (B1 (s+3) 4) 1 6=Y:=by
     have hd:B1 (s+3) 4=(s+3) / 4:=HQ J;exact Aa.2 J
    have hk:=my hb l;have hz:=YO hk.all hc;have hz0:noB.size=0:=rfl;have hd:B1 (s+3) 4=(s+3) / 4:=HQ J;rw[hk.1,hz0]at hz;rw[Fv J];omega
   .exact D5 _
 .exact D5 _
def aG0(got:List AQ)(mix:Int)(da:A1):(Cu got mix da).length<=got.length+1:=by
 have hf:(got.filter<|Dp mix).length<=got.length:=Ix _ _;unfold Cu;simp only[Aw,JU];split
 .rw[EJ];omega
 .omega
def abb{h:AG}(ok:G1 h=Y):h.got.length<=14:=by
 unfold G1 at ok;simp only[AD]at ok;have h1:=BZ ok.2.2.2.2.2.1;omega
def aFD{hv:List AG}{f:Frame}(hs:∀h∈hv,G1 h=Y):(hA (Aq hv f).1 (Aq hv f).2).got.length<=14:=by
 unfold Aq;obtain h|⟨i,h1,h2,_⟩:=So hv f.fr f.nu
 .rw[A5 h];simp only;rw[hA,BA,FU<|Au _];simp
 .rw[A9 J];show(hA hv (EH hv f.fr f.nu).toNat).got.length<=14;rw[h1,BV,IG h2];exact abb<|hs _<|CU h2
def aGY{k:A7}{st:AE}(h:Hz k st)(hv:List AG):Hz (Gj k hv) st:=⟨h.sh,h.st⟩
def aFy{k:A7}(h:Ae k=Y):∀x∈k.AJ,G1 x=Y:=by
 intro x hx;obtain⟨i,hi,rfl⟩:=Oo hx;have:=(Dk h).hv i hi;unfold Fl at this;rw[AD]at this;exact this.1
def aqc{k:A7}(h:Ae k=Y){f:Frame}(hf:C1 f=Y)(h1:f.ki=1):W4 (tKp k,tF f,())=I ((tKp (E6 k f).1,(E6 k f).2,()),()):=by
 have hk:=C0 h;have hkf:=Bz hk.kok;have sm:=D9 h;have kf:=Dk h;have hF:=tj (lg:=k.log) (fo:=k.fo)<|QX h;rw[show K8 k.log k.fo=(k.log,(k.log.size:Int)) from A5 kf.sh]at hF;have hl:=hkf.hl;have ml:=hkf.ml;have hfr:inB f.sz 1 24=Y/\inB f.mix 0 999=Y:=by
  unfold C1 Jy at hf;simp only[AD]at hf;have:=hf.2.2.2.2.2.2;rw[A5<|AU h1]at this;simp only[AD]at this;exact⟨this.1,this.2.1⟩
 have hsz:=Aa.1 hfr.1;have hmx:Du (B1 (f.sz+3) 4) f.mix=Y:=by
  have hd:B1 (f.sz+3) 4=(f.sz+3) / 4:=HQ J;unfold Du;rw[hfr.2,LC];exact Aa.2 J
 unfold W4 E6;simp only[OG h,A6];by_cases c1:f.un<=(stT k).ti
 .rw[A5<|AU c1,A5 c1];rfl
 .rw[A9 (by rw[BG c1];exact CW),A9 c1];simp only[Jk (l:=(stT k).held)<|show(stT k).held.length<=1048576 by omega,SS (l:=(stT k).marks)<|show(stT k).marks.length<=1048576 by omega,A6,DC,D4,Ft,A2];by_cases c2:0<=AY (stT k).held f.fr f.nu\/0<=Bp (stT k).marks f.fr f.nu
  .rw[A5 (by rw[Bw];exact c2.imp AU AU),A5 c2];simp only[hF,A6];rfl
  .rw[A9 (by rw[Bw];exact λh=>c2<|h.imp BZ BZ),A9 c2];simp only[gB (n:=f.sz) J J,Xd,hmx,DC,D4,Ft,A2,AB,Ed];by_cases c3:f.fr=k.id
   .rw[A5<|AU c3,A5 c3]
   .rw[A9 (by rw[BG c3];exact CW),A9 c3];have nT:=aoZ sm kf.hl f;rw[nT];simp only[A6];unfold JO;obtain c4|c4:=tf (MA (hA (Aq k.AJ f).1 (Aq k.AJ f).2) f)
    .have Ep:=Og (hv:=k.AJ) (f:=f);have LP:=TP (hv:=k.AJ) (f:=f) kf.hl;have hal:(D3 (Aq k.AJ f).1 (Aq k.AJ f).2 f).length=(Aq k.AJ f).1.length:=by unfold D3;rw[Ga]
     have nN:=aFD (f:=f)<|aFy h;have hgl:=aG0 (hA (Aq k.AJ f).1 (Aq k.AJ f).2).got f.mix f.da;have V7:(hA (D3 (Aq k.AJ f).1 (Aq k.AJ f).2 f) (Aq k.AJ f).2).got=Cu (hA (Aq k.AJ f).1 (Aq k.AJ f).2).got f.mix f.da:=by
      unfold D3;rw[abC Ep]
     simp only[c4,A2];rw[A9 (by rw[BG J];exact CW),A5<|AR (by rw[hal];exact Ep)];simp only[MD,V7,al9 f.sz _<|show(Cu (hA (Aq k.AJ f).1 (Aq k.AJ f).2).got f.mix f.da).length<=1048576 by omega,A6];obtain c5|c5:=tf (FC f.sz<|Cu (hA (Aq k.AJ f).1 (Aq k.AJ f).2).got f.mix f.da).2
     .simp only[c5,AB,A4,A2];rw[aAB (by rw[hal];exact Ep) (by rw[hal];omega)];simp only[A6];rw[Vp (by have:=aGK (s:=f.sz) (l:=Cu (hA (Aq k.AJ f).1 (Aq k.AJ f).2).got f.mix f.da);omega)];simp only[A6];unfold Jz;generalize hn:(⟨f.fr,f.nu,f.to,f.un,(FC f.sz<|Cu (hA (Aq k.AJ f).1 (Aq k.AJ f).2).got f.mix f.da).1⟩:A3)=n;obtain c6|c6:=tf (Ax n)
      .have hz:=aX (w:=B [116,97,107,101,32]) (by rw[BQ];decide) c6;have hw:=WN (aGY hk.LR<|FF (D3 (Aq k.AJ f).1 (Aq k.AJ f).2 f) (Aq k.AJ f).2) (r:=JE n) hz Y;simp only[c6,A2,AS];rw[A9 (by rw[BG px];exact CW),A5<|AU (by rw[C2]at hz;omega)];rw[show Kb ((k.id,k.up,k.log,k.fo,FF (D3 (Aq k.AJ f).1 (Aq k.AJ f).2 f) (Aq k.AJ f).2,()),B [116,97,107,101,32]++wr n,Y,())=_ from hw];simp only[A6];obtain c7|c7:=tf (wrR (Gj k<|FF (D3 (Aq k.AJ f).1 (Aq k.AJ f).2 f) (Aq k.AJ f).2) (JE n) Y).2
       .simp only[c7,AB,A4,A2];rfl
       .simp only[c7,AH,A4,A2,Qb c7]
      .simp only[c6,A4,AW,A2,AL]
     .simp only[c5,AH,A4,A2]
    .simp only[c4,A4];rfl
def aiZ{k:A7}(h:Ae k=Y){f:Frame}:Vn (tKp k,tF f,())=I ((tKp (E6 k f).1,(E6 k f).2,()),()):=by
 have hk:=C0 h;have hkf:=Bz hk.kok;have sm:=D9 h;have kf:=Dk h;have hl:=hkf.hl;have ml:=hkf.ml;have hl3:=kf.hl;have hlen:k.AJ.length<=1048576:=J
 unfold Vn E6;simp only[La h,A6];by_cases c1:f.un<=(stT k).ti
 .rw[A5<|AU c1,A5 c1];rfl
 .rw[A9 (by rw[BG c1];exact CW),A9 c1];simp only[Jq (l:=(stT k).held)<|show(stT k).held.length<=1048576 by omega,Sc (l:=(stT k).marks)<|show(stT k).marks.length<=1048576 by omega,A6,DC,D4,Ft,A2];by_cases c2:0<=AY (stT k).held f.fr f.nu\/0<=Bp (stT k).marks f.fr f.nu
  .rw[A5 (by rw[Bw];exact c2.imp AU AU),A5 c2,iV kf.sh];rfl
  .rw[A9 (by rw[Bw];exact λh=>c2<|h.imp BZ BZ),A9 c2];by_cases c3:f.fr=k.id
   .rw[A5<|AU c3,A5 c3]
   .rw[A9 (by rw[BG c3];exact CW),A9 c3];simp only[aBX hlen,A6];have Ep:=Og (hv:=k.AJ) (f:=f);have LP:=TP (hv:=k.AJ) (f:=f) kf.hl;have nN:=aFD (f:=f)<|aFy h;have qb:∀ {Ω:Type} (F:(Int×Bool×A1×Int×List AG×D)×(Int×Int×Int×Int×Int×Int×Int×Int×Int×A1×D)×(Int×Bool×A1×Int×List AG×D)×Int×D->Option Ω),
      BT F ((if(U<|EH k.AJ f.fr f.nu<0) then
      (if Ab (k.AJ.length+([(AG.mk f.fr f.nu f.to f.un f.sz ([]:List AQ))]:List AG).length) then
      (if(U<|3<((k.AJ++([(AG.mk f.fr f.nu f.to f.un f.sz ([]:List AQ))]:List AG)).length:Int)) then
      (if(U (0<=1)&&U (1<=((k.AJ++([(AG.mk f.fr f.nu f.to f.un f.sz ([]:List AQ))]:List AG)).length:Int))) then
      let v22:=(w64<|((Br (AM 1)<|k.AJ++([(AG.mk f.fr f.nu f.to f.un f.sz ([]:List AQ))]:List AG)).length:Int) - 1)
      I (.inr ((k.id,k.up,k.log,k.fo,(Br (AM 1)<|k.AJ++([(AG.mk f.fr f.nu f.to f.un f.sz ([]:List AQ))]:List AG)),()),tF f,(0,A0,noB,0,([]:List AG),()),v22,()))
      else G)
      else
      let v23:=(w64<|((k.AJ++([(AG.mk f.fr f.nu f.to f.un f.sz ([]:List AQ))]:List AG)).length:Int) - 1)
      I (.inr ((k.id,k.up,k.log,k.fo,(k.AJ++([(AG.mk f.fr f.nu f.to f.un f.sz ([]:List AQ))]:List AG)),()),tF f,(0,A0,noB,0,([]:List AG),()),v23,())))
      else G)
      else
      I (.inr (tKp k,tF f,(0,A0,noB,0,([]:List AG),()),(EH k.AJ f.fr f.nu,())))))=F ((k.id,k.up,k.log,k.fo,(Aq k.AJ f).1,()),tF f,(0,A0,noB,0,[],()),((Aq k.AJ f).2:Int),()):=by
     intro Ω F;unfold Aq;obtain h|⟨i,h1,h2,_⟩:=So k.AJ f.fr f.nu
     .rw[A5<|AU h,A5 h,A5<|Fw hlen aIg];by_cases h4:3<=k.AJ.length
      .rw[A5<|AU y8,A5 y8,A5 h4];have e1:Br (AM 1) (k.AJ++[(⟨f.fr,f.nu,f.to,f.un,f.sz,[]⟩:AG)])=k.AJ.drop 1++[⟨f.fr,f.nu,f.to,f.un,f.sz,[]⟩]:=by
        show Br 1 _=_;rw[Tu J]
       simp only[e1];rw[Bg,AZ (by first|(simp;done)|(simp;omega)) (by first|(simp;done)|(simp;omega))];congr 1;simp
      .rw[A9 y8,A9 h4];simp only;rw[Bg,AZ (by first|(simp;done)|(simp;omega)) (by first|(simp;done)|(simp;omega))];congr 1;simp
     .rw[A9 (by rw[BG J];exact CW),A9 (J:¬EH k.AJ f.fr f.nu<0),Bg];simp only;rw[h1,BV]
    rw[qb];have hgl:=aG0 (hA (Aq k.AJ f).1 (Aq k.AJ f).2).got f.mix f.da;unfold JO;have hLg:=λhv=>aGY hk.LR hv;revert Ep LP nN hgl;generalize (Aq k.AJ f).1=l;generalize (Aq k.AJ f).2=i;intro Ep LP nN hgl;have alX:l.set i ⟨(hA l i).fr,(hA l i).nu,(hA l i).to,(hA l i).un,(hA l i).sz,Cu (hA l i).got f.mix f.da⟩=D3 l i f:=rfl;have hal:(D3 l i f).length=l.length:=by unfold D3;rw[Ga]
    have hat:hA (D3 l i f) i=⟨(hA l i).fr,(hA l i).nu,(hA l i).to,(hA l i).un,(hA l i).sz,Cu (hA l i).got f.mix f.da⟩:=abC Ep _;simp only[AR Ep,A2,MD,BV];unfold MA;obtain e1|e1:=tfp ((hA l i).to=f.to)<;>simp only[e1,AW,Ac,AB,AH,A4,A2,AS,AL];obtain e2|e2:=tfp ((hA l i).un=f.un)<;>simp only[e2,AW,Ac,AB,AH,A4,A2,AS,AL];obtain e3|e3:=tfp ((hA l i).sz=f.sz)<;>simp only[e3,AW,Ac,AB,AH,A4,A2];have e3':(hA l i).sz=f.sz:=of_eq_true e3;rw[ar0<|show(hA l i).got.length<=1048576 by omega];simp only[A6,alX,hat];rw[e3'];rw[an4 f.sz _<|show(Cu (hA l i).got f.mix f.da).length<=1048576 by omega];simp only[A6];obtain c5|c5:=tf (FC f.sz<|Cu (hA l i).got f.mix f.da).2
    .simp only[c5,AB,A4,A2];rw[A5 y8,A5<|Fw (l:=([]:List AG)) aIg y8,Dd (n:=i) (m:=l.length) Ep J,A5 y8,A5<|Fw y8 y8];rw[Vw (by have:=aGK (s:=f.sz) (l:=Cu (hA l i).got f.mix f.da);omega)];simp only[A6,Eb,BV];unfold Jz;generalize hn:(⟨f.fr,f.nu,f.to,f.un,(FC f.sz<|Cu (hA l i).got f.mix f.da).1⟩:A3)=n;have hL:=hLg<|FF (D3 l i f) i;have hdr:BR i (D3 l i f)++Br (i+1) (D3 l i f)=FF (D3 l i f) i:=rfl;rw[hdr];obtain c6|c6:=tf (Ax n)
     .have hz:=aX (w:=B [116,97,107,101,32]) (by rw[BQ];decide) c6;have hw:=XY hL (r:=JE n) hz;simp only[c6,A2,AS];rw[A5<|AU (by rw[C2]at hz;omega)];rw[show OE ((k.id,k.up,k.log,k.fo,FF (D3 l i f) i,()),B [116,97,107,101,32]++wr n,())=_ from hw];simp only[A6];unfold wrR;rw[hL.stT];cases hc:BK (stT k) (JE n) with
      | none=>rfl
      | some o=>
       simp only[AB,A4,A2];rw[iV<|aag hL hc];rfl
     .have hb:BK (stT k) (B [116,97,107,101,32]++noB)=G:=aEP hk.kok lh<|.inr rfl;have hz0:(B [116,97,107,101,32]++noB).size<=1048576:=by rw[C2,BQ];show 5+0<=1048576;omega
      have hw:=XY hL (r:=B [116,97,107,101,32]++noB) hz0;rw[aGX (by rw[hL.stT];exact hb)]at hw;simp only[c6,A4,AL];rw[A5<|AU (show(B [116,97,107,101,32]).size+noB.size<=4611686018427387904 by rw[BQ];show 5+0<=4611686018427387904;omega)];rw[show OE ((k.id,k.up,k.log,k.fo,FF (D3 l i f) i,()),B [116,97,107,101,32]++noB,())=_ from hw];rfl
    .simp only[c5,AH,A4,A2]
def XT{α β:Type}[DecidableEq β]{l:List α}{f:α->β}:(l.map f).Nodup↔ ∀(i j:Nat) (hi:i<l.length) (hj:j<l.length),j<i->f l[j]≠f l[i]:=by
 unfold List.Nodup;rw[JW];constructor
 .intro h i j hi hj hlt;have:=h j i (by simpa using hj) (by simpa using hi) hlt;simpa using this
 .intro h i j hi hj hlt;have:=h j i (by simpa using hj) (by simpa using hi) hlt;simpa using this
def ap{l:List AQ}{i:Nat}(h:i<l.length):xA l i=l[i]:=by
 rw[xA,BA,Ap h];rfl
def Iq(m:AQ):Prop:=inB m.nu 0 999=Y/\(m.da.size:Int)=4
structure Rg (l:List AQ):Prop where
 el:∀m∈l,Iq m
 nd:(l.map (·.nu)).Nodup
def aa7{l:List AQ}:An l.length (IH l)=Y↔Rg l:=by
 rw[CA];constructor
 .intro h;refine⟨λm hm=> ?_,XT.2 λi j hi hj hlt=> ?_⟩
  .obtain⟨i,hi,rfl⟩:=aae hm;have:=h i hi;unfold IH at this;simp only[AD]at this;exact⟨this.1.1,BZ this.1.2⟩
  .have:=h i hi;unfold IH at this;simp only[AD]at this;have:=CA.1 this.2 j hlt;rw[ap hi,ap hj]at this;simpa using this
 .intro h i hi;unfold IH;simp only[AD];have h1:=h.el l[i] (CU hi);rw[ap hi];refine⟨⟨h1.1,AU h1.2⟩,CA.2 λj hj=> ?_⟩;have:=XT.1 h.nd i j hi J hj;rw[ap (J:j<l.length)];simpa using this
def aw4{l:List AQ}(h:Rg l)(hl:l.length<=14){mix:Int}{da:A1}(hm:Iq ⟨mix,da⟩):Rg (Cu l mix da)/\(Cu l mix da).length<=14:=by
 have hf:(l.filter<|Dp mix).length<=l.length:=Ix _ _;have LS:∀g:List AQ,g.Sublist (l.filter<|Dp mix)->Rg (g++[⟨mix,da⟩]):=by
  intro g hg;refine⟨λm hm'=> ?_, ?_⟩
  .rcases BM.1 hm' with h1|h1
   .exact h.el m (FH.1<|hg.subset h1).1
   .rw[C9.1 h1];exact hm
  .rw[Ec,JZ];refine⟨h.nd.sublist<|(hg.trans List.filter_sublist).map _,by simp,λa ha b hb=> ?_⟩;obtain⟨m,h1,rfl⟩:=By.1 ha;have h2:=(FH.1<|hg.subset h1).2;have hb:b=mix:=by simpa using hb
   rw[hb];unfold Dp at h2;simpa using h2
 unfold Cu;split
 .refine⟨LS _<|Qp _ _, ?_⟩;simp only[Aw,JU,EJ];omega
 .refine⟨LS _<|Ea _, ?_⟩;simp only[Aw,JU];omega
abbrev NX(h:AG):Int×Int:=(h.fr,h.nu)
structure Jg (l:List AG):Prop where
 el:∀h∈l,G1 h=Y
 nd:(l.map NX).Nodup
def pe{l:List AG}:(∀i,i<l.length->Fl l i=Y)↔Jg l:=by
 constructor
 .intro h;refine⟨λm hm=> ?_,XT.2 λi j hi hj hlt=> ?_⟩
  .obtain⟨i,hi,rfl⟩:=Oo hm;have:=h i hi;unfold Fl at this;rw[AD]at this;exact this.1
  .have:=h i hi;unfold Fl at this;rw[AD]at this;have:=CA.1 this.2 j hlt;rw[IG hi,IG hj]at this;intro e;simp only[NX,CQ]at e;simp[e.1,e.2]at this
 .intro h i hi;unfold Fl;rw[AD];refine⟨by rw[IG hi];exact h.el _<|CU hi,CA.2 λj hj=> ?_⟩;have:=XT.1 h.nd i j hi J hj;rw[IG hi,IG (J:j<l.length)];simp only[NX,ne_eq,CQ,not_and]at this;by_cases e:l[j].fr=l[i].fr
  .simp[e,this e]
  .simp[e]
def OX{f:Frame}(h:C1 f=Y):isN f.src=Y/\isN f.dst=Y/\isN f.fr=Y/\isN f.to=Y/\inB f.nu 1 99=Y/\inB f.un 1 999=Y/\Jy f=Y:=by
 unfold C1 at h;simp only[AD]at h;exact h
def Xn{f:Frame}(h:C1 f=Y)(h1:f.ki=1):inB f.sz 1 24=Y/\Iq ⟨f.mix,f.da⟩/\f.dst=BW f.src f.to:=by
 have:=(OX h).2.2.2.2.2.2;unfold Jy at this;rw[A5<|AU h1]at this;simp only[AD]at this;exact⟨this.1,⟨this.2.1,BZ this.2.2.1⟩,BZ this.2.2.2⟩
def Jg.sub{l g:List AG}(h:Jg l)(hg:g.Sublist l):Jg g:=⟨λx hx=>h.el x<|hg.subset hx,h.nd.sublist<|hg.map _⟩
def aHl{l:List AG}(h:Jg l){f:Frame}(hf:C1 f=Y)(h1:f.ki=1):Jg (Aq l f).1:=by
 obtain⟨_,_,r3,r4,r5,r6,_⟩:=OX hf;have hp:=Xn hf h1;unfold Aq;split
 .rename_i hi;have Us:∀x∈l,NX x≠(f.fr,f.nu):=by
   intro x hx e;obtain⟨i,hi',rfl⟩:=Oo hx;simp only[NX,CQ]at e;obtain h|⟨i,h,_⟩:=GD l.length (λi=>U ((hA l i).fr=f.fr)&&U ((hA l i).nu=f.nu))
   .have:=h.2 i hi';simp[e.1,e.2]at this
   .have:EH l f.fr f.nu=(i:Int):=h;omega
  have LS:∀g:List AG,g.Sublist l->Jg (g++[⟨f.fr,f.nu,f.to,f.un,f.sz,[]⟩]):=by
   intro g hg;refine⟨λx hx=> ?_, ?_⟩
   .rcases BM.1 hx with h2|h2
    .exact h.el x (hg.subset h2)
    .rw[C9.1 h2];unfold G1;simp only[r3,r4,r5,r6,hp.1,AS];rfl
   .rw[Ec,JZ];refine⟨h.nd.sublist<|hg.map _,by simp,λa ha b hb=> ?_⟩;obtain⟨m,h2,rfl⟩:=By.1 ha;have hb:b=(f.fr,f.nu):=by simpa using hb
    rw[hb];exact Us m<|hg.subset h2
  simp only;split
  .exact LS _ (Qp _ _)
  .exact LS _ (Ea _)
 .exact h
def aw0{h:AG}(ok:G1 h=Y):Rg h.got/\h.got.length<=14:=by
 have h1:=abb ok;unfold G1 at ok;simp only[AD]at ok;exact⟨aa7.1 ok.2.2.2.2.2.2,h1⟩
def avz{h:AG}(ok:G1 h=Y){g:List AQ}(hg:Rg g)(hl:g.length<=14):G1 ⟨h.fr,h.nu,h.to,h.un,h.sz,g⟩=Y:=by
 unfold G1 at ok ⊢;simp only[AD]at ok ⊢;exact⟨ok.1,ok.2.1,ok.2.2.1,ok.2.2.2.1,ok.2.2.2.2.1,AU J,aa7.2 hg⟩
def aaZ{l:List AG}(h:Jg l){i:Nat}(hi:i<l.length){f:Frame}(hm:Iq ⟨f.mix,f.da⟩):Jg (D3 l i f):=by
 have hh:=h.el l[i] (CU hi);have hg:=aw0 hh;have hn:=aw4 hg.1 hg.2 hm;unfold D3;rw[IG hi];refine⟨λx hx=> ?_, ?_⟩
 .rcases Qx hx with h1|h1
  .exact h.el x h1
  .rw[h1];exact avz hh hn.1 hn.2
 .rw[List.map_set];have:(l.map NX).set i (NX ⟨l[i].fr,l[i].nu,l[i].to,l[i].un,l[i].sz,Cu l[i].got f.mix f.da⟩)=l.map NX:=by
   apply List.ext_getElem aIg;intro j h1 h2;rw[List.getElem_set];split
   .rename_i e;subst e;simp
   .rfl
  rw[this];exact h.nd
def aHi{l:List AG}(h:Jg l)(i:Nat):Jg (FF l i):=by
 refine h.sub ?_;unfold FF;have:(l.take i++l.drop (i+1)).Sublist (l.take i++l.drop i):=oA (Ea _) (by rw[← J0];exact Qp _ _);rw[JV]at this;exact this
def Zb{k:A7}{st:AE}(h:DH k st)(hu:k.up=Y){hv:List AG}(hl:hv.length<=3)(hf:Jg hv):DH (Gj k hv) st:=by
 obtain⟨rs,ts,h1,h2⟩:=h.lg;have kf:=Dk h.ok;exact⟨XG (k:=Gj k hv) kf.id h1 hl (.inl hu) (by rw[show(Gj k hv).id=k.id from rfl,h2];rfl)<|pe.2 hf,h.st⟩
def Tm{k:A7}{st:AE}(h:DH k st)(r:A1)(b:Bool):∃o,DH (wrR k r b).1 o/\((wrR k r b).2=Y->BK st r=I o)/\((wrR k r b).2=A0->o=st/\BK st r=G):=by
 unfold wrR;rw[h.stT];cases hc:BK st r with
 | none=>exact⟨st,h,(λe=>absurd e CW),λ_=>⟨rfl,rfl⟩⟩
 | some o=>
  refine⟨o, ?_,(λ_=>rfl),λe=>absurd e.symm CW⟩;simp only;split
  .exact Qn (Om h hc)
  .exact Om h hc
def lb{k:A7}(h:Ae k=Y)(hu:k.up=Y){f:Frame}(hf:C1 f=Y)(h1:f.ki=1):Ae (E6 k f).1=Y:=by
 have hk:=C0 h;have kf:=Dk h;have hv:=pe.1 kf.hv;have hp:=Xn hf h1;have Ep:=Og (hv:=k.AJ) (f:=f);have LP:=TP (hv:=k.AJ) (f:=f) kf.hl;have hpf:=aHl hv hf h1;have haf:=aaZ hpf Ep hp.2.1;have hal:(D3 (Aq k.AJ f).1 (Aq k.AJ f).2 f).length=(Aq k.AJ f).1.length:=by unfold D3;rw[Ga]
 unfold E6;split
 .exact h
 split
 .exact(Qn hk).ok
 split
 .exact h
 unfold JO;split
 .split
  .unfold Jz;have hw:=Zb hk hu (hv:=FF (D3 (Aq k.AJ f).1 (Aq k.AJ f).2 f) (Aq k.AJ f).2) (by unfold FF;simp;omega)<|aHi haf _;split
   .obtain⟨o,ho,_⟩:=Tm hw (JE ⟨f.fr,f.nu,f.to,f.un,(FC f.sz<|Cu (hA (Aq k.AJ f).1 (Aq k.AJ f).2).got f.mix f.da).1⟩) Y;exact ho.ok
   .exact hw.ok
  .exact(Zb hk hu (by rw[hal];exact LP) haf).ok
 .exact(Zb hk hu LP hpf).ok
def HK(k:A7)(f:Frame):A7×List Frame:=
 if k.up&&(C1 f&&U (f.dst=k.id)) then
  (if U (f.ki=1) then E6 k f
   else if U (f.ki=2)&&(!decide (AY (stT k).held f.fr f.nu<0)&&(U ((nA (stT k).held (AY (stT k).held f.fr f.nu).toNat).to=f.to)&&U ((nA (stT k).held (AY (stT k).held f.fr f.nu).toNat).un=f.un))) then
    ((wrR k (CX Bx f.fr f.nu f.un) A0).1,[])
   else(k,[]))
 else(k,[])
def CC(k:A7)(f:Frame):A7×List Frame:=if Ae k then HK k f else(zKp,[])
def YK{f:Frame}(h:C1 f=Y):(0<=f.fr/\f.fr<=999)/\(0<=f.nu/\f.nu<=999)/\(0<=f.un/\f.un<=999):=by
 obtain⟨_,_,r3,_,r5,r6,_⟩:=OX h;have a:=Aa.1 r3;have b:=Aa.1 r5;have c:=Aa.1 r6;exact⟨J,J,J⟩
def agY{k:A7}(sm:FK k)(f:Frame):Vj (tKp k,tF f,())=I ((tKp (CC k f).1,(CC k f).2,()),()):=by
 unfold Vj CC;rw[Li sm];obtain h|h:=tf (Ae k)
 .have hk:=C0 h;have hkf:=Bz hk.kok;have hl:=hkf.hl;have hl':(stT k).held.length<=1048576:=J
  unfold HK;simp only[A6,h,AB,A4,A2,Mh sm,aAn,OG h,Jk hl'];obtain e|e:=tf k.up<;>simp only[e,AB,AH,A4,A2,AS,AL];obtain e2|e2:=tf (C1 f)<;>simp only[e2,AB,AH,A4,A2,AS,AL];obtain e3|e3:=tfp (f.dst=k.id)<;>simp only[e3,AW,Ac,AB,AH,A4,A2];obtain⟨r1,r2,r3⟩:=YK e2;obtain e4|e4:=tfp (f.ki=1)
  .have e4':=of_eq_true e4;simp only[e4,AW,A2];rw[show W4 (tKp k,tF f,())=_ from aqc h e2 e4'];simp only[A6];rw[Mh<|D9<|lb h e e2 e4'];rfl
  .simp only[e4,Ac,A4];obtain e5|e5:=tfp (f.ki=2)<;>simp only[e5,AW,Ac,AB,AH,A4,A2,AS,AL];by_cases hi:AY (stT k).held f.fr f.nu<0
   .simp only[AU hi,A2,AB,AL,A4]
   .have hi':0<=AY (stT k).held f.fr f.nu:=J
    simp only[BG hi,A4,AH,AS,A2,My hi',RG];obtain e6|e6:=tfp ((nA (stT k).held (AY (stT k).held f.fr f.nu).toNat).un=f.un)<;>simp only[e6,AW,Ac,AB,AH,A4,A2,LC,Ba];obtain e7|e7:=tfp ((nA (stT k).held (AY (stT k).held f.fr f.nu).toNat).to=f.to)<;>simp only[e7,AW,Ac,AB,AH,A4,A2];have hz:=YC (w:=Bx) aIm r1 r2 r3;have hw:=WN hk.LR (r:=CX Bx f.fr f.nu f.un) J A0;rw[aCP r1 r2 r3];simp only[A6];rw[A5<|AU (by rw[← Xw [108,101,116]]at hz;rw[C2]at hz;rw[show(B [108,101,116,32]).size=(B<|[108,101,116]++[32]).size from rfl];omega)];rw[show(B [108,101,116,32])=B ([108,101,116]++[32]) from rfl,Xw [108,101,116],hw];rfl
 .simp only[A6,h,AH,A2,A4]
def xZ{k:A7}(sm:FK k)(f:Frame):S7 (tKp k,tF f,())=I ((tKp (CC k f).1,(CC k f).2,()),()):=by
 unfold S7 CC;rw[Jn sm];obtain h|h:=tf (Ae k)
 .have hk:=C0 h;have hkf:=Bz hk.kok;have hl:=hkf.hl;have hl':(stT k).held.length<=1048576:=J
  unfold HK;simp only[A6,h,AB,A4,A2,Kd sm,aAY,La h,Jq hl'];obtain e|e:=tf k.up<;>simp only[e,AB,AH,A4,A2,AS,AL];obtain e2|e2:=tf (C1 f)<;>simp only[e2,AB,AH,A4,A2,AS,AL];obtain e3|e3:=tfp (f.dst=k.id)<;>simp only[e3,AW,Ac,AB,AH,A4,A2];obtain⟨r1,r2,r3⟩:=YK e2;obtain e4|e4:=tfp (f.ki=1)
  .have e4':=of_eq_true e4;simp only[e4,AW,A2];rw[show Vn (tKp k,tF f,())=_ from aiZ h];simp only[A6];rw[Kd<|D9<|lb h e e2 e4'];rfl
  .simp only[e4,Ac,A4];obtain e5|e5:=tfp (f.ki=2)<;>simp only[e5,AW,Ac,A4,A2,AS,AL];by_cases hi:AY (stT k).held f.fr f.nu<0
   .rw[A9 (show ¬U (0<=AY (stT k).held f.fr f.nu)=Y by simp;omega)];simp only[AU hi,Hb,A2,Bg,AB,AL,A4]
   .have hi':0<=AY (stT k).held f.fr f.nu:=J
    rw[A5<|AU hi'];simp only[BG hi,AH,AS,A2,My hi',RG,Ft,Bg];obtain e7|e7:=tfp ((nA (stT k).held (AY (stT k).held f.fr f.nu).toNat).to=f.to)<;>simp only[e7,AW,Ac,A4,A2,AS,AL];obtain e6|e6:=tfp ((nA (stT k).held (AY (stT k).held f.fr f.nu).toNat).un=f.un)<;>simp only[e6,AW,Ac,A4,A2];have hz:=YC (w:=Bx) aIm r1 r2 r3;have hw:=XY hk.LR (r:=CX Bx f.fr f.nu f.un) J;rw[show Po (B [108,101,116],f.fr,f.nu,f.un,())=_ from uZ (w:=Bx) aIm r1 r2 r3];simp only[A6];rw[hw];rfl
 .simp only[A6,h,AH,A2,A4]
def avw{k:A7}(h:Ae k=Y)(f:Frame):Ae (CC k f).1=Y:=by
 have hk:=C0 h;unfold CC HK;rw[A5 h];split
 .rename_i hc;simp only[AD]at hc;split
  .rename_i h1;exact lb h hc.1 hc.2.1 (BZ h1)
  .split
   .obtain⟨o,ho,_⟩:=Tm hk (CX Bx f.fr f.nu f.un) A0;exact ho.ok
   .exact h
 .exact h
def auC{k:A7}(h:Ae k=Y):Ae (FR k).1=Y:=by
 unfold FR;split
 .obtain⟨o,ho,_⟩:=Tm (C0 h) (Fe<|(stT k).ti+1) Y;exact ho.ok
 .exact h
def awC{k:A7}(h:Ae k=Y)(tt un:Int)(tx:A1):Ae (Dt k tt un tx).1=Y:=by
 unfold Dt;split
 .obtain⟨o,ho,_⟩:=Tm (C0 h) (Ky ⟨k.id,(stT k).nx,tt,un,tx⟩) Y;exact ho.ok
 .exact h
def axH{k:A7}(h:Ae k=Y)(fr nu:Int):Ae (DZ k fr nu).1=Y:=by
 unfold DZ;split
 .obtain⟨o,ho,_⟩:=Tm (C0 h) (CX CM fr nu (nA (stT k).inbox (AY (stT k).inbox fr nu).toNat).un) Y;exact ho.ok
 .exact h
def avS{k:A7}(h:Ae k=Y):Ae (FT k).1=Y:=by
 unfold FT;split
 .exact(pn<|C0 h).ok
 .exact h
def at6{k:A7}(h:Ae k=Y):Ae (FQ k).1=Y:=by
 unfold FQ;split
 .exact(Qn<|C0 h).ok
 .exact h
def YX(l:List Int):(BJ l).size=l.length:=by
 show(List.toArray _).size=_;simp
def atk(f:Frame):(Ce f).length<=17:=by
 unfold Ce;split
 .rename_i h;have:=YQ h;simp only[Aw,Bf,CK];omega
 .simp
def frA(l:List Frame)(i:Nat):Frame:=l.getD i<|dfl .frame
def aGB(l:List Frame)(i:Nat): @rd Frame aIs l (i:Int)=frA l i:=rfl
def pcF(f:Frame):AK:=⟨f.src,f.dst,BJ<|Ce f,A0⟩
def C3(ra:List AK)(fs:List Frame):List AK:=ra++(fs.take<|30 - ra.length).map pcF
def ab3{l:List Frame}{i:Nat}(h:i<l.length):frA l i=l[i]:=by
 rw[frA,BA,Ap h];rfl
def aA8{ra:List AK}{fs:List Frame}(hf:fs.length<=1048576):SP (ra,fs,())=I ((C3 ra fs,()),()):=by
 have G9:tH (ra,fs,0,())=I (.inr (C3 ra fs,())):=by
  have h0:=CG (b:=WM) (y:= .inr (C3 ra fs,())) (λi=>(ra++(fs.take i).map pcF,fs,(i:Int),())) (min fs.length<|30 - ra.length) (λi hi=>by
   have h1:i<fs.length:=J
   have h2:(ra++(fs.take i).map pcF).length=ra.length+i:=by simp;omega
   unfold WM;simp only[B5 h1,AR h1,aGB,B2 h1 (by omega:fs.length<=9223372036854775807),h2];rw[A5 y8];simp only[A2];rw[show Pn ((_,_,_,_,_,_,_,_,_,_,()),())=_ from yI<|frA fs i];simp only[A6];rw[A5<|BD y8];have h3:ra++(fs.take<|i+1).map pcF=(ra++(fs.take i).map pcF)++[pcF (frA fs i)]:=by
    rw[ab3 h1,C5,← List.map_singleton (f:=pcF),← Ec,List.take_append_getElem h1]
   rw[h3];rfl) (by
   unfold WM;have h2:(ra++(fs.take<|min fs.length<|30 - ra.length).map pcF).length=ra.length+min fs.length (30 - ra.length):=by simp
   simp only[h2];rw[A9 (by simp only[AD,decide_eq_true_eq];omega)];have h3:fs.take (min fs.length<|30 - ra.length)=fs.take (30 - ra.length):=by
    rw[Nat.min_comm,← aL,E0]
   rw[h3];rfl)
  simp only[List.take_zero,Jc,CP]at h0;exact h0
 unfold SP;simp only[G9,CD]
def P1(f:Frame):Prop:=isN f.src=Y/\isN f.dst=Y/\(f.src - f.dst=1\/f.dst - f.src=1)
def axl{f:Frame}(h:P1 f):Ds (pcF f)=Y:=by
 have:=atk f;unfold Ds pcF;simp only[h.1,h.2.1,AS,YX,AD,Bw,decide_eq_true_eq];exact⟨h.2.2,J⟩
def aG4{ra:List AK}{fs:List Frame}(h:ra.length<=30):(C3 ra fs).length<=30:=by
 unfold C3;simp;omega
def aaL{ra:List AK}{fs:List Frame}(h:∀p∈ra,Ds p=Y)(hf:∀f∈fs,P1 f):∀p∈C3 ra fs,Ds p=Y:=by
 intro p hp;obtain h1|h1:=BM.1 hp
 .exact h p h1
 .obtain⟨f,h2,rfl⟩:=By.1 h1;exact axl<|hf f<|IL h2
def ln{a t:Int}(h:isN (BW a t)=Y):isN a=Y/\(a - BW a t=1\/BW a t - a=1):=by
 have h0:=ER h;revert h0;unfold BW;split
 .omega
 .rename_i h1;intro _;simp only[Bw,C6,not_or,Bool.not_eq_false]at h1;refine⟨h1.1, ?_⟩;split<;>omega
def avc{f:Frame}(h:C1 f=Y):P1 f:=by
 obtain⟨r1,r2,_,_,_,_,r7⟩:=OX h;refine⟨r1,r2, ?_⟩;unfold Jy at r7;split at r7
 .simp only[AD,decide_eq_true_eq]at r7;have h1:=r7.2.2.2;have:=ln (a:=f.src) (t:=f.to) (by rw[← h1];exact r2);rw[← h1]at this;exact this.2
 .simp only[AD,decide_eq_true_eq]at r7;have h1:=r7.2.2.2.2;have:=ln (a:=f.dst) (t:=f.to) (by rw[← h1];exact r1);rw[← h1]at this;exact this.2.symm
def ayC{f:Frame}(n:Int)(h:P1 f):P1 (Dh n f):=⟨h.2.1,h.1,h.2.2.symm⟩
def ata(k:A7)(f:Frame):(CC k f).2=[]\/(C1 f=Y/\ ∃n,(CC k f).2=[Dh n f]):=by
 unfold CC;split
 .unfold HK;split
  .rename_i hc;simp only[AD]at hc;split
   .unfold E6;split
    .exact .inr ⟨hc.2.1,3,rfl⟩
    .split
     .exact .inr ⟨hc.2.1,2,rfl⟩
     .split
      .exact .inl rfl
      .unfold JO;split
       .split
        .unfold Jz;split
         .exact .inr ⟨hc.2.1,2,rfl⟩
         .exact .inl rfl
        .exact .inl rfl
       .exact .inl rfl
   .split<;>exact .inl rfl
  .exact .inl rfl
 .exact .inl rfl
def YJ(k:A7)(f:Frame):(CC k f).2.length<=1/\ ∀g∈(CC k f).2,P1 g:=by
 obtain h|⟨h,n,h1⟩:=ata k f
 .rw[h];exact⟨by simp,λg hg=>by cases hg⟩
 .rw[h1];exact⟨by simp,λg hg=>by rw[C9.1 hg];exact ayC n<|avc h⟩
def av6{k:A7}(h:Ae k=Y){fr nu mix:Int}(hb:(EI k fr nu mix).2=Y):P1 (EI k fr nu mix).1:=by
 unfold EI at hb ⊢;split
 .rename_i hc;simp only[AD,C6,decide_eq_false_iff_not]at hc;have hk:=C0 h;have h0:=(FB<|Qz.1 hc.2.1).1;have:=mU hk.kok (n:=nA (stT k).held (AY (stT k).held fr nu).toNat) (by rw[nA,BA,Ap h0];exact CU h0);rw[hk.id]at this;have h2:=ln this;exact⟨h2.1,this,h2.2⟩
 .rename_i hc;rw[A9 hc]at hb;cases hb
structure B9 (w:AA):Prop where
 kl:w.A8.length=4
 ll:w.Al.length=3
 rl:w.AO.length<=30
 sl:w.AX.length<=6
 gl:w.got.length<=6
 k:∀i,i<4->Ae (kA w.A8 i)=Y/\(kA w.A8 i).id=(i:Int)
 p:∀p∈w.AO,Ds p=Y
 s:∀n∈w.AX,Ax n=Y
 g:∀n∈w.got,Ax n=Y
def E7(w:AA)(p:AK)(ra:List AK):AA:=
 if(Cs<|BC p.data).2&&(U ((Cs<|BC p.data).1.src=p.src)&&U ((Cs<|BC p.data).1.dst=p.dst)) then
  ⟨w.ti,w.A8.set p.dst.toNat (CC (kA w.A8 p.dst.toNat) (Cs<|BC p.data).1).1,w.Al,C3 ra (CC (kA w.A8 p.dst.toNat) (Cs<|BC p.data).1).2,w.AX,w.got⟩
 else⟨w.ti,w.A8,w.Al,ra,w.AX,w.got⟩
def Ok(p:AK)(mix kp:Int):AK:=⟨p.src,p.dst,BJ<|Bq (BC p.data) mix.toNat<|Dw .u8 (@rd Int aIp (BC p.data) mix)<|w8 kp,Y⟩
def JI(ra:List AK)(i:Nat):List AK:=ra.take i++ra.drop (i+1)
def lnk(p:AK):Int:=if p.src<p.dst then p.src else p.dst
def ES(w:AA)(e:Event):AA×Bool:=
 if inB e.wo 0 ((w.AO.length:Int) - 1) then
  if e.ki=6 then
   if !(pA w.AO e.wo.toNat).sp&&(inB e.mix 0 (((pA w.AO e.wo.toNat).data.size:Int) - 1)&&inB e.kp 1 255) then
    (⟨w.ti,w.A8,w.Al,w.AO.set e.wo.toNat<|Ok (pA w.AO e.wo.toNat) e.mix e.kp,w.AX,w.got⟩,Y)
   else(w,A0)
  else if e.ki=5 then(⟨w.ti,w.A8,w.Al,JI w.AO e.wo.toNat,w.AX,w.got⟩,Y)
  else if bA w.Al (lnk<|pA w.AO e.wo.toNat).toNat then(E7 w (pA w.AO e.wo.toNat)<|if e.kp=0 then JI w.AO e.wo.toNat else w.AO,Y)
  else(w,A0)
 else(w,A0)
def Gc(w:AA)(i:Nat)(k:A7):AA:=⟨w.ti,w.A8.set i k,w.Al,w.AO,w.AX,w.got⟩
def NY(w:AA)(e:Event)(k:A7):AA×Bool:=
 if 6<=w.AX.length then(w,A0)
 else if(Dt k e.to e.un e.tx).2=0 then(w,A0)
 else(⟨w.ti,w.A8.set e.at_.toNat (Dt k e.to e.un e.tx).1,w.Al,w.AO,w.AX++[⟨e.at_,(Dt k e.to e.un e.tx).2,e.to,e.un,e.tx⟩],w.got⟩,Y)
def Nd(w:AA)(e:Event)(k:A7):AA×Bool:=
 if(DZ k e.fr e.nu).2.2&&U (w.got.length<6) then
  (⟨w.ti,w.A8.set e.at_.toNat (DZ k e.fr e.nu).1,w.Al,w.AO,w.AX,w.got++[(DZ k e.fr e.nu).2.1]⟩,Y)
 else(w,A0)
def I7(w:AA)(e:Event)(k:A7):AA×Bool:=
 if e.ki=1 then NY w e k
 else if e.ki=2 then(Gc w e.at_.toNat (FR k).1,(FR k).2)
 else if e.ki=3 then(if(EI k e.fr e.nu e.mix).2 then(⟨w.ti,w.A8,w.Al,C3 w.AO [(EI k e.fr e.nu e.mix).1],w.AX,w.got⟩,Y) else(w,A0))
 else if e.ki=7 then(Gc w e.at_.toNat<|faM k e.kp,k.up)
 else if e.ki=8 then(Gc w e.at_.toNat<|riM k,!k.up)
 else if e.ki=11 then Nd w e k
 else if e.ki=12 then(Gc w e.at_.toNat (FT k).1,(FT k).2)
 else if e.ki=13 then(Gc w e.at_.toNat (FQ k).1,(FQ k).2)
 else(w,A0)
def Ey(w:AA)(e:Event):AA×Bool:=
 if inB e.at_ 0 ((w.Al.length:Int) - 1)&& !decide (bA w.Al e.at_.toNat=U (e.ki=9)) then
  (⟨w.ti,w.A8,w.Al.set e.at_.toNat<|U<|e.ki=9,w.AO,w.AX,w.got⟩,Y)
 else(w,A0)
def doM(w:AA)(e:Event):AA×Bool:=
 if e.ki=4\/e.ki=5\/e.ki=6 then ES w e
 else if e.ki=9\/e.ki=10 then Ey w e
 else if isN e.at_ then I7 w e (kA w.A8 e.at_.toNat)
 else(w,A0)
abbrev tE(e:Event):Int×Int×Int×Int×Int×Int×Int×Int×Int×A1×D:=(e.ki,e.at_,e.fr,e.nu,e.wo,e.mix,e.kp,e.to,e.un,e.tx,())
abbrev tS(w:AA)(ev:List Event):Int×List A7×List Bool×List AK×List A3×List A3×List Event×D:=(w.ti,w.A8,w.Al,w.AO,w.AX,w.got,ev,())
def tick(w:AA)(b:Bool):AA:=if b then⟨w64<|w.ti+1,w.A8,w.Al,w.AO,w.AX,w.got⟩ else w
def Cl(w:AA)(e:Event):AA:=tick (doM w e).1 (doM w e).2
def K6(ev:List Event)(e:Event)(b:Bool):List Event:=if b then ev++[e] else ev
def aDY(l:List AK)(i:Int): @rd AK aIl l i=pA l i.toNat:=rfl
def ZC(l:List Bool)(i:Int): @rd Bool aIw l i=bA l i.toNat:=rfl
def pz{l:List AK}{i:Nat}(h:i<l.length):pA l i=l[i]:=by
 rw[pA,BA,Ap h];rfl
def G0{i:Int}{n:Nat}(h0:0<=i)(h1:i<n):inb i n=Y:=by unfold inb;simp;omega
def Lm{p:AK}(h:Ds p=Y):(0<=p.src/\p.src<=3)/\(0<=p.dst/\p.dst<=3)/\p.data.size<=40/\0<=lnk p/\lnk p<3:=by
 unfold Ds at h;simp only[AD,Bw,decide_eq_true_eq]at h;have a:=ER h.1;have b:=ER h.2.1;refine⟨a,b,J, ?_, ?_⟩<;>unfold lnk<;>split<;>omega
def al4(a b:Int):gU (a,b,())=I ((if a<b then a else b,()),()):=by
 unfold gU;obtain e|e:=tfp (a<b)<;>simp only[e,AW,Ac,A2,if_false,A4]
def QR{w:AA}(h:B9 w){i:Nat}(hi:i<w.AO.length):Ds (pA w.AO i)=Y:=by
 rw[pz hi];exact h.p _<|CU hi
def Ua{w:AA}(h:B9 w){i:Nat}(hi:i<4):FK (kA w.A8 i):=D9 (h.k i hi).1
def QI{n:Nat}(h:n<=1048576):w64 ((n:Int) - 1)=(n:Int) - 1:=AZ J J
def nd{p:Prop}[Decidable p](h:¬p):¬(U p=Y):=by simpa using h
def aaK{α:Type}(l:List α)(i:Nat)(x y:α):(l.set i x).set i y=l.set i y:=by simp
def aay{l:List AK}{i:Nat}(h:i<l.length)(p:AK):pA (l.set i p) i=p:=by
 rw[pA,BA,aB h];rfl
def pr(s:A1):(BC s).length=s.size:=by rw[TE,Da,Az]
def UN{n:Int}(h:isN n=Y):n.toNat<4:=by have:=ER h;omega
section
variable {Ω:Type} {K2:List A7->List AK->Option Ω} {F:Option Ω}
def ab8{w:AA}(h:B9 w){e:Event}(hk:e.ki≠5){p:AK}(hp:Ds p=Y)(ra:List AK):Rc w.A8 ra (tE e) p K2=K2 (E7 w p ra).A8 (E7 w p ra).AO:=by
 obtain⟨p1,p2,p3,p4,p5⟩:=Lm hp;have hin:inb p.dst w.A8.length=Y:=G0 p2.1 (by rw[h.kl];omega);unfold Rc E7;rw[A9<|nd hk,A5<|BD J,afQ<|BOk.str _];generalize Cs (BC p.data)=u;simp only[A6];obtain e2|e2:=tf u.2<;>simp only[e2,AB,AH,A4,A2,AS,AL];obtain e3|e3:=tfp (u.1.src=p.src)<;>simp only[e3,AW,Ac,AB,AH,A4,A2,AS,AL];obtain e4|e4:=tfp (u.1.dst=p.dst)<;>simp only[e4,AW,Ac,AB,AH,A4,A2];simp only[hin,A2,T5];rw[show Vj ((_,_,_,_,_,()),_,())=_ from agY (Ua h (i:=p.dst.toNat) J) u.1];simp only[A6];rw[aA8 (by have:=(YJ (kA w.A8 p.dst.toNat) u.1).1;omega)];rfl
def ab9{a:List A7}{ra:List AK}{e:Event}(h0:0<=e.wo)(h1:e.wo<ra.length)(hl:ra.length<=1048576)(p:AK):bG a ra (tE e) p K2=Rc a (JI ra e.wo.toNat) (tE e) p K2:=by
 have hw:w64 (e.wo+1)=e.wo+1:=AZ J J;have hn:(e.wo+1).toNat=e.wo.toNat+1:=J
 unfold bG;simp only[hw,hn];rw[A5 y8,A5<|BD y8,A5 y8,A5<|BD y8];rfl
def ayN{w:AA}(h:B9 w){e:Event}(hk:e.ki=4\/e.ki=5\/e.ki=6):Re w.A8 w.Al w.AO (tE e) K2 F=if(ES w e).2 then K2 (ES w e).1.A8 (ES w e).1.AO else F:=by
 have rl:=h.rl;unfold Re ES;simp only[I3,A6,QI (J:w.AO.length<=1048576),aDY];obtain e0|e0:=tf (inB e.wo 0<|(w.AO.length:Int) - 1)
 .have ha:=Aa.1 e0;have hb:inb e.wo w.AO.length=Y:=G0 ha.1 J;have hwl:e.wo.toNat<w.AO.length:=J
  have hp:=QR h (i:=e.wo.toNat) hwl;obtain⟨p1,p2,p3,p4,p5⟩:=Lm hp;rw[e0,hb];simp only[AB,A4,A2];obtain c6|c6:=tfp (e.ki=6)
  .simp only[c6,AW,A2,QI<|show(pA w.AO e.wo.toNat).data.size<=1048576 by omega];obtain e1|e1:=tf (pA w.AO e.wo.toNat).sp<;>simp only[e1,AB,AH,A4,A2,AS,AL];obtain e2|e2:=tf (inB e.mix 0<|((pA w.AO e.wo.toNat).data.size:Int) - 1)<;>simp only[e2,AB,AH,A4,A2,AS,AL];obtain e3|e3:=tf (inB e.kp 1 255)<;>simp only[e3,AB,AH,A4,A2];have hm:=Aa.1 e2;have hmb:inb e.mix (BC (pA w.AO e.wo.toNat).data).length=Y:=G0 hm.1 (by rw[pr];omega);simp only[Ga,aaK,aay hwl,hb,A2];rw[A5<|BD J,A5 hmb,A5 hmb];rfl
  .simp only[c6,Ac,A4,if_false];obtain c4|c4:=tfp (e.ki=4)
   .have c5:¬e.ki=5:=by have:e.ki=4:=of_eq_true c4;omega
    have hl:inb (lnk<|pA w.AO e.wo.toNat) w.Al.length=Y:=by
     have:=h.ll;exact G0 p4 (by rw[this];exact p5)
    have hlk:∀q:AK,(if q.src<q.dst then q.src else q.dst)=lnk q:=λ_=>rfl;simp only[c4,AW,A2,al4,A6,hlk,hl,ZC,A9 c5];obtain e1|e1:=tf (bA w.Al (lnk<|pA w.AO e.wo.toNat).toNat)<;>simp only[e1,AB,AH,A4,A2];unfold bF;rw[A9<|nd c5];by_cases e5:e.kp=0
    .rw[A5<|AU e5,A5 e5,ab9 ha.1 J J,ab8 h c5 hp]
    .rw[A9<|nd e5,A9 e5,ab8 h c5 hp]
   .have c5:e.ki=5:=by
     have:¬e.ki=4:=by simpa using c4
     have:¬e.ki=6:=by simpa using c6
     omega
    simp only[c4,Ac,A4,A5 c5];unfold bF;rw[A5<|AU c5,ab9 ha.1 J J];unfold Rc;rw[A5<|AU c5];rfl
 .rw[e0];simp only[AH,A2,A4]
def ayO{w:AA}(h:B9 w){e:Event}{K1:List Bool->Option Ω}:Ug w.Al (tE e) K1 F=if(Ey w e).2 then K1 (Ey w e).1.Al else F:=by
 have ll:=h.ll;unfold Ug Ey;simp only[I3,A6,QI (J:w.Al.length<=1048576),ZC];obtain e0|e0:=tf (inB e.at_ 0<|(w.Al.length:Int) - 1)
 .have ha:=Aa.1 e0;have hb:inb e.at_ w.Al.length=Y:=G0 ha.1 J;rw[e0,hb];simp only[AB,A4,A2,AS];obtain c|c:=tfp (bA w.Al e.at_.toNat=U (e.ki=9))<;>simp only[c,AW,Ac,AB,AH,A2,A4]
 .rw[e0];simp only[AH,AL,A2,A4]
end
section
variable {Ω:Type} {K:List A7->List Bool->List AK->List A3->List A3->Option Ω} {F:Option Ω} {Kv:List A7->Bool->Option Ω} {Km:List AK->Bool->Option Ω} {Kz:Bool->Option Ω} {R:Option Ω}
def ayP{w:AA}(h:B9 w){e:Event}(hk:¬(e.ki=4\/e.ki=5\/e.ki=6))(hk':¬(e.ki=9\/e.ki=10))(ht:e.tx.size<=1048576){B7:AA×Bool}
  (hK:B7.2=Y->K B7.1.A8 B7.1.Al B7.1.AO B7.1.AX B7.1.got=R)(hF:B7.2=A0->B7.1=w->F=R)(hKv:∀k' b,B7=(Gc w e.at_.toNat k',b)->Kv (w.A8.set e.at_.toNat k') b=R)
  (hKm:∀ra',B7=(⟨w.ti,w.A8,w.Al,ra',w.AX,w.got⟩,Y)->Km ra' Y=R)(hKz:B7=(w,A0)->Kz A0=R):
  ∀X,qI w.A8 w.AO w.AX w.got (tE e) (λx y z=>K x w.Al w.AO y z) F Kv Km Kz=X->doM w e=B7->X=R:=by
 intro X;obtain⟨ki,at_,fr,nu,wo,mix,kp,t',un,tx⟩:=e;simp only at hk hk' ht hKv;have hn:∀(l:List A3) (x:A3),l.length<=6->Ab (l.length+[x].length)=Y:=λl x hl=>BD y8;unfold qI doM;rw[A9 hk,A9 hk'];simp only[Jp,A6];obtain e0|e0:=tf (isN at_)
 .have ha:=ER e0;have hal:=UN e0;have hb:inb at_ w.A8.length=Y:=G0 ha.1 (by rw[h.kl];omega);have hko:=(h.k _ hal).1;have hks:=Ua h hal;simp only[e0,AB,A4,hb,A2,T5];unfold I7;obtain e1|e1:=tfp (ki=1)
  .simp only[e1,AW,A2];unfold NY;by_cases hs:6<=w.AX.length
   .rw[A5<|AU (J:6<=(w.AX.length:Int)),A5 hs];intro hX hd;subst hd;rw[← hX];exact hF rfl rfl
   .rw[A9<|nd (J:¬6<=(w.AX.length:Int)),A9 hs];rw[show Vq ((_,_,_,_,_,()),_,_,_,())=_ from ahv hko t' un ht];simp only[A6];obtain e2|e2:=tfp ((Dt (kA w.A8 at_.toNat) t' un tx).2=0)<;>simp only[e2,AW,Ac,A4,A2,if_false]
    .intro hX hd;subst hd;rw[← hX];exact hF rfl rfl
    .rw[A5<|hn _ _ h.sl];intro hX hd;subst hd;rw[← hX];exact hK rfl
  .simp only[e1,Ac,A4,if_false];obtain e2|e2:=tfp (ki=2)
   .simp only[e2,AW,A2];rw[show Vf ((_,_,_,_,_,()),())=_ from agV hko];simp only[A6];intro hX hd;subst hd;rw[← hX];exact hKv _ _ rfl
   .simp only[e2,Ac,A4,if_false];obtain e3|e3:=tfp (ki=3)
    .simp only[e3,AW,A2];rw[show Vr ((_,_,_,_,_,()),_,_,_,())=_ from ahw hks fr nu mix];simp only[A6];rw[A5 hko];obtain e4|e4:=tf (EI (kA w.A8 at_.toNat) fr nu mix).2<;>simp only[e4,A2,A4]
     .rw[show SP (_,_,())=_ from aA8 (ra:=w.AO) (fs:=[(EI (kA w.A8 at_.toNat) fr nu mix).1]) aIg];simp only[A6];intro hX hd;subst hd;rw[← hX];exact hKm _ rfl
     .intro hX hd;subst hd;rw[← hX];exact hKz rfl
    .simp only[e3,Ac,A4,if_false];obtain e4|e4:=tfp (ki=7)
     .simp only[e4,AW,A2];rw[show Vk ((_,_,_,_,_,()),_,())=_ from agZ hks kp];simp only[A6];rw[A5 hko];intro hX hd;subst hd;rw[← hX];exact hKv _ _ rfl
     .simp only[e4,Ac,A4,if_false];obtain e5|e5:=tfp (ki=8)
      .simp only[e5,AW,A2];rw[show Vg ((_,_,_,_,_,()),())=_ from agW hko];simp only[A6];intro hX hd;subst hd;rw[← hX];exact hKv _ _ rfl
      .simp only[e5,Ac,A4,if_false];obtain e6|e6:=tfp (ki=11)
       .simp only[e6,AW,A2];unfold Nd;rw[show Vs ((_,_,_,_,_,()),_,_,())=_ from ahx hko fr nu];simp only[A6];obtain e7|e7:=tf (DZ (kA w.A8 at_.toNat) fr nu).2.2<;>simp only[e7,A2,A4,AS,AL]
        .by_cases hs:w.got.length<6
         .rw[A5<|AU<|show(j8 w.got:Int)<6 by omega,A5<|AU hs,A5<|hn _ _ h.gl];intro hX hd;subst hd;rw[← hX];exact hK rfl
         .rw[A9<|nd (J:¬(j8 w.got:Int)<6),A9<|nd hs];intro hX hd;subst hd;rw[← hX];exact hF rfl rfl
        .intro hX hd;subst hd;rw[← hX];exact hF rfl rfl
       .simp only[e6,Ac,A4,if_false];obtain e7|e7:=tfp (ki=12)
        .simp only[e7,AW,A2];rw[show Vh ((_,_,_,_,_,()),())=_ from agX hko];simp only[A6];intro hX hd;subst hd;rw[← hX];exact hKv _ _ rfl
        .simp only[e7,Ac,A4,if_false];obtain e8|e8:=tfp (ki=13)
         .simp only[e8,AW,A2];rw[show VU ((_,_,_,_,_,()),())=_ from afP hko];simp only[A6];intro hX hd;subst hd;rw[← hX];exact hKv _ _ rfl
         .simp only[e8,Ac,A4,if_false];intro hX hd;subst hd;rw[← hX];exact hF rfl rfl
 .simp only[e0,AH,A4,A2];intro hX hd;subst hd;rw[← hX];exact hF rfl rfl
def atd{w:AA}{e:Event}(h:(ES w e).2=A0):(ES w e).1=w:=by
 unfold ES at h ⊢;split
 .rename_i h2;rw[A5 h2]at h;split
  .rename_i h3;rw[A5 h3]at h;split
   .rename_i h4;rw[A5 h4]at h;cases h
   .rfl
  .rename_i h3;rw[A9 h3]at h;split
   .rename_i h4;rw[A5 h4]at h;cases h
   .rename_i h4;rw[A9 h4]at h;split
    .rename_i h5;rw[A5 h5]at h;cases h
    .rfl
 .rfl
def asA(w:AA)(e:Event):(ES w e).1.Al=w.Al/\(ES w e).1.AX=w.AX/\(ES w e).1.got=w.got:=by
 unfold ES;split
 .split
  .split<;>exact⟨rfl,rfl,rfl⟩
  .split
   .exact⟨rfl,rfl,rfl⟩
   .split
    .unfold E7;split<;>exact⟨rfl,rfl,rfl⟩
    .exact⟨rfl,rfl,rfl⟩
 .exact⟨rfl,rfl,rfl⟩
def abc{w:AA}(h:B9 w){e:Event}(ht:e.tx.size<=1048576)
  (hK:(doM w e).2=Y->K (doM w e).1.A8 (doM w e).1.Al (doM w e).1.AO (doM w e).1.AX (doM w e).1.got=R)(hF:(doM w e).2=A0->(doM w e).1=w->F=R)(hKv:∀k' b,doM w e=(Gc w e.at_.toNat k',b)->Kv (w.A8.set e.at_.toNat k') b=R)
  (hKm:∀ra',doM w e=(⟨w.ti,w.A8,w.Al,ra',w.AX,w.got⟩,Y)->Km ra' Y=R)(hKz:doM w e=(w,A0)->Kz A0=R):
  doK w.A8 w.Al w.AO w.AX w.got (tE e) K F Kv Km Kz=R:=by
 have rad:(e.ki=4\/e.ki=5\/e.ki=6)->Re w.A8 w.Al w.AO (tE e) (λx y=>K x w.Al y w.AX w.got) F=R:=by
  intro hk;have hd:doM w e=ES w e:=by
   unfold doM;rw[A5 hk]
  rw[ayN h hk];rw[hd]at hK hF;obtain⟨r1,r2,r3⟩:=asA w e;obtain c|c:=tf (ES w e).2
  .have:=hK c;rw[r1,r2,r3]at this;rw[c,A5 rfl];exact this
  .rw[c,A4];exact hF c<|atd c
 have lk:(e.ki=9\/e.ki=10)->Ug w.Al (tE e) (λy=>K w.A8 y w.AO w.AX w.got) F=R:=by
  intro hk;have hd:doM w e=Ey w e:=by
   unfold doM;rw[A9 J,A5 hk]
  rw[ayO h];rw[hd]at hK hF;obtain c|c:=tf (Ey w e).2
  .have:=hK c;rw[c,A5 rfl,← this];unfold Ey;split<;>rfl
  .rw[c,A4];refine hF c ?_;unfold Ey at c ⊢;split
   .rename_i h3;rw[A5 h3]at c;cases c
   .rfl
 unfold doK;by_cases h4:e.ki=4
 .rw[A5<|AU h4];exact rad J
 .rw[A9<|nd h4];by_cases h5:e.ki=5
  .rw[A5<|AU h5];exact rad J
  .rw[A9<|nd h5];by_cases h6:e.ki=6
   .rw[A5<|AU h6];exact rad J
   .rw[A9<|nd h6];by_cases h9:e.ki=9
    .rw[A5<|AU h9];exact lk J
    .rw[A9<|nd h9];by_cases h10:e.ki=10
     .rw[A5<|AU h10];exact lk J
     .rw[A9<|nd h10];exact ayP h J J ht hK hF hKv hKm hKz _ rfl rfl
end
def awi(w:AA)(p:AK)(ra:List AK):(E7 w p ra).ti=w.ti:=by unfold E7;split<;>rfl
def aR(w:AA)(e:Event):(doM w e).1.ti=w.ti:=by
 unfold doM;split
 .unfold ES;split
  .split
   .split<;>rfl
   .split
    .rfl
    .split
     .exact awi _ _ _
     .rfl
  .rfl
 .split
  .unfold Ey;split<;>rfl
  .split
   .unfold I7;split
    .unfold NY;split
     .rfl
     .split<;>rfl
    .split
     .rfl
     .split
      .split<;>rfl
      .split
       .rfl
       .split
        .rfl
        .split
         .unfold Nd;split<;>rfl
         .split
          .rfl
          .split<;>rfl
   .rfl
def asM{w:AA}(h:B9 w){r:List Int×Int×D}{ev:List Event}(hev:ev.length<=1048576){e:Event}(ht:e.tx.size<=1048576):
  Fq ((r,tS w ev),tE e,())=I (((doM w e).2,()),((r,tS (Cl w e)<|K6 ev e (doM w e).2),())):=by
 have hr:∀x:Event,Ab (ev.length+[x].length)=Y:=λx=>BD y8;have hti:=aR w e;unfold Fq;refine abc (w:=w) h (e:=e) ht (λc=> ?_) (λc c2=> ?_) (λk b c=> ?_) (λra c=> ?_) (λc=> ?_)
 .unfold Cl tick K6;rw[c,A5<|hr _,A5 rfl,A5 rfl,hti]
 .unfold Cl tick K6;rw[c,A4,A4,c2]
 .unfold Cl tick K6;rw[c];cases b
  .rfl
  .show(if Ab _ then _ else _)=_;rw[A5<|hr _];rfl
 .unfold Cl tick K6;rw[c,A5 rfl,A5<|hr _];rfl
 .unfold Cl tick K6;rw[c];rfl
end Go.VS
namespace Go.VS
open Go
def Tn(k:A7)(r:A1)(f:Bool):(wrR k r f).1.id=k.id:=by
 unfold wrR;split
 .rfl
 .cases f<;>rfl
def avx{k:A7}(h:Ae k=Y)(f:Frame):(CC k f).1.id=k.id:=by
 unfold CC;rw[A5 h];unfold HK;split
 .split
  .unfold E6;split
   .rfl
   .split
    .rfl
    .split
     .rfl
     .unfold JO;split
      .split
       .unfold Jz;split
        .exact Tn _ _ _
        .rfl
       .rfl
      .rfl
  .split
   .exact Tn _ _ _
   .rfl
 .rfl
def auD(k:A7):(FR k).1.id=k.id:=by
 unfold FR;split
 .exact Tn _ _ _
 .rfl
def awD(k:A7)(tt un:Int)(tx:A1):(Dt k tt un tx).1.id=k.id:=by
 unfold Dt;split
 .exact Tn _ _ _
 .rfl
def axI(k:A7)(fr nu:Int):(DZ k fr nu).1.id=k.id:=by
 unfold DZ;split
 .exact Tn _ _ _
 .rfl
def avT(k:A7):(FT k).1.id=k.id:=by unfold FT;split<;>rfl
def at7(k:A7):(FQ k).1.id=k.id:=by unfold FQ;split<;>rfl
def ab5(k:A7)(n:Int):(faM k n).id=k.id:=by unfold faM;rfl
def ay5(k:A7):(riM k).id=k.id:=rfl
def ay3{k:A7}(h:Ae k=Y):Ae (riM k)=Y:=(ay4<|C0 h).ok
def GI{l:List A7}{i j:Nat}(hi:i<l.length)(k:A7):kA (l.set i k) j=if j=i then k else kA l j:=by
 unfold kA;simp only[BA,P4];by_cases h:j=i
 .subst h;simp[hi]
 .have h':¬i=j:=λe=>h e.symm;simp[h,h']
def B9.put{w:AA}(h:B9 w){i:Nat}(hi:i<4){k:A7}(hk:Ae k=Y)(hid:k.id=(kA w.A8 i).id)(ra:List AK)(se go:List A3)
  (rl:ra.length<=30)(sl:se.length<=6)(gl:go.length<=6)(p:∀p∈ra,Ds p=Y)(s:∀n∈se,Ax n=Y)(g:∀n∈go,Ax n=Y):
  B9 ⟨w.ti,w.A8.set i k,w.Al,ra,se,go⟩:=by
 refine⟨by rw[Ga];exact h.kl,h.ll,rl,sl,gl,λj hj=> ?_,p,s,g⟩;show Ae (kA (w.A8.set i k) j)=Y/\(kA (w.A8.set i k) j).id=(j:Int);rw[GI (by rw[h.kl];exact hi)];split
 .rename_i e;rw[e,hid];exact⟨hk,(h.k i hi).2⟩
 .exact h.k j hj
def B9.Gc{w:AA}(h:B9 w){i:Nat}(hi:i<4){k:A7}(hk:Ae k=Y)(hid:k.id=(kA w.A8 i).id):B9 (Gc w i k):=
 h.put hi hk hid w.AO w.AX w.got h.rl h.sl h.gl h.p h.s h.g
def B9.ra{w:AA}(h:B9 w){ra:List AK}(rl:ra.length<=30)(p:∀p∈ra,Ds p=Y):B9 ⟨w.ti,w.A8,w.Al,ra,w.AX,w.got⟩:=
 ⟨h.kl,h.ll,rl,h.sl,h.gl,h.k,p,h.s,h.g⟩
def B9.ti{w:AA}(h:B9 w)(n:Int):B9 ⟨n,w.A8,w.Al,w.AO,w.AX,w.got⟩:=⟨h.kl,h.ll,h.rl,h.sl,h.gl,h.k,h.p,h.s,h.g⟩
def TY{w:AA}(h:B9 w)(i:Nat):(JI w.AO i).length<=30/\ ∀p∈JI w.AO i,Ds p=Y:=by
 have:=h.rl;refine⟨by unfold JI;simp;omega,λp hp=>h.p p ?_⟩;obtain h1|h1:=BM.1 hp
 .exact IL h1
 .exact KE h1
def aub{w:AA}(h:B9 w){p:AK}(hp:Ds p=Y){ra:List AK}(rl:ra.length<=30)(hra:∀p∈ra,Ds p=Y):B9 (E7 w p ra):=by
 unfold E7;obtain⟨_,p2,_⟩:=Lm hp;split
 .have hi:p.dst.toNat<4:=J
  exact h.put hi (avw (h.k _ hi).1 _) (avx (h.k _ hi).1 _) _ _ _ (aG4 rl) h.sl h.gl (aaL hra (YJ _ _).2) h.s h.g
 .exact h.ra rl hra
def asm{p:AK}(hp:Ds p=Y)(mix kp:Int):Ds (Ok p mix kp)=Y:=by
 unfold Ds Ok at *;simpa[YX,pr] using hp
def ate{w:AA}(h:B9 w)(e:Event):B9 (ES w e).1:=by
 unfold ES;split
 .rename_i h0;have h0:=Aa.1 h0;have hlt:e.wo.toNat<w.AO.length:=J
  have hp:=QR h hlt;split
  .split
   .refine h.ra (by rw[Ga];exact h.rl) λp hp'=> ?_;obtain h1|h1:=Qx hp'
    .exact h.p p h1
    .rw[h1];exact asm hp _ _
   .exact h
  .split
   .exact h.ra (TY h _).1 (TY h _).2
   .split
    .refine aub h hp ?_ ?_<;>split
     .exact(TY h _).1
     .exact h.rl
     .exact(TY h _).2
     .exact h.p
    .exact h
 .exact h
def avE{w:AA}(h:B9 w)(e:Event):B9 (Ey w e).1:=by
 unfold Ey;split
 .exact⟨h.kl,by show(w.Al.set _ _).length=3;rw[Ga];exact h.ll,h.rl,h.sl,h.gl,h.k,h.p,h.s,h.g⟩
 .exact h
def aFM{k:A7}{tt un:Int}{tx:A1}(h:(Dt k tt un tx).2≠0):Ax ⟨k.id,(Dt k tt un tx).2,tt,un,tx⟩=Y:=by
 unfold Dt at h ⊢;split
 .rename_i hc;rw[A5 hc]at h;simp only[AD]at hc;simp only at h ⊢;split
  .exact hc.2
  .rename_i h1;rw[A9 h1]at h;exact absurd rfl h
 .rename_i hc;rw[A9 hc]at h;exact absurd rfl h
def auP{k:A7}(hk:Ae k=Y){fr nu:Int}(h:(DZ k fr nu).2.2=Y):Ax (DZ k fr nu).2.1=Y:=by
 unfold DZ at h ⊢;split
 .rename_i hc;rw[A5 hc]at h;simp only at h ⊢;rw[A5 h];simp only[AD,C6,decide_eq_false_iff_not]at hc;exact H8 (Bz (C0 hk).kok).i (FB<|Qz.1 hc.2).1
 .rename_i hc;rw[A9 hc]at h;cases h
def oR{α:Type}{l:List α}{P:α->Prop}{a:α}(h:∀x∈l,P x)(ha:P a):∀x∈l++[a],P x:=by
 intro x hx;obtain h1|h1:=BM.1 hx
 .exact h x h1
 .rw[C9.1 h1];exact ha
def asI{w:AA}(h:B9 w)(e:Event)(ha:isN e.at_=Y):B9 (I7 w e<|kA w.A8 e.at_.toNat).1:=by
 have hi:=UN ha;have hr:=ER ha;obtain⟨hk,hid⟩:=h.k _ hi;unfold I7;split
 .unfold NY;split
  .exact h
  .split
   .exact h
   .rename_i h1 h2;refine h.put hi (awC hk _ _ _) (awD _ _ _ _) _ _ _ h.rl y8 h.gl h.p (oR h.s ?_) h.g;have:=aFM h2;rw[hid,R7 hr.1]at this;exact this
 .split
  .exact h.Gc hi (auC hk) (auD _)
  .split
   .split
    .rename_i h1;exact h.ra (aG4 h.rl) (aaL h.p λf hf=>by rw[C9.1 hf];exact av6 hk h1)
    .exact h
   .split
    .exact h.Gc hi (pg hk _) (ab5 _ _)
    .split
     .exact h.Gc hi (ay3 hk) (ay5 _)
     .split
      .unfold Nd;split
       .rename_i h1;simp only[AD,decide_eq_true_eq]at h1;exact h.put hi (axH hk _ _) (axI _ _ _) _ _ _ h.rl h.sl y8 h.p h.s (oR h.g<|auP hk h1.1)
       .exact h
      .split
       .exact h.Gc hi (avS hk) (avT _)
       .split
        .exact h.Gc hi (at6 hk) (at7 _)
        .exact h
def ph{w:AA}(h:B9 w)(e:Event):B9 (doM w e).1:=by
 unfold doM;split
 .exact ate h e
 .split
  .exact avE h e
  .split
   .rename_i h1;exact asI h e h1
   .exact h
def aaE{w:AA}(h:B9 w)(b:Bool):B9 (tick w b):=by
 unfold tick;split
 .exact h.ti _
 .exact h
def pI{w:AA}(h:B9 w)(e:Event):B9 (Cl w e):=aaE (ph h e) _
def kp0(i:Int):A7:=⟨i,Y,noB,0,[]⟩
def rv0:AA:=⟨0,[kp0 0,kp0 1,kp0 2,kp0 3],[Y,Y,Y],[],[],[]⟩
def aym{i:Int}(h:isN i=Y):Ae (kp0 i)=Y:=by
 refine XG (k:=kp0 i) (rs:=[]) (ts:=[]) h ⟨?_,(show noB.size<=2400 by decide),by rfl,by rfl⟩ (show 0<=3 by decide) (.inl rfl) ?_ (λi hi=>absurd hi<|oI _)
 .intro r hr;cases hr
 .unfold Cc;rw[A5<|show isN (kp0 i).id=Y from h];rfl
def au{i:Nat}(hi:i<4):kA rv0.A8 i=kp0 i:=by
 have:i=0\/i=1\/i=2\/i=3:=J
 obtain rfl|rfl|rfl|rfl:=this<;>rfl
def HA{i:Nat}(hi:i<4):isN (i:Int)=Y:=Aa.2 ⟨J,J⟩
def bU:B9 rv0:=by
 refine⟨rfl,rfl,by decide,by decide,by decide,λi hi=> ?_,(λp hp=>by cases hp),(λp hp=>by cases hp),(λp hp=>by cases hp)⟩;rw[au hi];exact⟨aym<|HA hi,rfl⟩
def PN(k:A7):Prop:=k.up=A0->k.fo=(k.log.size:Int)
def Ol(k:A7)(r:A1)(f:Bool):(wrR k r f).1.up=k.up:=by
 unfold wrR;split
 .rfl
 .cases f<;>rfl
def aa5{k:A7}(h:Ae k=Y)(f:Frame):(CC k f).1.up=k.up:=by
 unfold CC;rw[A5 h];unfold HK;split
 .split
  .unfold E6;split
   .rfl
   .split
    .rfl
    .split
     .rfl
     .unfold JO;split
      .split
       .unfold Jz;split
        .exact Ol _ _ _
        .rfl
       .rfl
      .rfl
  .split
   .exact Ol _ _ _
   .rfl
 .rfl
def atZ{k:A7}(ok:Ae k=Y)(h:k.up=A0)(f:Frame):CC k f=(k,[]):=by
 unfold CC;rw[A5 ok];unfold HK;rw[h,AL,A4]
def avU{k:A7}(h:k.up=A0)(tt un:Int)(tx:A1):Dt k tt un tx=(k,0):=by
 unfold Dt;rw[h,AL,A4]
def avn{k:A7}(h:k.up=A0)(a b:Int):DZ k a b=(k,zN,A0):=by
 unfold DZ;rw[h,AL,A4]
def at2{k:A7}(h:k.up=A0):FR k=(k,A0):=by
 unfold FR;rw[h,A4]
def atj{k:A7}(h:k.up=A0):FT k=(k,A0):=by
 unfold FT;rw[h,A4]
def arq{k:A7}(h:k.up=A0):FQ k=(k,A0):=by
 unfold FQ;rw[h,AL,A4]
def axm(k:A7)(tt un:Int)(tx:A1):(Dt k tt un tx).1.up=k.up:=by
 unfold Dt;split
 .exact Ol _ _ _
 .rfl
def ayu(k:A7)(a b:Int):(DZ k a b).1.up=k.up:=by
 unfold DZ;split
 .exact Ol _ _ _
 .rfl
def awN(k:A7):(FR k).1.up=k.up:=by
 unfold FR;split
 .exact Ol _ _ _
 .rfl
def awA(k:A7):(FT k).1.up=k.up:=by unfold FT;split<;>rfl
def avd(k:A7):(FQ k).1.up=k.up:=by unfold FQ;split<;>rfl
def Qa{k k':A7}(h:PN k)(hu:k'.up=k.up)(hd:k.up=A0->k'=k):PN k':=λe=>by
 rw[hu]at e;rw[hd e];exact h e
def axA(k:A7)(n:Int):PN (faM k n):=by
 intro _;unfold faM;simp only;have h:=(QD<|k.log.extract 0 (k.fo+max 0 (min n<|(k.log.size:Int) - k.fo)).toNat).1;rw[@aEJ];omega
def avi{k:A7}(ok:Ae k=Y)(h:k.up=A0)(d:PN k)(n:Int):faM k n=k:=by
 obtain⟨_,h2,h3⟩:=arv (C0 ok) (d h) n;have h4:=aHS ok h;have:faM k n=⟨(faM k n).id,(faM k n).up,(faM k n).log,(faM k n).fo,(faM k n).AJ⟩:=rfl;rw[this,h2,h3,ab5,show(faM k n).up=k.up from by rw[h];rfl,show(faM k n).AJ=k.AJ from by rw[h4];rfl]
def awc{k:A7}(h:k.up=Y):riM k=k:=by
 unfold riM;rw[← h]
def Kw{l:List A7}{i:Nat}:l.set i (kA l i)=l:=by
 apply nc;intro j;rw[P4];by_cases h:i=j
 .subst h;by_cases h1:i<l.length
  .rw[A5 rfl,A5 h1,kA,BA,Ap h1];rfl
  .rw[A5 rfl,A9 h1,Ht J]
 .rw[A9 h]
def TB{w:AA}{i:Nat}{k:A7}(h:k=kA w.A8 i):Gc w i k=w:=by
 subst h;unfold Gc;rw[Kw]
structure Rv (w:AA):Prop where
 d:∀i,i<4->PN (kA w.A8 i)
def ayM{w:AA}(h:B9 w)(hd:Rv w){e:Event}(ho:(doM w e).2=A0):(doM w e).1=w:=by
 unfold doM at ho ⊢;split
 .rename_i h1;rw[A5 h1]at ho;unfold ES at ho ⊢;split
  .rename_i h2;rw[A5 h2]at ho;split
   .rename_i h3;rw[A5 h3]at ho;split
    .rename_i h4;rw[A5 h4]at ho;cases ho
    .rfl
   .rename_i h3;rw[A9 h3]at ho;split
    .rename_i h4;rw[A5 h4]at ho;cases ho
    .rename_i h4;rw[A9 h4]at ho;split
     .rename_i h5;rw[A5 h5]at ho;cases ho
     .rfl
  .rfl
 .rename_i h1;rw[A9 h1]at ho;split
  .rename_i h2;rw[A5 h2]at ho;unfold Ey at ho ⊢;split
   .rename_i h3;rw[A5 h3]at ho;cases ho
   .rfl
  .rename_i h2;rw[A9 h2]at ho;split
   .rename_i h3;rw[A5 h3]at ho;have hi:=UN h3;obtain⟨ok,_⟩:=h.k _ hi;have hdk:=hd.d _ hi;unfold I7 at ho ⊢;split
    .rename_i c;rw[A5 c]at ho;unfold NY at ho ⊢;split
     .rfl
     .rename_i c1;rw[A9 c1]at ho;split
      .rfl
      .rename_i c2;rw[A9 c2]at ho;cases ho
    .rename_i c;rw[A9 c]at ho;split
     .rename_i c;rw[A5 c]at ho;refine TB ?_;unfold FR at ho ⊢;split
      .rename_i c1;rw[A5 c1]at ho;exact Qb ho
      .rfl
     .rename_i c;rw[A9 c]at ho;split
      .rename_i c;rw[A5 c]at ho;split
       .rename_i c1;rw[A5 c1]at ho;cases ho
       .rfl
      .rename_i c;rw[A9 c]at ho;split
       .rename_i c;rw[A5 c]at ho;exact TB (avi ok ho hdk _)
       .rename_i c;rw[A9 c]at ho;split
        .rename_i c;rw[A5 c]at ho;exact TB (awc<|by simpa using ho)
        .rename_i c;rw[A9 c]at ho;split
         .rename_i c;rw[A5 c]at ho;unfold Nd at ho ⊢;split
          .rename_i c1;rw[A5 c1]at ho;cases ho
          .rfl
         .rename_i c;rw[A9 c]at ho;split
          .rename_i c;rw[A5 c]at ho;refine TB ?_;unfold FT at ho ⊢;split
           .rename_i c1;rw[A5 c1]at ho;cases ho
           .rfl
          .rename_i c;rw[A9 c]at ho;split
           .rename_i c;rw[A5 c]at ho;refine TB ?_;unfold FQ at ho ⊢;split
            .rename_i c1;rw[A5 c1]at ho;cases ho
            .rfl
           .rfl
   .rfl
inductive KMv (k:A7):A7->Prop
 | aDc (f:Frame):KMv k (CC k f).1
 | own (tt un:Int) (tx:A1):KMv k (Dt k tt un tx).1
 | time:KMv k (FR k).1
 | eat (a b:Int):KMv k (DZ k a b).1
 | V9 (n:Int):KMv k (faM k n)
 | cB:KMv k (riM k)
 | pack:KMv k (FT k).1
 | force:KMv k (FQ k).1
def ayI{w:AA}(h:B9 w)(e:Event):(doM w e).1.A8=w.A8\/ ∃i k',i<4/\KMv (kA w.A8 i) k'/\(doM w e).1.A8=w.A8.set i k':=by
 unfold doM;split
 .unfold ES;split
  .rename_i h2;split
   .split
    .exact .inl rfl
    .exact .inl rfl
   .split
    .exact .inl rfl
    .split
     .unfold E7;split
      .refine .inr ⟨_,_, ?_,.aDc _,rfl⟩;have:=Aa.1 h2;have:=Lm<|QR h (i:=e.wo.toNat) J;omega
      .exact .inl rfl
     .exact .inl rfl
  .exact .inl rfl
 .split
  .unfold Ey;split
   .exact .inl rfl
   .exact .inl rfl
  .split
   .rename_i h3;have hi:=UN h3;unfold I7;split
    .unfold NY;split
     .exact .inl rfl
     .split
      .exact .inl rfl
      .exact .inr ⟨_,_,hi,.own _ _ _,rfl⟩
    .split
     .exact .inr ⟨_,_,hi,.time,rfl⟩
     .split
      .split
       .exact .inl rfl
       .exact .inl rfl
      .split
       .exact .inr ⟨_,_,hi,.V9 _,rfl⟩
       .split
        .exact .inr ⟨_,_,hi,.cB,rfl⟩
        .split
         .unfold Nd;split
          .exact .inr ⟨_,_,hi,.eat _ _,rfl⟩
          .exact .inl rfl
         .split
          .exact .inr ⟨_,_,hi,.pack,rfl⟩
          .split
           .exact .inr ⟨_,_,hi,.force,rfl⟩
           .exact .inl rfl
   .exact .inl rfl
def ay2{w:AA}(h:B9 w)(e:Event):(Cl w e).A8=w.A8\/ ∃i k',i<4/\KMv (kA w.A8 i) k'/\(Cl w e).A8=w.A8.set i k':=by
 have:=ayI h e;unfold Cl tick;split<;>exact this
def awW{P:A7->Prop}(hP:∀k k',Ae k=Y->P k->KMv k k'->P k'){w:AA}(h:B9 w)(hw:∀i,i<4->P (kA w.A8 i))(e:Event):∀i,i<4->P (kA (Cl w e).A8 i):=by
 intro i hi;obtain e1|⟨j,k',hj,m,e1⟩:=ay2 h e
 .rw[e1];exact hw i hi
 .rw[e1,GI (by rw[h.kl];exact hj)];split
  .exact hP _ _ (h.k j hj).1 (hw j hj) m
  .exact hw i hi
def KMv.dur{k k':A7}(ok:Ae k=Y)(h:PN k)(m:KMv k k'):PN k':=by
 cases m with
 | aDc f=>exact Qa h (aa5 ok f) λe=>by rw[atZ ok e]
 | own a b c=>exact Qa h (axm _ _ _ _) λe=>by rw[avU e]
 | time=>exact Qa h (awN _) λe=>by rw[at2 e]
 | eat a b=>exact Qa h (ayu _ _ _) λe=>by rw[avn e]
 | V9 n=>exact axA _ _
 | cB=>intro e;cases e
 | pack=>exact Qa h (awA _) λe=>by rw[atj e]
 | force=>exact Qa h (avd _) λe=>by rw[arq e]
def Rv.sim{w:AA}(hd:Rv w)(h:B9 w)(e:Event):Rv (Cl w e):=⟨awW (λ_ _ ok d m=>m.dur ok d) h hd.d e⟩
inductive Reach:List Event->AA->Prop
 | nil:Reach [] rv0
 | snoc {ev:List Event} {w:AA} {e:Event} :Reach ev w->(doM w e).2=Y->e.tx.size<=1048576->Reach (ev++[e]) (Cl w e)
def Reach.both{ev:List Event}{w:AA}(h:Reach ev w):B9 w/\Rv w:=by
 induction h with
 | nil=>exact⟨bU,⟨λi hi e=>by rw[au hi]at e;cases e⟩⟩
 | snoc _ _ _ ih=>exact⟨pI ih.1 _,ih.2.sim ih.1 _⟩
def Reach.ok{ev:List Event}{w:AA}(h:Reach ev w):B9 w:=h.both.1
def Reach.dur{ev:List Event}{w:AA}(h:Reach ev w):Rv w:=h.both.2
def Reach.step{ev:List Event}{w:AA}(h:Reach ev w){e:Event}(ht:e.tx.size<=1048576):Reach (K6 ev e (doM w e).2) (Cl w e):=by
 unfold K6;obtain c|c:=tf (doM w e).2
 .rw[c,A5 rfl];exact h.snoc c ht
 .have:=ayM h.ok h.dur c;rw[c,A4];unfold Cl tick;rw[c,A4,this];exact h
def OF{l:List Int}(h:BOk l):BC (BJ l)=l:=by
 unfold BC BJ;simp only[IT]
 conv=>rhs;rw[← aE l]
 refine Gt λn hn=> ?_;have:=h n hn;simp only[Function.comp,id];rw[UInt8.toNat_ofNat'];omega
def auJ{a b:List Int}(ha:BOk a)(hb:BOk b)(h:BJ a=BJ b):a=b:=by
 rw[← OF ha,h,OF hb]
def OQ(f:Frame):BOk (Ce f):=by
 unfold Ce;split
 .exact BOk.app (ZN f) (.cons _<|.cons _ .nil)
 .exact .nil
def IF{n:Int}(h0:0<=n)(h1:n<=255):w8 n=n:=by
 rw[N5];omega
def Tp{n:Int}(h0:0<=n)(h1:n<=65535):256 * w8 (w64<|B1 n 256)+w8 (BL n 256)=n:=by
 rw[N5,N5,HQ h0,L9 h0,AZ J J];omega
def ax6{s:A1}(h:s.size=4):∃a b c d,s=B [a,b,c,d]:=by
 have h':(L s).length=4:=h;rcases hl:L s with _|⟨a,_|⟨b,_|⟨c,_|⟨d,_|⟨e,l⟩⟩⟩⟩⟩<;>rw[hl]at h'<;>simp at h';exact⟨a,b,c,d,G5 (by rw[L_B,hl])⟩
def aGd{a1 a2 a3 a4 a5 a6 a7 a8 a9 b1 b2 b3 b4 b5 b6 b7 b8 b9:Int}{s t:A1}(h1:a1=b1)(h2:a2=b2)(h3:a3=b3)(h4:a4=b4)(h5:a5=b5)(h6:a6=b6)(h7:a7=b7)(h8:a8=b8)(h9:a9=b9)(h:s=t):
  (⟨a1,a2,a3,a4,a5,a6,a7,a8,a9,s⟩:Frame)=⟨b1,b2,b3,b4,b5,b6,b7,b8,b9,t⟩:=by
 subst h1 h2 h3 h4 h5 h6 h7 h8 h9 h;rfl
def Xb{f:Frame}(h:C1 f=Y):Cs (Ce f)=(f,Y):=by
 have hr:=OX h;have r1:=Aa.1 hr.1;have r2:=Aa.1 hr.2.1;have r3:=Aa.1 hr.2.2.1;have r4:=Aa.1 hr.2.2.2.1;have r5:=Aa.1 hr.2.2.2.2.1;have r6:=Aa.1 hr.2.2.2.2.2.1;have r7:=hr.2.2.2.2.2.2;have aby:Ff (Ce f)=f/\((Ce f).length=10\/(Ce f).length=17):=by
  obtain⟨ki,src,dst,fr,nu,t',un,sz,mix,da⟩:=f;simp only at r1 r2 r3 r4 r5 r6 r7;unfold Ce;rw[A5 h];unfold Jy at r7;by_cases hk:ki=1
  .subst hk;simp only[AW,A2,AD,decide_eq_true_eq]at r7;obtain⟨q1,q2,q3,q4⟩:=r7;have q1:=Aa.1 q1;have q2:=Aa.1 q2;obtain⟨a,b,c,d,rfl⟩:=ax6 (s:=da) J;unfold Ez;simp only[AW,A2];have hb:BC (B [a,b,c,d])=[(a.toNat:Int),b.toNat,c.toNat,d.toNat]:=rfl;rw[hb];refine⟨?_,.inr rfl⟩;have e1:=Tp (n:=un) J J;have e2:=Tp (n:=mix) J J;unfold Ff;rw[A5<|by rfl];have g1:=IF (n:=src) J J;have g2:=IF (n:=dst) J J;have g3:=IF (n:=fr) J J;have g4:=IF (n:=nu) J J;have g5:=IF (n:=t') J J;have g6:=IF (n:=sz) J J;have g7:=TV [a,b,c,d];exact aGd rfl g1 g2 g3 g4 g5 e1 g6 e2 g7
  .rw[A9<|by simpa using hk]at r7;simp only[AD,Bw,decide_eq_true_eq]at r7;obtain⟨q0,q1,q2,q3,q4⟩:=r7;unfold Ez;simp only[BG hk,A4];refine⟨?_,.inl rfl⟩;have e1:=Tp (n:=un) J J;unfold Ff;rw[A9 aIg];have g0:=IF (n:=ki) J J;have g1:=IF (n:=src) J J;have g2:=IF (n:=dst) J J;have g3:=IF (n:=fr) J J;have g4:=IF (n:=nu) J J;have g5:=IF (n:=t') J J;exact aGd g0 g1 g2 g3 g4 g5 e1 q1.symm q2.symm q3.symm
 unfold Cs;rw[aby.1,A5,A5<|AU rfl];rw[Bw,decide_eq_true_eq,decide_eq_true_eq];have:=aby.2;omega
def NR:List Int->Nat->Int
 | [],_=>0
 | x::r,i=>x * ((i % 1000:Nat)+1)+NR r (i+1)
def mC:∀ {l:List Int} {i:Nat} {n:Int},BOk l->0<=n->n<65521->F1 l i n=(n+NR l i) % 65521
 | [],i,n,_,h0,h1=>by
  unfold F1 NR;omega
 | x::r,i,n,hb,h0,h1=>by
  have hx:=hb x Ao;have hp:0<=x * ((i % 1000:Nat)+1:Int):=nt hx.1 J;unfold F1 NR;rw[L9 J,mC (λy hy=>hb y<|Aj x hy) J J];omega
def aGW:∀ {l:List Int} {j i:Nat} {x:Int} (h:j<l.length),NR (l.set j x) i=NR l i+(x - l[j]) * (((i+j) % 1000:Nat)+1)
 | y::r,0,i,x,h=>by
  rw[List.set_cons_zero];unfold NR;simp only[List.getElem_cons_zero,Hu];rw[Int.sub_mul];omega
 | y::r,j+1,i,x,h=>by
  rw[List.set_cons_succ];unfold NR;rw[aGW (j:=j) (i:=i+1)<|by simpa using h,List.getElem_cons_succ,show i+1+j=i+(j+1) by omega];omega
structure bZ (b body:List Int):Prop where
 e:b=body++two (F1 body 0 0)
 ok:BOk body
 len:body.length<=15
def awM{a b:Int}(h0:0<=a/\a<65521)(h1:0<=b/\b<65521)(h:two a=two b):a=b:=by
 have e1:=Tp (n:=a) J J;have e2:=Tp (n:=b) J J;unfold two at h;simp only[ML,and_true]at h;rw[← e1,← e2,h.1,h.2]
def arM{b body PZ:List Int}{j:Nat}{x:Int}(h:bZ b body)(hj:j<b.length)(hx:x≠b[j])(hr:0<=x/\x<=255):¬bZ (b.set j x) PZ:=by
 intro h';have hlb:b.length=body.length+2:=by rw[h.e];simp
 have amk:(b.set j x).length=PZ.length+2:=by rw[h'.e];simp
 rw[Ga]at amk;have hs:=nC (i:=0) (n:=0) h.ok J J;have hs':=nC (i:=0) (n:=0) h'.ok J J;have e:=h'.e;have hbl:body.length=PZ.length:=J
 by_cases hlt:j<body.length
 .have e1:(body.set j x)++two (F1 body 0 0)=PZ++two (F1 PZ 0 0):=by
   rw[← e,h.e,List.set_append_left _ _ hlt]
  obtain⟨e2,e3⟩:=List.append_inj e1 (by rw[Ga];exact hbl);have e4:=awM hs hs' e3;have hbj:b[j]=body[j]:=by simp only[h.e,List.getElem_append_left hlt]
  rw[← e2]at e4 h';rw[mC h.ok J J,mC h'.ok J J,aGW hlt]at e4;have hb1:=h.ok body[j] (CU hlt);have hlen:=h.len;rw[hbj]at hx;have hm:((0+j) % 1000:Nat)=j:=J
  rw[hm]at e4;have hd:∃d:Int,d=(x - body[j]) * ((j:Int)+1):=⟨_,rfl⟩;obtain⟨d,hd⟩:=hd;rw[← hd]at e4;have h1:d≠0:=by
   rw[hd];exact Int.mul_ne_zero J J
  have h2:d<=255 * 15:=by
   rw[hd];have a1:(x - body[j]) * ((j:Int)+1)<=255 * ((j:Int)+1):=nY J J;omega
  have h3: -(255 * 15)<=d:=by
   rw[hd];have a1:(-255) * ((j:Int)+1)<=(x - body[j]) * ((j:Int)+1):=nY J J;omega
  omega
 .have e1:body++(two<|F1 body 0 0).set (j - body.length) x=PZ++two (F1 PZ 0 0):=by
   rw[← e,h.e,List.set_append_right _ _ J]
  obtain⟨e2,e3⟩:=List.append_inj e1 hbl;rw[← e2]at e3;have e4:b.set j x=b:=by
   rw[e,← e2];exact h.e.symm
  have:(b.set j x)[j]'(by rw[Ga];exact hj)=x:=List.getElem_set_self ..;rw[List.getElem_of_eq e4]at this;exact hx this.symm
def aFL{f:Frame}(h:C1 f=Y):bZ (Ce f) (Ez f):=⟨by unfold Ce;rw[A5 h],ZN f,YQ h⟩
def arJ{b:List Int}(hb:BOk b)(h:(Cs b).2=Y):bZ b (Ez (Cs b).1):=by
 have ok:=arK h;have:Ce (Cs b).1=b:=by
  unfold Cs at h ⊢;split
  .rename_i h1;rw[A5 h1]at h;split
   .rename_i h2;exact auJ (OQ _) hb (BZ h2)
   .rename_i h2;rw[A9 h2]at h;cases h
  .rename_i h1;rw[A9 h1]at h;cases h
 have hs:=aFL ok;rw[this]at hs;exact hs
def axq{x k:Int}(hx:0<=x/\x<=255)(hk:1<=k/\k<=255):Dw .u8 x (w8 k)≠x/\0<=Dw .u8 x (w8 k)/\Dw .u8 x (w8 k)<=255:=by
 rw[IF J J];have e:Dw .u8 x k=w8 ((FG 8 x ^^^ FG 8 k).toNat:Int):=rfl;have hlt:=(FG 8 x ^^^ FG 8 k).isLt;rw[e,IF J J];refine⟨λh=> ?_,J,J⟩;obtain⟨m,rfl⟩:=HS hx.1;obtain⟨n,rfl⟩:=HS (J:0<=k);have e1:(FG 8 (m:Int) ^^^ FG 8 (n:Int))=FG 8 (m:Int):=by
  apply oM;rw[Qu];omega
 have e2:FG 8 (n:Int)=0#8:=by
  have:=congrArg (λz=>FG 8 (m:Int) ^^^ z) e1;simpa[← BitVec.xor_assoc] using this
 have e3:=congrArg BitVec.toNat e2;rw[Qu]at e3;simp at e3;omega
def ar7{f:Frame}{p:AK}(hf:C1 f=Y)(hd:p.data=BJ (Ce f)){mix kp:Int}(hm:inB mix 0 ((p.data.size:Int) - 1)=Y)(hk:inB kp 1 255=Y):(Cs<|BC (Ok p mix kp).data).2=A0:=by
 have hm:=Aa.1 hm;have hk:=Aa.1 hk;rw[hd,YX]at hm;obtain h|h:=tf (Cs<|BC (Ok p mix kp).data).2
 .exfalso;have hs:=arJ (BOk.str _) h;unfold Ok at hs;simp only at hs;rw[hd,OF<|OQ f]at hs;have hlt:mix.toNat<(Ce f).length:=J
  have hrd: @rd Int aIp (Ce f) mix=(Ce f)[mix.toNat]:=by
   show(Ce f).getD mix.toNat 0=_;rw[BA,Ap hlt];rfl
  rw[hrd]at hs;have hx:=OQ f _<|CU hlt;have hne:=axq hx hk;have hb:BOk ((Ce f).set mix.toNat<|Dw .u8 (Ce f)[mix.toNat] (w8 kp)):=by
   intro y hy;obtain h1|h1:=Qx hy
   .exact OQ f y h1
   .rw[h1];exact hne.2
  rw[OF hb]at hs;exact arM (aFL hf) hlt hne.1 hne.2 hs
 .exact h
def aEf{α β:Type}{f g:α->β->α}:∀ {l:List β} {a:α},(∀a,∀b∈l,f a b=g a b)->l.foldl f a=l.foldl g a
 | [],_,_=>rfl
 | x::l,a,h=>by
  rw[Dy,Dy,h a x Ao];exact aEf λa b hb=>h a b<|Aj x hb
def Na(b:Nat)(bl:Nat->List UInt8)(kn:List A1):Prop:=∀k,k<b->bsA kn k=noB\/bsA kn k=B (bl k)
def ato{b:Nat}{bl:Nat->List UInt8}{kn kn':List A1}{m:AQ}(hb:∀k,(bl k).length=4)(hm:Iq m->m.da=B (Dv 4 bl<|Bi (b:Int) m.nu))
  (h:Ca b kn)(ht:Na b bl kn)(e:FD b kn m=I kn'):Na b bl kn':=by
 unfold FD at e;split at e
 .rename_i hc;rw[AD]at hc;have hda:=hm ⟨hc.1,BZ hc.2⟩;split at e
  .rename_i u hu;injection e with e;subst e;have Fa:u∈DL kn (Bi (b:Int) m.nu):=by rw[hu];exact P9 u
   obtain⟨h1,h2⟩:=FH.1 Fa;have h3:=Lk h1;have hul:u<kn.length:=by rw[h.1];omega
   have hv:EU kn (Bi (b:Int) m.nu) (L m.da)=bl u:=by
    have hp:=avR (n:=4) (bl:=bl) (p:=λk=> !unk kn k) (ks:=Bi (b:Int) m.nu) (u:=u) (λk _=>hb k) (by
     have:(Bi (b:Int) m.nu).filter (λk=> !(!unk kn k))=DL kn (Bi (b:Int) m.nu):=by
      unfold DL;congr 1;funext k;rw[Bool.not_not]
     rw[this,hu])
    rw[← hp,hda,L_B];unfold EU;refine aEf λx k hk=> ?_;obtain c|c:=tf (unk kn k)
    .rw[c];rfl
    .rw[c];have hkb:=Lk hk;obtain h4|h4:=ht k J
     .exact absurd h4 (KD c)
     .rw[h4,L_B];rfl
   intro k hk;rw[Th _ hul];by_cases ek:k=u
   .rw[A5 ek,hv,ek];exact .inr rfl
   .rw[A9 ek];exact ht k hk
  .cases e
 .cases e
def mQ{b:Nat}{bl:Nat->List UInt8}(hb:∀k,(bl k).length=4):∀(list:List AQ) (s:List A1×Bool),(∀m∈list,Iq m->m.da=B (Dv 4 bl<|Bi (b:Int) m.nu))->Ca b s.1->Na b bl s.1->Na b bl (list.foldl (CL b) s).1
 | [],_,_,_,h=>h
 | m::list,s,hm,h,ht=>by
  rw[Dy];cases e:FD b s.1 m with
  | none=>
   rw[show CL b s m=s by unfold CL;rw[e]];exact mQ hb list s (λx hx=>hm x<|Aj m hx) h ht
  | some kn=>
   rw[show CL b s m=(kn,Y) by unfold CL;rw[e]];exact mQ hb list (kn,Y) (λx hx=>hm x<|Aj m hx) (Tc h e).1<|ato hb (hm m Ao) h ht e
def lW{b:Nat}{bl:Nat->List UInt8}(hb:∀k,(bl k).length=4){list:List AQ}(hm:∀m∈list,Iq m->m.da=B (Dv 4 bl<|Bi (b:Int) m.nu)):∀(n:Nat) (kn:List A1),Ca b kn->Na b bl kn->Na b bl (Gl b list n kn)
 | 0,_,_,h=>h
 | n+1,kn,h,ht=>by
  have h1:=(Ms list (kn,A0) h).1;have h2:=mQ hb list (kn,A0) hm h ht;unfold Gl;split
  .exact lW hb hm n _ h1 h2
  .exact h2
def aH3{b:Nat}{list:List AQ}:∀(n:Nat) (kn:List A1),Ca b kn->∀k,unk (Gl b list n kn) k=Y->unk kn k=Y
 | 0,_,_,_,h=>h
 | n+1,kn,h,k,hk=>by
  obtain⟨h1,h2,_⟩:=Ms list (kn,A0) h;unfold Gl at hk;split at hk
  .exact h2 k (aH3 n _ h1 k hk)
  .exact h2 k hk
def aEg{b:Nat}{k:Nat}:∀(list:List AQ) (s:List A1×Bool),(∃m∈list,Iq m/\Bi (b:Int) m.nu=[k])->Ca b s.1->unk (list.foldl (CL b) s).1 k=A0
 | [],_,h,_=>by
  obtain⟨m,hm,_⟩:=h;cases hm
 | m::list,s,h,hk=>by
  rw[Dy];have hs:Ca b (CL b s m).1:=by
   unfold CL;split
   .rename_i kn e;exact(Tc hk e).1
   .exact hk
  obtain⟨x,hx,hf,hof⟩:=h;obtain rfl|hx:=Bl.1 hx
  .have h1:unk (CL b s x).1 k=A0:=by
    unfold CL FD;rw[A5 (by rw[AD];exact⟨hf.1,AU hf.2⟩),hof];unfold DL;rw[KG,aJ];obtain c|c:=tf (unk s.1 k)
    .have hul:k<s.1.length:=by
      have h3:=Lk (b:=(b:Int)) (n:=x.nu) (k:=k) (by rw[hof];exact P9 k);rw[hk.1];omega
     simp only[c,A2];unfold unk;rw[Th _ hul,A5 rfl];refine BG λhh=> ?_;have h4:(B<|EU s.1 [k] (L x.da)).size=4:=by
      rw[BQ,mG hk (by have:=hf.2;rw[Az];omega) λj hj=>by rw[C9.1 hj,← hk.1];exact hul]
     rw[hh]at h4;cases h4
    .simp only[c,A4]
   obtain c|c:=tf (unk (list.foldl (CL b)<|CL b s x).1 k)
   .have:=(Ms list (CL b s x) hs).2.1 k c;rw[h1]at this;cases this
   .exact c
  .exact aEg list _ ⟨x,hx,hf,hof⟩ hs
def ar3{b:Nat}{k:Nat}{list:List AQ}(h:∃m∈list,Iq m/\Bi (b:Int) m.nu=[k])(n:Nat){kn:List A1}(hk:Ca b kn):unk (Gl b list (n+1) kn) k=A0:=by
 have h1:=aEg list (kn,A0) h hk;have h2:=(Ms list (kn,A0) hk).1;unfold Gl;split
 .rcases tf (unk (Gl b list n (Im b list kn).1) k) with c|c
  .have:=aH3 n _ h2 k c;rw[h1]at this;cases this
  .exact c
 .exact h1
def aFW{u:Nat}:∀ {l:List A1} {a:A1},u<l.length->bsA l u=noB->G7 l a=G
 | [],_,h,_=>absurd h (oI _)
 | x::l,a,h,e=>by
  unfold G7;split
  .rfl
  .rename_i hx;cases u with
   | zero=>exact absurd e hx
   | succ u=>exact aFW (u:=u) (by simpa using h)<|by simpa[bsA] using e
def oz:∀ {l:List (List UInt8)} {a:A1},(∀x∈l,x.length=4)->G7 (l.map B) a=I (a++B l.flatten)
 | [],a,_=>by
  show I a=_;congr 1;apply G5;rw[GP,L_B];simp
 | x::l,a,h=>by
  rw[DU];unfold G7;have hx:=h x Ao;rw[A9 (λe=>by have:(B x).size=0:=(by rw[e];rfl);rw[BQ]at this;omega),oz λy hy=>h y<|Aj x hy];congr 1;apply G5;simp only[GP,L_B,List.flatten_cons,C5]
def aao{b:Nat}{bl:Nat->List UInt8}{kn:List A1}(h:Ca b kn)(ht:Na b bl kn)(hu:∀k,k<b->unk kn k=A0):kn=((B8 b).map bl).map B:=by
 apply nc;intro i;by_cases hi:i<b
 .rw[IT,DD,Gu hi];have h1:=hu i hi;obtain h2|h2:=ht i hi
  .exact absurd h2 (KD h1)
  .have hl:i<kn.length:=by rw[h.1];exact hi
   rw[bsA,BA,Ap hl]at h2;rw[Ap hl];exact congrArg I h2
 .rw[Ht (by rw[h.1];omega),Ht y8]
def aGe(t:List UInt8):∀b:Nat,((B8 b).map<|G8 t).flatten=(B8<|4 * b).map λi=>t.getD i 0
 | 0=>rfl
 | b+1=>by
  rw[IK,Ec,List.flatten_append,aGe t b];have:B8 (4 * (b+1))=B8 (4 * b)++[4 * b,4 * b+1,4 * b+2,4 * b+3]:=by
   rw[show 4 * (b+1)=4 * b+1+1+1+1 by omega];simp only[IK,C5];rfl
  rw[this,Ec];rfl
def awk{s:Int}(h:inB s 1 24=Y):B1 (s+3) 4=(((s.toNat+3) / 4:Nat):Int)/\inB (B1 (s+3) 4) 1 6=Y:=by
 have h:=Aa.1 h;have:B1 (s+3) 4=(((s.toNat+3) / 4:Nat):Int):=by
  rw[HQ J];omega
 refine⟨this,Aa.2 ?_⟩;rw[this];omega
def aGL{s:Int}(h:inB s 1 24=Y)(list:List AQ):FC s list=(match G7 (Gl ((s.toNat+3) / 4) list 7<|BS ((s.toNat+3) / 4) noB) noB with
  | none=>(noB,A0)
  | some c=>if N4 c s.toNat then(c.extract 0 s.toNat,Y) else(noB,A0)):=by
 obtain⟨h1,h2⟩:=awk h;unfold FC Hi;rw[A5 h,A5 h2,h1,BV]<;>rfl
def aGJ{tx:A1}(h:inB tx.size 1 24=Y):(let c:=noB++B ((B8<|(tx.size+3) / 4).map<|G8<|L tx).flatten
  (if N4 c tx.size then(c.extract 0 tx.size,Y) else(noB,A0)))=(tx,Y):=by
 have h:=Aa.1 h;have hc:L (noB++B ((B8<|(tx.size+3) / 4).map<|G8<|L tx).flatten)=(B8<|4 * ((tx.size+3) / 4)).map λi=>(L tx).getD i 0:=by
  rw[GP,L_B,aGe];rfl
 generalize noB++B ((B8<|(tx.size+3) / 4).map<|G8<|L tx).flatten=c at hc;have hsz:c.size=4 * ((tx.size+3) / 4):=by rw[← Az,hc];simp
 have hz:N4 c tx.size=Y:=by
  unfold N4;rw[CA];intro i hi;refine AU ?_;unfold bt;show(((L c).getD (tx.size+i) 0).toNat:Int)=0;rw[hc,BA,DD,Gu J];simp only[R8,D4];rw[BA,Ht (by rw[Az];omega)];rfl
 show(if N4 c tx.size then(c.extract 0 tx.size,Y) else(noB,A0))=(tx,Y);rw[A5 hz];congr 1;apply G5;rw[EE,Iu,hc,Jd];apply nc;intro i;rw[Gp];split
 .rename_i hi;rw[DD,Gu J];simp only[R8];rw[BA,Ap (by rw[Az];exact hi)];rfl
 .rw[Ht (by rw[Az];omega)]
def PV(tx:A1)(list:List AQ):Prop:=∀m∈list,Iq m->m.da=GN tx m.nu
def ab0{tx:A1}(h:inB tx.size 1 24=Y):(DM tx).length=(tx.size+3) / 4:=by
 unfold DM;rw[A5 h];simp
def aFb{tx:A1}(h:inB tx.size 1 24=Y):inB (((tx.size+3) / 4:Nat):Int) 1 6=Y:=by
 have h:=Aa.1 h;exact Aa.2 J
def ar4{b:Nat}{k:Nat}(hb:inB (b:Int) 1 6=Y)(hk:k<b):Bi (b:Int) (k:Int)=[k]:=by
 have h:=Aa.1 hb;unfold Bi Du;rw[hb,A5 (by rw[AS];exact Aa.2 J),A5<|AU J,BV]
def aF1{b:Nat}{f:Nat->Bool}:∀(n:Nat) (x:Int),0<b->(∃k,k<b/\f k=Y)->∃k,k<b/\JM b n f x k=Y
 | 0,_,_,h=>h
 | n+1,x,hb,h=>by
  obtain⟨k,hk,e⟩:=h;exact aF1 n _ hb ⟨k,hk,by unfold II;split;rfl;exact e⟩
def auB{b:Nat}{f:Nat->Bool}{n:Nat}{x:Int}(hb:0<b)(hn:0<n):∃k,k<b/\JM b n f x k=Y:=by
 obtain⟨n,rfl⟩:∃m,n=m+1:=⟨n - 1,J⟩;rw[JM];refine aF1 n _ hb ⟨_, ?_,by unfold II;rw[A5 rfl]⟩;refine Ta _ _ ?_;have:BL (B1 (rnd x) 16) (b:Int)<b:=Qq _ J;have h0:0<=BL (B1 (rnd x) 16) (b:Int):=Qv _<|oJ (Tb x).1 J;omega
def aHW{b r:Int}(hb:1<=b):∀(ws:List Int) (acc d:Int),1<=d->1<=MV (LJ b r ws acc d)
 | [],_,_,_=>hb
 | w::ws,acc,d,h=>by
  unfold LJ;split
  .exact h
  .exact aHW hb ws _ _ J
def avV{b n:Int}(h:Du b n=Y):1<=G6 b n:=by
 have hb:1<=b:=by
  unfold Du at h;rw[AD]at h;exact(Aa.1 h.1).1
 unfold G6;rw[A5 h];split
 .exact Cz _
 .exact aHW hb _ _ _<|Cz _
def av5{b n:Int}(h:Du b n=Y):Bi b n≠[]:=by
 have hb:1<=b:=by
  unfold Du at h;rw[AD]at h;exact(Aa.1 h.1).1
 unfold Bi;rw[A5 h];split
 .simp
 .obtain⟨k,hk,e⟩:=auB (b:=b.toNat) (f:=λ_=>A0) (n:=(G6 b n).toNat) (x:=rnd<|7 * n+1) J (by have:=avV h;omega);intro hh;have:k∈Hh (JM b.toNat (G6 b n).toNat (λ_=>A0)<|rnd<|7 * n+1) b.toNat:=FH.2 ⟨Cw.2 hk,e⟩;rw[hh]at this;cases this
def aGk{tx:A1}(h:inB tx.size 1 24=Y){n:Int}(hn:inB n 0 999=Y):GN tx n=B (Dv 4 (G8<|L tx)<|Bi (((tx.size+3) / 4:Nat):Int) n):=by
 unfold GN;rw[ab0 h];have:=av5 (b:=(((tx.size+3) / 4:Nat):Int)) (n:=n) (by unfold Du;rw[aFb h,hn];rfl);rw[A9 (by rw[List.isEmpty_iff];exact this)]
def aEz{tx:A1}(h:inB tx.size 1 24=Y){n:Int}(hn:inB n 0 999=Y):Iq ⟨n,GN tx n⟩:=by
 refine⟨hn, ?_⟩;show((GN tx n).size:Int)=4;rw[aGk h hn,BQ,QO λk _=>Od _ k];rfl
def aH6{tx:A1}(h:inB tx.size 1 24=Y){list:List AQ}(hl:PV tx list):∀m∈list,Iq m->m.da=B (Dv 4 (G8<|L tx)<|Bi (((tx.size+3) / 4:Nat):Int) m.nu):=by
 intro m hm hf;rw[hl m hm hf,aGk h hf.1]
def aan(b:Nat)(bl:Nat->List UInt8):Na b bl (BS b noB):=by
 intro k hk;left;rw[bsA,BA,aA,A5 hk];rfl
def aGI{tx:A1}(h:inB tx.size 1 24=Y){list:List AQ}(hl:PV tx list)(ht:(FC tx.size list).2=Y):FC tx.size list=(tx,Y):=by
 rw[aGL h,BV]at ht ⊢;have h1:=ZF list 7 _<|Ca.new<|(tx.size+3) / 4;have h2:=lW (λk=>Od (L tx) k) (aH6 h hl) 7 _ (Ca.new<|(tx.size+3) / 4)<|aan _ _;generalize Gl ((tx.size+3) / 4) list 7 (BS ((tx.size+3) / 4) noB)=kn at *;have h3:∀k,k<(tx.size+3) / 4->unk kn k=A0:=by
  intro k hk;obtain c|c:=tf (unk kn k)
  .rw[aFW (u:=k) (by rw[h1.1];exact hk)<|BZ c]at ht;cases ht
  .exact c
 rw[aao h1 h2 h3,oz (by
  intro x hx;obtain⟨k,_,rfl⟩:=By.1 hx;exact Od _ _)]
 exact aGJ h
def arL{tx:A1}(h:inB tx.size 1 24=Y){list:List AQ}(hl:PV tx list)(hf:∀k:Nat,k<(tx.size+3) / 4->∃m∈list,Iq m/\Bi (((tx.size+3) / 4:Nat):Int) m.nu=[k]):FC tx.size list=(tx,Y):=by
 rw[aGL h,BV];have h1:=ZF list 7 _<|Ca.new<|(tx.size+3) / 4;have h2:=lW (λk=>Od (L tx) k) (aH6 h hl) 7 _ (Ca.new<|(tx.size+3) / 4)<|aan _ _;have h3:∀k,k<(tx.size+3) / 4->unk (Gl ((tx.size+3) / 4) list 7<|BS ((tx.size+3) / 4) noB) k=A0:=λk hk=>ar3 (hf k hk) 6<|Ca.new<|(tx.size+3) / 4;rw[aao h1 h2 h3,oz (by
  intro x hx;obtain⟨k,_,rfl⟩:=By.1 hx;exact Od _ _)]
 exact aGJ h
def Nc(S:A3->Prop)(f:Frame):Prop:=f.ki=1->∃n,S n/\Ax n=Y/\f.fr=n.fr/\f.nu=n.nu/\f.to=n.to/\f.un=n.un/\f.sz=n.tx.size/\f.da=GN n.tx f.mix
structure PcI (S:A3->Prop) (p:AK):Prop where
 nV:p.sp=A0->∃f,p.data=BJ (Ce f)/\p.src=f.src/\p.dst=f.dst/\(C1 f=Y->Nc S f)
 bad:p.sp=Y->(Cs<|BC p.data).2=A0
def aDP:(Cs<|BC<|BJ []).2=A0:=by rfl
def PcI.frame{S:A3->Prop}{p:AK}(h:PcI S p)(hu:(Cs<|BC p.data).2=Y):∃f,Cs (BC p.data)=(f,Y)/\C1 f=Y/\p.src=f.src/\p.dst=f.dst/\Nc S f/\p.data=BJ (Ce f):=by
 obtain c|c:=tf p.sp
 .rw[h.bad c]at hu;cases hu
 .obtain⟨f,h1,h2,h3,h4⟩:=h.nV c;obtain e|e:=tf (C1 f)
  .refine⟨f, ?_,e,h2,h3,h4 e,h1⟩;rw[h1,OF<|OQ f,Xb e]
  .rw[h1]at hu;unfold Ce at hu;rw[e,A4,aDP]at hu;cases hu
def PcI.azg{S:A3->Prop}{p:AK}(h:PcI S p)(hs:p.sp=A0){mix kp:Int}(hm:inB mix 0 ((p.data.size:Int) - 1)=Y)(hk:inB kp 1 255=Y):PcI S (Ok p mix kp):=by
 obtain⟨f,h1,_,_,_⟩:=h.nV hs;refine⟨λe=>(by cases e),λ_=> ?_⟩;obtain e|e:=tf (C1 f)
 .exact ar7 e h1 hm hk
 .have h2:=Aa.1 hm;rw[h1]at h2;unfold Ce at h2;rw[e,A4,YX]at h2;simp at h2;omega
def PcI.send{S:A3->Prop}{f:Frame}(h:C1 f=Y->Nc S f):PcI S (pcF f):=⟨λ_=>⟨f,rfl,rfl,rfl,h⟩,λe=>by cases e⟩
def PcI.mono{S T:A3->Prop}{p:AK}(h:PcI S p)(hS:∀n,S n->T n):PcI T p:=by
 refine⟨λe=> ?_,h.bad⟩;obtain⟨f,h1,h2,h3,h4⟩:=h.nV e;refine⟨f,h1,h2,h3,λhf hk=> ?_⟩;obtain⟨n,h5,h6⟩:=h4 hf hk;exact⟨n,hS n h5,h6⟩
def aGU{ra:List AK}{fs:List Frame}{p:AK}(h:p∈C3 ra fs):p∈ra\/ ∃f∈fs,p=pcF f:=by
 unfold C3 at h;obtain h|h:=BM.1 h
 .exact .inl h
 .obtain⟨f,hf,rfl⟩:=By.1 h;exact .inr ⟨f,IL hf,rfl⟩
def aGl{ra:List AK}{i:Nat}{p:AK}(h:p∈JI ra i):p∈ra:=by
 unfold JI at h;obtain h|h:=BM.1 h
 .exact IL h
 .exact KE h
def axN{l:List A3}{i:Int}(h0:0<=i)(h1:i.toNat<l.length):nA l i.toNat∈l:=by
 rw[nA,BA,Ap h1];exact CU h1
def atY{st:AE}(h:Av st=Y){n:A3}(hn:n∈st.held):Ax n=Y:=by
 unfold Av at h;simp only[AD]at h;have hh:=h.2.2.2.1.2;obtain⟨j,hj,rfl⟩:=Cq hn;have:=CA.1 hh j hj;rw[AD,nA,BA,Ap hj]at this;exact this.1
def axS{S:A3->Prop}{k:A7}(h:Ae k=Y)(hS:∀n∈(stT k).held,S n){fr nu mix:Int}(hb:(EI k fr nu mix).2=Y):Nc S (EI k fr nu mix).1:=by
 intro _;unfold EI at hb ⊢;split at hb
 .rename_i hc;rw[A5 hc];simp only[AD,C6,decide_eq_false_iff_not]at hc;have h0:=FB<|Qz.1 hc.2.1;have hm:=axN (Qz.1 hc.2.1) h0.1;exact⟨_,hS _ hm,atY (C0 h).kok hm,rfl,rfl,rfl,rfl,rfl,rfl⟩
 .cases hb
def M0{n:A3}(h:Ax n=Y):inB n.tx.size 1 24=Y:=by
 unfold Ax LG at h;simp only[AD]at h;exact h.2.2.2.2.1
def mL(hv:List AG)(f:Frame):(∃i,Aq hv f=(hv,i)/\i<hv.length/\(hA hv i).fr=f.fr/\(hA hv i).nu=f.nu/\EH hv f.fr f.nu=(i:Int))\/
  (EH hv f.fr f.nu<0/\ ∃l:List AG,l.Sublist hv/\Aq hv f=(l++[⟨f.fr,f.nu,f.to,f.un,f.sz,[]⟩],l.length)):=by
 unfold Aq;obtain h|⟨i,h1,h2,h3,h4⟩:=So hv f.fr f.nu
 .rw[A5 h];refine .inr ⟨h,_, ?_,rfl⟩;split
  .exact Qp _ _
  .exact Ea _
 .rw[A9 J];exact .inl ⟨i,by rw[h1];rfl,h2,h3,h4,h1⟩
def ZT(l:List AG)(h:AG):hA (l++[h]) l.length=h:=by
 unfold hA;rw[BA,FU<|Au _];simp
def To(k:A7)(r:A1)(f:Bool):(wrR k r f).1.AJ=k.AJ:=by
 unfold wrR;split
 .rfl
 .cases f<;>rfl
def abl(k:A7):Prop:=∀h∈k.AJ,5<=h.sz
def axJ{l:List AG}{i:Nat}{x:AG}(h:x∈FF l i):x∈l:=by
 unfold FF at h;obtain h|h:=BM.1 h
 .exact IL h
 .exact KE h
def avG(f:Frame):MA ⟨f.fr,f.nu,f.to,f.un,f.sz,[]⟩ f=Y:=by
 unfold MA;simp
structure azy (S:A3->Prop) (w:AA):Prop where
 p:∀p∈w.AO,PcI S p
 b:∀i,i<4->abl (kA w.A8 i)
def axn(k:A7)(tt un:Int)(tx:A1):(Dt k tt un tx).1.AJ=k.AJ:=by
 unfold Dt;split
 .exact To _ _ _
 .rfl
def ayv(k:A7)(a b:Int):(DZ k a b).1.AJ=k.AJ:=by
 unfold DZ;split
 .exact To _ _ _
 .rfl
def awO(k:A7):(FR k).1.AJ=k.AJ:=by
 unfold FR;split
 .exact To _ _ _
 .rfl
def awB(k:A7):(FT k).1.AJ=k.AJ:=by unfold FT;split<;>rfl
def ave(k:A7):(FQ k).1.AJ=k.AJ:=by unfold FQ;split<;>rfl
def po{l:List AK}{i:Nat}(h:i<l.length):pA l i∈l:=by
 rw[pz h];exact CU h
def ZH{k:A7}(h:Ae k=Y)(f:Frame):CC k f=HK k f:=A5 h
def aHB:CY [108,101,116]:=by unfold CY;decide
def aFe(n:A3):L (JE n)=[116,97,107,101]++32::L (wr n):=by unfold JE;simp only[GP,L_B];rfl
def aGo{k:AE}{r:A1}(hk:Av k=Y):BK k r=(GL k r).filter Av:=by
 unfold BK FP;rw[A5 hk];cases (GL k r).filter Av<;>rfl
def arT{k:AE}{n:A3}(hn:Ax n=Y):Bb k EW (wr n)=if n.fr=k.id then G else Ek k n:=by
 unfold Bb GG;by_cases h:n.fr=k.id
 .simp[jA,jB,jf,jC,vS,QF hn,h]
 .simp[jA,jB,jf,jC,vS,QF hn,h]
def lQ{k:AE}{n:A3}(hk:Av k=Y)(hn:Ax n=Y):BK k (JE n)=(if n.fr=k.id then G else Ek k n).filter Av:=by
 rw[aGo hk,I8 lh<|aFe n,B_L];rw[show Bb k (B [116,97,107,101]) (wr n)=_ from arT hn]
def Ys{l:List A3}{f n:Int}{x:A3}(h:x∈l)(h1:x.fr=f)(h2:x.nu=n):0<=AY l f n:=by
 obtain h3|h3:=lX l f n
 .exact absurd ⟨h1,h2⟩ (TQ J x h)
 .exact h3
def oU{l:List Mark}{f n:Int}{x:Mark}(h:x∈l)(h1:x.mf=f)(h2:x.mn=n):0<=Bp l f n:=by
 obtain h3|h3:=asH l f n
 .exact absurd ⟨h1,h2⟩ (oS J x h)
 .exact h3
structure amY (k o:AE) (n:A3):Prop where
 id:o.id=k.id
 ti:o.ti=k.ti
 nx:o.nx=k.nx
 at_:(n.to=k.id/\o.held=k.held/\o.marks=EF k.marks ⟨n.fr,n.nu,n.un⟩/\o.inbox=Dx k.inbox n)\/(n.to≠k.id/\o.held=Dx k.held n/\o.marks=k.marks/\o.inbox=k.inbox)
def abg{k o:AE}{n:A3}(hk:Av k=Y)(hn:Ax n=Y)(h:BK k (JE n)=I o):amY k o n:=by
 rw[lQ hk hn]at h;have h:=(JX.1 h).1;split at h
 .cases h
 unfold Ek at h;split at h
 .cases h
 split at h
 .cases h
 split at h
 .cases h
 split at h
 .cases h
 split at h
 .cases h
 split at h
 .cases h
 split at h
 .rename_i h1;cases h;exact⟨rfl,rfl,rfl,.inl ⟨BZ h1,rfl,rfl,rfl⟩⟩
 .rename_i h1;cases h;exact⟨rfl,rfl,rfl,.inr ⟨by simpa using h1,rfl,rfl,rfl⟩⟩
structure Safe (k:A7) (st:AE):Prop where
 is:DH k st
 fo:k.fo=(k.log.size:Int)
def mg{k:A7}{st o:AE}{r:A1}(h:DH k st)(hr:BK st r=I o):Safe (wrR k r Y).1 o/\(wrR k r Y).2=Y:=by
 unfold wrR;rw[h.stT,hr];exact⟨⟨Qn<|Om h hr,rfl⟩,rfl⟩
def me{k:A7}{st:AE}{r:A1}{f:Bool}(h:DH k st)(hr:(wrR k r f).2=Y):∃o,BK st r=I o:=by
 unfold wrR at hr;rw[h.stT]at hr;cases hc:BK st r with
 | none=>rw[hc]at hr;cases hr
 | some o=>exact⟨o,rfl⟩
def aQ{k:A7}(h:Ae k=Y)(hu:k.up=Y){f:Frame}(hf:C1 f=Y)(h1:f.ki=1):DH (Gj k<|FF (D3 (Aq k.AJ f).1 (Aq k.AJ f).2 f) (Aq k.AJ f).2) (stT k):=by
 have kf:=Dk h;have hv:=pe.1 kf.hv;have hp:=Xn hf h1;have Ep:=Og (hv:=k.AJ) (f:=f);have LP:=TP (hv:=k.AJ) (f:=f) kf.hl;have hpf:=aHl hv hf h1;have haf:=aaZ hpf Ep hp.2.1;have hal:(D3 (Aq k.AJ f).1 (Aq k.AJ f).2 f).length=(Aq k.AJ f).1.length:=by unfold D3;rw[Ga]
 exact Zb (C0 h) hu (by unfold FF;simp;omega)<|aHi haf _
def asj{k:AE}{m:Mark}{r:A1}(ht:HB r=I m):Bb k Bx r=if EG k.held m then I ⟨k.id,k.ti,k.nx,EY k.held (AY k.held m.mf m.mn).toNat,EF k.marks m,k.inbox⟩ else G:=by
 unfold Bb Et;cases h:EG k.held m<;>simp[jk,jm,kK,jl,jR,jH,kL,jn,ht,h]
def aFn{k:AE}{a b c:Int}(hk:Av k=Y)(ha:0<=a/\a<=999)(hb:0<=b/\b<=999)(hc:0<=c/\c<=999):
  BK k (CX Bx a b c)=(if EG k.held ⟨a,b,c⟩ then I ⟨k.id,k.ti,k.nx,EY k.held (AY k.held a b).toNat,EF k.marks ⟨a,b,c⟩,k.inbox⟩ else G).filter Av:=by
 have h3:=Zh (r:=B<|B6 a++32::(B6 b++32::B6 c)) (a:=a) (b:=b) (c:=c) J J J J J J<|L_B _;rw[aGo hk,I8 aHB<|QM Bx a b c];rw[show Bb k (B [108,101,116]) _=_ from asj h3]
structure alP (a b:A3):Prop where
 fr:a.fr=b.fr
 nu:a.nu=b.nu
 to':a.to=b.to
 un:a.un=b.un
 ok:Ax a=Ax b
structure azs (l m:List A3):Prop where
 len:l.length=m.length
 nA:∀i,alP (nA l i)<|nA m i
def OU{st:AE}(h:Av st=Y){n:A3}(hn:n∈st.held):Eh st.id n.fr n.to=Y/\st.ti<n.un/\Bp st.marks n.fr n.nu<0:=by
 obtain⟨j,hj,rfl⟩:=Cq hn;have:=(Bz h).ho j hj;unfold HD at this;simp only[AD,decide_eq_true_eq]at this;rw[show nA st.held j=st.held[j] by rw[nA,BA,Ap hj];rfl]at this;exact⟨this.2.2.1,this.2.1,this.2.2.2⟩
def OZ{n:A3}(h:Ax n=Y):isN n.fr=Y/\isN n.to=Y/\inB n.nu 1 99=Y/\inB n.un 1 999=Y/\LG n.tx=Y:=by
 unfold Ax at h;simp only[AD]at h;exact h
def TJ{a f t:Int}(ha:isN a=Y)(hf:isN f=Y)(ht:isN t=Y)(h:Eh a f t=Y):isN (BW a t)=Y/\BW a t≠f/\(BW a t≠t->Eh (BW a t) f t=Y):=by
 have ra:=ER ha;have rf:=ER hf;have rt:=ER ht;unfold Eh at h;simp only[AD,C6,decide_eq_false_iff_not,Bw,Aa]at h;have e:BW a t=if a<t then a+1 else a - 1:=by
  unfold BW;rw[ha,ht,BG h.1];rfl
 rw[e];refine⟨?_, ?_,λhne=> ?_⟩
 .split
  .exact Aa.2 J
  .exact Aa.2 J
 .split<;>omega
 .unfold Eh;simp only[AD,C6,decide_eq_false_iff_not,Bw,Aa];refine⟨hne, ?_⟩;split at hne
  .left;rw[A5<|by assumption];omega
  .right;rw[A9<|by assumption];omega
def BB(id:Int)(n:A3)(m:Int):Frame:=⟨1,id,BW id n.to,n.fr,n.nu,n.to,n.un,n.tx.size,m,GN n.tx m⟩
def lc{id:Int}{n:A3}{m:Int}(hi:isN id=Y)(hn:Ax n=Y)(hw:Eh id n.fr n.to=Y)(hm:inB m 0 999=Y):C1 (BB id n m)=Y:=by
 have r:=OZ hn;have hx:=TJ hi r.1 r.2.1 hw;have hf:=aEz (M0 hn) hm;unfold C1 Jy BB;simp only[hi,hx.1,r.1,r.2.1,r.2.2.1,r.2.2.2.1,AW,A2,M0 hn,hm,AS];rw[LC];exact AU hf.2
def F8(tx:A1)(i:Nat):List AQ:=(B8 i).map λj:Nat=>⟨(j:Int),GN tx (j:Int)⟩
def ars{tx:A1}{i:Nat}{m:AQ}(h:m∈F8 tx i):∃j:Nat,j<i/\m=⟨(j:Int),GN tx (j:Int)⟩:=by
 obtain⟨j,hj,rfl⟩:=By.1 h;exact⟨j,Cw.1 hj,rfl⟩
structure azz (x:A7) (d t:Int) (hv:List AG):Prop where
 ok:Ae x=Y
 up:x.up=Y
 id:x.id=d
 st:stT x=⟨d,t,1,[],[],[]⟩
 hv:x.AJ=hv
variable {E:List Event}
def Tot{α:Type}(o:Option α)(P:α->Prop):Prop:=∃a,o=I a/\P a
def Rn{α β:Type}(A:α->Prop)(B:β->Prop):α ⊕ β->Prop
 | .inl a=>A a
 | .inr b=>B b
def Tot.ret{α:Type}{a:α}{P:α->Prop}(h:P a):Tot (I a) P:=⟨a,rfl,h⟩
def Tot.eq{α:Type}{o:Option α}{a:α}(h:o=I a):Tot o (λx=>x=a):=⟨a,h,rfl⟩
def Tot.bind{α β:Type}{o:Option α}{f:α->Option β}{P:α->Prop}{Q:β->Prop}(h:Tot o P)(hf:∀a,P a->Tot (f a) Q):Tot (o.bind f) Q:=by
 obtain⟨a,rfl,p⟩:=h;exact hf a p
def Tot.ite{α:Type}{c:Bool}{a b:Option α}{P:α->Prop}(ha:c=Y->Tot a P)(hb:c=A0->Tot b P):Tot (if c=Y then a else b) P:=by
 cases c
 .rw[A4];exact hb rfl
 .rw[A5 rfl];exact ha rfl
def Tot.pos{α:Type}{c:Bool}{a b:Option α}{P:α->Prop}(hc:c=Y)(ha:Tot a P):Tot (if c=Y then a else b) P:=by
 rw[A5 hc];exact ha
def Tot.neg{α:Type}{c:Bool}{a b:Option α}{P:α->Prop}(hc:c=A0)(hb:Tot b P):Tot (if c=Y then a else b) P:=by
 rw[hc,A4];exact hb
def Tot.join{Ω X:Type}{f:X->Option Ω}{m:Option (Ω ⊕ X)}{A:X->Prop}{Q:Ω->Prop}(h:Tot m (Rn Q A))(hf:∀x,A x->Tot (f x) Q):Tot (BT f m) Q:=by
 obtain⟨r,rfl,p⟩:=h;cases r with
 | inl o=>exact⟨o,rfl,p⟩
 | inr x=>exact hf x p
def Tot.sum{A B7 Ω:Type}{m:Option (A ⊕ B7)}{f:A->Option Ω}{g:B7->Option Ω}{P:A->Prop}{Q:B7->Prop}{R:Ω->Prop}(h:Tot m (Rn P Q))
  (hf:∀a,P a->Tot (f a) R)(hg:∀d,Q d->Tot (g d) R):Tot (AN m f g) R:=by
 obtain⟨r,rfl,p⟩:=h;cases r with
 | inl o=>exact hf o p
 | inr x=>exact hg x p
def Tot.loop{σ ρ:Type}{b:σ->Option (σ ⊕ ρ)}(Inv:Nat->σ->Prop)(Nt:ρ->Prop)(n:Nat)
  (h:∀i s,i<=n->Inv i s->Tot (b s) (Rn (λs'=>i<n/\Inv (i+1) s') Nt)){s0:σ}(h0:Inv 0 s0):Tot (AT b s0) Nt:=by
 refine axf Inv Nt n (λi s hi hs=> ?_) (λs hs=> ?_) h0
 .obtain⟨r,e,p⟩:=h i s J hs;cases r with
  | inl s'=>exact .inl ⟨s',e,p.2⟩
  | inr y=>exact .inr ⟨y,e,p⟩
 .obtain⟨r,e,p⟩:=h n s (Au _) hs;cases r with
  | inl s'=>exact absurd p.1<|Nat.lt_irrefl _
  | inr y=>exact⟨y,e,p⟩
structure Hy (N:Nat) (r:List Int×Int×D):Prop where
 l:r.1.length<=2000
 b:BOk r.1
 p0:0<=r.2.1
 p1:r.2.1<=(N:Int)
def Hy.up{N M:Nat}{r:List Int×Int×D}(h:Hy N r)(hM:N<=M):Hy M r:=⟨h.l,h.b,h.p0,by have:=h.p1;omega⟩
def axe{a b:Int}(ha:0<=a)(ha':a<9223372036854775808)(hb:0<=b)(hb':b<9223372036854775808):0<=Dw .i64 a b:=by
 obtain⟨m,rfl⟩:=HS ha;obtain⟨n,rfl⟩:=HS hb;have hm:m<2 ^ 63:=J
 have hn:n<2 ^ 63:=J
 have hx:=Nat.xor_lt_two_pow hm hn;have e:(FG 64 (m:Int) ^^^ FG 64 (n:Int)).toNat=m ^^^ n:=by
  rw[BitVec.toNat_xor,Qu,Qu];congr 1<;>omega
 show 0<=w64 (((FG 64 (m:Int) ^^^ FG 64 (n:Int)).toNat:Int));rw[e,AZ J J];omega
def Ct{N:Nat}{x:(List Int×Int×D)×Int×D}(h:Hy N x.1)(hN:N<=1000000):
  Tot (Cg x) λa=>Hy (N+1) a.2.1/\0<=a.1.1/\(1<=x.2.1->a.1.1<x.2.1):=by
 obtain⟨⟨l,p,_⟩,n,_⟩:=x;obtain⟨hl,hb,p0,p1⟩:=h;simp only at hl hb p0 p1;have e1:w64 (p+1)=p+1:=AZ J J;have e2:w64 (p+1 - 1)=p:=by rw[AZ J J];omega
 have hq:Hy (N+1) (l,p+1,()):=⟨hl,hb,by show 0<=p+1;omega,by show p+1<=((N+1:Nat):Int);omega⟩;unfold Cg;simp only[e1,e2];refine Tot.ite (λhc=> ?_) (λhc=> ?_)
 .refine Tot.ret ⟨hq,Cz _,λh=>by show(0:Int)<n;omega⟩
 .simp only[NG,decide_eq_false_iff_not]at hc;have hn:1<=n:=J
  have hln:0<l.length:=J
  have hl0:¬((j8 l:Int)=0):=hc.2;have hn0:(!decide (n=0))=Y:=by simp;omega
  have nL:(!decide ((j8 l:Int)=0))=Y:=by simpa using hl0
  refine Tot.ite (λhc1=> ?_) (λhc1=> ?_)
  .have hc1:=BZ hc1;refine Tot.pos (G0 p0 hc1) (Tot.pos hn0<|Tot.ret ⟨hq, ?_,λ_=> ?_⟩)
   .have:=hb.rd p;exact Qv _ (by rw[AZ J J];exact this.1)
   .exact Qq _ J
  .have hp:0<=BL p l.length/\BL p l.length<l.length:=⟨Qv _ p0,Qq _ J⟩;have e3:w64 (w64 (p * 7)+3)=p * 7+3:=by rw[AZ (n:=p * 7) J J,AZ J J]
   have hp2:0<=BL (p * 7+3) l.length/\BL (p * 7+3) l.length<l.length:=⟨Qv _ J,Qq _ J⟩;simp only[e3];refine Tot.pos nL (Tot.pos (G0 hp.1 hp.2)<|Tot.pos nL<|Tot.pos (G0 hp2.1 hp2.2)<|Tot.pos nL<|Tot.pos hn0<|Tot.ret ⟨hq, ?_,λ_=> ?_⟩)
   .have b1:=hb.rd<|BL p l.length;have b2:=hb.rd<|BL (p * 7+3) l.length;have hd:0<=B1 p l.length/\B1 p l.length<=p:=⟨oJ p0 J,Int.tdiv_le_self _ p0⟩;generalize @rd Int aIp l (BL p l.length)=u1 at b1 ⊢;generalize @rd Int aIp l (BL (p * 7+3) l.length)=u2 at b2 ⊢;generalize B1 p l.length=d at hd ⊢;have w1:w64 u1=u1:=AZ J J;have w2:w64 u2=u2:=AZ J J;have w3:w64 (u1 * 131)=u1 * 131:=AZ J J;have w4:w64 (u2 * 1117)=u2 * 1117:=AZ J J;have w5:w64 (p * 29)=p * 29:=AZ J J;have w6:w64 d=d:=AZ J J;have w7:w64 (d * 53)=d * 53:=AZ J J;simp only[w1,w2,w3,w4,w5,w6,w7];have w8:w64 (u1 * 131+u2 * 1117)=u1 * 131+u2 * 1117:=AZ J J;rw[w8];have w9:w64 (u1 * 131+u2 * 1117+p * 29)=u1 * 131+u2 * 1117+p * 29:=AZ J J;rw[w9];have w10:w64 (u1 * 131+u2 * 1117+p * 29+d * 53)=u1 * 131+u2 * 1117+p * 29+d * 53:=AZ J J;rw[w10];have hv:0<=u1 * 131+u2 * 1117+p * 29+d * 53/\u1 * 131+u2 * 1117+p * 29+d * 53<=1000000000:=J
    generalize u1 * 131+u2 * 1117+p * 29+d * 53=v at hv ⊢;have hdv:0<=B1 v 64/\B1 v 64<=v:=⟨oJ hv.1 J,Int.tdiv_le_self _ hv.1⟩;have w11:w64 (B1 v 64)=B1 v 64:=AZ J J;rw[w11];exact Qv _ (axe hv.1 J hdv.1 J)
   .exact Qq _ J
def as9(l:List A1){i:Int}(h0:0<=i)(h1:i<l.length): @rd A1 aIr l i∈l:=by
 unfold rd;rw[BA,Ap (by omega:i.toNat<l.length)];exact CU _
def az3{N:Nat}{r:List Int×Int×D}{l:List A1}(h:Hy N r)(hN:N<=1000000)(hl:1<=l.length):
  Tot (gT (r,l,())) λa=>Hy (N+1) a.2.1/\a.1.1∈l:=by
 unfold gT;refine Tot.bind (Ct h hN) λa ha=> ?_;have h1:=ha.2.2 (by show(1:Int)<=(j8 l:Int);omega);exact Tot.pos (G0 ha.2.1 h1)<|Tot.ret ⟨ha.1,as9 l ha.2.1 h1⟩
def Ns(E ev:List Event)(w:AA):Prop:=∃l,Reach l w/\(E=[]->l=ev)
def Ns.ok{ev:List Event}{w:AA}(h:Ns E ev w):B9 w:=by
 obtain⟨_,h,_⟩:=h;exact h.ok
def Ns.reach{ev:List Event}{w:AA}(h:Ns [] ev w):Reach ev w:=by
 obtain⟨_,h,e⟩:=h;rw[← e rfl];exact h
def Ns.step{ev:List Event}{w:AA}(h:Ns E ev w){e:Event}(ht:e.tx.size<=1048576):Ns E (K6 ev e (doM w e).2) (Cl w e):=by
 obtain⟨l,h,g⟩:=h;exact⟨_,h.step ht,λc=>by rw[g c]⟩
def WOk(E:List Event)(N:Nat)(t:Int×List A7×List Bool×List AK×List A3×List A3×List Event×D):Prop:=∃w ev,t=tS w ev/\Ns E ev w/\ev.length<=N
structure SOk (E:List Event) (N:Nat) (s:(List Int×Int×D)×Int×List A7×List Bool×List AK×List A3×List A3×List Event×D):Prop where
 r:Hy N s.1
 w:WOk E N s.2
def WOk.up{N M:Nat}{t:_}(h:WOk E N t)(hM:N<=M):WOk E M t:=by
 obtain⟨w,ev,e,h1,h2⟩:=h;exact⟨w,ev,e,h1,J⟩
def SOk.up{N M:Nat}{s:_}(h:SOk E N s)(hM:N<=M):SOk E M s:=⟨h.r.up hM,h.w.up hM⟩
def SOk.rd{N M:Nat}{s:_}(h:SOk E N s){r:List Int×Int×D}(hr:Hy M r)(hM:N<=M):SOk E M (r,s.2):=⟨hr,h.w.up hM⟩
abbrev zTx(y:Int×Int×Int×Int×Int×Int×Int×Int×Int×A1×D):A1:=y.2.2.2.2.2.2.2.2.2.1
def HO{N:Nat}{s:_}{y:Int×Int×Int×Int×Int×Int×Int×Int×Int×A1×D}(h:SOk E N s)(hN:N<=1000000)(hy:(zTx y).size<=1048576):
  Tot (Fq (s,y,())) λa=>SOk E (N+1) a.2.1:=by
 obtain⟨hr,w,ev,e,hw,hev⟩:=h;obtain⟨r,t⟩:=s;obtain⟨a,b,c,d,f,g,i,j,k,tx,_⟩:=y;simp only at e hr;subst e;have:=asM hw.ok (r:=r) (ev:=ev) J (e:=⟨a,b,c,d,f,g,i,j,k,tx⟩) hy;refine⟨_,this,hr.up J,⟨_,K6 ev ⟨a,b,c,d,f,g,i,j,k,tx⟩ (doM w ⟨a,b,c,d,f,g,i,j,k,tx⟩).2,rfl, ?_, ?_⟩⟩
 .exact hw.step (e:=⟨a,b,c,d,f,g,i,j,k,tx⟩) hy
 unfold K6;split
 .simp;omega
 .omega
def WOk.has{N:Nat}{t:_}(h:WOk E N t){i:Int}(h0:0<=i)(h1:i<4):Ae (kA t.2.1 i.toNat)=Y/\(kA t.2.1 i.toNat).id=i/\inb i t.2.1.length=Y:=by
 obtain⟨w,ev,rfl,hw,_⟩:=h;have:=hw.ok.k i.toNat J;refine⟨this.1, ?_,G0 h0 (by show i<(w.A8.length:Int);rw[hw.ok.kl];exact h1)⟩;rw[this.2];omega
def q9{l:List A7}{i:Int}(h:Ae (kA l i.toNat)=Y):
  Tot (GC (((@rd A7 aIh l i).id,(@rd A7 aIh l i).up,(@rd A7 aIh l i).log,(@rd A7 aIh l i).fo,(@rd A7 aIh l i).AJ,()),()))
   λa=>a=((tK<|stT<|kA l i.toNat,Y,()),()):=Tot.eq<|OG h
end Go.VS
namespace Go.VS
open Go
variable {E:List Event}
def ayi{l:List A1}{s:A1}(h:s∈l)(hl:(l.all λx=>U<|x.size<=1000)=Y):s.size<=1000:=by
 have:=Cy.1 hl s h;exact BZ this
def abU{N:Nat}{s:_}(h:SOk E N s)(hN:N<=900000):Tot (VO (s,())) λa=>SOk E (N+10) a.2.1:=by
 unfold VO;refine Tot.bind (Ct h.r J) λr1 h1=>Tot.bind (az3 h1.1 J aIm) λr2 h2=>Tot.join (A:=λj=>SOk E (N+2) j.1/\0<=j.2.1/\j.2.1<4/\j.2.2.1.size<=1000) ?_ (λj hj=> ?_)
 .have hz:=ayi h2.2 aIm;have hat:r1.1.1<4:=h1.2.2 (show(1:Int)<=4 by decide);refine Tot.ite (λhc=>Tot.pos ?_<|Tot.ret ⟨h.rd h2.1 J,h1.2.1,hat, ?_⟩) (λhc=>Tot.ret ⟨h.rd h2.1 J,h1.2.1,hat,hz⟩)
  .have:=BZ hc;simp;omega
  .show(r2.1.1.extract 0 24).size<=1000;rw[aEJ];omega
 .obtain⟨hs,a0,a1,hz⟩:=hj;have hk:=hs.w.has a0 a1;refine Tot.pos hk.2.2 (Tot.bind (q9 hk.1) λr6 h6=>Tot.bind (Ct hs.r J) λr7 h7=>Tot.bind (Ct h7.1 J) λr8 h8=>
   Tot.bind (HO (hs.rd h8.1 J) J ?_) λr9 h9=>Tot.ret<|h9.up J)
  show j.2.2.1.size<=1048576;omega
def az5{a:Int}(h0:0<=a)(h1:a<4):0<=BL (w64<|a+1) 4/\BL (w64<|a+1) 4<4:=by
 rw[AZ J J];exact⟨Qv _ J,Qq _ J⟩
def ay1{N:Nat}{s:_}(h:SOk E N s)(hN:N<=900000):Tot (dC (s,())) λa=>SOk E (N+2) a.2.1/\a.2.1.2=s.2/\(a.1.2.2.1=Y->0<=a.1.1/\a.1.1<4/\isN (BW a.1.1 a.1.2.1.2.2.1)=Y):=by
 unfold dC;refine Tot.bind (Ct h.r J) λr1 h1=>Tot.sum (P:=λy=>SOk E (N+2) y.1/\y.1.2=s.2/\(0<=y.2.1/\y.2.1<4/\isN (BW y.2.1 y.2.2.1.2.2.1)=Y)) (Q:=λy=>SOk E (N+2) y.1/\y.1.2=s.2) ?_ (λy hy=>Tot.ret ⟨hy.1,hy.2.1,λ_=>hy.2.2⟩) (λy hy=>Tot.ret ⟨hy.1,hy.2,λh=>by cases h⟩);refine Tot.loop (λi x=>SOk E (N+1) x.1/\x.1.2=s.2/\0<=x.2.2.1/\x.2.2.1<4/\x.2.2.2.1=(i:Int)) _ 4 (λi x hi hx=> ?_) ⟨h.rd h1.1 J,rfl,h1.2.1,h1.2.2<|show(1:Int)<=4 by decide,rfl⟩;obtain⟨hs,hw,a0,a1,hx⟩:=hx;have hk:=hs.w.has a0 a1;unfold sV;refine Tot.ite (λhc=> ?_) (λhc=>Tot.ret ⟨hs.up J,hw⟩);have hc:=BZ hc;refine Tot.pos hk.2.2 (Tot.bind (q9 hk.1) λr6 h6=> ?_);subst h6;refine Tot.ite (λhl=> ?_) (λhl=> ?_)
 .have hl:(0:Int)<((stT<|kA x.1.2.2.1 x.2.2.1.toNat).held.length:Int):=BZ hl;refine Tot.bind (Ct hs.r J) λr7 h7=> ?_;have hlt:=h7.2.2 hl;refine Tot.pos (G0 h7.2.1 hlt)<|Tot.ret ⟨hs.rd h7.1 J,hw,a0,a1, ?_⟩;have hkk:=C0 hk.1;have hid:=hkk.id;have h9:r7.1.1.toNat<(stT<|kA x.1.2.2.1 x.2.2.1.toNat).held.length:=by
   have:r7.1.1<((stT<|kA x.1.2.2.1 x.2.2.1.toNat).held.length:Int):=hlt;have:=h7.2.1;omega
  have:=mU hkk.kok (n:=nA (stT<|kA x.1.2.2.1 x.2.2.1.toNat).held r7.1.1.toNat) (by rw[nA,BA,Ap h9];exact CU h9);rw[hid,hk.2.1]at this;exact this
 .have hm:=az5 a0 a1;refine Tot.ret ⟨?_,hs,hw,hm.1,hm.2, ?_⟩
  .omega
  .show w64 (x.2.2.2.1+1)=_;rw[hx,AZ J J];rfl
def Ti{N:Nat}{s:_}(h:SOk E N s){E4 odd:Int}(hm:E4<=64)(hN:N<=900000):Tot (Nu (s,E4,odd,())) λa=>SOk E (N+1000) a.2.1:=by
 unfold Nu;refine Tot.sum (P:=λ_=>False) (Q:=λy=>SOk E (N+1000) y.1) ?_ (λ_ h=>h.elim) (λy hy=>Tot.ret hy);refine Tot.loop (λi x=>SOk E (N+12 * i) x.1/\x.2.1=E4/\x.2.2.2.1=(i:Int)) _ E4.toNat (λi x hi hx=> ?_) ⟨h,rfl,rfl⟩;obtain⟨hs,hx1,hx⟩:=hx;unfold sA;refine Tot.ite (λhc=> ?_) (λhc=>Tot.ret<|show SOk E (N+1000) _ from hs.up J);rw[AD,hx1,hx]at hc;have hlt:(i:Int)<E4:=BZ hc.1;have hN1:N+12 * i<=950000:=J
 generalize hM:N+12 * i=M at hs hN1;refine Tot.join (A:=λj=>SOk E (M+5) j.1/\j.2.1=E4/\j.2.2.2.1=(i:Int)/\(zTx j.2.2.2.2.1).size<=1000) ?_ (λj hj=> ?_)
 .refine Tot.join (A:=λj=>SOk E (M+1) j.1/\j.2.1=E4/\j.2.2.2.1=(i:Int)/\(zTx j.2.2.2.2.1).size<=1000) ?_ (λj hj=> ?_)
  .refine Tot.ite (λhc=>Tot.bind (Ct hs.r J) λr1 h1=>Tot.ret ?_) (λhc=>Tot.ret ?_)
   .exact⟨hs.rd h1.1 J,hx1,hx,show noB.size<=1000 by decide⟩
   .exact⟨hs.up J,hx1,hx,show noB.size<=1000 by decide⟩
  .obtain⟨hs,hj1,hj2,hj3⟩:=hj;refine Tot.ite (λhc=> ?_) (λhc=>Tot.ret ⟨hs.up J,hj1,hj2,hj3⟩);refine Tot.bind (Ct hs.r J) λr1 h1=> ?_;refine Tot.ite (λhc=>Tot.ret ⟨hs.rd (h1.1.up J) J,hj1,hj2,hj3⟩) (λhc=> ?_);refine Tot.ite (λhc=>Tot.ret ⟨hs.rd (h1.1.up J) J,hj1,hj2,hj3⟩) (λhc=> ?_);refine Tot.ite (λhc=> ?_) (λhc=> ?_)
   .exact Tot.bind (Ct h1.1 J) λr2 h2=>Tot.bind (Ct h2.1 J) λr3 h3=>Tot.bind (Ct h3.1 J) λr4 h4=>
     Tot.ret ⟨hs.rd (h4.1.up J) J,hj1,hj2,hj3⟩
   .exact Tot.bind (Ct h1.1 J) λr2 h2=>Tot.ret ⟨hs.rd (h2.1.up J) J,hj1,hj2,hj3⟩
 .obtain⟨hs,hj1,hj2,hj3⟩:=hj;have hw:w64 (j.2.2.2.1+1)=((i+1:Nat):Int):=by rw[hj2,AZ J J];rfl
  refine Tot.join (A:=λj=>SOk E (M+7) j.1/\j.2.1=E4/\j.2.2.2.1=(i:Int)/\(zTx j.2.2.2.2.1).size<=1000) ?_ (λj hj=> ?_)
  .refine Tot.bind (HO hs J<|CZ hj3 aIm) λr1 h1=>Tot.ite (λhc=> ?_) (λhc=>Tot.ret ⟨h1.up J,hj1,hj2,hj3⟩);exact Tot.bind (HO h1 J<|show noB.size<=1048576 by decide) λr2 h2=>Tot.ret ⟨h2.up J,hj1,hj2,hj3⟩
  .obtain⟨hs,hj1,hj2,hj3⟩:=hj;refine Tot.join (A:=λj=>SOk E (M+8) j.1/\j.2.1=E4/\j.2.2.2.1=(i:Int)/\(zTx j.2.2.2.2.1).size<=1000) ?_ (λj hj=> ?_)
   .refine Tot.ite (λhc=>Tot.bind (Ct hs.r J) λr1 h1=>Tot.ret ⟨hs.rd h1.1 J,hj1,hj2,hj3⟩) (λhc=>Tot.ret ⟨hs.up J,hj1,hj2,hj3⟩)
   .obtain⟨hs,hj1,hj2,hj3⟩:=hj;have hw:w64 (j.2.2.2.1+1)=((i+1:Nat):Int):=by rw[hj2,AZ J J];rfl
    refine Tot.ite (λhc=> ?_) (λhc=>Tot.ret ⟨J, ?_,hj1,hw⟩)
    .refine Tot.bind (Ct hs.r J) λr1 h1=>Tot.bind (Ct h1.1 J) λr2 h2=>Tot.bind (HO (hs.rd h2.1 J) J ?_) λr3 h3=>Tot.ret ⟨J, ?_,hj1,hw⟩
     .show(zTx j.2.2.2.2.1).size<=1048576;omega
     .exact h3.up J
    .exact hs.up J
end Go.VS
namespace Go.VS
open Go
variable {E:List Event}
def nz:noB.size<=1048576:=by decide
def WOk.rl{N:Nat}{t:_}(h:WOk E N t):t.2.2.2.1.length<=30:=by
 obtain⟨w,ev,rfl,hw,_⟩:=h;exact hw.ok.rl
def On{n:Int}{i:Nat}(h:n=(i:Int))(hi:i<=1000000):w64 (n+1)=((i+1:Nat):Int):=by
 rw[h,AZ J J];rfl
def Zq{N:Nat}{s:_}(h:SOk E N s){E4 odd:Int}(h0:0<=E4)(hm:E4<=8)(hN:N<=800000):Tot (Pl (s,E4,odd,())) λa=>SOk E (N+1100) a.2.1:=by
 unfold Pl;refine Tot.bind (ay1 h J) λr1 h1=>Tot.ite (λhc=>Tot.ret<|h1.1.up J) (λhc=> ?_);refine Tot.bind (Ct h1.1.r J) λr2 h2=>Tot.bind (Ct h2.1 J) λr3 h3=> ?_;refine Tot.sum (P:=λ_=>False) (Q:=λy=>SOk E (N+20) y.1/\y.2.1=E4) ?_ (λ_ h=>h.elim) (λy hy=> ?_)
 .refine Tot.loop (λi x=>SOk E (N+4+i) x.1/\x.2.1=E4/\x.2.2.2.2.2.2.1=(i:Int)) _ E4.toNat (λi x hi hx=> ?_) ⟨h1.1.rd h3.1 J,rfl,rfl⟩;obtain⟨hs,hx1,hx⟩:=hx;unfold s9;refine Tot.ite (λhc=> ?_) (λhc=>Tot.ret ⟨hs.up J,hx1⟩);have hc:=BZ hc;exact Tot.bind (HO hs J nz) λr4 h4=>Tot.ret ⟨J,h4.up J,hx1,On hx J⟩
 .have hy2:=hy.2;refine Tot.bind (Ct hy.1.r J) λr4 h4=> ?_;have h5:r4.1.1<=64:=by
   have:w64 (y.2.1+4)=E4+4:=by rw[hy.2,AZ J J]
   have:=h4.2.2 (by show 1<=w64 (y.2.1+4);omega);have:r4.1.1<w64 (y.2.1+4):=this;omega
  exact Tot.bind (Ti (hy.1.rd h4.1 J) h5 J) λr5 h6=>Tot.ret<|h6.up J
def ayt{N:Nat}{s:_}(h:SOk E N s)(hN:N<=700000):Tot (dD (s,())) λa=>SOk E (N+4500) a.2.1:=by
 unfold dD;refine Tot.bind (Ti h aIm J) λr1 h1=>Tot.bind (Zq h1 aIm aIm J) λr2 h2=> ?_;refine Tot.sum (P:=λ_=>False) (Q:=λy=>SOk E (N+2220) y.1) ?_ (λ_ h=>h.elim) (λy hy=> ?_)
 .refine Tot.loop (λi x=>SOk E (N+2100+40 * i) x.1/\x.2.1=(i:Int)) _ 2 (λi x hi hx=> ?_) ⟨h2.up J,rfl⟩;obtain⟨hs,hx⟩:=hx;unfold sZ;refine Tot.bind (Ct hs.r J) λr3 h3=>Tot.ite (λhc=> ?_) (λhc=>Tot.ret<|show SOk E (N+2220) _ from hs.rd (h3.1.up J) J);have hc:=BZ hc;have hv:=h3.2.2 (show(1:Int)<=2 by decide);have hv:r3.1.1<2:=hv;have hv0:=h3.2.1;rw[AZ J J]at hc;have hrl:=hs.w.rl;refine Tot.sum (P:=λ_=>False) (Q:=λy=>SOk E (N+2100+40 * (i+1)) y.1/\y.2.1=(i:Int)) ?_ (λ_ h=>h.elim) (λy hy=>Tot.ret ⟨J,hy.1,On hy.2 J⟩);refine Tot.loop (λk y=>SOk E (N+2100+40 * i+1+k) y.1/\y.2.1=(i:Int)/\y.2.2.1=(j8 x.1.2.2.2.2.1:Int)/\y.2.2.2.1=(k:Int)) _ x.1.2.2.2.2.1.length (λk y hk hy=> ?_) ⟨hs.rd h3.1 J,hx,rfl,rfl⟩;obtain⟨hs,y1,y2,y3⟩:=hy;unfold sY;refine Tot.ite (λhc=> ?_) (λhc=>Tot.ret ⟨hs.up J,y1⟩);have hc:=BZ hc;exact Tot.bind (HO hs J nz) λr4 h4=>Tot.ret ⟨J,h4.up J,y1,y2,On y3 J⟩
 .refine Tot.bind (Ct (SOk.r hy) J) λr3 h3=>Tot.join (A:=λj=>SOk E (N+2240) j.1) ?_ (λj hj=> ?_)
  .refine Tot.bind (Ct h3.1 J) λr4 h4=>Tot.ite (λhc=> ?_) (λhc=>Tot.ite (λhc=> ?_) λhc=> ?_)
   .exact Tot.bind (Ct h4.1 J) λr5 h5=>Tot.bind (HO (SOk.rd hy h5.1 J) J nz) λr6 h6=>Tot.bind (HO h6 J nz) λr7 h7=>Tot.ret (show SOk E (N+2240) _ from h7.up J)
   .refine Tot.bind (Ct h4.1 J) λr5 h5=>Tot.sum (P:=λ_=>False) (Q:=λy=>SOk E (N+2240) y.1) ?_ (λ_ h=>h.elim) (λy hy=>Tot.ret<|show SOk E (N+2240) y.1 from hy);have hv:r5.1.1<9:=h5.2.2 (show(1:Int)<=9 by decide);have hv0:=h5.2.1;refine Tot.loop (λk y=>SOk E (N+2224+k) y.1/\y.2.2.1=r5.1.1 - (k:Int)) _ r5.1.1.toNat (λk y hk hy=> ?_) ⟨SOk.rd hy (h5.1.up J) J,by show r5.1.1=r5.1.1 - 0;omega⟩;obtain⟨hs,y1⟩:=hy;unfold sX;refine Tot.ite (λhc=> ?_) (λhc=>Tot.ret<|show SOk E (N+2240) _ from hs.up J);have hc:=BZ hc;refine Tot.bind (HO hs J nz) λr6 h6=>Tot.ret ⟨J,h6.up J, ?_⟩;show w64 (y.2.2.1 - 1)=r5.1.1 - ((k+1:Nat):Int);rw[AZ J J];omega
   .exact Tot.ret (show SOk E (N+2240) _ from SOk.rd hy (h4.1.up J) J)
  .have hj:SOk E (N+2240) j.1:=hj;refine Tot.bind (Zq hj aIm aIm J) λr4 h4=>Tot.sum (P:=λ_=>False) (Q:=λy=>SOk E (N+3400) y.1) ?_ (λ_ h=>h.elim) (λy hy=> ?_)
   .refine Tot.loop (λk y=>SOk E (N+3340+k) y.1/\y.2.2.1=(k:Int)) _ 12 (λk y hk hy=> ?_) ⟨h4.up J,rfl⟩;obtain⟨hs,y1⟩:=hy;unfold sW;refine Tot.ite (λhc=> ?_) (λhc=>Tot.ret<|show SOk E (N+3400) _ from hs.up J);rw[AD]at hc;have hc:=BZ hc.1;exact Tot.bind (HO hs J nz) λr6 h6=>Tot.ret ⟨J,h6.up J,On y1 J⟩
   .exact Tot.bind (Ti (SOk.up hy<|Au _) aIm J) λr5 h5=>Tot.ret<|h5.up J
def axx{N:Nat}{s:_}(h:SOk E N s)(odd:Int)(hN:N<=690000):Tot (dB (s,odd,())) λa=>SOk E (N+25000) a.2.1:=by
 unfold dB;refine Tot.bind (Ct h.r J) λr1 h1=>Tot.bind (Ct h1.1 J) λr2 h2=> ?_;have a0:=h1.2.1;have a1:r1.1.1<4:=h1.2.2 (show(1:Int)<=4 by decide);have hs:SOk E (N+2) (r2.2.1,s.2):=h.rd h2.1 J;refine Tot.join (A:=λj=>SOk E (N+2) j.1/\0<=j.2.2.1/\j.2.2.1<4) ?_ (λj hj=> ?_)
 .exact Tot.ite (λ_=>Tot.ret ⟨hs,a0,a1⟩) λ_=>Tot.ite (λ_=>Tot.ret ⟨hs,a0,a1⟩) λ_=>Tot.ret ⟨hs,a0,a1⟩
 clear hs a0 a1;refine Tot.ite (λ_=>Tot.bind (abU hj.1 J) λr4 h4=>Tot.ret<|h4.up J) (λ_=> ?_);refine Tot.join (A:=λj=>SOk E (N+2) j.1/\0<=j.2.2.1/\j.2.2.1<4) ?_ (λj hj=> ?_)
 .exact Tot.ite (λ_=>Tot.ret hj) λ_=>Tot.ite (λ_=>Tot.ret hj) λ_=>Tot.ite (λ_=>Tot.ret hj) λ_=>Tot.ite (λ_=>Tot.ret hj) λ_=>Tot.ite (λ_=>Tot.ret hj) λ_=>Tot.ret hj
 refine Tot.ite (λ_=> ?_) (λ_=> ?_)
 .refine Tot.bind (Ct hj.1.r J) λr3 h3=> ?_;have hv:r3.1.1<7:=h3.2.2 (show(1:Int)<=7 by decide);have hv0:=h3.2.1;have hw:w64 (1+r3.1.1)=1+r3.1.1:=AZ J J;exact Tot.bind (Zq (hj.1.rd h3.1 J) (by rw[hw];omega) (by rw[hw];omega) J) λr4 h4=>Tot.ret<|h4.up J
 refine Tot.join (A:=λj=>SOk E (N+2) j.1/\0<=j.2.2.1/\j.2.2.1<4) ?_ (λj hj=> ?_)
 .exact Tot.ite (λ_=>Tot.ret hj) λ_=>Tot.ret hj
 refine Tot.ite (λ_=> ?_) (λ_=> ?_)
 .refine Tot.bind (Ct hj.1.r J) λr3 h3=> ?_;have hv:r3.1.1<20:=h3.2.2 (show(1:Int)<=20 by decide);have hv0:=h3.2.1;have hw:w64 (1+r3.1.1)=1+r3.1.1:=AZ J J;exact Tot.bind (Ti (hj.1.rd h3.1 J) (by rw[hw];omega) J) λr4 h4=>Tot.ret<|h4.up J
 refine Tot.join (A:=λj=>SOk E (N+2) j.1/\0<=j.2.1/\j.2.1<4) ?_ (λj hj=> ?_)
 .exact Tot.ite (λ_=>Tot.ret hj) λ_=>Tot.ret hj
 refine Tot.ite (λ_=>Tot.bind (HO hj.1 J nz) λr4 h4=>Tot.ret<|h4.up J) (λ_=> ?_);refine Tot.ite (λ_=>Tot.bind (Ct hj.1.r J) λr3 h3=>Tot.bind (HO (hj.1.rd h3.1 J) J nz) λr4 h4=>Tot.ret<|h4.up J) (λ_=> ?_);refine Tot.join (A:=λj=>SOk E (N+2) j.1/\0<=j.2.1/\j.2.1<4) ?_ (λj hj=> ?_)
 .exact Tot.ite (λ_=>Tot.ret hj) λ_=>Tot.ret hj
 refine Tot.ite (λ_=>Tot.bind (HO hj.1 J nz) λr4 h4=>Tot.ret<|h4.up J) (λ_=> ?_);refine Tot.ite (λ_=>Tot.bind (Ct hj.1.r J) λr3 h3=>Tot.bind (Ct h3.1 J) λr4 h4=>Tot.bind (HO (hj.1.rd h4.1 J) J nz) λr5 h5=>Tot.ret<|h5.up J) (λ_=> ?_);refine Tot.join (A:=λj=>SOk E (N+2) j.1/\0<=j.2.1/\j.2.1<4) ?_ (λj hj=> ?_)
 .exact Tot.ite (λ_=>Tot.ret hj) λ_=>Tot.ret hj
 refine Tot.ite (λ_=> ?_) (λ_=> ?_)
 .have hk:=hj.1.w.has hj.2.1 hj.2.2;refine Tot.pos hk.2.2 (Tot.bind (q9 hk.1) λr6 h6=> ?_);subst h6;refine Tot.ite (λhl=> ?_) (λhl=>Tot.ret<|hj.1.up J);have hl:(0:Int)<((stT<|kA j.1.2.2.1 j.2.1.toNat).inbox.length:Int):=BZ hl;refine Tot.bind (Ct hj.1.r J) λr7 h7=>Tot.pos (G0 h7.2.1<|h7.2.2 hl)<|Tot.bind (HO (hj.1.rd h7.1 J) J nz) λr8 h8=>Tot.ret<|h8.up J
 refine Tot.ite (λ_=>Tot.bind (Ct hj.1.r J) λr3 h3=>Tot.bind (HO (hj.1.rd h3.1 J) J nz) λr4 h4=>Tot.ret<|h4.up J) (λ_=> ?_);refine Tot.join (A:=λj=>SOk E (N+2) j.1) ?_ (λj hj=> ?_)
 .exact Tot.ite (λ_=>Tot.ret hj.1) λ_=>Tot.ite (λ_=>Tot.ret hj.1) λ_=>Tot.ret hj.1
 have hj:SOk E (N+2) j.1:=hj;refine Tot.ite (λ_=>Tot.bind (ayt hj J) λr4 h4=>Tot.ret<|h4.up J) (λ_=> ?_);refine Tot.sum (P:=λ_=>False) (Q:=λy=>SOk E (N+25000) y.1) ?_ (λ_ h=>h.elim) (λy hy=>Tot.ret hy);refine Tot.loop (λk y=>SOk E (N+2+2200 * k) y.1/\y.2.1=(k:Int)) _ 4 (λk y hk hy=> ?_) ⟨hj,rfl⟩;unfold sU;refine Tot.ite (λhc=> ?_) (λhc=>Tot.ret<|show SOk E (N+25000) _ from hy.1.up J);have hc:=BZ hc;have hy2:=hy.2;exact Tot.bind (Zq hy.1 aIm aIm J) λr5 h5=>Tot.bind (Ti h5 aIm J) λr6 h6=>Tot.ret ⟨J,h6.up J,On hy.2 J⟩
end Go.VS
namespace Go.VS
open Go
variable {E:List Event}
def awR{i:Int}(h:isN i=Y):VT (i,())=I (((i,Y,noB,0,[],()),()),()):=by
 unfold VT;simp only[Jp,A6,h,AB,A4]
def aaJ:S2 ()=I (((rv0.ti,rv0.A8,rv0.Al,rv0.AO,rv0.AX,rv0.got,()),()),()):=by
 have h0:rT ((0,([]:List A7),([]:List Bool),([]:List AK),([]:List A3),([]:List A3),()),(0,([]:List A7),([]:List Bool),([]:List AK),([]:List A3),([]:List A3),()),0,())
   =I (.inr ((0,[],[],[],[],[],()),(0,[kp0 0,kp0 1,kp0 2,kp0 3],[],[],[],[],()),())):=by
  have st:∀(n:Nat) (l:List A7),n<4->l.length<=4->dJ ((0,[],[],[],[],[],()),(0,l,[],[],[],[],()),(n:Int),())=I (.inl ((0,[],[],[],[],[],()),(0,l++[kp0 n],[],[],[],[],()),((n+1:Nat):Int),())):=by
   intro n l hn hl;unfold dJ;have hi:isN (n:Int)=Y:=Aa.2 ⟨J,J⟩;rw[A5<|AU<|show(n:Int)<4 by omega];rw[show VT (_,())=_ from awR hi];simp only[A6];rw[A5<|BD y8,AZ J J];rfl
  exact As (st 0 [] aIm aIm)<|As (st 1 _ aIm aIm)<|As (st 2 _ aIm aIm)<|As (st 3 _ aIm aIm)<|BF<|by rfl
 have h1:rS ((0,([]:List A7),([]:List Bool),([]:List AK),([]:List A3),([]:List A3),()),(0,[kp0 0,kp0 1,kp0 2,kp0 3],[],[],[],[],()),0,())
   =I (.inr ((0,[],[],[],[],[],()),(0,[kp0 0,kp0 1,kp0 2,kp0 3],[Y,Y,Y],[],[],[],()),())):=by
  have st:∀(n:Nat) (l:List Bool),n<3->l.length<=4->VQ ((0,[],[],[],[],[],()),(0,[kp0 0,kp0 1,kp0 2,kp0 3],l,[],[],[],()),(n:Int),())=I (.inl ((0,[],[],[],[],[],()),(0,[kp0 0,kp0 1,kp0 2,kp0 3],l++[Y],[],[],[],()),((n+1:Nat):Int),())):=by
   intro n l hn hl;unfold VQ;have hw:w64 ((n:Int)+1)=((n+1:Nat):Int):=by rw[AZ J J];rfl
   simp only[hw];rw[A5<|AU<|show((n+1:Nat):Int)<4 by omega,A5<|BD y8]
  refine As (st 0 [] aIm aIm) (As (st 1 _ aIm aIm)<|As (st 2 _ aIm aIm)<|BF ?_);unfold VQ;have hw:w64 (((2+1:Nat):Int)+1)=4:=by rw[AZ J J];rfl
  simp only[hw];rfl
 unfold S2;rw[h0];simp only[CD];rw[h1];rfl
def axk{N M:Nat}{r:List Int×Int×D}(h:Hy N r){E4:Int}(hm0:1<=E4)(hm:E4<=(M:Int))(hN:N+25000 * M<=710000):
  Tot (gS (r,E4,())) λa=>Hy (N+12+25000 * M) a.2.1/\WOk [] (N+12+25000 * M) a.1.1.2:=by
 unfold gS;rw[aaJ];simp only[A6];refine Tot.bind (Ct h J) λr2 h2=>Tot.pos (G0 h2.2.1<|h2.2.2<|show(1:Int)<=5 by decide) ?_;have hs:SOk [] (N+1) (r2.2.1,rv0.ti,rv0.A8,rv0.Al,rv0.AO,rv0.AX,rv0.got,([]:List Event),()):=⟨h2.1,rv0,[],rfl,⟨[],.nil,λ_=>rfl⟩,D5 _⟩;refine Tot.bind (abU hs J) λr4 h4=>Tot.bind (Ct h4.r J) λr9 h9=> ?_;refine Tot.sum (P:=λ_=>False) (Q:=λy=>Hy (N+12+25000 * M) y.1/\WOk [] (N+12+25000 * M) y.2.1.2) ?_ (λ_ h=>h.elim) (λy hy=>Tot.ret hy);have hn0:=h9.2.1;have hn:r9.1.1<(M:Int):=by
  have:r9.1.1<E4:=h9.2.2 hm0;omega
 refine Tot.loop (λi y=>Hy (N+12+25000 * i) y.1/\WOk [] (N+12+25000 * i) y.2.1.2/\y.2.2.2.1=r9.1.1 - (i:Int)) _ r9.1.1.toNat (λi y hi hy=> ?_) ⟨h9.1.up J,h4.w.up J,by show r9.1.1=r9.1.1 - 0;omega⟩;obtain⟨hr,hw,hy⟩:=hy;unfold vO;refine Tot.ite (λhc=> ?_) (λhc=>Tot.ret ⟨hr.up J,hw.up J⟩);have hc:=BZ hc;refine Tot.bind (axx (s:=(y.1,y.2.1.2)) ⟨hr,hw⟩ _ J) λr5 h5=>Tot.ret ⟨J,h5.r.up J,h5.w.up J, ?_⟩;show w64 (y.2.2.2.1 - 1)=r9.1.1 - ((i+1:Nat):Int);rw[AZ J J];omega
end Go.VS
namespace Go.VS
open Go
def axp{l:List Int}(hb:BOk l):Tot (iH (l,())) λa=>Hy 0 a.1.1:=by
 unfold iH;refine Tot.ite (λhc=> ?_) (λhc=>Tot.ret ⟨?_,hb,Cz _,Cz _⟩)
 .have hc:(2000:Int)<(j8 l:Int):=BZ hc;refine Tot.pos y8 (Tot.ret ⟨?_,λx hx=>hb x<|IL hx,Cz _,Cz _⟩);show(BR (AM 2000) l).length<=2000;rw[Di];omega
 .have:¬(2000:Int)<(j8 l:Int):=KD hc;show l.length<=2000;omega
abbrev tR(w:AA):YR:=(w.ti,w.A8,w.Al,w.AO,w.AX,w.got,())
abbrev zR:AA:=⟨0,[],[],[],[],[]⟩
abbrev SmR(w:AA):Prop:=Gx w.A8 w.Al w.AO w.AX w.got
def B9.sm{w:AA}(h:B9 w):SmR w:=by
 have h1:=h.kl;have h2:=h.ll;have h3:=h.rl;have h4:=h.sl;have h5:=h.gl;refine⟨J,λk hk=> ?_,J,J,λp hp=> ?_,J,λn hn=> ?_,J,λn hn=> ?_⟩
 .obtain⟨i,hi,rfl⟩:=Cq hk;have:=(h.k i J).1;rw[kA,BA,Ap hi]at this;exact D9 this
 .have:=(Lm<|h.p p hp).2.2.1;unfold aGS;omega
 .have:=Aa.1<|M0<|h.s n hn;unfold GJ;omega
 .have:=Aa.1<|M0<|h.g n hn;unfold GJ;omega
def ads{l:List A7}(hl:l.length<=1048576):cZ (l,())=I ((l,()),()):=Ls hl
def afC{l:List Bool}(hl:l.length<=1048576):dQ (l,())=I ((l,()),()):=Ls hl
def adq{l:List AK}(hl:l.length<=1048576):cY (l,())=I ((l,()),()):=Ls hl
def SB{w:AA}(sm:SmR w):Jm (tR w,())=I ((tR w,()),()):=by
 obtain⟨ti,ks,ls,ra,se,go⟩:=w;have kl:=sm.kl;unfold Jm;rw[show cZ ((tR ⟨ti,ks,ls,ra,se,go⟩).2.1,())=_ from ads sm.kl,show dQ ((tR ⟨ti,ks,ls,ra,se,go⟩).2.2.1,())=_ from afC sm.l,show cY ((tR ⟨ti,ks,ls,ra,se,go⟩).2.2.2.1,())=_ from adq sm.rl,
  show Nz ((tR ⟨ti,ks,ls,ra,se,go⟩).2.2.2.2.1,())=_ from dR sm.sl,show Nz (tR ⟨ti,ks,ls,ra,se,go⟩).2.2.2.2.2=_ from dR sm.gl]
 simp only[A6];have h:cW (tR zR,tR ⟨ti,ks,ls,ra,se,go⟩,(j8 ks:Int),0,())=I (.inr (tR zR,tR ⟨ti,ks,ls,ra,se,go⟩,())):=by
  refine CG (λi=>(tR zR,tR ⟨ti,ks,ls,ra,se,go⟩,(j8 ks:Int),(i:Int),())) ks.length ?_ ?_
  .intro i hi;unfold dm;have hc:=Kd<|N6 sm.k i;simp only[Ic hi,A2,AR hi,OK,hc,A6,BV];rw[Dd hi kl,show(⟨(kA ks i).id,(kA ks i).up,(kA ks i).log,(kA ks i).fo,(kA ks i).AJ⟩:A7)=kA ks i from rfl,Kw]
  .unfold dm;simp only[H9,A4]
 rw[show cW _=_ from h];rfl
def kr{w:AA}{fs:List Frame}(hr:w.AO.length<=1048000)(hf:fs.length<=40):OD (tR w,fs,())=I ((),(tR ⟨w.ti,w.A8,w.Al,C3 w.AO fs,w.AX,w.got⟩,())):=by
 obtain⟨ti,ks,ls,ra,se,go⟩:=w;unfold OD;have h0:C3 ra (fs.take 0)=ra:=by
  unfold C3;simp
 have h:ff (tR ⟨ti,ks,ls,C3 ra<|fs.take 0,se,go⟩,fs,(j8 fs:Int),((0:Nat):Int),())=I (.inr (tR ⟨ti,ks,ls,C3 ra fs,se,go⟩,())):=by
  refine CG (λi=>(tR ⟨ti,ks,ls,C3 ra<|fs.take i,se,go⟩,fs,(j8 fs:Int),(i:Int),())) fs.length ?_ ?_
  .intro i hi;unfold XW;simp only[Ic hi,A2,AR hi,aGB];have hz:(C3 ra<|fs.take i).length<=1048100:=by
    unfold C3;simp;have:min (30 - ra.length) (min i fs.length)<=40:=J
    simp only at hr;omega
   have hw:w64 ((i:Int)+1)=((i+1:Nat):Int):=Dd hi J;have hrm:∀p:AK,Ab ((C3 ra<|fs.take i).length+[p].length)=Y:=λp=>BD y8;have ht:fs.take (i+1)=fs.take i++[frA fs i]:=by rw[Iw,Ap hi,ab3 hi];rfl
   have hl:(fs.take i).length=i:=by rw[Di];omega
   have hlen:(C3 ra<|fs.take i).length=ra.length+min (30 - ra.length) i:=by
    unfold C3;simp;omega
   by_cases h30:(C3 ra<|fs.take i).length<30
   .rw[A5<|AU<|show((C3 ra<|fs.take i).length:Int)<30 by omega];rw[show Ps ((_,_,_,_,_,_,_,_,_,_,()),())=_ from yb<|frA fs i];simp only[A6,hrm,A2];have e:C3 ra (fs.take<|i+1)=C3 ra (fs.take i)++[pcF (frA fs i)]:=by
     rw[hlen]at h30;have a1:BR (30 - ra.length) (fs.take i++[frA fs i])=fs.take i++[frA fs i]:=KH (by rw[Aw,hl];simp;omega);have a2:BR (30 - ra.length) (fs.take i)=fs.take i:=KH (by rw[hl];omega);unfold C3;rw[ht,a1,a2,Ec,← C5];rfl
    rw[e,hw];rfl
   .rw[A9<|nd<|show ¬((C3 ra<|fs.take i).length:Int)<30 by omega];have e:C3 ra (fs.take<|i+1)=C3 ra (fs.take i):=by
     rw[hlen]at h30;unfold C3;rw[ht,List.take_append_of_le_length (by rw[hl];omega)]
    rw[e,hw]
  .unfold XW;simp only[H9,A4,E0]
 rw[h0]at h;have h':ff (tR ⟨ti,ks,ls,ra,se,go⟩,fs,(j8 fs:Int),0,())=I (.inr (tR ⟨ti,ks,ls,C3 ra fs,se,go⟩,())):=h;simp only[h'];rfl
def aiX{l:List AK}{i:Int}(h0:0<=i)(h1:i<l.length)(hl:l.length<=1048576):Vv (l,i,())=I ((JI l i.toNat,()),()):=by
 unfold Vv;have hw:w64 (i+1)=i+1:=AZ J J;have hn:(i+1).toNat=i.toNat+1:=J
 simp only[hw,hn];rw[A5 y8,A5<|BD y8,A5 y8,A5<|BD y8];rfl
def apA{w:AA}(h:B9 w)(e:Event):((e.ki=9\/e.ki=10)->iW (tR w,tE e,())=I (((Ey w e).2,()),(tR (Ey w e).1,()))):=by
 intro _;have ll:=h.ll;unfold iW Ey;simp only[EO,A6,QI (J:w.Al.length<=1048576),ZC];obtain e0|e0:=tf (inB e.at_ 0<|(w.Al.length:Int) - 1)
 .have ha:=Aa.1 e0;have hb:inb e.at_ w.Al.length=Y:=G0 ha.1 J;rw[e0,hb];simp only[AB,AH,Ft,A2,Bk,AS];obtain c|c:=tfp (bA w.Al e.at_.toNat=U (e.ki=9))<;>simp only[c,AW,Ac,AB,AH,A2,A4]
 .rw[e0];simp only[AB,AH,Hb,A2,Bs,AL,A4]
def ayk(l:List AK)(i:Int){inst:Decidable ((@rd AK aIl l i).dst<(@rd AK aIl l i).src)}:(@ite Int ((@rd AK aIl l i).dst<(@rd AK aIl l i).src) inst (@rd AK aIl l i).dst (@rd AK aIl l i).src)=lnk (pA l i.toNat):=by
 show _=lnk (@rd AK aIl l i);unfold lnk;split<;>split<;>omega
def akT{w:AA}(h:B9 w)(e:Event):((e.ki=4\/e.ki=5\/e.ki=6)->SL (tR w,tE e,())=I (((ES w e).2,()),(tR (ES w e).1,()))):=by
 intro hk;have rl:=h.rl;unfold SL ES;simp only[↓ayk,EO,A6,QI (J:w.AO.length<=1048576),aDY];obtain e0|e0:=tf (inB e.wo 0<|(w.AO.length:Int) - 1)
 .have ha:=Aa.1 e0;have hb:inb e.wo w.AO.length=Y:=G0 ha.1 J;have hwl:e.wo.toNat<w.AO.length:=J
  have hp:=QR h (i:=e.wo.toNat) hwl;obtain⟨p1,p2,p3,p4,p5⟩:=Lm hp;have F9:=aiX (l:=w.AO) ha.1 J J;rw[e0,hb];simp only[AB,A4,A2];obtain c5|c5:=tfp (e.ki=5)
  .have c6:¬e.ki=6:=by have:e.ki=5:=of_eq_true c5;omega
   simp only[c5,AW,A2,F9,A6,c6,if_false]
  .rcases tfp (e.ki=6) with c6|c6
   .simp only[c5,c6,AW,Ac,A2,A4,QI<|show(pA w.AO e.wo.toNat).data.size<=1048576 by omega];obtain e2|e2:=tf (inB e.mix 0<|((pA w.AO e.wo.toNat).data.size:Int) - 1)<;>simp only[e2,AB,AH,A4,A2,AS,AL,Ba];obtain e1|e1:=tf (pA w.AO e.wo.toNat).sp<;>simp only[e1,AB,AH,A4,A2,AS,AL];obtain e3|e3:=tf (inB e.kp 1 255)<;>simp only[e3,AB,AH,A4,A2];have hm:=Aa.1 e2;have hmb:inb e.mix (BC (pA w.AO e.wo.toNat).data).length=Y:=G0 hm.1 (by rw[pr];omega);simp only[Ga,aaK,aay hwl,hb,A2];rw[A5<|BD J,A5 hmb,A5 hmb];rfl
   .have c4:e.ki=4:=by
     have:¬e.ki=5:=by simpa using c5
     have:¬e.ki=6:=by simpa using c6
     omega
    have hl:inb (lnk<|pA w.AO e.wo.toNat) w.Al.length=Y:=by
     have:=h.ll;exact G0 p4 (by rw[this];exact p5)
    have hin:inb (pA w.AO e.wo.toNat).dst w.A8.length=Y:=G0 p2.1 (by rw[h.kl];omega);have c4':(e.ki=4)=True:=eq_true c4;simp only[c5,c6,c4',AW,Ac,A2,A4,hl,ZC,if_false];obtain e1|e1:=tf (bA w.Al (lnk<|pA w.AO e.wo.toNat).toNat)<;>simp only[e1,AB,AH,A4,A2];have hlo:=(TY h e.wo.toNat).1;obtain e5|e5:=tfp (e.kp=0)
    .simp only[e5,AW,A2,F9,A6,Bg];simp only[BD<|show(pA w.AO e.wo.toNat).data.size<=4294967296 by omega,A2,wS<|BOk.str _,A6];unfold E7;generalize Cs (BC (pA w.AO e.wo.toNat).data)=u;obtain e2|e2:=tf u.2<;>simp only[e2,A4,A2,AS,AL,Bg];obtain e3|e3:=tf (U (u.1.src=(pA w.AO e.wo.toNat).src)&&U (u.1.dst=(pA w.AO e.wo.toNat).dst))<;>simp only[e3,A4,A2,hin,T5];rw[show S7 ((_,_,_,_,_,()),_,())=_ from xZ (Ua h (i:=(pA w.AO e.wo.toNat).dst.toNat) J) u.1];simp only[A6];have hs:=kr (w:=⟨w.ti,w.A8.set (pA w.AO e.wo.toNat).dst.toNat (CC (kA w.A8 (pA w.AO e.wo.toNat).dst.toNat) u.1).1,w.Al,JI w.AO e.wo.toNat,w.AX,w.got⟩) (fs:=(CC (kA w.A8 (pA w.AO e.wo.toNat).dst.toNat) u.1).2) (by show(JI w.AO e.wo.toNat).length<=1048000;omega) (by have:=(YJ (kA w.A8 (pA w.AO e.wo.toNat).dst.toNat) u.1).1;omega);rw[show OD _=_ from hs];rfl
    .simp only[e5,Ac,A4,Bg,if_false];simp only[BD<|show(pA w.AO e.wo.toNat).data.size<=4294967296 by omega,A2,wS<|BOk.str _,A6];unfold E7;generalize Cs (BC (pA w.AO e.wo.toNat).data)=u;obtain e2|e2:=tf u.2<;>simp only[e2,A4,A2,AS,AL,Bg];obtain e3|e3:=tf (U (u.1.src=(pA w.AO e.wo.toNat).src)&&U (u.1.dst=(pA w.AO e.wo.toNat).dst))<;>simp only[e3,A4,A2,hin,T5];rw[show S7 ((_,_,_,_,_,()),_,())=_ from xZ (Ua h (i:=(pA w.AO e.wo.toNat).dst.toNat) J) u.1];simp only[A6];have hs:=kr (w:=⟨w.ti,w.A8.set (pA w.AO e.wo.toNat).dst.toNat (CC (kA w.A8 (pA w.AO e.wo.toNat).dst.toNat) u.1).1,w.Al,w.AO,w.AX,w.got⟩) (fs:=(CC (kA w.A8 (pA w.AO e.wo.toNat).dst.toNat) u.1).2) (by show(w.AO).length<=1048000;omega) (by have:=(YJ (kA w.A8 (pA w.AO e.wo.toNat).dst.toNat) u.1).1;omega);rw[show OD _=_ from hs];rfl
 .rw[e0];simp only[AH,A2,A4]
def ap9{w:AA}(h:B9 w){e:Event}(hk:¬(e.ki=4\/e.ki=5\/e.ki=6))(hk':¬(e.ki=9\/e.ki=10))(ht:e.tx.size<=1048576):
  Sf (tR w,tE e,())=I (((doM w e).2,()),(tR (doM w e).1,())):=by
 obtain⟨ki,at_,fr,nu,wo,mix,kp,t',un,tx⟩:=e;simp only at hk hk' ht;have hn:∀(l:List A3) (x:A3),l.length<=6->Ab (l.length+[x].length)=Y:=λl x hl=>BD y8;have rl:=h.rl;unfold Sf doM;rw[A9 hk,A9 hk'];simp only[Jr,A6];obtain e0|e0:=tf (isN at_)
 .have ha:=ER e0;have hal:=UN e0;have hb:inb at_ w.A8.length=Y:=G0 ha.1 (by rw[h.kl];omega);have hko:=(h.k _ hal).1;have hks:=Ua h hal;simp only[e0,AB,A4,hb,A2,T5];unfold I7;obtain e1|e1:=tfp (ki=1)
  .simp only[e1,AW,A2];unfold NY;by_cases hs:6<=w.AX.length
   .rw[A5<|AU (J:6<=(w.AX.length:Int)),A5 hs];rfl
   .rw[A9<|nd (J:¬6<=(w.AX.length:Int)),A9 hs];rw[show Vy ((_,_,_,_,_,()),_,_,_,())=_ from aij hko t' un ht];simp only[A6];obtain e2|e2:=tfp ((Dt (kA w.A8 at_.toNat) t' un tx).2=0)<;>simp only[e2,AW,Ac,A4,A2,if_false]
    .rfl
    .rw[A5<|hn _ _ h.sl,Bg];simp only[hb,A2]
  .simp only[e1,Ac,A4,if_false];obtain e2|e2:=tfp (ki=2)
   .simp only[e2,AW,A2];rw[show Va ((_,_,_,_,_,()),())=_ from agu hko];simp only[A6,Bg,hb,A2];rfl
   .simp only[e2,Ac,A4,if_false];obtain e3|e3:=tfp (ki=3)
    .simp only[e3,AW,A2];rw[show Vz ((_,_,_,_,_,()),_,_,_,())=_ from aik hks fr nu mix];simp only[A6];rw[A5 hko];obtain e4|e4:=tf (EI (kA w.A8 at_.toNat) fr nu mix).2<;>simp only[e4,A2,A4]
     .have hs:=kr (w:=w) (fs:=[(EI (kA w.A8 at_.toNat) fr nu mix).1]) J aIg;rw[show OD (_,_,())=_ from hs];simp only[A6,Bg,hb,A2];rw[show(⟨(kA w.A8 at_.toNat).id,(kA w.A8 at_.toNat).up,(kA w.A8 at_.toNat).log,(kA w.A8 at_.toNat).fo,(kA w.A8 at_.toNat).AJ⟩:A7)=kA w.A8 at_.toNat from rfl,Kw]
     .simp only[Bg,hb,A2];rw[show(⟨(kA w.A8 at_.toNat).id,(kA w.A8 at_.toNat).up,(kA w.A8 at_.toNat).log,(kA w.A8 at_.toNat).fo,(kA w.A8 at_.toNat).AJ⟩:A7)=kA w.A8 at_.toNat from rfl,Kw]
    .simp only[e3,Ac,A4,if_false];obtain e4|e4:=tfp (ki=7)
     .simp only[e4,AW,A2];rw[show Vd ((_,_,_,_,_,()),_,())=_ from agx hks kp];rw[A5 hko];simp only[A6,Bg,hb,A2];rfl
     .simp only[e4,Ac,A4,if_false];obtain e5|e5:=tfp (ki=8)
      .simp only[e5,AW,A2];rw[show Vb ((_,_,_,_,_,()),())=_ from agv hko];simp only[A6,Bg,hb,A2];rfl
      .simp only[e5,Ac,A4,if_false];obtain e6|e6:=tfp (ki=11)
       .simp only[e6,AW,A2];unfold Nd;by_cases hs:w.got.length<6
        .rw[A9<|nd (J:¬6<=(j8 w.got:Int))];rw[show W0 ((_,_,_,_,_,()),_,_,())=_ from ail hko fr nu];simp only[A6];obtain e7|e7:=tf (DZ (kA w.A8 at_.toNat) fr nu).2.2<;>simp only[e7,AB,AH,A2,A4,AS,AL]
         .rw[A5<|AU hs,A5<|hn _ _ h.gl,Bg];simp only[hb,A2]
         .rfl
        .rw[A5<|AU (J:6<=(j8 w.got:Int)),BG hs,Ba,A4];rfl
       .simp only[e6,Ac,A4,if_false];obtain e7|e7:=tfp (ki=12)
        .simp only[e7,AW,A2];rw[show Vc ((_,_,_,_,_,()),())=_ from agw hko];simp only[A6,Bg,hb,A2];rfl
        .simp only[e7,Ac,A4,if_false];obtain e8|e8:=tfp (ki=13)
         .simp only[e8,AW,A2];rw[show VM ((_,_,_,_,_,()),())=_ from aew hko];simp only[A6,Bg,hb,A2];rfl
         .simp only[e8,Ac,A4,if_false,Bg,hb,A2];rw[show(⟨(kA w.A8 at_.toNat).id,(kA w.A8 at_.toNat).up,(kA w.A8 at_.toNat).log,(kA w.A8 at_.toNat).fo,(kA w.A8 at_.toNat).AJ⟩:A7)=kA w.A8 at_.toNat from rfl,Kw]
 .simp only[e0,AH,A4,A2]
noncomputable abbrev At(w:AA):Bool:=GH w.ti w.A8 w.Al w.AO w.AX w.got
def aHK{l:List A3}(h:HN l=Y):∀n∈l,Ax n=Y:=by
 intro n hn;obtain⟨i,hi,rfl⟩:=Cq hn;have:=CA.1 h i hi;rw[nA,BA,Ap hi]at this;exact this
def DY{w:AA}(h:At w=Y):B9 w/\0<=w.ti/\w.ti<=99999:=by
 unfold At GH at h;simp only[AD,Aa,decide_eq_true_eq,CA]at h;obtain⟨ht,hk,hl,hr,⟨hs,hs6⟩,⟨hg,hg6⟩,hks,hps⟩:=h;refine⟨⟨J,J,J,J,J,λi hi=> ?_,λp hp=> ?_,aHK hs,aHK hg⟩,ht.1,ht.2⟩
 .have:=hks i J;unfold JQ at this;simp only[AD,decide_eq_true_eq]at this;exact⟨this.2,this.1⟩
 .obtain⟨i,hi,rfl⟩:=Cq hp;have:=hps i hi;rw[pz hi]at this;exact this
def pM{w:AA}(h:B9 w)(h0:0<=w.ti)(h1:w.ti<=99999):At w=Y:=by
 have k1:=h.kl;have k2:=h.ll;have k3:=h.rl;have k4:=h.sl;have k5:=h.gl;unfold At GH;simp only[AD,Aa,decide_eq_true_eq,CA];refine⟨⟨h0,h1⟩,J,J,J,⟨?_,J⟩,⟨?_,J⟩,λi hi=> ?_,λi hi=> ?_⟩
 .unfold HN;exact CA.2 λi hi=>h.s _ (by rw[nA,BA,Ap hi];exact CU hi)
 .unfold HN;exact CA.2 λi hi=>h.g _ (by rw[nA,BA,Ap hi];exact CU hi)
 .unfold JQ;have:=h.k i J;rw[this.1,this.2];simp
 .exact QR h hi
def El(w:AA)(e:Event):AA×Bool:=
 if At w then(if U (99999<=w.ti) then(w,A0) else if(doM w e).2 then(Cl w e,Y) else(w,A0)) else(zR,A0)
def j9{w:AA}(h:B9 w)(ht0:0<=w.ti)(ht1:w.ti<=99999){e:Event}(ht:e.tx.size<=1048576):
  I1 (tR w,tE e,())=I ((tR (if U (99999<=w.ti) then(w,A0) else if(doM w e).2 then(Cl w e,Y) else(w,A0)).1,(if U (99999<=w.ti) then(w,A0) else if(doM w e).2 then(Cl w e,Y) else(w,A0)).2,()),()):=by
 have hti:=aR w e;have ami:∀b:Bool,b=U (e.ki=9\/e.ki=10)->(BT (X:=YR×YR×YR×Bool×D) (λj16=>
   (if((!j16.2.2.2.1)||(U<|j16.1.1=99999)) then
   (Jm (j16.1,())).bind λr29=>
   I ((r29.1.1,A0,()),())
   else
   (Jm (((w64<|j16.2.2.1.1+1),j16.2.2.1.2),())).bind λr30=>
   I ((r30.1.1,Y,()),()))) (I<|.inr (tR w,tR zR,tR (doM w e).1,(doM w e).2,())):Option ((YR×Bool×D)×D))=I ((tR (if U (99999<=w.ti) then(w,A0) else if(doM w e).2 then(Cl w e,Y) else(w,A0)).1,(if U (99999<=w.ti) then(w,A0) else if(doM w e).2 then(Cl w e,Y) else(w,A0)).2,()),()):=by
  intro b hb;rw[Bg];have amv:U (w.ti=99999)=U (99999<=w.ti):=decide_eq_decide.2 J;simp only[amv];obtain c|c:=tf (U<|99999<=w.ti)
  .simp only[c,DS,A2,SB h.sm,A6]
  .rcases tf (doM w e).2 with c2|c2
   .simp only[c,c2,AB,Ed,A4,A2];have hs:=SB (pI h e).sm;have e1:tR (Cl w e)=(w64<|(doM w e).1.ti+1,(doM w e).1.A8,(doM w e).1.Al,(doM w e).1.AO,(doM w e).1.AX,(doM w e).1.got,()):=by
     unfold Cl tick;rw[c2,A5 rfl]
    rw[e1]at hs ⊢;rw[show Jm ((w64<|(doM w e).1.ti+1,(doM w e).1.A8,(doM w e).1.Al,(doM w e).1.AO,(doM w e).1.AX,(doM w e).1.got,()),())=_ from hs];rfl
   .simp only[c,c2,AH,Bs,A4,A2,SB h.sm,A6]
 unfold I1;rw[SB h.sm];simp only[A6];have IU:=ami _ rfl;by_cases h9:e.ki=9\/e.ki=10
 .have hdo:doM w e=Ey w e:=by
   unfold doM;rw[A9 J,A5 h9]
  have hL:=apA h e h9;rw[← hdo]at hL;rw[← IU];congr 1;obtain c|c:=tfp (e.ki=9)
  .simp only[c,AW,A2,Bg,hL,A6]
  .have c10:(e.ki=10)=True:=eq_true (by have:¬e.ki=9:=(by simpa using c);omega);simp only[c,c10,AW,Ac,A4,Bg,A2,hL,A6]
 .have n9:(e.ki=9)=False:=by simp;omega
  have n10:(e.ki=10)=False:=by simp;omega
  simp only[n9,n10,Ac,A4,Bg];rw[← IU];congr 1;by_cases h4:e.ki=4\/e.ki=5\/e.ki=6
  .have hdo:doM w e=ES w e:=by
    unfold doM;rw[A5 h4]
   have hP:=akT h e h4;rw[← hdo]at hP;obtain c|c:=tfp (e.ki=4)
   .simp only[c,AW,A2,hP,A6]
   .rcases tfp (e.ki=5) with c1|c1
    .simp only[c,c1,AW,Ac,A4,A2,hP,A6]
    .have c6:(e.ki=6)=True:=eq_true (by have h4:¬e.ki=4:=(by simpa using c);have h5:¬e.ki=5:=(by simpa using c1);omega);simp only[c,c1,c6,AW,Ac,A4,A2,hP,A6]
  .have n4:(e.ki=4)=False:=by simp;omega
   have n5:(e.ki=5)=False:=by simp;omega
   have n6:(e.ki=6)=False:=by simp;omega
   have hN:=ap9 h h4 h9 ht;simp only[n4,n5,n6,Ac,A4,hN,A6]
def ij{w:AA}(sm:SmR w):Pz (tR w,())=I ((tR w,()),()):=by
 obtain⟨ti,ks,ls,ra,se,go⟩:=w;have k1:=sm.kl;have k2:=sm.l;have k3:=sm.rl;have k4:=sm.sl;have k5:=sm.gl;unfold Pz;simp only at k1 k2 k3 k4 k5;simp only[Eb,CK,DN];rw[A5<|BD J,A5<|BD J,A5<|BD J,A5<|BD J];have h:dE (tR ⟨ti,ks,ls,ra,se,go⟩,tR zR,tR ⟨ti,ks.take 0,ls,ra,se,go⟩,((0:Nat):Int),())=I (.inr (tR zR,tR ⟨ti,ks,ls,ra,se,go⟩,())):=by
  refine CG (λi=>(tR ⟨ti,ks,ls,ra,se,go⟩,tR zR,tR ⟨ti,ks.take i,ls,ra,se,go⟩,(i:Int),())) ks.length ?_ ?_
  .intro i hi;unfold gA;have hc:=Mh<|N6 sm.k i;simp only[Ic hi,A2,AR hi,OK,hc,A6];rw[A5<|BD y8,Dd hi k1];have:ks.take i++[kA ks i]=ks.take (i+1):=by rw[Iw,Ap hi,kA,BA,Ap hi];rfl
   rw[← this]
  .unfold gA;simp only[H9,A4,E0]
 have h':dE (tR ⟨ti,ks,ls,ra,se,go⟩,tR zR,tR ⟨ti,[],ls,ra,se,go⟩,0,())=I (.inr (tR zR,tR ⟨ti,ks,ls,ra,se,go⟩,())):=h;simp only[h'];rfl
def aqD{w:AA}(h:B9 w){e:Event}(ht:e.tx.size<=1048576):
  X3 (tR w,tE e,())=I ((tR<|tick (doM w e).1 Y,(doM w e).2,()),()):=by
 have hti:=aR w e;unfold X3;refine abc (w:=w) h (e:=e) ht (λc=> ?_) (λc c2=> ?_) (λk b c=> ?_) (λra c=> ?_) (λc=> ?_)
 .rw[c,tick,A5 rfl,hti]<;>rfl
 .rw[c,c2];rfl
 .rw[c];rfl
 .rw[c];rfl
 .rw[c];rfl
def arC{w:AA}(h:B9 w)(hlt:¬99999<=w.ti)(hrv:At w=Y){e:Event}(ht:e.tx.size<=1048576):
  O4 (tR w,tE e,())=I ((tR (if(doM w e).2 then(Cl w e,Y) else(w,A0)).1,(if(doM w e).2 then(Cl w e,Y) else(w,A0)).2,()),()):=by
 have hcw:=ij h.sm;have hd:=aqD h ht;have hc2:=ij (aaE (ph h e) Y).sm;unfold O4;rw[show Q1 ((tR w,tE e,()).1,())=_ from im h.sm];simp only[A6,show GH w.ti w.A8 w.Al w.AO w.AX w.got=Y from hrv,AB,A4,BG hlt,hcw];rw[show X3 (tR w,(tE e,()))=_ from hd];unfold Cl;obtain c|c:=tf (doM w e).2
 .simp only[A6,c,AB,A4,hc2,A2]
 .simp only[A6,c,AH,A2,A4]
def al8{w:AA}(sm:SmR w){e:Event}(ht:e.tx.size<=1048576):O4 (tR w,tE e,())=I ((tR (El w e).1,(El w e).2,()),()):=by
 unfold El;obtain c|c:=tf (At w)
 .have hw:=DY c;rw[A5 c];by_cases hlt:99999<=w.ti
  .unfold O4;rw[show Q1 (tR w,())=_ from im sm];simp only[A6,show GH w.ti w.A8 w.Al w.AO w.AX w.got=Y from c,AB,A4,AU hlt,A2,ij sm]
  .rw[A9<|nd hlt];exact arC hw.1 hlt c ht
 .rw[A9 (by rw[c];exact CW)];unfold O4;rw[show Q1 (tR w,())=_ from im sm];simp only[A6,show GH w.ti w.A8 w.Al w.AO w.AX w.got=A0 from c,AH,A2]
def aqx{l:List AG}{i:Nat}(hi:i<l.length)(hl:(hA l i).got.length<=1048576):sK (l,l,(i:Int),0,())=I (.inr (l,l,(i:Int),())):=
 CG (b:=Vt) (λk=>(l,l,(i:Int),(k:Int),())) (hA l i).got.length (λk hk=>by
  unfold Vt;simp only[AR hi,MD,AR hk,A2,AW,EB,AB,A4,B2 hk (by omega:(hA l i).got.length<=9223372036854775807)];rw[A5<|by simpa using hk]) (by
  unfold Vt;simp only[AR hi,MD,A2];rw[A9 aIg])
def apX{l:List AG}(hl:l.length<=1048576)(hs:∀h∈l,Ou h):Px (l,l,())=I ((Y,()),()):=by
 have h0:sL (l,l,0,())=I (.inr ()):=
  CG (b:=Vu) (λk=>(l,l,(k:Int),())) l.length (λk hk=>by
   have hg:(hA l k).got.length<=1048576:=by rw[IG hk];exact(hs _<|CU hk).1
   unfold Vu;simp only[AR hk,MD,B5 hk,A2,AW,AB,A4,aqx hk hg,CD,B2 hk (by omega:l.length<=9223372036854775807)]) (by
   unfold Vu;rw[A9 aIg])
 unfold Px;simp only[AW,AB,A4,h0,CD]
def apW{k:A7}(sm:FK k):fe (tKp k,tKp k,())=I ((Y,()),()):=by
 unfold fe;simp only[AW,A2,apX sm.2.1 sm.2.2];rfl
def kQ{l:List A3}(hl:l.length<=1048576):Le (l,l,())=I ((Y,()),()):=by
 have h0:sx (l,l,0,())=I (.inr ()):=
  CG (b:=WB) (λk=>(l,l,(k:Int),())) l.length (λk hk=>by
   unfold WB;simp only[AR hk,B5 hk,A2,MU,AW,EB,AB,A4,B2 hk (by omega:l.length<=9223372036854775807)]) (by
   unfold WB;rw[A9 aIg])
 unfold Le;simp only[AW,AB,A4,h0,CD]
def kP{w:AA}(sm:SmR w):SV (tR w,tR w,())=I ((Y,()),()):=by
 obtain⟨ti,ks,ls,ra,se,go⟩:=w;have k1:ks.length<=1048576:=sm.kl;have k2:ls.length<=1048576:=sm.l;have k3:ra.length<=1048576:=sm.rl;have h0:sw (tR ⟨ti,ks,ls,ra,se,go⟩,tR ⟨ti,ks,ls,ra,se,go⟩,0,())=I (.inr (tR ⟨ti,ks,ls,ra,se,go⟩,tR ⟨ti,ks,ls,ra,se,go⟩,())):=
  CG (b:=WA) (λk=>(tR ⟨ti,ks,ls,ra,se,go⟩,tR ⟨ti,ks,ls,ra,se,go⟩,(k:Int),())) ks.length (λk hk=>by
   unfold WA;have hc:=apW<|N6 sm.k k;simp only[AR hk,B5 hk,A2,OK,hc,A6,AB,A4,B2 hk (by omega:ks.length<=9223372036854775807)]) (by
   unfold WA;simp only[H9,A4])
 have h1:sv (tR ⟨ti,ks,ls,ra,se,go⟩,tR ⟨ti,ks,ls,ra,se,go⟩,0,())=I (.inr (tR ⟨ti,ks,ls,ra,se,go⟩,tR ⟨ti,ks,ls,ra,se,go⟩,())):=
  CG (b:=W9) (λk=>(tR ⟨ti,ks,ls,ra,se,go⟩,tR ⟨ti,ks,ls,ra,se,go⟩,(k:Int),())) ls.length (λk hk=>by
   unfold W9;simp only[AR hk,B5 hk,A2,AW,AB,A4,B2 hk (by omega:ls.length<=9223372036854775807)]) (by
   unfold W9;simp only[H9,A4])
 have h2:su (tR ⟨ti,ks,ls,ra,se,go⟩,tR ⟨ti,ks,ls,ra,se,go⟩,0,())=I (.inr ()):=
  CG (b:=W8) (λk=>(tR ⟨ti,ks,ls,ra,se,go⟩,tR ⟨ti,ks,ls,ra,se,go⟩,(k:Int),())) ra.length (λk hk=>by
   unfold W8;simp only[AR hk,B5 hk,A2,AW,EB,AB,A4,B2 hk (by omega:ra.length<=9223372036854775807)]) (by
   unfold W8;simp only[H9,A4])
 unfold SV;rw[show Le ((tR ⟨ti,ks,ls,ra,se,go⟩,tR ⟨ti,ks,ls,ra,se,go⟩,()).1.2.2.2.2.2.1,(tR ⟨ti,ks,ls,ra,se,go⟩,tR ⟨ti,ks,ls,ra,se,go⟩,()).2.1.2.2.2.2.2)=_ from kQ sm.gl];simp only[AW,AB,A4,kQ sm.sl,A6,h0,h1,h2,CD]
def T4(w:AA)(e:Event):(At w=A0/\El w e=(zR,A0))\/(At w=Y/\El w e=(w,A0))\/(At w=Y/\w.ti<99999/\(doM w e).2=Y/\El w e=(Cl w e,Y)):=by
 unfold El;obtain c|c:=tf (At w)
 .rw[c,A5 rfl];by_cases h:99999<=w.ti
  .rw[A5<|AU h];exact .inr (.inl ⟨rfl,rfl⟩)
  .rw[A9<|nd h];obtain d|d:=tf (doM w e).2
   .rw[A5 d];exact .inr (.inr ⟨rfl,J,d,rfl⟩)
   .rw[A9 (by rw[d];exact CW)];exact .inr (.inl ⟨rfl,rfl⟩)
 .rw[c,A4];exact .inl ⟨rfl,rfl⟩
def aV{w:AA}{e:Event}(h:(doM w e).2=Y):Cl w e=⟨w64<|w.ti+1,(doM w e).1.A8,(doM w e).1.Al,(doM w e).1.AO,(doM w e).1.AX,(doM w e).1.got⟩:=by
 unfold Cl tick;rw[h,A5 rfl,aR]
def pH{w:AA}{e:Event}(h:(doM w e).2=Y):(Cl w e).ti=w64 (w.ti+1):=by rw[aV h]
def aGT{w:AA}{e:Event}(h:At w=Y)(ht:w.ti<99999)(hd:(doM w e).2=Y):At (Cl w e)=Y:=by
 obtain⟨h1,h2,h3⟩:=DY h;have e1:w64 (w.ti+1)=w.ti+1:=AZ J J;exact pM (pI h1 e) (by rw[pH hd,e1];omega) (by rw[pH hd,e1];omega)
def Tot.val{α:Type}{o:Option α}{a:α}(h:Tot o (λx=>x=a)):o=I a:=by
 obtain⟨b,h1,h2⟩:=h;rw[h1,h2]
def mV(k:A7)(f:Frame):(CC k f).2=[]\/(C1 f=Y/\f.ki=1/\Ae k=Y/\ ∃n,(n=2\/n=3)/\(CC k f).2=[Dh n f]):=by
 unfold CC;split
 .rename_i hok;unfold HK;split
  .rename_i hc;simp only[AD]at hc;split
   .rename_i h1;have h1:=BZ h1;unfold E6;split
    .exact .inr ⟨hc.2.1,h1,hok,3,.inr rfl,rfl⟩
    .split
     .exact .inr ⟨hc.2.1,h1,hok,2,.inl rfl,rfl⟩
     .split
      .exact .inl rfl
      .unfold JO;split
       .split
        .unfold Jz;split
         .exact .inr ⟨hc.2.1,h1,hok,2,.inl rfl,rfl⟩
         .exact .inl rfl
        .exact .inl rfl
       .exact .inl rfl
   .split<;>exact .inl rfl
  .exact .inl rfl
 .exact .inl rfl
def pv{f:Frame}(h:C1 f=Y)(h1:f.ki=1){n:Int}(hn:n=2\/n=3):C1 (Dh n f)=Y:=by
 obtain⟨a,b,c,d,e,g,t⟩:=OX h;have h3:=(Xn h h1).2.2;unfold C1 Jy Dh;simp only[a,b,c,d,e,g,AS];rw[A9 (by
  obtain rfl|rfl:=hn
  .show ¬(U ((2:Int)=1)=Y);decide
  .show ¬(U ((3:Int)=1)=Y);decide)]
 rw[← h3];obtain rfl|rfl:=hn<;>simp
noncomputable abbrev tiK(k:A7):Int:=(stT k).ti
def abI{k o:AE}{n:A3}(h:Ek k n=I o):o.ti=k.ti:=by
 unfold Ek at h
 (repeat' split at h)<;>first|(cases h;done)|(cases h;rfl)
def auM{k o:AE}{w r:A1}(hw:w≠E8)(h:Bb k w r=I o):o.ti=k.ti:=by
 unfold Bb at h;split at h
 .split at h
  .unfold Ho at h;rw[BG hw,AL,A4]at h;split at h<;>cases h;rfl
  .cases h
 .split at h
  .split at h
   .unfold GG at h;split at h
    .have:=abI h;exact this
    .split at h
     .exact abI h
     ·(repeat' split at h)<;>first|(cases h;done)|(cases h;rfl)
   .cases h
  .split at h
   .split at h
    .unfold Et at h
     (repeat' split at h)<;>first|(cases h;done)|(cases h;rfl)
    .cases h
   .cases h
def auo{k o:AE}(hk:Av k=Y){rec:A1}{w r:List UInt8}(hn:CY w)(e:L rec=w++32::r)(hw:B w≠E8)(h:BK k rec=I o):o.ti=k.ti:=by
 have:=((I4 hk).1 h).1;rw[I8 hn e]at this;exact auM hw this
def abP{x:A7}{rec:A1}{w r:List UInt8}{b:Bool}(hx:Ae x=Y)(hn:CY w)(e:L rec=w++32::r)(hw:B w≠E8):tiK (wrR x rec b).1=tiK x:=by
 have hk:=C0 hx;unfold wrR;split
 .rfl
 .rename_i o ho;have h1:=(Om hk ho).stT;have h2:=auo hk.kok hn e hw ho;split
  .show(stT<|wrM x rec).ti=_;rw[h1];exact h2
  .show(stT<|wrM x rec).ti=_;rw[h1];exact h2
def aEu:CY [101,97,116]:=by unfold CY;decide
def awz{k:A7}(h:Ae k=Y)(f:Frame):tiK (CC k f).1=tiK k:=by
 unfold CC HK;rw[A5 h];split
 .rename_i hc;simp only[AD]at hc;split
  .rename_i h1;unfold E6;split
   .rfl
   split
   .rfl
   split
   .rfl
   unfold JO;split
   .split
    .unfold Jz;have hd:=(aQ h hc.1 hc.2.1<|BZ h1).ok;split
     .exact abP hd lh (aFe _) aIm
     .rfl
    .rfl
   .rfl
  .split
   .exact abP h aHB (QM _ _ _ _) aIm
   .rfl
 .rfl
def asl{k:AE}{m:Mark}{r:A1}(ht:HB r=I m):Bb k CM r=if EG k.inbox m then I ⟨k.id,k.ti,k.nx,k.held,k.marks,EY k.inbox (AY k.inbox m.mf m.mn).toNat⟩ else G:=by
 unfold Bb Et;cases h:EG k.inbox m<;>simp[jS,jU,kM,jT,jW,jI,kO,jV,ht,h]
def aHn{l:List A3}(h:DQ l=Y){i:Nat}(hi:i<l.length):nA l i ∉ EY l i:=by
 have irr:∀a b:Int,bef a b a b=A0:=λa b=>by unfold bef;simp
 have at_:∀j (hj:j<l.length),l[j]=nA l j:=λj hj=>by rw[nA,BA,Ap hj];rfl
 have dif:∀j,j<l.length->j≠i->nA l j≠nA l i:=λj hj hne e=>by
  obtain h1|h1:=UD hne
  .have:=Sl h i j h1 hi;rw[e,irr]at this;cases this
  .have:=Sl h j i h1 hj;rw[e,irr]at this;cases this
 intro hm;unfold EY at hm;obtain hm|hm:=BM.1 hm
 .obtain⟨j,hj,e⟩:=Cq hm;rw[Di]at hj;rw[List.getElem_take,at_ j J]at e;exact dif j J J e
 .obtain⟨j,hj,e⟩:=Cq hm;rw[EJ]at hj;rw[List.getElem_drop,at_ (i+1+j) J]at e;exact dif _ J J e
structure LtF (d t:AE):Prop where
 id:t.id=d.id
 ti:t.ti=d.ti
 nx:t.nx=d.nx
 box:t.inbox=d.inbox
 held:∀n∈t.held,n∈d.held
 mrk:∀m∈d.marks,m∈t.marks
def LtF.rfl(d:AE):LtF d d:=⟨Gv _,Gv _,Gv _,Gv _,λ_ h=>h,λ_ h=>h⟩
def LtF.trans{a b c:AE}(h:LtF a b)(g:LtF b c):LtF a c:=⟨g.id.trans h.id,g.ti.trans h.ti,g.nx.trans h.nx,g.box.trans h.box,λn hn=>h.held n<|g.held n hn,λm hm=>g.mrk m<|h.mrk m hm⟩
def av(r:A1):Prop:=∃a b c:Int,(0<=a/\a<=999)/\(0<=b/\b<=999)/\(0<=c/\c<=999)/\r=CX Bx a b c
def ZR{k o:AE}{a b c:Int}(hk:Av k=Y)(ha:0<=a/\a<=999)(hb:0<=b/\b<=999)(hc:0<=c/\c<=999)(h:BK k (CX Bx a b c)=I o):
  EG k.held ⟨a,b,c⟩=Y/\o=⟨k.id,k.ti,k.nx,EY k.held (AY k.held a b).toNat,EF k.marks ⟨a,b,c⟩,k.inbox⟩:=by
 rw[aFn hk ha hb hc]at h;have h:=(JX.1 h).1;split at h
 .rename_i h1;exact⟨h1,(Dc h).symm⟩
 .cases h
def ayl{k o:AE}{r:A1}(hk:Av k=Y)(hr:av r)(h:BK k r=I o):LtF k o:=by
 obtain⟨a,b,c,ha,hb,hc,rfl⟩:=hr;obtain⟨_,rfl⟩:=ZR hk ha hb hc h;exact⟨rfl,rfl,rfl,rfl,λn hn=>OR hn,λm hm=>Ii _<|.inr hm⟩
def atN{k o:AE}{r:A1}(hk:Av k=Y)(h:BK k r=I o):Av o=Y:=((I4 hk).1 h).2
def ZQ:∀ {ts:List A1} {d t:AE},Av d=Y->(∀r∈ts,av r)->Es d ts=I t->LtF d t
 | [],d,t,_,_,h=>by
  cases h;exact LtF.rfl _
 | r::ts,d,t,hk,hl,h=>by
  have h:(BK d r).bind (λk=>Es k ts)=I t:=h;obtain⟨m,h1,h2⟩:=Ai.1 h;exact(ayl hk (hl r<|.head _) h1).trans<|ZQ (atN hk h1) (λx hx=>hl x<|.tail _ hx) h2
def LO(k:A7):Prop:=∃rs ts,CB k.log k.fo rs ts/\ ∀r∈ts,av r
def aO{k:A7}{rs ts:List A1}(l:CB k.log k.fo rs ts):stD k=(Cc k.id rs).getD zK:=by unfold stD;rw[l.abr]
def LO.two{k:A7}(h:Ae k=Y){rs ts:List A1}(l:CB k.log k.fo rs ts):Cc k.id rs=I (stD k)/\Av (stD k)=Y/\Es (stD k) ts=I (stT k):=by
 have hs:=(Dk h).st;rw[l.state,XX]at hs;obtain⟨d,h1,h2⟩:=Ai.1 hs;have e:stD k=d:=by rw[aO l,h1];rfl
 rw[e];exact⟨h1,QK h1,h2⟩
def LO.lf{k:A7}(h:Ae k=Y)(hl:LO k):LtF (stD k) (stT k):=by
 obtain⟨rs,ts,l,g⟩:=hl;obtain⟨_,h2,h3⟩:=LO.two h l;exact ZQ h2 g h3
def awh{ts:List A1}(h:(cat ts).length=0):ts=[]:=by
 cases ts with
 | nil=>rfl
 | cons r ts=>
  rw[I5,Aw,Az]at h;have:=Xx r;omega
def ax5{k:A7}(h:Ae k=Y)(hf:k.fo=(k.log.size:Int)):∃rs,CB k.log k.fo rs []:=by
 obtain⟨rs,ts,l,_⟩:=(C0 h).lg;have h1:=l.fo;have h2:=l.size_eq;have:ts=[]:=awh J;subst this;exact⟨rs,l⟩
def Te{k:A7}(h:Ae k=Y)(hf:k.fo=(k.log.size:Int)):LO k/\stD k=stT k:=by
 obtain⟨rs,l⟩:=ax5 h hf;refine⟨⟨rs,[],l,λr hr=>by cases hr⟩, ?_⟩;have:=(LO.two h l).2.2;exact Dc this
def aaf{k:A7}(h:Ae k=Y)(hl:LO k){r:A1}(hr:av r)(h2:(wrR k r A0).2=Y):
  LO (wrR k r A0).1/\Ae (wrR k r A0).1=Y/\BK (stT k) r=I (stT (wrR k r A0).1)/\(stD (wrR k r A0).1=stD k\/stD (wrR k r A0).1=stT k):=by
 have hk:=C0 h;obtain⟨o,ho⟩:=me hk h2;have hi:=Om hk ho;have e:(wrR k r A0).1=wrM k r:=by unfold wrR;rw[ho];rfl
 rw[e,hi.stT];refine⟨?_,hi.ok,ho, ?_⟩
 all_goals
  obtain⟨rs,ts,l,g⟩:=hl;have hz:=oP hk.kok ho
 .by_cases hc:k.log.size+(D0 r).size<=2400
  .refine⟨rs,ts++[r], ?_,λx hx=> ?_⟩
   .show CB (D1 (stT k) k.log k.fo r).1 (D1 (stT k) k.log k.fo r).2 _ _;unfold D1;rw[A5 hc];exact l.add hz.1 hz.2 hc
   .rcases BM.1 hx with hx|hx
    .exact g x hx
    .rw[C9.1 hx];exact hr
  .refine⟨CF<|stT k,[]++[r], ?_,λx hx=> ?_⟩
   .show CB (D1 (stT k) k.log k.fo r).1 (D1 (stT k) k.log k.fo r).2 _ _;unfold D1;rw[A9 hc];refine(Qf hk.kok).add hz.1 hz.2 ?_;have h1:=QS hk.kok;have h2:=Mu hz.2;omega
   .rw[Eb]at hx;rw[C9.1 hx];exact hr
 .by_cases hc:k.log.size+(D0 r).size<=2400
  .left;have l2:CB (wrM k r).log (wrM k r).fo rs (ts++[r]):=by
    show CB (D1 (stT k) k.log k.fo r).1 (D1 (stT k) k.log k.fo r).2 _ _;unfold D1;rw[A5 hc];exact l.add hz.1 hz.2 hc
   rw[aO l2,aO l];rfl
  .right;have l2:CB (wrM k r).log (wrM k r).fo (CF<|stT k) ([]++[r]):=by
    show CB (D1 (stT k) k.log k.fo r).1 (D1 (stT k) k.log k.fo r).2 _ _;unfold D1;rw[A9 hc];refine(Qf hk.kok).add hz.1 hz.2 ?_;have h1:=QS hk.kok;have h2:=Mu hz.2;omega
   have l3:CB (pkM k).log (pkM k).fo (CF<|stT k) []:=Qf hk.kok;have p:=pn hk;have:=(LO.two p.ok l3);rw[aO l2];have e1:Cc k.id (CF<|stT k)=I (stT k):=by
    have t:=this.2.2;have t1:stD (pkM k)=stT (pkM k):=Dc t;have t0:=this.1;rw[t1,p.stT]at t0;exact t0
   show(Cc k.id<|CF<|stT k).getD zK=_;rw[e1];rfl
def awH{k:A7}(h:Ae k=Y){r:A1}(h2:(wrR k r Y).2=Y):
  Ae (wrR k r Y).1=Y/\LO (wrR k r Y).1/\stD (wrR k r Y).1=stT (wrR k r Y).1/\BK (stT k) r=I (stT (wrR k r Y).1):=by
 have hk:=C0 h;obtain⟨o,ho⟩:=me hk h2;have hs:=(mg hk ho).1;have:=Te hs.is.ok hs.fo;refine⟨hs.is.ok,this.1,this.2, ?_⟩;rw[hs.is.stT];exact ho
def ZU{k:A7}(h:Ae k=Y):Ae (foM k)=Y/\LO (foM k)/\stD (foM k)=stT k/\stT (foM k)=stT k:=by
 have hk:=Qn<|C0 h;have:=Te (k:=foM k) hk.ok rfl;exact⟨hk.ok,this.1,this.2.trans hk.stT,hk.stT⟩
def aw9{k:A7}(h:Ae k=Y):Ae (pkM k)=Y/\LO (pkM k)/\stD (pkM k)=stT k/\stT (pkM k)=stT k:=by
 have hk:=pn<|C0 h;have:=Te (k:=pkM k) hk.ok rfl;exact⟨hk.ok,this.1,this.2.trans hk.stT,hk.stT⟩
def ax9{k:A7}(h:Ae k=Y)(hl:LO k)(keep:Int):
  Ae (faM k keep)=Y/\LO (faM k keep)/\stD (faM k keep)=stT (faM k keep)/\LtF (stD k) (stT<|faM k keep)/\LtF (stT<|faM k keep) (stT k):=by
 have ok:=pg h keep;obtain⟨rs,ts,l,g⟩:=hl;have hfo:=l.fo;obtain⟨us,vs,e,l2⟩:=l.V9 (k.fo+max 0 (min keep<|(k.log.size:Int) - k.fo)).toNat J;have lf:(faM k keep).fo=((faM k keep).log.size:Int):=by
  have a:(faM k keep).fo=_:=l2.fo;have b:(faM k keep).log.size=_:=l2.size_eq;rw[a,b];simp[Jv]
 have hf:=Te ok lf;obtain⟨d0,d1,d2⟩:=LO.two h l;have l2:CB (faM k keep).log (faM k keep).fo (rs++us) []:=l2;obtain⟨f0,f1,f2⟩:=LO.two ok l2;rw[hf.2]at f0 f1;have f0:Cc k.id (rs++us)=I (stT<|faM k keep):=f0;rw[XX,d0]at f0;rw[e,Mk,show Es (stD k) us=_ from f0]at d2;subst e;exact⟨ok,hf.1,hf.2,ZQ d1 (λr hr=>g r<|Bv _ hr) f0,ZQ f1 (λr hr=>g r<|CV _ hr) d2⟩
inductive Act|non|own (n:A3)|take (n:A3)|eat (n:A3)|lets (m:Mark)
def Act.new(a:Act)(n:A3):Prop:=a= .own n\/a= .take n
structure KF (k o:AE) (a:Act):Prop where
 id:o.id=k.id
 ti:k.ti<=o.ti
 nx:(o.nx=k.nx/\ ∀n,a≠ .own n)\/ ∃n,a= .own n/\n.nu=k.nx/\n.fr=k.id/\o.nx=k.nx+1
 hold:∀n∈k.held,n∈o.held\/n.un<=o.ti\/a= .lets ⟨n.fr,n.nu,n.un⟩
 held:∀n∈o.held,n∈k.held\/a.new n
 box:∀n∈k.inbox,n∈o.inbox\/a= .eat n
 Pe:∀n∈o.inbox,(n∈k.inbox/\a≠ .eat n)\/(a.new n/\n.to=k.id)
 mrk:∀m∈o.marks,m∈k.marks\/a= .lets m\/ ∃n,a.new n/\n.to=k.id/\m=⟨n.fr,n.nu,n.un⟩
 mks:∀m∈k.marks,m∈o.marks\/m.mu<=o.ti
 new:∀n,a.new n->k.ti<n.un/\(∀m∈k.marks,¬(m.mf=n.fr/\m.mn=n.nu))/\(if n.to=k.id then n∈o.inbox else n∈o.held)
 eat:∀n,a= .eat n->n∈k.inbox
 lets:∀m,a= .lets m->∃n∈k.held,m=⟨n.fr,n.nu,n.un⟩
def aHE{l:List A3}{i:Nat}{x:A3}(h:x∈l)(hne:x≠nA l i):x∈EY l i:=by
 obtain⟨j,hj,e⟩:=Cq h;have at_:nA l j=x:=by rw[nA,BA,Ap hj];exact e
 have hji:j≠i:=λc=>hne (by rw[← c];exact at_.symm);unfold EY;rw[BM];by_cases h1:j<i
 .left;rw[List.mem_take_iff_getElem];exact⟨j,J,e⟩
 .right;rw[List.mem_drop_iff_getElem];exact⟨j - (i+1),J,by rw[← e];congr 1;omega⟩
def axU{l:List Mark}{f n:Int}(h:¬0<=Bp l f n):∀m∈l,¬(m.mf=f/\m.mn=n):=λm hm e=>h<|oU hm e.1 e.2
def abJ{k o:AE}{n:A3}{a:Act}(ha:a.new n)(hu:∀x,a.new x->x=n)(hnx:(o.nx=k.nx/\ ∀n,a≠ .own n)\/ ∃n,a= .own n/\n.nu=k.nx/\n.fr=k.id/\o.nx=k.nx+1)
  {c:Int}(h:Ek ⟨k.id,k.ti,c,k.held,k.marks,k.inbox⟩ n=I o):KF k o a:=by
 have ne:∀x,a≠ .eat x:=λx e=>by obtain h|h:=ha<;>rw[h]at e<;>cases e
 have nl:∀x,a≠ .lets x:=λx e=>by obtain h|h:=ha<;>rw[h]at e<;>cases e
 unfold Ek at h;split at h
 .cases h
 split at h
 .cases h
 split at h
 .cases h
 split at h
 .cases h
 split at h
 .cases h
 split at h
 .cases h
 rename_i _ h1 _ _ h2 _;have h1:k.ti<n.un:=by simpa using h1
 have h2:=axU (l:=k.marks) (f:=n.fr) (n:=n.nu) (by simpa using h2);split at h
 .rename_i ht;have ht:n.to=k.id:=BZ ht;cases h;refine⟨rfl,Cz _,hnx,λ_ h=> .inl h,λ_ h=> .inl h,λx h=> .inl<|Ii _<|.inr h,λx h=> ?_,λm h=> ?_,λm h=> .inl<|Ii _<|.inr h,λx h=> ?_,λx e=>absurd e<|ne x,λx e=>absurd e<|nl x⟩
  .rcases Gh _ h with rfl|h
   .exact .inr ⟨ha,ht⟩
   .exact .inl ⟨h,ne x⟩
  .rcases Gh _ h with rfl|h
   .exact .inr (.inr ⟨n,ha,ht,rfl⟩)
   .exact .inl h
  .rw[hu x h,A5 ht];exact⟨h1,h2,Ii _<|.inl rfl⟩
 .rename_i ht;have ht:¬n.to=k.id:=by simpa using ht
  cases h;refine⟨rfl,Cz _,hnx,λx h=> .inl<|Ii _<|.inr h,λx h=> ?_,λ_ h=> .inl h,λ_ h=> .inl ⟨h,ne _⟩,λ_ h=> .inl h,λ_ h=> .inl h,λx h=> ?_,λx e=>absurd e<|ne x,λx e=>absurd e<|nl x⟩
  .rcases Gh _ h with rfl|h
   .exact .inr ha
   .exact .inl h
  .rw[hu x h,A9 ht];exact⟨h1,h2,Ii _<|.inl rfl⟩
def aui(n:A3):L (Ky n)=[111,119,110]++32::L (wr n):=by unfold Ky;simp only[GP,L_B];rfl
def asi{k:AE}{n:A3}(hn:Ax n=Y):Bb k Df (wr n)=if n.fr=k.id/\n.nu=k.nx then Ek ⟨k.id,k.ti,k.nx+1,k.held,k.marks,k.inbox⟩ n else(if 0<=AY k.held n.fr n.nu\/0<=AY k.inbox n.fr n.nu then G else G):=by
 unfold Bb;rw[A9 aIm,A5 aIm,QF hn];unfold GG;by_cases h:n.fr=k.id/\n.nu=k.nx
 .simp[h.1,h.2]
 .rw[A9 h];have:(U (n.fr=k.id)&&U (n.nu=k.nx))=A0:=by
   rw[← GS,AD,decide_eq_true_eq,decide_eq_true_eq];exact h
  simp[aBi,aBj,aAp,this]
def axo{k o:AE}{n:A3}(hk:Av k=Y)(hn:Ax n=Y)(h:BK k (Ky n)=I o):KF k o (.own n):=by
 have h:=((I4 hk).1 h).1;rw[I8 aHA<|aui n,show Bb k (B [111,119,110]) (B<|L<|wr n)=Bb k Df (wr n) by rw[B_L]]at h;rw[asi hn]at h;split at h
 .rename_i hc;have hx:o.nx=k.nx+1:=by
   unfold Ek at h
   (repeat' split at h)<;>first|(cases h;done)|(cases h;rfl)
  exact abJ (.inl rfl) (λx h=>by obtain h|h:=h<;>cases h;rfl) (.inr ⟨n,rfl,hc.2,hc.1,hx⟩) h
 .split at h<;>cases h
def aaH{k o:AE}{n:A3}(hk:Av k=Y)(hn:Ax n=Y)(h:BK k (JE n)=I o):KF k o (.take n)/\n.fr≠k.id:=by
 rw[lQ hk hn]at h;have h:=(JX.1 h).1;split at h
 .cases h
 rename_i hne;have hx:o.nx=k.nx:=by
  unfold Ek at h
  (repeat' split at h)<;>first|(cases h;done)|(cases h;rfl)
 exact⟨abJ (.inr rfl) (λx h=>by obtain h|h:=h<;>cases h;rfl) (.inl ⟨hx,λn e=>by cases e⟩) h,hne⟩
def awP{k o:AE}(hk:Av k=Y)(h:BK k (Fe<|k.ti+1)=I o):KF k o .non:=by
 have hf:=Bz hk;have t0:=hf.t0;have t1:=hf.t1;have h:=((I4 hk).1 h).1;rw[I8 ld<|YS _,lD J J J]at h;cases h;refine⟨rfl,by show k.ti<=k.ti+1;omega,.inl ⟨rfl,λ_ h=>by cases h⟩,λn h=> ?_,λn h=> .inl (FH.1 h).1,λ_ h=> .inl h,λ_ h=> .inl ⟨h,λe=>by cases e⟩,λm h=> .inl (FH.1 h).1,λm h=> ?_,
  λ_ h=>(by obtain h|h:=h<;>cases h),λ_ h=>(by cases h),λ_ h=>(by cases h)⟩
 .by_cases hc:k.ti+1<n.un
  .exact .inl (FH.2 ⟨h,AU hc⟩)
  .exact .inr (.inl (by show n.un<=k.ti+1;omega))
 .by_cases hc:k.ti+1<m.mu
  .exact .inl (FH.2 ⟨h,AU hc⟩)
  .exact .inr (by show m.mu<=k.ti+1;omega)
def aam{k o:AE}{a b c:Int}(hk:Av k=Y)(ha:0<=a/\a<=999)(hb:0<=b/\b<=999)(hc:0<=c/\c<=999)(h:BK k (CX Bx a b c)=I o):KF k o (.lets ⟨a,b,c⟩):=by
 obtain⟨h1,rfl⟩:=ZR hk ha hb hc h;unfold EG at h1;rw[AD,decide_eq_true_eq,decide_eq_true_eq]at h1;obtain⟨i0,i1⟩:=h1;obtain⟨j0,j1,j2,j3⟩:=FB i0;have e:(⟨a,b,c⟩:Mark)=⟨(nA k.held (AY k.held a b).toNat).fr,(nA k.held (AY k.held a b).toNat).nu,(nA k.held (AY k.held a b).toNat).un⟩:=by rw[j2,j3,i1]
 refine⟨rfl,Cz _,.inl ⟨rfl,λ_ h=>by cases h⟩,λn h=> ?_,λn h=> .inl<|OR h,λ_ h=> .inl h,λ_ h=> .inl ⟨h,λe=>by cases e⟩,λm h=> ?_,λm h=> .inl<|Ii _<|.inr h,
  λ_ h=>(by obtain h|h:=h<;>cases h),λ_ h=>(by cases h),λm h=> ?_⟩
 .by_cases hx:n=nA k.held (AY k.held a b).toNat
  .right;right;rw[e,hx]
  .exact .inl (aHE h hx)
 .rcases Gh _ h with rfl|h
  .exact .inr (.inl rfl)
  .exact .inl h
 .cases h;exact⟨_,Ev j0,e⟩
def ayw{k o:AE}{n:A3}(hk:Av k=Y)(hn:n=nA k.inbox (AY k.inbox n.fr n.nu).toNat)(h0:0<=AY k.inbox n.fr n.nu)(h:BK k (CX CM n.fr n.nu n.un)=I o):KF k o (.eat n):=by
 have hf:=Bz hk;obtain⟨hlt,bQ,hfr,hnu⟩:=FB h0;have hm:n∈k.inbox:=by rw[hn];exact Ev hlt
 obtain⟨⟨a0,a1⟩,⟨b0,b1⟩,⟨c0,c1⟩,_⟩:=Sr<|QC hf.i hm;have h3:=Zh (r:=B<|B6 n.fr++32::(B6 n.nu++32::B6 n.un)) (a:=n.fr) (b:=n.nu) (c:=n.un) J J J J J J<|L_B _;have h2:=((I4 hk).1 h).1;rw[I8 aEu<|QM CM _ _ _,show Bb k (B [101,97,116]) _=_ from asl h3]at h2;split at h2
 .cases h2;refine⟨rfl,Cz _,.inl ⟨rfl,λ_ h=>by cases h⟩,λ_ h=> .inl h,λ_ h=> .inl h,λx h=> ?_,λx h=> .inl ⟨OR h,λe=> ?_⟩,λ_ h=> .inl h,λ_ h=> .inl h,
   λ_ h=>(by obtain h|h:=h<;>cases h),λx e=> ?_,λ_ h=>(by cases h)⟩
  .by_cases hx:x=n
   .exact .inr (by rw[hx])
   .exact .inl (aHE h λe=>hx<|e.trans hn.symm)
  .cases e;rw[hn]at h;exact aHn hf.i hlt (by rw[← hn]at h ⊢; exact h)
  .cases e;exact hm
 .cases h2
structure Mvd (k k':A7) (a:Act):Prop where
 lo:LO k'
 id:(stT k').id=(stT k).id
 ti:(stT k).ti<=(stT k').ti
 nx:((stT k').nx=(stT k).nx/\ ∀n,a≠ .own n)\/ ∃n,a= .own n/\n.nu=(stT k).nx/\n.fr=(stT k).id/\(stT k').nx=(stT k).nx+1
 hold:∀n,n∈(stT k).held->n∈(stD k).held->(n∈(stT k').held/\n∈(stD k').held)\/n.un<=(stT k').ti\/a= .lets ⟨n.fr,n.nu,n.un⟩
 held:∀n∈(stD k').held,n∈(stD k).held\/a.new n
 box:∀n∈(stT k).inbox,n∈(stT k').inbox\/a= .eat n
 Pe:∀n∈(stT k').inbox,(n∈(stT k).inbox/\a≠ .eat n)\/(a.new n/\n.to=(stT k).id)
 mrk:∀m∈(stT k').marks,m∈(stT k).marks\/a= .lets m\/ ∃n,a.new n/\n.to=(stT k).id/\m=⟨n.fr,n.nu,n.un⟩
 mks:∀m∈(stD k).marks,m∈(stD k').marks\/m.mu<=(stT k').ti
 new:∀n,a.new n->(stT k).ti<n.un/\(∀m∈(stT k).marks,¬(m.mf=n.fr/\m.mn=n.nu))/\(if n.to=(stT k).id then n∈(stT k').inbox else n∈(stT k').held/\n∈(stD k').held)
 eat:∀n,a= .eat n->n∈(stT k).inbox/\ ∀m∈(stT k).marks,m∈(stD k').marks
 lets:∀m,a= .lets m->∃n∈(stT k).held,m=⟨n.fr,n.nu,n.un⟩
def av1{k k':A7}{a:Act}(h:Ae k=Y)(hl:LO k)(lo:LO k')(e:stD k'=stT k')(f:KF (stT k) (stT k') a)(he:∀n,a= .eat n->∀m∈(stT k).marks,m∈(stT k').marks):Mvd k k' a where
 lo:=lo
 id:=f.id
 ti:=f.ti
 nx:=f.nx
 hold:=λn h1 _=>by
  obtain h|h|h:=f.hold n h1
  .exact .inl ⟨h,by rw[e];exact h⟩
  .exact .inr (.inl h)
  .exact .inr (.inr h)
 held:=λn hn=>by
  rw[e]at hn;obtain h1|h1:=f.held n hn
  .exact .inl ((hl.lf h).held n h1)
  .exact .inr h1
 box:=f.box
 Pe:=f.Pe
 mrk:=f.mrk
 mks:=λm hm=>by
  rw[e];exact f.mks m ((hl.lf h).mrk m hm)
 new:=λn hn=>by
  obtain⟨a1,a2,a3⟩:=f.new n hn;refine⟨a1,a2, ?_⟩;rw[e];split at a3
  .rename_i hc;rw[A5 hc];exact a3
  .rename_i hc;rw[A9 hc];exact⟨a3,a3⟩
 eat:=λn hn=>⟨f.eat n hn,by rw[e];exact he n hn⟩
 lets:=f.lets
def QN{k k':A7}(h:Ae k=Y)(hl:LO k)(lo:LO k')(et:stT k'=stT k)(ed:stD k'=stD k\/stD k'=stT k):Mvd k k' .non where
 lo:=lo
 id:=by rw[et]
 ti:=by rw[et];exact Cz _
 nx:= .inl ⟨by rw[et],λ_ e=>by cases e⟩
 hold:=λn h1 h2=> .inl (by rw[et];exact⟨h1,by obtain e|e:=ed<;>rw[e]<;>assumption⟩)
 held:=λn hn=> .inl (by
  obtain e|e:=ed<;>rw[e]at hn
  .exact hn
  .exact(hl.lf h).held n hn)
 box:=λn hn=> .inl (by rw[et];exact hn)
 Pe:=λn hn=> .inl ⟨by rw[← et];exact hn,λe=>by cases e⟩
 mrk:=λm hm=> .inl (by rw[← et];exact hm)
 mks:=λm hm=> .inl (by
  obtain e|e:=ed<;>rw[e]
  .exact hm
  .exact(hl.lf h).mrk m hm)
 new:=λn hn=>by obtain e|e:=hn<;>cases e
 eat:=λn e=>by cases e
 lets:=λm e=>by cases e
def Ox{k:A7}(h:Ae k=Y)(hl:LO k):Mvd k k .non:=QN h hl hl rfl (.inl rfl)
def av2{k:A7}(h:Ae k=Y)(hl:LO k)(n:Int):Ae (faM k n)=Y/\Mvd k (faM k n) .non:=by
 obtain⟨a0,a1,a2,a3,a4⟩:=ax9 h hl n;refine⟨a0,⟨a1,a4.id.symm,by rw[a4.ti];exact Cz _,.inl ⟨a4.nx.symm,λ_ e=>by cases e⟩,λn h1 h2=> .inl ⟨a4.held n h1,by rw[a2];exact a4.held n h1⟩,λn hn=> .inl (by rw[a2]at hn;exact a3.held n hn),λn hn=> .inl (by rw[← a4.box];exact hn),
  λn hn=> .inl ⟨by rw[a4.box];exact hn,λe=>(by cases e)⟩,λm hm=> .inl<|a4.mrk m hm,λm hm=> .inl (by rw[a2];exact a3.mrk m hm),λn hn=>(by obtain e|e:=hn<;>cases e),λn e=>(by cases e),λm e=>(by cases e)⟩⟩
def ae{k:A7}{a:Act}(h:Ae k=Y)(hl:LO k){r:A1}(h2:(wrR k r Y).2=Y)(hf:∀o,BK (stT k) r=I o->KF (stT k) o a)(he:∀n,a= .eat n->∀o,BK (stT k) r=I o->∀m∈(stT k).marks,m∈o.marks):
  Ae (wrR k r Y).1=Y/\Mvd k (wrR k r Y).1 a:=by
 obtain⟨a0,a1,a2,a3⟩:=awH h h2;exact⟨a0,av1 h hl a1 a2 (hf _ a3) λn e=>he n e _ a3⟩
def axO{k:A7}{a:Act}(h:Ae k=Y)(hl:LO k){r:A1}(hf:∀o,BK (stT k) r=I o->KF (stT k) o a)(he:∀n,a= .eat n->∀o,BK (stT k) r=I o->∀m∈(stT k).marks,m∈o.marks):
  ((wrR k r Y).2=Y/\Ae (wrR k r Y).1=Y/\Mvd k (wrR k r Y).1 a)\/((wrR k r Y).2=A0/\(wrR k r Y).1=k):=by
 obtain e|e:=tf (wrR k r Y).2
 .exact .inl ⟨e,ae h hl e hf he⟩
 .exact .inr ⟨e,Qb e⟩
def auy{k:A7}(h:Ae k=Y)(hl:LO k):Mvd k (FR k).1 .non:=by
 unfold FR;split
 .rcases axO h hl (r:=Fe<|(stT k).ti+1) (a:= .non) (λo ho=>awP (C0 h).kok ho) (λn e=>by cases e) with⟨_,_,m⟩|⟨_,e⟩
  .exact m
  .rw[e];exact Ox h hl
 .exact Ox h hl
def axP{k:A7}(h:Ae k=Y)(hl:LO k){tt un:Int}{tx:A1}(h0:(Dt k tt un tx).2≠0):Mvd k (Dt k tt un tx).1 (.own ⟨k.id,(Dt k tt un tx).2,tt,un,tx⟩):=by
 unfold Dt at h0 ⊢;split at h0
 .rename_i hc;rw[AD]at hc;rw[A5 (by rw[AD];exact hc)];simp only at h0 ⊢;split at h0
  .rename_i h2;rw[A5 h2];exact(ae h hl h2 (λo ho=>axo (C0 h).kok hc.2 ho) λn e=>by cases e).2
  .exact absurd rfl h0
 .exact absurd rfl h0
def auO{k o:AE}{a b c:Int}(hk:Av k=Y)(h:BK k (CX CM a b c)=I o):∀m∈k.marks,m∈o.marks:=by
 have h2:=((I4 hk).1 h).1;rw[I8 aEu<|QM CM _ _ _]at h2;unfold Bb at h2;rw[A9 aIm,A9 aIm,A5 aIm]at h2;split at h2
 .unfold Et at h2;rw[show U (B [101,97,116]=Bx)=A0 by decide,AL,A4,show U (B [101,97,116]=D6)=A0 by decide,AL,A4]at h2;split at h2
  .cases h2;exact λm hm=>hm
  .cases h2
 .cases h2
def axR{k:A7}(h:Ae k=Y)(hl:LO k){fr nu:Int}(ok:(DZ k fr nu).2.2=Y):Mvd k (DZ k fr nu).1 (.eat (DZ k fr nu).2.1):=by
 have hk:=C0 h;unfold DZ at ok ⊢;split at ok
 .rename_i hc;rw[A5 hc];simp only[AD,C6,decide_eq_false_iff_not]at hc;have h0:0<=AY (stT k).inbox fr nu:=by have:=hc.2;omega
  obtain⟨_,_,j2,j3⟩:=FB h0;simp only at ok ⊢;rw[A5 ok];refine(ae h hl ok (λo ho=> ?_) λn _ o ho=>auO hk.kok ho).2;refine ayw hk.kok ?_ ?_ ?_
  .rw[j2,j3]
  .rw[j2,j3];exact h0
  .rw[j2,j3];exact ho
 .cases ok
def av0{k:A7}(h:Ae k=Y)(hl:LO k):Mvd k (FT k).1 .non:=by
 unfold FT;split
 .obtain⟨_,a1,a2,a3⟩:=aw9 h;exact QN h hl a1 a3 (.inr a2)
 .exact Ox h hl
def atw{k:A7}(h:Ae k=Y)(hl:LO k):Mvd k (FQ k).1 .non:=by
 unfold FQ;split
 .obtain⟨_,a1,a2,a3⟩:=ZU h;exact QN h hl a1 a3 (.inr a2)
 .exact Ox h hl
def LO.cB{k:A7}(hl:LO k):LO (riM k):=hl
def auz{k:A7}(h:Ae k=Y)(hl:LO k):Mvd k (riM k) .non:=QN h hl hl.cB rfl (.inl rfl)
def axQ{k:A7}(h:Ae k=Y)(hl:LO k){a b c:Int}(ha:0<=a/\a<=999)(hb:0<=b/\b<=999)(hc:0<=c/\c<=999)(h2:(wrR k (CX Bx a b c) A0).2=Y):
  Mvd k (wrR k (CX Bx a b c) A0).1 (.lets ⟨a,b,c⟩):=by
 obtain⟨a0,a1,a2,a3⟩:=aaf h hl ⟨a,b,c,ha,hb,hc,rfl⟩ h2;have f:=aam (C0 h).kok ha hb hc a2;have lf:=hl.lf h;have sub:∀n∈(stD (wrR k (CX Bx a b c) A0).1).held,n∈(stD k).held:=λn hn=>by
  obtain e|e:=a3<;>rw[e]at hn
  .exact hn
  .exact lf.held n hn
 refine⟨a0,f.id,f.ti,f.nx,λn h1 h2=> ?_,λn hn=> .inl<|sub n hn,f.box,f.Pe,f.mrk,λm hm=> .inl ?_,λn hn=>(by obtain e|e:=hn<;>cases e),λn e=>(by cases e),f.lets⟩
 .rcases f.hold n h1 with h|h|h
  .refine .inl ⟨h, ?_⟩;obtain e|e:=a3<;>rw[e]<;>assumption
  .exact .inr (.inl h)
  .exact .inr (.inr h)
 .rcases a3 with e|e<;>rw[e]
  .exact hm
  .exact lf.mrk m hm
def Dif(a b:A3):Prop:=¬(a.fr=b.fr/\a.nu=b.nu)
def dsN(n:A3)(i:Int):Nat:=(n.to - i).natAbs
def onW(n:A3)(i:Int):Prop:=(n.fr<=i/\i<=n.to)\/(n.to<=i/\i<=n.fr)
noncomputable abbrev sT(w:AA)(i:Nat):AE:=stT<|kA w.A8 i
noncomputable abbrev sD(w:AA)(i:Nat):AE:=stD<|kA w.A8 i
def LI(w:AA)(n:A3):Prop:=n∈w.got\/n∈(sT w n.to.toNat).inbox
def Hm(w:AA)(n:A3):Prop:=∃i:Nat,i<4/\onW n i/\n.un<=(sT w i).ti
def Jx(w:AA)(n:A3)(i:Nat):Prop:=i<4/\n∈(sT w i).held/\n∈(sD w i).held
def Bey(w:AA)(i:Int)(n:A3):Prop:=LI w n\/Hm w n\/ ∃j:Nat,Jx w n j/\dsN n j<dsN n i
def HvF(w:AA)(f:Frame):Prop:=f.ki=2->∃n∈w.AX,n.fr=f.fr/\n.nu=f.nu/\Bey w f.dst n
def HfG(se:List A3)(h:AG):Prop:=∃n∈se,h.fr=n.fr/\h.nu=n.nu/\h.to=n.to/\h.un=n.un/\h.sz=n.tx.size/\PV n.tx h.got
structure Inv (w:AA):Prop where
 lo:∀i,i<4->LO (kA w.A8 i)
 hs:∀i,i<4->∀n∈(sD w i).held,n∈w.AX
 bx:∀i,i<4->∀n∈(sT w i).inbox,n∈w.AX/\ ∀g∈w.got,Dif g n
 nx:∀n∈w.AX,n.nu<(sT w n.fr.toNat).nx
 sp:w.AX.Pairwise Dif
 gp:w.got.Pairwise Dif
 gs:∀g∈w.got,g∈w.AX/\(g.un<=(sT w g.to.toNat).ti\/ ∃m∈(sD w g.to.toNat).marks,m.mf=g.fr/\m.mn=g.nu/\m.mu=g.un)
 cu:∀n∈w.AX,LI w n\/Hm w n\/ ∃j,Jx w n j
 mrk:∀i,i<4->∀m∈(sT w i).marks,∃n∈w.AX,m=⟨n.fr,n.nu,n.un⟩/\Bey w i n
 ra:∀p∈w.AO,PcI (λn=>n∈w.AX) p
 hv:∀p∈w.AO,∀f,Cs (BC p.data)=(f,Y)->HvF w f
 hf:∀i,i<4->∀h∈(kA w.A8 i).AJ,HfG w.AX h
def Io{l:List A3}(h:l.Pairwise Dif):∀ {a b:A3},a∈l->b∈l->a.fr=b.fr->a.nu=b.nu->a=b:=by
 intro a b ha hb h1 h2;obtain⟨i,hi,ei⟩:=Cq ha;obtain⟨j,hj,ej⟩:=Cq hb;obtain c|c|c:=IM i j
 .have:=JW.1 h i j hi hj c;rw[ei,ej]at this;exact absurd ⟨h1,h2⟩ this
 .subst c;rw[← ei,← ej]
 .have:=JW.1 h j i hj hi c;rw[ei,ej]at this;exact absurd ⟨h1.symm,h2.symm⟩ this
def aHk{l:List A3}{n:A3}(h:l.Pairwise Dif)(hn:∀a∈l,Dif a n):(l++[n]).Pairwise Dif:=by
 rw[NJ];exact⟨h,oH _ _,λa ha b hb=>by rw[C9.1 hb];exact hn a ha⟩
def af{l:List A3}{x:A3}(h:x∈l):∃i,i<l.length/\nA l i=x:=by
 obtain⟨i,hi,e⟩:=Cq h;exact⟨i,hi,by rw[nA,BA,Ap hi];exact e⟩
def ayj{l:List Mark}{x:Mark}(h:x∈l):∃i,i<l.length/\mA l i=x:=by
 obtain⟨i,hi,e⟩:=Cq h;exact⟨i,hi,by rw[mA,BA,Ap hi];exact e⟩
def aGu{k:AE}(h:Av k=Y){n:A3}(hn:n∈k.held):k.ti<n.un/\onW n k.id/\n.to≠k.id:=by
 obtain⟨i,hi,e⟩:=af hn;have:=(Bz h).ho i hi;unfold HD Eh at this;rw[e]at this;simp only[AD,Bw,decide_eq_true_eq,Aa,C6,decide_eq_false_iff_not]at this;obtain⟨_,h1,⟨h2,h3⟩,_⟩:=this;unfold onW;exact⟨h1,J,λe=>h2 e.symm⟩
def pX{k:AE}(h:Av k=Y){n:A3}(hn:n∈k.inbox):n.to=k.id/\(n.un<=k.ti\/ ∃m∈k.marks,m.mf=n.fr/\m.mn=n.nu):=by
 obtain⟨i,hi,e⟩:=af hn;have:=(Bz h).io i hi;unfold Ij at this;rw[e]at this;simp only[AD,Bw,decide_eq_true_eq,C6,decide_eq_false_iff_not]at this;obtain⟨h1,_,h2⟩:=this;refine⟨h1, ?_⟩;obtain h2|h2:=h2
 .exact .inl J
 .obtain⟨j0,_,j2,j3⟩:=ZP h2;refine .inr ⟨mA k.marks (Bp k.marks n.fr n.nu).toNat, ?_,j2,j3⟩;rw[mA,BA,Ap j0];exact CU j0
def HF{w:AA}(ok:B9 w){i:Nat}(hi:i<4):(sT w i).id=(i:Int):=(C0 (ok.k i hi).1).id.trans (ok.k i hi).2
def FO{w:AA}(ok:B9 w){i:Nat}(hi:i<4):Av (sT w i)=Y:=(C0 (ok.k i hi).1).kok
def aEt{n:A3}(h:Ax n=Y):(0<=n.fr/\n.fr<=3)/\(0<=n.to/\n.to<=3):=by
 unfold Ax at h;simp only[AD]at h;exact⟨Aa.1 h.1,Aa.1 h.2.1⟩
def awm{w w':AA}{i:Nat}{a:Act}{k':A7}(ok:B9 w)(hi:i<4)(m:Mvd (kA w.A8 i) k' a)(ek:w'.A8=w.A8.set i k')
  (eg:∀n,n∈w.got\/a= .eat n->n∈w'.got){n:A3}(nok:Ax n=Y)(lets:a= .lets ⟨n.fr,n.nu,n.un⟩->Bey w i n){d:Nat}
  (h:LI w n\/Hm w n\/ ∃j:Nat,Jx w n j/\dsN n j<d):LI w' n\/Hm w' n\/ ∃j:Nat,Jx w' n j/\dsN n j<d:=by
 have kl:=ok.kl;have kA':∀j,kA w'.A8 j=if j=i then k' else kA w.A8 j:=λj=>by rw[ek,GI J]
 have up:∀j:Nat,(sT w j).ti<=(sT w' j).ti:=λj=>by
  unfold sT;rw[kA' j];split
  .rename_i e;rw[e];exact m.ti
  .exact Cz _
 have cam:LI w n->LI w' n:=λh=>by
  obtain h|h:=h
  .exact .inl (eg n<|.inl h)
  .by_cases e:n.to.toNat=i
   .rw[e]at h;obtain h1|h1:=m.box n h
    .right;unfold sT;rw[kA' n.to.toNat,A5 e];exact h1
    .exact .inl (eg n<|.inr h1)
   .right;unfold sT;rw[kA' n.to.toNat,A9 e];exact h
 have ove:Hm w n->Hm w' n:=fun⟨j,h1,h2,h3⟩=>⟨j,h1,h2,KM h3<|up j⟩;have oth:∀j:Nat,j≠i->Jx w n j->Jx w' n j:=λj hj h=>by
  unfold Jx sT sD;rw[kA' j,A9 hj];exact h
 obtain h|h|⟨j,h,hd⟩:=h
 .exact .inl (cam h)
 .exact .inr (.inl<|ove h)
 .by_cases e:j=i
  .subst e;obtain⟨_,h1,h2⟩:=h;obtain c|c|c:=m.hold n h1 h2
   .exact .inr (.inr ⟨j,by unfold Jx sT sD;rw[kA' j,A5 rfl];exact⟨hi,c⟩,hd⟩)
   .have hw:=(aGu (FO ok hi) h1).2.1;rw[HF ok hi]at hw;exact .inr (.inl ⟨j,hi,hw,by unfold sT;rw[kA' j,A5 rfl];exact c⟩)
   .rcases lets c with h|h|⟨x,hx,hx2⟩
    .exact .inl (cam h)
    .exact .inr (.inl<|ove h)
    .exact .inr (.inr ⟨x,oth x (λe=>by subst e;omega) hx,J⟩)
  .exact .inr<|.inr ⟨j,oth j e h,hd⟩
def HvF.up{w w':AA}{f:Frame}(hs:∀n∈w.AX,n∈w'.AX)(hb:∀n∈w.AX,∀i,Bey w i n->Bey w' i n)(h:HvF w f):HvF w' f:=λe=>by
 obtain⟨n,h1,h2,h3,h4⟩:=h e;exact⟨n,hs n h1,h2,h3,hb n h1 _ h4⟩
def HfG.up{se se':List A3}{h:AG}(hs:∀n∈se,n∈se')(g:HfG se h):HfG se' h:=by
 obtain⟨n,h1,h2⟩:=g;exact⟨n,hs n h1,h2⟩
def RaN(w w':AA)(p:AK):Prop:=p∈w.AO\/(PcI (λn=>n∈w'.AX) p/\ ∀f,Cs (BC p.data)=(f,Y)->HvF w' f)
structure Nq (w w':AA) (i:Nat) (k':A7) (a:Act):Prop where
 hi:i<4
 m:Mvd (kA w.A8 i) k' a
 ek:w'.A8=w.A8.set i k'
 se:(w'.AX=w.AX/\ ∀n,a≠ .own n)\/ ∃n,a= .own n/\w'.AX=w.AX++[n]/\Ax n=Y
 go:(w'.got=w.got/\ ∀n,a≠ .eat n)\/ ∃n,a= .eat n/\w'.got=w.got++[n]
 tk:∀n,a= .take n->n∈w.AX
 lt:∀m,a= .lets m->∃n∈w.AX,n.fr=m.mf/\n.nu=m.mn/\Bey w i n
 ra:∀p∈w'.AO,RaN w w' p
 hf:∀h∈k'.AJ,HfG w'.AX h
def Nq.bey{w w':AA}{i:Nat}{k':A7}{a:Act}(s:Nq w w' i k' a)(v:Inv w)(ok:B9 w){n:A3}(hn:n∈w.AX){d:Nat}
  (h:LI w n\/Hm w n\/ ∃j:Nat,Jx w n j/\dsN n j<d):LI w' n\/Hm w' n\/ ∃j:Nat,Jx w' n j/\dsN n j<d:=by
 refine awm ok s.hi s.m s.ek (λx hx=> ?_) (ok.s n hn) (λe=> ?_) h
 .rcases s.go with⟨e,h1⟩|⟨y,e1,e2⟩
  .rw[e];obtain hx|hx:=hx
   .exact hx
   .exact absurd hx (h1 x)
  .rw[e2,BM,C9];obtain hx|hx:=hx
   .exact .inl hx
   .rw[e1]at hx;cases hx;exact .inr rfl
 .obtain⟨x,h1,h2,h3,h4⟩:=s.lt _ e;have:=Io v.sp h1 hn h2 h3;rw[← this];exact h4
def Inv.step{w w':AA}{i:Nat}{k':A7}{a:Act}(v:Inv w)(ok:B9 w)(s:Nq w w' i k' a):Inv w':=by
 have kl:=ok.kl;have hi:=s.hi;have m:=s.m;have kA':∀j,kA w'.A8 j=if j=i then k' else kA w.A8 j:=λj=>by rw[s.ek,GI J]
 have eT:sT w' i=stT k':=by unfold sT;rw[kA' i,A5 rfl]
 have eD:sD w' i=stD k':=by unfold sD;rw[kA' i,A5 rfl]
 have oT:∀j,j≠i->sT w' j=sT w j:=λj hj=>by unfold sT;rw[kA' j,A9 hj]
 have oD:∀j,j≠i->sD w' j=sD w j:=λj hj=>by unfold sD;rw[kA' j,A9 hj]
 have id':(stT<|kA w.A8 i).id=(i:Int):=HF ok hi;have ses:∀n∈w.AX,n∈w'.AX:=λn hn=>by
  obtain⟨e,_⟩|⟨x,_,e,_⟩:=s.se<;>rw[e]
  .exact hn
  .exact Bv _ hn
 have sen:∀n,n∈w'.AX->n∈w.AX\/a= .own n:=λn hn=>by
  obtain⟨e,_⟩|⟨x,e1,e,_⟩:=s.se<;>rw[e]at hn
  .exact .inl hn
  .rcases BM.1 hn with hn|hn
   .exact .inl hn
   .rw[C9.1 hn];exact .inr e1
 have alz:∀n,a= .own n->n∈w'.AX:=λn hn=>by
  obtain⟨_,e⟩|⟨x,e1,e,_⟩:=s.se
  .exact absurd hn (e n)
  .rw[e1]at hn;cases hn;rw[e];exact CV _<|P9 _
 have ba:∀n,a.new n->n∈w'.AX:=λn hn=>by
  obtain hn|hn:=hn
  .exact alz n hn
  .exact ses n<|s.tk n hn
 have gos:∀n∈w.got,n∈w'.got:=λn hn=>by
  obtain⟨e,_⟩|⟨x,_,e⟩:=s.go<;>rw[e]
  .exact hn
  .exact Bv _ hn
 have aDx:∀n,a= .own n->n.fr=(i:Int)/\n.nu=(sT w i).nx/\(stT k').nx=(sT w i).nx+1:=λn hn=>by
  obtain⟨_,h⟩|⟨x,h1,h2,h3,h4⟩:=m.nx
  .exact absurd hn (h n)
  .rw[h1]at hn;cases hn;exact⟨h3.trans id',h2,h4⟩
 have nxu:∀j,(sT w j).nx<=(sT w' j).nx:=λj=>by
  by_cases e:j=i
  .subst e;rw[eT];obtain⟨h,_⟩|⟨_,_,_,_,h⟩:=m.nx<;>unfold sT<;>omega
  .rw[oT j e];exact Cz _
 have tiu:∀j,(sT w j).ti<=(sT w' j).ti:=λj=>by
  by_cases e:j=i
  .subst e;rw[eT];exact m.ti
  .rw[oT j e];exact Cz _
 have b0:∀n∈w.AX,∀j,Bey w j n->Bey w' j n:=λn hn j h=>s.bey v ok hn h;have alQ:∀n,a= .own n->∀x∈w.AX,Dif x n:=λn hn x hx c=>by
  obtain⟨h1,h2,_⟩:=aDx n hn;have:=v.nx x hx;rw[c.1,h1,BV]at this;have:=c.2;omega
 have sp':w'.AX.Pairwise Dif:=by
  obtain⟨e,_⟩|⟨x,e1,e,_⟩:=s.se<;>rw[e]
  .exact v.sp
  .exact aHk v.sp<|alQ x e1
 have amW:∀n,a.new n->n.to=(i:Int)->∀g∈w.got,Dif g n:=λn hn ht g hg c=>by
  obtain⟨g1,g2⟩:=v.gs g hg;have e:g=n:=Io sp' (ses g g1) (ba n hn) c.1 c.2;obtain⟨h1,h2,_⟩:=m.new n hn;subst e;rw[ht,BV]at g2;obtain g2|⟨y,y1,y2,y3,_⟩:=g2
  .unfold sT at g2;omega
  .exact h2 y (((v.lo i hi).lf (ok.k i hi).1).mrk y y1) ⟨y2,y3⟩
 have aE0:∀n,a.new n->LI w' n\/Hm w' n\/ ∃j:Nat,Jx w' n j/\(n.to≠(i:Int)/\j=i):=λn hn=>by
  obtain⟨_,_,h⟩:=m.new n hn;rw[id']at h;split at h
  .rename_i ht;refine .inl<|.inr ?_;rw[ht,BV,eT];exact h
  .rename_i ht;exact .inr<|.inr ⟨i,by unfold Jx;rw[eT,eD];exact⟨hi,h⟩,ht,rfl⟩
 have azq:∀n∈w'.AX,Ax n=Y:=λn hn=>by
  obtain⟨e,_⟩|⟨x,_,e,h⟩:=s.se<;>rw[e]at hn
  .exact ok.s n hn
  .rcases BM.1 hn with hn|hn
   .exact ok.s n hn
   .rw[C9.1 hn];exact h
 refine⟨λj hj=> ?_,λj hj n hn=> ?_,λj hj n hn=> ?_,λn hn=> ?_,sp', ?_,λg hg=> ?_,λn hn=> ?_,λj hj y hy=> ?_,λp hp=> ?_,λp hp f hu=> ?_,λj hj h hh=> ?_⟩
 .rw[kA' j];split
  .exact m.lo
  .exact v.lo j hj
 .by_cases e:j=i
  .subst e;rw[eD]at hn;obtain h|h:=m.held n hn
   .exact ses n (v.hs j hj n h)
   .exact ba n h
  .rw[oD j e]at hn;exact ses n (v.hs j hj n hn)
 .by_cases e:j=i
  .subst e;rw[eT]at hn;obtain⟨h,ne⟩|⟨h,ht⟩:=m.Pe n hn
   .obtain⟨h1,h2⟩:=v.bx j hj n h;refine⟨ses n h1,λg hg=> ?_⟩;obtain⟨e,_⟩|⟨x,e1,e⟩:=s.go<;>rw[e]at hg
    .exact h2 g hg
    .rcases BM.1 hg with hg|hg
     .exact h2 g hg
     .rw[C9.1 hg];intro c;have:=Io v.sp ((v.bx j hj x (m.eat x e1).1).1) h1 c.1 c.2;rw[this]at e1;exact ne e1
   .rw[id']at ht;refine⟨ba n h,λg hg=> ?_⟩;obtain⟨e,_⟩|⟨x,e1,e⟩:=s.go
    .rw[e]at hg;exact amW n h ht g hg
    .rcases h with h|h<;>rw[h]at e1<;>cases e1
  .rw[oT j e]at hn;obtain⟨h1,h2⟩:=v.bx j hj n hn;refine⟨ses n h1,λg hg=> ?_⟩;obtain⟨e,_⟩|⟨x,e1,e2⟩:=s.go
   .rw[e]at hg;exact h2 g hg
   .rw[e2]at hg;obtain hg|hg:=BM.1 hg
    .exact h2 g hg
    .rw[C9.1 hg];intro c;have hx:=(m.eat x e1).1;have:=Io v.sp ((v.bx i hi x hx).1) h1 c.1 c.2;subst this;have a1:=(pX (FO ok hi) hx).1;have a2:=(pX (FO ok hj) hn).1;rw[HF ok hi]at a1;rw[HF ok hj]at a2;omega
 .rcases sen n hn with h|h
  .exact Int.lt_of_lt_of_le (v.nx n h) (nxu _)
  .obtain⟨h1,h2,h3⟩:=aDx n h;rw[h1,BV,eT];omega
 .rcases s.go with⟨e,_⟩|⟨x,e1,e⟩<;>rw[e]
  .exact v.gp
  .exact aHk v.gp (λg hg=>(v.bx i hi x (m.eat x e1).1).2 g hg)
 .have old:g∈w.got->g∈w'.AX/\(g.un<=(sT w' g.to.toNat).ti\/ ∃m∈(sD w' g.to.toNat).marks,m.mf=g.fr/\m.mn=g.nu/\m.mu=g.un):=λhg=>by
   obtain⟨h1,h2⟩:=v.gs g hg;refine⟨ses g h1, ?_⟩;obtain h2|⟨y,y1,y2,y3,y4⟩:=h2
   .exact .inl (KM h2<|tiu _)
   .by_cases e:g.to.toNat=i
    .rw[e]at y1 ⊢;rw[eT,eD];obtain c|c:=m.mks y y1
     .exact .inr ⟨y,c,y2,y3,y4⟩
     .exact .inl J
    .rw[oD _ e];exact .inr ⟨y,y1,y2,y3,y4⟩
  obtain⟨e,_⟩|⟨x,e1,e⟩:=s.go<;>rw[e]at hg
  .exact old hg
  .rcases BM.1 hg with hg|hg
   .exact old hg
   .rw[C9.1 hg];obtain⟨hx,hm⟩:=m.eat x e1;obtain⟨b1,b2⟩:=pX (FO ok hi) hx;rw[HF ok hi]at b1;refine⟨ses x (v.bx i hi x hx).1, ?_⟩;rw[b1,BV,eT,eD];obtain b2|⟨y,y1,y2,y3⟩:=b2
    .exact .inl (KM b2 m.ti)
    .obtain⟨z,z1,z2,_⟩:=v.mrk i hi y y1;have:z=x:=Io v.sp z1 (v.bx i hi x hx).1 (by rw[← y2,z2]) (by rw[← y3,z2]);exact .inr ⟨y,hm y y1,y2,y3,by rw[z2,this]⟩
 .rcases sen n hn with h|h
  .rcases v.cu n h with c|c|⟨j,c⟩
   .rcases s.bey v ok h (d:=0) (.inl c) with c|c|⟨j,c,_⟩
    .exact .inl c
    .exact .inr (.inl c)
    .exact .inr (.inr ⟨j,c⟩)
   .rcases s.bey v ok h (d:=0) (.inr<|.inl c) with c|c|⟨j,c,_⟩
    .exact .inl c
    .exact .inr (.inl c)
    .exact .inr (.inr ⟨j,c⟩)
   .rcases s.bey v ok h (.inr<|.inr ⟨j,c,P7 _⟩) with c|c|⟨j,c,_⟩
    .exact .inl c
    .exact .inr (.inl c)
    .exact .inr (.inr ⟨j,c⟩)
  .rcases aE0 n (.inl h) with c|c|⟨j,c,_⟩
   .exact .inl c
   .exact .inr (.inl c)
   .exact .inr (.inr ⟨j,c⟩)
 .have old:∀j,j<4->y∈(sT w j).marks->∃n∈w'.AX,y=⟨n.fr,n.nu,n.un⟩/\Bey w' j n:=λj hj hy=>by
   obtain⟨n,h1,h2,h3⟩:=v.mrk j hj y hy;exact⟨n,ses n h1,h2,b0 n h1 _ h3⟩
  by_cases e:j=i
  .subst e;rw[eT]at hy;obtain h|h|⟨n,h,ht,rfl⟩:=m.mrk y hy
   .exact old j hj h
   .obtain⟨n,h1,h2,h3,h4⟩:=s.lt y h;obtain⟨x,x1,x2⟩:=m.lets y h;have:x=n:=Io v.sp (v.hs j hj x<|((v.lo j hj).lf (ok.k j hj).1).held x x1) h1 (by rw[h2,x2]) (by rw[h3,x2]);subst this;exact⟨x,ses x h1,x2,b0 x h1 _ h4⟩
   .refine⟨n,ba n h,rfl, ?_⟩;rw[id']at ht;obtain c|c|⟨_,_,c,_⟩:=aE0 n h
    .exact .inl c
    .exact .inr (.inl c)
    .exact absurd ht c
  .rw[oT j e]at hy;exact old j hj hy
 .rcases s.ra p hp with h|h
  .exact(v.ra p h).mono ses
  .exact h.1
 .rcases s.ra p hp with h|h
  .exact(v.hv p h f hu).up ses b0
  .exact h.2 f hu
 .rw[kA' j]at hh;split at hh
  .exact s.hf h hh
  .exact(v.hf j hj h hh).up ses
end Go.VS
end
