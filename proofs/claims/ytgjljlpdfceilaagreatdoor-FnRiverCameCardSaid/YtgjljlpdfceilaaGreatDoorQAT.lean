/- Part 9. -/
import Derived.Test.YtgjljlpdfceilaaGreatDoorQAR
open BitVec renaming eq_of_toNat_eq->pR,ofInt->FT,toNat_ofInt->Rp
open Bool renaming and_eq_true->AD,and_false->Ba,and_self->Dn,and_true->Lh,eq_iff_iff->Ke,false->A0,false_and->AP,false_ne_true->CY,false_or->Bl,not_eq_true'->Bz,not_eq_true->Gj,not_false->AH,not_true->AB,or_eq_false_iff->Mk,or_eq_true->Bp,or_false->En,or_self->Gk,or_true->DY,true->Y,true_and->AU,true_or->By
open ByteArray renaming size_extract->aFD
open Decidable renaming decide->U
open Eq renaming refl->HC,trans->Kb
open Go.Lib renaming itoa->B7
open Int renaming eq_ofNat_of_zero_le->HZ,le_refl->Cr,le_trans->J7,mul_comm->S5,mul_le_mul_of_nonneg_right->p7,mul_nonneg->Ur,not_lt->Rz,tdiv->B2,tdiv_eq_ediv_of_nonneg->Gi,tdiv_nonneg->pI,tmod->BM,tmod_eq_emod_of_nonneg->Lg,tmod_lt_of_pos->Rx,tmod_nonneg->Rq,toNat->AO,toNat_natCast->BX,toNat_of_nonneg->Nq
open List renaming all_cons->Pb,all_eq_true->CZ,append_assoc->C7,append_nil->CU,drop->Bt,drop_append_of_le_length->Uj,drop_drop->J5,drop_sublist->Rs,drop_zero->J6,eq_nil_of_length_eq_zero->E5,ext_getElem?->pD,filter_append->Rl,filter_cons->KT,filter_nil->bJ,foldl_cons->E4,getD_eq_getElem?_getD->BA,getElem?_append_right->Fl,getElem?_eq_getElem->Ar,getElem?_eq_none->Hz,getElem?_map->DI,getElem?_range->H6,getElem?_replicate->bM,getElem?_set->Pa,getElem?_set_self->bN,getElem?_take->H7,getElem_mem->CS,getElem_of_mem->Cv,length->j8,length_append->Ax,length_cons->Bf,length_drop->EQ,length_filter_le->J4,length_map->Df,length_nil->CL,length_set->Gh,length_singleton->Jq,length_take->DS,map_append->Em,map_congr_left->H8,map_cons->DZ,map_id->bR,map_map->IV,map_nil->Jm,mem_append->BL,mem_append_left->Bw,mem_append_right->CR,mem_cons->Bm,mem_cons_of_mem->Ak,mem_cons_self->As,mem_filter->FU,mem_iff_getElem->pK,mem_map->C1,mem_of_getElem?->Cs,mem_of_mem_drop->Jr,mem_of_mem_take->Hb,mem_or_eq_of_mem_set->Rj,mem_range->D4,mem_singleton->C8,mem_singleton_self->Ml,nil_append->El,nodup_append->Jo,pairwise_append->Nj,pairwise_iff_getElem->Jj,pairwise_singleton->pG,range->B9,range_succ->IU,replicate->BT,set->Bu,take->BQ,take_add_one->JC,take_append_drop->JA,take_length->E6,take_of_length_le->KY,take_take->bF
open List.Sublist renaming append->pa,refl->Ek
open List.cons renaming injEq->Mt
open Nat renaming add_zero->I0,le_refl->Aw,le_trans->Cc,lt_or_gt_of_ne->Uh,lt_succ_self->Pf,lt_trichotomy->IX,min_eq_left->S3,not_lt_zero->pH,sub_zero->Js,zero_add->DR,zero_le->D5
open Option renaming bind_eq_some_iff->Aj,bind_some->A6,filter_eq_some_iff->Jk,getD_some->Cy,isSome_some->D6,map_some->Rv,none->G,some->I
open Option.some renaming inj->Ck
open Or renaming inl->Ny,inr->Nw
open Prod.mk renaming injEq->CV
set_option linter.all false
noncomputable section
namespace Go.VS
open Go
def GH:List A1->A1->Option A1
 | [],a=>I a
 | x::r,a=>if x=noB then G else GH r (a++x)
def ZT:∀ {l:List A1} {a c:A1},(∀x∈l,x=noB\/x.size=4)->GH l a=I c->c.size=a.size+4 * l.length
 | [],a,c,_,h=>by
  injection h with h;rw[h];rfl
 | x::r,a,c,hx,h=>by
  unfold GH at h;split at h
  .cases h
  .rename_i hne;rw[ZT (λy hy=>hx y<|Ak x hy) h,C3,Bf];obtain h1|h1:=hx x As
   .exact absurd h1 hne
   .omega
def Nd(pre:List A1)(x:A1)(post:List A1): @rd A1 aJY (pre++x::post) (j8 pre:Int)=x:=by
 rw[PI,BA,Fl<|Aw _];simp
abbrev dD(s:Int)(o:Option A1):(A1×Bool×D) ⊕ (Int×A1×D):=match o with|none=> .inl (noB,A0,())|some c=> .inr (s,c,())
def avZ(s:Int)(post:List A1):∀(pre:List A1) (a:A1),(pre++post).length<=1048576->(∀x∈post,x.size<=4)->a.size<=4 * pre.length->
  ee (s,a,pre++post,((pre++post).length:Int),(j8 pre:Int),())=I (dD s<|GH post a):=by
 induction post with
 | nil=>
  intro pre a _ _ _;refine BC ?_;unfold Wr;simp only[CU,show U ((j8 pre:Int)<(j8 pre:Int))=A0 from BG J,A4];rfl
 | cons x post ih=>
  intro pre a hl hx ha;have hlen:pre.length<(pre++x::post).length:=by simp
  have hw:=Dh hlen hl;have hx4:=hx x As;by_cases e:x=noB
  .refine BC ?_;unfold Wr GH;simp only[show U ((j8 pre:Int)<((pre++x::post).length:Int))=Y from AW J,A2,AR hlen,Nd];rw[A5<|AW e,A5 e]
  .refine Am (x':=(s,a++x,pre++x::post,((pre++x::post).length:Int),((pre++[x]).length:Int),())) ?_ ?_
   .unfold Wr;simp only[show U ((j8 pre:Int)<((pre++x::post).length:Int))=Y from AW J,A2,AR hlen,Nd];rw[A9 (by rw[BG e];exact CY),A5<|AW (by simp at hl;omega),hw,@Ax _ pre [x]];rfl
   .have:=ih (pre++[x]) (a++x) (by rw[← snoc];exact hl) (λy hy=>hx y<|Ak x hy) (by rw[C3,Ax,Jq];omega);rw[← snoc]at this;rw[show GH (x::post) a=GH post (a++x) from A9 e];exact this
def avH(s:Int)(post:List A1):∀(pre:List A1) (a:A1),(pre++post).length<=1048576->(∀x∈post,x.size<=4)->a.size<=4 * pre.length->
  eK (s,pre++post,a,(j8 pre:Int),())=I (dD s<|GH post a):=by
 induction post with
 | nil=>
  intro pre a _ _ _;refine BC ?_;unfold X3;simp only[CU,show U ((j8 pre:Int)<(j8 pre:Int))=A0 from BG J,A4];rfl
 | cons x post ih=>
  intro pre a hl hx ha;have hlen:pre.length<(pre++x::post).length:=by simp
  have hw:=Dh hlen hl;have hx4:=hx x As;by_cases e:x=noB
  .refine BC ?_;unfold X3 GH;simp only[show U ((j8 pre:Int)<((pre++x::post).length:Int))=Y from AW J,A2,AR hlen,Nd];rw[A5<|AW e,A5 e]
  .refine Am (x':=(s,pre++x::post,a++x,((pre++[x]).length:Int),())) ?_ ?_
   .unfold X3;simp only[show U ((j8 pre:Int)<((pre++x::post).length:Int))=Y from AW J,A2,AR hlen,Nd];rw[A9 (by rw[BG e];exact CY),A5<|AW (by simp at hl;omega),hw,@Ax _ pre [x]];rfl
   .have:=ih (pre++[x]) (a++x) (by rw[← snoc];exact hl) (λy hy=>hx y<|Ak x hy) (by rw[C3,Ax,Jq];omega);rw[← snoc]at this;rw[show GH (x::post) a=GH post (a++x) from A9 e];exact this
def Ng(c:A1)(s:Nat):Bool:=Ap (c.size - s) λi=>U<|bt c ((s+i:Nat):Int)=0
def asw{c:A1}{s:Nat}(h:s<=c.size)(hc:c.size<=1048576):vE ((s:Int),c,(s:Int),())=I (if Ng c s then .inr ((s:Int),c,()) else .inl (noB,A0,())):=by
 refine Cq (λi=>((s:Int),c,((s+i:Nat):Int),())) (c.size - s) _ _ _ ?_ ?_
 .intro i hi;unfold iB;simp only[show U (((s+i:Nat):Int)<(c.size:Int))=Y from AW J,A2,AR (J:s+i<c.size)];rw[AZ J J];obtain e|e:=tf (U<|bt c ((s+i:Nat):Int)=0)
  .simp only[e,AB,A4,A2];rfl
  .simp only[e,AH,A4,A2]
 .unfold iB;simp only[show U (((s+(c.size - s):Nat):Int)<(c.size:Int))=A0 from BG J,A4]
def atV{c:A1}{s:Nat}(h:s<=c.size)(hc:c.size<=1048576):ux ((s:Int),c,(s:Int),())=I (if Ng c s then .inr ((s:Int),c,()) else .inl (noB,A0,())):=by
 refine Cq (λi=>((s:Int),c,((s+i:Nat):Int),())) (c.size - s) _ _ _ ?_ ?_
 .intro i hi;unfold gj;simp only[show U (((s+i:Nat):Int)<(c.size:Int))=Y from AW J,A2,AR (J:s+i<c.size)];rw[AZ J J];obtain e|e:=tf (U<|bt c ((s+i:Nat):Int)=0)
  .simp only[e,AB,A4,A2];rfl
  .simp only[e,AH,A4,A2]
 .unfold gj;simp only[show U (((s+(c.size - s):Nat):Int)<(c.size:Int))=A0 from BG J,A4]
def Zy{b:Nat}(list:List AT):∀(n:Nat) (kn:List A1),Ce b kn->Ce b (Gz b list n kn)
 | 0,_,h=>h
 | n+1,kn,h=>by
  have:=(NP list (kn,A0) h).1;unfold Gz;split
  .exact Zy list n _ this
  .exact this
def Ce.all{b:Nat}{kn:List A1}(h:Ce b kn):∀x∈kn,x=noB\/x.size=4:=by
 intro x hx;obtain⟨k,hk,rfl⟩:=pK.1 hx;have:=h.2 k (by rw[← h.1];exact hk);rw[bsA,BA,Ar hk]at this;exact this
def qI{b:Int}(hb:inB b 1 6=Y)(list:List AT):Ce b.toNat (Hq b list):=by
 unfold Hq;rw[A5 hb];exact Zy list 7 _<|Ce.new _
def Ce.le{b:Nat}{kn:List A1}(h:Ce b kn):∀x∈kn,x.size<=4:=by
 intro x hx;obtain h1|h1:=h.all x hx
 .rw[h1];exact D5 _
 .omega
def FO(s:Int)(list:List AT):A1×Bool:=
 if inB s 1 24 then(match GH (Hq (B2 (s+3) 4) list) noB with
  | none=>(noB,A0)
  | some c=>if Ng c s.toNat then(c.extract 0 s.toNat,Y) else(noB,A0)) else(noB,A0)
def aEQ(s:Int)(hs:0<=s)(c:A1)(hc:s<=c.size)(b:Bool):
  AM (I<|if b then(.inr (s,c,()):(A1×Bool×D) ⊕ (Int×A1×D)) else .inl (noB,A0,())) (λy=>I (y,()))
   (λy=>if(U (0<=y.1)&&U (y.1<=(y.2.1.size:Int))) then I ((y.2.1.extract 0<|AO y.1,Y,()),()) else G)=
   I (((if b then(c.extract 0 s.toNat,Y) else(noB,A0)).1,(if b then(c.extract 0 s.toNat,Y) else(noB,A0)).2,()),()):=by
 cases b
 .rfl
 .show(if(U (0<=s)&&U (s<=(c.size:Int))) then _ else _)=_;rw[A5 aJL];rfl
def anw(s:Int)(list:List AT)(hl:list.length<=1048576):jB (s,list,())=I (((FO s list).1,(FO s list).2,()),()):=by
 unfold jB FO;simp only[EU,A6];obtain e|e:=tf (inB s 1 24)
 .have h1:=Aa.1 e;have hd:B2 (s+3) 4=(s+3) / 4:=Gi J;simp only[e,AB,A4,A2];rw[AZ (n:=s+4) J J,AZ (n:=s+4 - 1) J J,show s+4 - 1=s+3 by omega,AZ J J,anV _ _ hl];simp only[A6];have hb:inB (B2 (s+3) 4) 1 6=Y:=Aa.2 J;have hk:=qI hb list;have oS:=avZ s (Hq (B2 (s+3) 4) list) [] noB (by rw[El,hk.1];omega) (Ce.le hk)<|Aw _;have sW:ee (s,noB,Hq (B2 (s+3) 4) list,((Hq (B2 (s+3) 4) list).length:Int),0,())=_:=oS;rw[sW];cases hc:GH (Hq (B2 (s+3) 4) list) noB with
  | none=>rfl
  | some c=>
   have hz:=ZT hk.all hc;have hz0:noB.size=0:=rfl;rw[hk.1,hz0]at hz;have hzero:=asw (c:=c) (s:=s.toNat) J J;rw[show((s.toNat:Nat):Int)=s by omega]at hzero;simp only[AM,A6,dD];rw[hzero];exact aEQ s J c J _
 .simp only[e,AH,A2,A4]
def amt(s:Int)(list:List AT)(hl:list.length<=1048576):ig (s,list,())=I (((FO s list).1,(FO s list).2,()),()):=by
 unfold ig FO;simp only[IB,A6];obtain e|e:=tf (inB s 1 24)
 .have h1:=Aa.1 e;have hd:B2 (s+3) 4=(s+3) / 4:=Gi J;simp only[e,AB,A4,A2,iF (n:=s) J J,A6];rw[amu _ _ hl];simp only[A6];have hb:inB (B2 (s+3) 4) 1 6=Y:=Aa.2 J;have hk:=qI hb list;have oS:=avH s (Hq (B2 (s+3) 4) list) [] noB (by rw[El,hk.1];omega) (Ce.le hk)<|Aw _;have sW:eK (s,Hq (B2 (s+3) 4) list,noB,0,())=_:=oS;rw[sW];cases hc:GH (Hq (B2 (s+3) 4) list) noB with
  | none=>rfl
  | some c=>
   have hz:=ZT hk.all hc;have hz0:noB.size=0:=rfl;rw[hk.1,hz0]at hz;have hzero:=atV (c:=c) (s:=s.toNat) J J;rw[show((s.toNat:Nat):Int)=s by omega]at hzero;simp only[AM,A6,dD];rw[hzero];exact aEQ s J c J _
 .simp only[e,AH,A2,A4]
abbrev tF(f:Frame):Int×Int×Int×Int×Int×Int×Int×Int×Int×A1×D:=(f.ki,f.src,f.dst,f.fr,f.nu,f.to,f.un,f.sz,f.mix,f.da,())
def JX(f:Frame):Bool:=
 if U (f.ki=1) then inB f.sz 1 24&&(inB f.mix 0 999&&(U ((f.da.size:Int)=4)&&U (f.dst=BR f.src f.to)))
 else(U (f.ki=2)||decide (f.ki=3))&&(U (f.sz=0)&&(U (f.mix=0)&&(U (f.da=noB)&&U (f.src=BR f.dst f.to))))
def C2(f:Frame):Bool:=isN f.src&&(isN f.dst&&(isN f.fr&&(isN f.to&&(inB f.nu 1 99&&(inB f.un 1 999&&JX f)))))
def aCD(f:Frame):XJ (tF f,())=I ((C2 f,()),()):=by
 obtain⟨ki,src,dst,fr,nu,t',un,sz,mix,da⟩:=f;unfold XJ C2;simp only[K7,EU,A6];obtain e|e:=tf (isN src)<;>simp only[e,AB,AH,A2,A4,AU,AP];obtain e|e:=tf (isN dst)<;>simp only[e,AB,AH,A2,A4,AU,AP];obtain e|e:=tf (isN fr)<;>simp only[e,AB,AH,A2,A4,AU,AP];obtain e|e:=tf (isN t')<;>simp only[e,AB,AH,A2,A4,AU,AP];obtain e|e:=tf (inB nu 1 99)<;>simp only[e,AB,AH,A2,A4,AU,AP];obtain e|e:=tf (inB un 1 999)<;>simp only[e,AB,AH,A2,A4,AU,AP];unfold JX;simp only[Wq,D6,Cy,FY,A2];obtain e|e:=tfp (ki=1)<;>simp only[e,AX,Ad,A2,A4]
 .rcases tf (inB sz 1 24) with e|e<;>simp only[e,A2,A4,AU,AP];obtain e|e:=tf (inB mix 0 999)<;>simp only[e,A2,A4,AU,AP]
 .rcases tfp (ki=2) with e|e<;>simp only[e,AX,Ad,A2,A4,Bh,By,Bl,AU]
  .rcases tfp (sz=0) with e|e<;>simp only[e,AX,Ad,A2,A4,AU,AP];obtain e|e:=tfp (mix=0)<;>simp only[e,AX,Ad,A2,A4,AU,AP]
  .rcases tfp (ki=3) with e|e<;>simp only[e,AX,Ad,A2,A4,AU,AP];obtain e|e:=tfp (sz=0)<;>simp only[e,AX,Ad,A2,A4,AU,AP];obtain e|e:=tfp (mix=0)<;>simp only[e,AX,Ad,A2,A4,AU,AP]
def azX{ki:Int}(h1:(ki=1)=False):inB ki 1 3=(U (ki=2)||decide (ki=3)):=by
 have h1:ki≠1:=of_eq_false h1;rw[Ke,Aa,Bp,decide_eq_true_iff,decide_eq_true_iff];omega
def aB1(f:Frame):XR (tF f,())=I ((C2 f,()),()):=by
 obtain⟨ki,src,dst,fr,nu,t',un,sz,mix,da⟩:=f;unfold XR C2;simp only[K9,IB,A6];have hk:inB ki 1 3=(U (ki=1)||(U (ki=2)||decide (ki=3))):=by
  obtain e|e:=tfp (ki=1)
  .have:ki=1:=of_eq_true e;subst this;rfl
  .rw[azX e];simp only[e,Ad,Bl]
 rw[hk];unfold JX;obtain e0|e0:=tfp (ki=1)<;>simp only[e0,AX,Ad,By,Bl,AB,AH,A2,A4]
 .rcases tf (isN src) with e|e<;>simp only[e,AB,AH,A2,A4,AU,AP];obtain e|e:=tf (isN dst)<;>simp only[e,AB,AH,A2,A4,AU,AP];obtain e|e:=tf (isN fr)<;>simp only[e,AB,AH,A2,A4,AU,AP];obtain e|e:=tf (isN t')<;>simp only[e,AB,AH,A2,A4,AU,AP];obtain e|e:=tf (inB nu 1 99)<;>simp only[e,AB,AH,A2,A4,AU,AP];obtain e|e:=tf (inB un 1 999)<;>simp only[e,AB,AH,A2,A4,AU,AP];simp only[kD,A6];rw[show U (BR src t'=dst)=U (dst=BR src t') from decide_eq_decide.2 eq_comm];obtain e|e:=tf (inB sz 1 24)<;>obtain e1|e1:=tf (inB mix 0 999)<;>obtain e2|e2:=tf (U<|(da.size:Int)=4)<;>obtain e3|e3:=tfp (dst=BR src t')<;>simp only[e,e1,e2,e3,AX,Ad,A2,A4,AU,AP,Dn,Ba]
 .rcases tf (U (ki=2)||decide (ki=3)) with e9|e9<;>simp only[e9,AB,AH,A2,A4,AU,AP,Ba];obtain e|e:=tf (isN src)<;>simp only[e,AB,AH,A2,A4,AU,AP];obtain e|e:=tf (isN dst)<;>simp only[e,AB,AH,A2,A4,AU,AP];obtain e|e:=tf (isN fr)<;>simp only[e,AB,AH,A2,A4,AU,AP];obtain e|e:=tf (isN t')<;>simp only[e,AB,AH,A2,A4,AU,AP];obtain e|e:=tf (inB nu 1 99)<;>simp only[e,AB,AH,A2,A4,AU,AP];obtain e|e:=tf (inB un 1 999)<;>simp only[e,AB,AH,A2,A4,AU,AP];simp only[kD,A6];rw[show U (BR dst t'=src)=U (src=BR dst t') from decide_eq_decide.2 eq_comm];obtain e|e:=tfp (sz=0)<;>obtain e1|e1:=tfp (mix=0)<;>obtain e2|e2:=tfp (da=noB)<;>obtain e3|e3:=tfp (src=BR dst t')<;>simp only[e,e1,e2,e3,AX,Ad,A2,A4,AU,AP,Dn,Ba]
def BOk(l:List Int):Prop:=∀x∈l,0<=x/\x<=255
def BOk.rd{l:List Int}(h:BOk l)(i:Int):0<= @rd Int aJW l i/\ @rd Int aJW l i<=255:=by
 show 0<=l.getD i.toNat 0/\l.getD i.toNat 0<=255;rw[BA];cases e:l[i.toNat]? with
 | none=>exact⟨by decide,by decide⟩
 | some x=>exact h x<|Cs e
def BOk.str(s:A1):BOk (BD s):=by
 intro x hx;obtain⟨b,_,rfl⟩:=C1.1 hx;have:=b.toNat_lt;omega
def BOk.app{a b:List Int}(ha:BOk a)(hb:BOk b):BOk (a++b):=by
 intro x hx;obtain h|h:=BL.1 hx
 .exact ha x h
 .exact hb x h
def ayf(n:Int):0<=w8 n/\w8 n<=255:=by
 rw[Nb];omega
def BOk.nil:BOk []:=λx hx=>by cases hx
def BOk.cons(n:Int){l:List Int}(h:BOk l):BOk (w8 n::l):=by
 intro x hx;obtain h1|h1:=Bm.1 hx
 .rw[h1];exact ayf n
 .exact h x h1
def F9:List Int->Nat->Int->Int
 | [],_,n=>n
 | x::r,i,n=>F9 r (i+1) (BM (n+x * ((i % 1000:Nat)+1)) 65521)
def pv:∀ {l:List Int} {i:Nat} {n:Int},BOk l->0<=n->n<65521->0<=F9 l i n/\F9 l i n<65521
 | [],_,_,_,h0,h1=>⟨h0,h1⟩
 | x::r,i,n,hb,h0,h1=>by
  have hx:=hb x As;have hp:0<=x * ((i % 1000:Nat)+1:Int):=Ur hx.1 J;unfold F9;rw[Lg J];exact pv (λy hy=>hb y<|Ak x hy) J J
def aJn{x:Int}(i:Nat)(h:0<=x/\x<=255):0<=x * ((i % 1000:Nat)+1:Int)/\x * ((i % 1000:Nat)+1:Int)<=255000:=by
 refine⟨Ur h.1 J, ?_⟩;have h1:x * ((i % 1000:Nat)+1:Int)<=255 * ((i % 1000:Nat)+1:Int):=p7 h.2 J;omega
def abB(pre:List Int)(x:Int)(post:List Int): @rd Int aJW (pre++x::post) (j8 pre:Int)=x:=by
 rw[PI,BA,Fl<|Aw _];simp
def auI(post:List Int):∀(pre:List Int) (n:Int),BOk post->0<=n->n<65521->(pre++post).length<=1048576->
  eG (n,pre++post,((pre++post).length:Int),(j8 pre:Int),())=I (.inr (F9 post pre.length n,())):=by
 induction post with
 | nil=>
  intro pre n _ _ _ _;refine BC ?_;unfold gD;simp only[CU,show U ((j8 pre:Int)<(j8 pre:Int))=A0 from BG J,A4];rfl
 | cons x post ih=>
  intro pre n hb h0 h1 hl;have hlen:pre.length<(pre++x::post).length:=by simp
  have hw:=Dh hlen hl;have hx:=hb x As;have hm:=aJn pre.length hx;have ht:BM (j8 pre:Int) 1000=((pre.length % 1000:Nat):Int):=rfl;refine Am (x':=(BM (n+x * ((pre.length % 1000:Nat)+1)) 65521,pre++x::post,((pre++x::post).length:Int),((pre++[x]).length:Int),())) ?_ ?_
  .unfold gD;simp only[show U ((j8 pre:Int)<((pre++x::post).length:Int))=Y from AW J,A2,AR hlen,abB,ht];rw[AZ (n:=x) J J,AZ (n:=((pre.length % 1000:Nat):Int)+1) J J,AZ (n:=x * _) J J,AZ (n:=n+_) J J,hw,@Ax _ pre [x]];rfl
  .have hr:0<=BM (n+x * ((pre.length % 1000:Nat)+1)) 65521/\BM (n+x * ((pre.length % 1000:Nat)+1)) 65521<65521:=by
    rw[Lg J];omega
   have:=ih (pre++[x]) _ (λy hy=>hb y<|Ak x hy) hr.1 hr.2 (by rw[← snoc];exact hl);rw[← snoc]at this;rw[F9];rw[show(pre++[x]).length=pre.length+1 by simp]at this ⊢;exact this
def atb(post:List Int):∀(pre:List Int) (n:Int),BOk post->0<=n->n<65521->(pre++post).length<=1048576->
  dt (pre++post,n,(j8 pre:Int),())=I (.inr (F9 post pre.length n,())):=by
 induction post with
 | nil=>
  intro pre n _ _ _ _;refine BC ?_;unfold gV;simp only[CU,show U ((j8 pre:Int)<(j8 pre:Int))=A0 from BG J,A4];rfl
 | cons x post ih=>
  intro pre n hb h0 h1 hl;have hlen:pre.length<(pre++x::post).length:=by simp
  have hw:=Dh hlen hl;have hx:=hb x As;have hm:=aJn pre.length hx;have ht:BM (j8 pre:Int) 1000=((pre.length % 1000:Nat):Int):=rfl;refine Am (x':=(pre++x::post,BM (n+x * ((pre.length % 1000:Nat)+1)) 65521,((pre++[x]).length:Int),())) ?_ ?_
  .unfold gV;simp only[show U ((j8 pre:Int)<((pre++x::post).length:Int))=Y from AW J,A2,AR hlen,abB,ht];rw[AZ (n:=x) J J,AZ (n:=((pre.length % 1000:Nat):Int)+1) J J,S5 _ x,AZ (n:=x * _) J J,AZ (n:=n+_) J J,hw,@Ax _ pre [x]];rfl
  .have hr:0<=BM (n+x * ((pre.length % 1000:Nat)+1)) 65521/\BM (n+x * ((pre.length % 1000:Nat)+1)) 65521<65521:=by
    rw[Lg J];omega
   have:=ih (pre++[x]) _ (λy hy=>hb y<|Ak x hy) hr.1 hr.2 (by rw[← snoc];exact hl);rw[← snoc]at this;rw[F9];rw[show(pre++[x]).length=pre.length+1 by simp]at this ⊢;exact this
def ak2{l:List Int}(h:BOk l)(hl:l.length<=1048576):Wv (l,())=I ((F9 l 0 0,()),()):=by
 unfold Wv;have h1:eG (0,l,(j8 l:Int),0,())=I (.inr (F9 l 0 0,())):=auI l [] 0 h J J hl;rw[h1];rfl
def aiz{l:List Int}(h:BOk l)(hl:l.length<=1048576):T5 (l,())=I ((F9 l 0 0,()),()):=by
 unfold T5;have h1:dt (l,0,0,())=I (.inr (F9 l 0 0,())):=atb l [] 0 h J J hl;rw[h1];rfl
abbrev two(n:Int):List Int:=[w8 (w64<|B2 n 256),w8<|BM n 256]
abbrev S9(f:Frame):List Int:=[w8 f.ki,w8 f.src,w8 f.dst,w8 f.fr,w8 f.nu,w8 f.to,w8<|w64<|B2 f.un 256,w8<|BM f.un 256]
def F3(f:Frame):List Int:=if U (f.ki=1) then(S9 f++[w8 f.sz,w8<|w64<|B2 f.mix 256,w8<|BM f.mix 256])++BD f.da else S9 f
def Ci(f:Frame):List Int:=if C2 f then F3 f++two (F9 (F3 f) 0 0) else []
def lF{l:List Int}(n:Int)(hl:l.length<=1048576):Oc (l,n,())=I ((l++two n,()),()):=by
 unfold Oc;rw[A5<|BE aJL]
def aL(f:Frame):BOk (F3 f):=by
 unfold F3;split
 .exact BOk.app (.cons _<|.cons _<|.cons _<|.cons _<|.cons _<|.cons _<|.cons _<|.cons _<|.cons _<|.cons _<|.cons _ .nil) (BOk.str _)
 .exact .cons _<|.cons _<|.cons _<|.cons _<|.cons _<|.cons _<|.cons _<|.cons _ .nil
def rC{f:Frame}(h:C2 f=Y)(hk:U (f.ki=1)=Y):f.da.size=4:=by
 unfold C2 JX at h;simp only[AD]at h;have h:=h.2.2.2.2.2.2;rw[A5 hk]at h;simp only[AD]at h;have:=BV h.2.2.1;omega
def ZB{f:Frame}(h:C2 f=Y):(F3 f).length<=15:=by
 unfold F3;split
 .rename_i hk;have:=rC h hk;simp[Tu,Az];omega
 .simp
def zk(f:Frame):QI (tF f,())=I ((Ci f,()),()):=by
 unfold QI Ci;simp only[aCD,A6];obtain e|e:=tf (C2 f)
 .simp only[e,AB,A4,A2];have hl:=ZB e;have hj:∀ {X Ω:Type} (g:X->Option Ω) (y:X),BU g (I<|.inr y)=g y:=λ_ _=>rfl;have hs:=ak2 (aL f) J;have key:∀l,l=F3 f->((Wv (l,())).bind λr4=>if Ac (l.length+(two r4.1.1).length) then(eS ((l++two r4.1.1),())).bind λr5=>I (r5.1,()) else G)=I ((F3 f++two (F9 (F3 f) 0 0),()),()):=by
   rintro l rfl;simp only[hs,A6];rw[A5<|BE aJL,aeT aJL];rfl
  obtain e1|e1:=tf (U<|f.ki=1)
  .have hd:=rC e e1;have hb:F3 f=(S9 f++[w8 f.sz,w8<|w64<|B2 f.mix 256,w8<|BM f.mix 256])++BD f.da:=by unfold F3;rw[A5 e1]
   rw[A5 e1,A5<|BE aJO,A5<|BE (by simp[Tu,Az];omega),hj];exact key _ hb.symm
  .have hb:F3 f=S9 f:=by unfold F3;rw[e1,A4]
   rw[A9 (by rw[e1];exact CY),hj];exact key _ hb.symm
 .simp only[e,AH,A2,A4]
def zO(f:Frame):QO (tF f,())=I ((Ci f,()),()):=by
 unfold QO Ci;simp only[aB1,A6];obtain e|e:=tf (C2 f)
 .simp only[e,AB,A4,A2];have hl:=ZB e;have hs:=aiz (aL f) J;have key:∀l,l=F3 f->((T5 (l,())).bind λr6=>(Oc (l,r6.1)).bind λr7=>I (r7.1,()))=I ((F3 f++two (F9 (F3 f) 0 0),()),()):=by
   rintro l rfl;simp only[hs,A6];rw[lF _ J];rfl
  rw[A5<|by rfl,lF _ aJO];simp only[A6];obtain e1|e1:=tf (U<|f.ki=1)
  .have hd:=rC e e1;have hb:F3 f=(S9 f++[w8 f.sz,w8<|w64<|B2 f.mix 256,w8<|BM f.mix 256])++BD f.da:=by unfold F3;rw[A5 e1]
   rw[A5 e1,A5<|by rfl,lF _ aJO];simp only[A6];rw[A5<|BE J,A5<|BE (by simp[Tu,Az];omega)];exact key _ (by rw[hb];rfl)
  .have hb:F3 f=S9 f:=by unfold F3;rw[e1,A4]
   rw[A9 (by rw[e1];exact CY)];exact key _ (by rw[hb];rfl)
 .simp only[e,AH,A2,A4]
abbrev zF:Frame:=⟨0,0,0,0,0,0,0,0,0,noB⟩
abbrev r8(b:List Int)(i:Int):Int:= @rd Int aJW b i
def Fv(b:List Int):Frame:=
 if U ((j8 b:Int)=17) then⟨r8 b 0,r8 b 1,r8 b 2,r8 b 3,r8 b 4,r8 b 5,256 * r8 b 6+r8 b 7,r8 b 8,256 * r8 b 9+r8 b 10,BI<|Bt 11<|BQ 15 b⟩
 else⟨r8 b 0,r8 b 1,r8 b 2,r8 b 3,r8 b 4,r8 b 5,256 * r8 b 6+r8 b 7,0,0,noB⟩
def D0(b:List Int):Frame×Bool:=
 if U ((j8 b:Int)=10)||decide ((j8 b:Int)=17) then(if U (BI (Ci<|Fv b)=BI b) then(Fv b,Y) else(zF,A0)) else(zF,A0)
def abN{b:List Int}(h:BOk b)(i:Int):w64 (r8 b i)=r8 b i:=by
 have:0<=r8 b i/\r8 b i<=255:=h.rd i;exact AZ J J
def aaU{b:List Int}(h:BOk b)(i j:Int):w64 (w64 (256 * r8 b i)+r8 b j)=256 * r8 b i+r8 b j:=by
 have h1:0<=r8 b i/\r8 b i<=255:=h.rd i;have h2:0<=r8 b j/\r8 b j<=255:=h.rd j;rw[AZ (n:=256 * r8 b i) J J,AZ J J]
def xe{b:List Int}(h:BOk b):fF (b,())=I ((tF (D0 b).1,(D0 b).2,()),()):=by
 unfold fF D0;by_cases h1:b.length=10\/b.length=17
 .have hn:10<=b.length:=J
  have hI:∀i:Int,(0<=i/\i<10)->inb i b.length=Y:=λi hi=>by simp[inb];omega
  rw[A9 aJL];dsimp only;rw[A5<|hI 0 J,A5<|hI 1 J,A5<|hI 2 J,A5<|hI 3 J,A5<|hI 4 J,A5<|hI 5 J,A5<|hI 6 J,A5<|hI 7 J];rw[A5 (show(U ((j8 b:Int)=10)||decide ((j8 b:Int)=17))=Y by simp;omega)];simp only[abN h,aaU h];have fin:∀f:Frame,Fv b=f->((QI (tF f,())).bind λr16=>if(!decide ((BI r16.1.1)=(BI b))) then I ((tF zF,A0,()),()) else I ((tF f,Y,()),()))=
    I ((tF (if U (BI (Ci<|Fv b)=BI b) then(Fv b,Y) else(zF,A0)).1,(if U (BI (Ci<|Fv b)=BI b) then(Fv b,Y) else(zF,A0)).2,()),()):=by
   rintro f rfl;simp only[zk,A6];obtain e|e:=tf (U<|BI (Ci<|Fv b)=BI b)<;>simp only[e,AB,AH,A2,A4]
  obtain e|e:=tf (U<|(j8 b:Int)=17)
  .have e17:b.length=17:=by have:=BV e;omega
   have hJ:∀i:Int,(0<=i/\i<17)->inb i b.length=Y:=λi hi=>by simp[inb];omega
   rw[A5 e,A5<|hJ 8 J,A5<|hJ 9 J,A5<|hJ 10 J,A5 aJL,Bh];refine fin ⟨r8 b 0,r8 b 1,r8 b 2,r8 b 3,r8 b 4,r8 b 5,256 * r8 b 6+r8 b 7,r8 b 8,256 * r8 b 9+r8 b 10,BI<|Bt 11<|BQ 15 b⟩ ?_;unfold Fv;rw[A5 e]
  .rw[A9 (by rw[e];exact CY),Bh];refine fin ⟨r8 b 0,r8 b 1,r8 b 2,r8 b 3,r8 b 4,r8 b 5,256 * r8 b 6+r8 b 7,0,0,noB⟩ ?_;unfold Fv;rw[A9 (by rw[e];exact CY)]
 .rw[A5 aJL,A9 aJL]
def aet{b:List Int}(h:BOk b):eO (b,())=I ((tF (D0 b).1,(D0 b).2,()),()):=by
 unfold eO D0;by_cases h1:b.length=10\/b.length=17
 .have hn:10<=b.length:=J
  have hI:∀i:Int,(0<=i/\i<10)->inb i b.length=Y:=λi hi=>by simp[inb];omega
  rw[A9 aJL];dsimp only;rw[A5<|hI 0 J,A5<|hI 1 J,A5<|hI 2 J,A5<|hI 3 J,A5<|hI 4 J,A5<|hI 5 J,A5<|hI 6 J,A5<|hI 7 J];rw[A5 (show(U ((j8 b:Int)=10)||decide ((j8 b:Int)=17))=Y by simp;omega)];simp only[abN h,S5 _ 256,aaU h];have fin:∀f:Frame,Fv b=f->((QO (tF f,())).bind λr16=>if(!decide ((BI r16.1.1)=(BI b))) then I ((tF zF,A0,()),()) else I ((tF f,Y,()),()))=
    I ((tF (if U (BI (Ci<|Fv b)=BI b) then(Fv b,Y) else(zF,A0)).1,(if U (BI (Ci<|Fv b)=BI b) then(Fv b,Y) else(zF,A0)).2,()),()):=by
   rintro f rfl;simp only[zO,A6];obtain e|e:=tf (U<|BI (Ci<|Fv b)=BI b)<;>simp only[e,AB,AH,A2,A4]
  obtain e|e:=tf (U<|(j8 b:Int)=17)
  .have e17:b.length=17:=by have:=BV e;omega
   have hJ:∀i:Int,(0<=i/\i<17)->inb i b.length=Y:=λi hi=>by simp[inb];omega
   rw[A5<|AW J,A5<|hJ 8 J,A5<|hJ 9 J,A5<|hJ 10 J,A5 aJL,Bh];refine fin ⟨r8 b 0,r8 b 1,r8 b 2,r8 b 3,r8 b 4,r8 b 5,256 * r8 b 6+r8 b 7,r8 b 8,256 * r8 b 9+r8 b 10,BI<|Bt 11<|BQ 15 b⟩ ?_;unfold Fv;rw[A5 e]
  .have e17:b.length≠17:=by have:=J3 e;omega
   rw[A9 aJL,Bh];refine fin ⟨r8 b 0,r8 b 1,r8 b 2,r8 b 3,r8 b 4,r8 b 5,256 * r8 b 6+r8 b 7,0,0,noB⟩ ?_;unfold Fv;rw[A9 (by rw[e];exact CY)]
 .rw[A5 aJL,A9 aJL]
def arC{b:List Int}(h:(D0 b).2=Y):C2 (D0 b).1=Y:=by
 unfold D0 at h ⊢;split
 .rename_i h1;rw[A5 h1]at h;split
  .rename_i h2;have h2:=BV h2;unfold Ci at h2;split at h2
   .assumption
   .have h3:(BI b).size=b.length:=by simp[BI,ByteArray.size]
    have h4:(BI ([]:List Int)).size=0:=rfl;rw[← h2,h4]at h3;rw[← h3]at h1;cases h1
  .rename_i h2;rw[A9 h2]at h;cases h
 .rename_i h1;rw[A9 h1]at h;cases h
def P3{n:Int}(h0:0<=n)(k:Nat)(hk:1<=k)(h:n<(10 ^ k:Nat)):(BZ n).size<=k:=by
 show(B7 n).length<=k;exact MG h0 k hk h
def aDE{r:A1}(hr:r.size<=1048576):Qe (r,())=I ((D7 r,()),()):=by
 have hd:=P3 (n:=(r.size:Int)) J 7 J J;unfold Qe;simp only[JU (n:=(r.size:Int)) J J,A6];rw[A5<|AW (by rw[BS];simp;omega),A5<|AW (by rw[C3,BS];simp;omega),A5<|AW (by rw[C3,C3,BS,BS];simp;omega)];rfl
def aCX{r:A1}(hr:r.size<=1048576):Qc (r,())=I ((D7 r,()),()):=by
 have hd:=P3 (n:=(r.size:Int)) J 7 J J;unfold Qc;simp only[G5 (n:=(r.size:Int)) J J,A6];rw[A5<|AW (by rw[BS];simp;omega),A5<|AW (by rw[C3,BS];simp;omega),A5<|AW (by rw[C3,C3,BS,BS];simp;omega)];rfl
def ZX{r:A1}(hr:r.size<=1048576):(D7 r).size<=r.size+9:=by
 have hd:=P3 (n:=(r.size:Int)) J 7 J J;unfold D7;simp only[C3,BS];simp;omega
def rOk(r:A1):Bool:=inB r.size 1 60
def mE(r:A1):YI (r,())=I ((rOk r,()),()):=rfl
def mI(r:A1):ga (r,())=I ((rOk r,()),()):=rfl
def Jh(lg:A1)(fo:Int)(r:A1):(A1×Int)×Bool:=
 if DM lg fo then(if rOk r&&U (lg.size+(D7 r).size<=2400) then((lg++D7 r,fo),Y) else((lg,fo),A0)) else((noB,0),A0)
def aJx{lg st:A1}{fo:Int}(b:Bool)(hl:lg.size<=1048576)(hs:st.size<=1048585):
  (if((!b)||(U<|2400<(w64<|(lg.size:Int)+(st.size:Int)))) then I (((lg,fo,()),A0,()),()) else(if U (lg.size+st.size<=4611686018427387904) then I (((lg++st,fo,()),Y,()),()) else G))=
   I ((((if b&&U (lg.size+st.size<=2400) then((lg++st,fo),Y) else((lg,fo),A0)).1.1,(if b&&U (lg.size+st.size<=2400) then((lg++st,fo),Y) else((lg,fo),A0)).1.2,()),(if b&&U (lg.size+st.size<=2400) then((lg++st,fo),Y) else((lg,fo),A0)).2,()),()):=by
 rw[AZ J J];cases b
 .rfl
 .by_cases h:lg.size+st.size<=2400
  .rw[A9 aJL,A5<|AW J,A5 aJL]
  .rw[A5 aJL,A9 aJL]
def aAS{lg r:A1}{fo:Int}(hl:lg.size<=1048576)(hr:r.size<=1048576):
  Sv ((lg,fo,()),r,())=I ((((Jh lg fo r).1.1,(Jh lg fo r).1.2,()),(Jh lg fo r).2,()),()):=by
 unfold Sv Jh;simp only[XH hl,A6];obtain e|e:=tf (DM lg fo)
 .simp only[e,AB,A4,A2,mE,aDE hr,A6,D6,Cy,FY];exact aJx (rOk r) hl (by have:=ZX hr;omega)
 .simp only[e,AH,A4,A2]
def aAb{lg r:A1}{fo:Int}(hl:lg.size<=1048576)(hr:r.size<=1048576):
  Sy ((lg,fo,()),r,())=I ((((Jh lg fo r).1.1,(Jh lg fo r).1.2,()),(Jh lg fo r).2,()),()):=by
 unfold Sy Jh;simp only[XP hl,A6];obtain e|e:=tf (DM lg fo)
 .simp only[e,AB,A4,A2,mI,aCX hr,A6,D6,Cy,FY];exact aJx (rOk r) hl (by have:=ZX hr;omega)
 .simp only[e,AH,A4,A2]
def KP(lg:A1)(fo:Int):A1×Int:=if DM lg fo then(lg,(lg.size:Int)) else(noB,0)
def ag2{lg:A1}{fo:Int}(hl:lg.size<=1048576):fO ((lg,fo,()),())=I ((((KP lg fo).1,(KP lg fo).2,()),()),()):=by
 unfold fO KP;simp only[XH hl,A6];obtain e|e:=tf (DM lg fo)<;>simp only[e,AB,AH,A4,A2]
def vR{lg:A1}{fo:Int}(hl:lg.size<=1048576):QF ((lg,fo,()),())=I ((((KP lg fo).1,(KP lg fo).2,()),()),()):=by
 unfold QF KP;simp only[XP hl,A6];obtain e|e:=tf (DM lg fo)<;>simp only[e,AB,AH,A4,A2]
def TT{lg:A1}{fo:Int}(h:DM lg fo=Y):lg.size<=2400/\0<=fo/\fo<=lg.size:=by
 unfold DM at h;simp only[AD]at h;have h1:=BV h.1;have h2:=Aa.1 h.2.1;omega
def Eg(lg:A1)(fo keep:Int):Nat:=(fo+max 0 (min keep<|(lg.size:Int) - fo)).toNat
def Mj(lg:A1)(fo keep:Int):A1×Int:=
 if DM lg fo then((lg.extract 0<|Eg lg fo keep).extract 0 (DC<|lg.extract 0<|Eg lg fo keep).2,((DC<|lg.extract 0<|Eg lg fo keep).2:Int)) else(noB,0)
def ay5{lg:A1}{fo keep:Int}(h0:0<=fo)(h1:fo<=lg.size)(h2:lg.size<=2400):
  w64 (fo+(if 0<(if w64 ((lg.size:Int) - fo)<keep then w64 ((lg.size:Int) - fo) else keep) then(if w64 ((lg.size:Int) - fo)<keep then w64 ((lg.size:Int) - fo) else keep) else 0))=(Eg lg fo keep:Int)/\Eg lg fo keep<=lg.size:=by
 rw[AZ (n:=(lg.size:Int) - fo) J J];unfold Eg;by_cases h3:(lg.size:Int) - fo<keep
 .rw[A5 h3];by_cases h4:(0:Int)<(lg.size:Int) - fo
  .rw[A5 h4,AZ J J];omega
  .rw[A9 h4,AZ J J];omega
 .rw[A9 h3];by_cases h4:(0:Int)<keep
  .rw[A5 h4,AZ J J];omega
  .rw[A9 h4,AZ J J];omega
def ahe{lg:A1}{fo keep:Int}(hl:lg.size<=1048576):fp ((lg,fo,()),keep,())=I ((((Mj lg fo keep).1,(Mj lg fo keep).2,()),()),()):=by
 unfold fp Mj;simp only[XH hl,A6];obtain e|e:=tf (DM lg fo)
 .have hr:=TT e;obtain⟨c1,c2⟩:=ay5 (keep:=keep) hr.2.1 hr.2.2 hr.1;simp only[e,AB,A4,A2,c1,BX];have hz:(lg.extract 0<|Eg lg fo keep).size=Eg lg fo keep:=by rw[G7 J];omega
  have hg:=Qk<|lg.extract 0<|Eg lg fo keep;rw[A5 aJL,fl J];simp only[A6,BX];rw[A5 aJL]
 .simp only[e,AH,A4,A2]
def axs{s:A1}{a b:Nat}(h:b<=a)(ha:a<=s.size):s.extract 0 b=(s.extract 0 a).extract 0 b:=by
 apply GD;rw[EI,EI,EI,Js,Js,J6,J6,bF,S3 h]
def ah7{lg:A1}{fo keep:Int}(hl:lg.size<=1048576):gM ((lg,fo,()),keep,())=I ((((Mj lg fo keep).1,(Mj lg fo keep).2,()),()),()):=by
 unfold gM Mj;simp only[XP hl,A6];obtain e|e:=tf (DM lg fo)
 .have hr:=TT e;simp only[e,AB,A4,A2];rw[AZ (n:=(lg.size:Int) - fo) J J];have hz:(lg.extract 0<|Eg lg fo keep).size=Eg lg fo keep:=by rw[G7 (by unfold Eg;omega)];omega
  have hg:=Qk<|lg.extract 0<|Eg lg fo keep;have fin:∀n:Int,n=(Eg lg fo keep:Int)->(if(U (0<=n)&&U (n<=(lg.size:Int))) then(Lz ((lg.extract (0)<|AO n),())).bind λr9=>
    (if(U (0<=r9.1.2.1)&&U (r9.1.2.1<=(lg.size:Int))) then I (((lg.extract (0)<|AO r9.1.2.1,r9.1.2),()),()) else G) else G)=
    I ((((lg.extract 0<|Eg lg fo keep).extract 0 (DC<|lg.extract 0<|Eg lg fo keep).2,((DC<|lg.extract 0<|Eg lg fo keep).2:Int),()),()),()):=by
   rintro n rfl;have hc:Eg lg fo keep<=lg.size:=by unfold Eg;omega
   rw[A5 aJL,BX,Wl J];simp only[A6,BX];rw[A5 aJL,axs (a:=Eg lg fo keep) J hc]
  obtain h3|h3:=tf (U<|(lg.size:Int) - fo<keep)<;>simp only[h3,A2,A4,Bh]
  .have h3:=BV h3;obtain h4|h4:=tf (U<|(0:Int)<(lg.size:Int) - fo)<;>simp only[h4,A2,A4,Bh]
   .have h4:=BV h4;rw[AZ (n:=fo+((lg.size:Int) - fo)) J J];exact fin _ (by unfold Eg;omega)
   .have h4:=J3 h4;exact fin _ (by unfold Eg;omega)
  .have h3:=J3 h3;obtain h4|h4:=tf (U<|0<keep)<;>simp only[h4,A2,A4,Bh]
   .have h4:=BV h4;rw[AZ (n:=fo+keep) J J];exact fin _ (by unfold Eg;omega)
   .have h4:=J3 h4;exact fin _ (by unfold Eg;omega)
 .simp only[e,AH,A4,A2]
def G1(rs:List A1):Bool:=rs.all rOk
def Jb(lg:A1)(fo:Int)(rs:List A1):(A1×Int)×Bool:=
 if DM lg fo then(if G1 rs&&U ((DD rs).size<=2400) then((DD rs,((DD rs).size:Int)),Y) else((lg,fo),A0)) else((noB,0),A0)
def aaT{r:A1}(h:rOk r=Y):1<=r.size/\r.size<=60:=by
 have:=Aa.1 h;omega
def aIN(pre:List A1)(r:A1):B (cat<|pre++[r])=B (cat pre)++D7 r:=by
 apply GD;rw[Gb,L_B,L_B,LI,ID,KE,CU]
abbrev zS:A1×Int×D:=(noB,0,())
def asy{sl:A1×Int×D}(post:List A1):∀(pre:List A1),(pre++post).length<=1048576->(cat pre).length<=69 * pre.length->
  (SY (sl,zS,B<|cat pre,pre++post,((pre++post).length:Int),(j8 pre:Int),())=I (.inl (sl,A0,()))/\(G1 post=A0\/2400<(cat<|pre++post).length))\/
  (SY (sl,zS,B<|cat pre,pre++post,((pre++post).length:Int),(j8 pre:Int),())=I (.inr (sl,zS,B<|cat<|pre++post,()))/\G1 post=Y):=by
 induction post with
 | nil=>
  intro pre _ _;refine Nw ⟨BC ?_,rfl⟩;unfold Sl;simp only[CU,show U ((j8 pre:Int)<(j8 pre:Int))=A0 from BG J,A4]
 | cons r post ih=>
  intro pre hl hc;have hlen:pre.length<(pre++r::post).length:=by simp
  have hw:=Dh hlen hl;have hb:(U<|(j8 pre:Int)<((pre++r::post).length:Int))=Y:=AW J;by_cases h:rOk r=Y/\(cat pre).length<=2400
  .have hz:=aaT h.1;have hs:=ZX (r:=r) J;have N2:Sl (sl,zS,B<|cat pre,pre++r::post,((pre++r::post).length:Int),(j8 pre:Int),())=I (.inl (sl,zS,B<|cat<|pre++[r],(pre++[r])++post,(((pre++[r])++post).length:Int),((pre++[r]).length:Int),())):=by
    unfold Sl;simp only[hb,A2,AR hlen,Nd,mE,A6,h.1,AB,Bl];rw[A9 (by rw[BS];exact λg=>absurd (BV g) J),aDE (r:=r) J];simp only[A6];rw[A5<|AW (by rw[BS];omega),hw,aIN,@Ax _ pre [r],← snoc];rfl
   have hc2:(cat<|pre++[r]).length<=69 * (pre++[r]).length:=by
    rw[LI,ID,KE,CU,Ax,Az,Ax,Jq];omega
   have e:G1 (r::post)=G1 post:=by
    unfold G1;rw[Pb,h.1,AU]
   rw[e];rcases ih (pre++[r]) (by rw[← snoc];exact hl) hc2 with⟨h1,h2⟩|⟨h1,h2⟩
   .rw[← snoc]at h2;exact Ny ⟨Am N2 h1,h2⟩
   .refine Nw ⟨?_,h2⟩;rw[snoc];rw[← snoc]at N2 ⊢;rw[snoc pre r post]at N2 ⊢;exact Am N2 h1
  .refine Ny ⟨BC ?_, ?_⟩
   .unfold Sl;simp only[hb,A2,AR hlen,Nd,mE,A6];rw[A5];obtain e|e:=tf (rOk r)
    .rw[e,AB,Bl];refine AW ?_;rw[BS];have:¬(cat pre).length<=2400:=λg=>h ⟨e,g⟩;omega
    .rw[e];rfl
   .rcases tf (rOk r) with e|e
    .have:¬(cat pre).length<=2400:=λg=>h ⟨e,g⟩;refine Nw ?_;rw[LI,Ax];omega
    .refine Ny ?_;unfold G1;rw[Pb,e,AP]
def atX{sl:A1×Int×D}(post:List A1):∀(pre:List A1),(pre++post).length<=1048576->(cat pre).length<=69 * pre.length->
  dX (pre++post,sl,zS,B<|cat pre,(j8 pre:Int),())=I (if G1 post then .inr (sl,zS,B<|cat<|pre++post,()) else .inl (sl,A0,())):=by
 induction post with
 | nil=>
  intro pre _ _;refine BC ?_;unfold Sg;simp only[CU,show U ((j8 pre:Int)<(j8 pre:Int))=A0 from BG J,A4];rfl
 | cons r post ih=>
  intro pre hl hc;have hlen:pre.length<(pre++r::post).length:=by simp
  have hw:=Dh hlen hl;have hb:(U<|(j8 pre:Int)<((pre++r::post).length:Int))=Y:=AW J;obtain h|h:=tf (rOk r)
  .have hz:=aaT h;have hs:=ZX (r:=r) J;have N2:Sg (pre++r::post,sl,zS,B<|cat pre,(j8 pre:Int),())=I (.inl ((pre++[r])++post,sl,zS,B<|cat<|pre++[r],((pre++[r]).length:Int),())):=by
    unfold Sg;simp only[hb,A2,AR hlen,Nd,mI,A6,h,AB,A4];rw[aCX (r:=r) J];simp only[A6];rw[A5<|AW (by rw[BS];simp at hl;omega),hw,aIN,@Ax _ pre [r],← snoc];rfl
   have hc2:(cat<|pre++[r]).length<=69 * (pre++[r]).length:=by
    rw[LI,ID,KE,CU,Ax,Az,Ax,Jq];omega
   have e:G1 (r::post)=G1 post:=by
    unfold G1;rw[Pb,h,AU]
   rw[e];have:=ih (pre++[r]) (by rw[← snoc];exact hl) hc2;rw[snoc pre r post];rw[snoc pre r post]at N2;exact Am N2 this
  .refine BC ?_;unfold Sg;simp only[hb,A2,AR hlen,Nd,mI,A6,h,AH];rw[A9 (by unfold G1;rw[Pb,h,AP];exact CY)]
def qK{lg:A1}{fo:Int}(rs:List A1)(s:(((A1×Int×D)×Bool×D) ⊕ ((A1×Int×D)×(A1×Int×D)×A1×D)))
  (h:(s= .inl ((lg,fo,()),A0,())/\(G1 rs&&U ((DD rs).size<=2400))=A0)\/(s= .inr ((lg,fo,()),zS,DD rs,())/\G1 rs=Y)):
  AM (I s) (λy28=>I (y28,())) (λy28=>(if(U<|2400<(y28.2.2.1.size:Int)) then I ((y28.1,A0,()),()) else I (((y28.2.2.1,(y28.2.2.1.size:Int),()),Y,()),())))=
   I ((((if G1 rs&&U ((DD rs).size<=2400) then((DD rs,((DD rs).size:Int)),Y) else((lg,fo),A0)).1.1,(if G1 rs&&U ((DD rs).size<=2400) then((DD rs,((DD rs).size:Int)),Y) else((lg,fo),A0)).1.2,()),(if G1 rs&&U ((DD rs).size<=2400) then((DD rs,((DD rs).size:Int)),Y) else((lg,fo),A0)).2,()),()):=by
 obtain⟨rfl,h⟩|⟨rfl,h⟩:=h
 .rw[h];rfl
 .simp only[AM,A6];by_cases h2:(DD rs).size<=2400
  .rw[A9 aJL,h,AW h2];rfl
  .rw[A5<|AW J,h,BG h2];rfl
def aAF{lg:A1}{fo:Int}{rs:List A1}(hl:lg.size<=1048576)(hr:rs.length<=1048576):
  Sq ((lg,fo,()),rs,())=I ((((Jb lg fo rs).1.1,(Jb lg fo rs).1.2,()),(Jb lg fo rs).2,()),()):=by
 unfold Sq Jb;simp only[XH hl,A6];obtain e|e:=tf (DM lg fo)
 .simp only[e,AB,A4,A2];rcases asy (sl:=(lg,fo,())) rs [] hr (by simp[KE]) with⟨h1,h2⟩|⟨h1,h2⟩
  .rw[show SY ((lg,fo,()),(noB,0,()),noB,rs,(j8 rs:Int),0,())=_ from h1];refine qK rs _<|Ny ⟨rfl, ?_⟩;obtain h2|h2:=h2
   .rw[h2];rfl
   .rw[BG,Ba];show ¬(B<|cat rs).size<=2400;rw[BS];exact Nat.not_le.2 h2
  .rw[show SY ((lg,fo,()),(noB,0,()),noB,rs,(j8 rs:Int),0,())=_ from h1];exact qK rs _ (Nw ⟨rfl,h2⟩)
 .simp only[e,AH,A4,A2]
def zA{lg:A1}{fo:Int}{rs:List A1}(hl:lg.size<=1048576)(hr:rs.length<=1048576):
  Sm ((lg,fo,()),rs,())=I ((((Jb lg fo rs).1.1,(Jb lg fo rs).1.2,()),(Jb lg fo rs).2,()),()):=by
 unfold Sm Jb;simp only[XP hl,A6];obtain e|e:=tf (DM lg fo)
 .simp only[e,AB,A4,A2];have h1:=atX (sl:=(lg,fo,())) rs [] hr (by simp[KE]);rw[show dX (rs,(lg,fo,()),(noB,0,()),noB,0,())=_ from h1];refine qK rs _ ?_;obtain h2|h2:=tf (G1 rs)
  .exact Nw ⟨A5 h2,h2⟩
  .exact Ny ⟨A9 (by rw[h2];exact CY),by rw[h2];rfl⟩
 .simp only[e,AH,A4,A2]
def aT{β:Type}(f:A3->β){l:List A3}{i:Nat}(h:i<l.length):(l.take<|i+1).map f=(l.take i).map f++[f (nA l i)]:=by
 rw[NM h,Em,DF<|Ar h];rfl
def aJC{β:Type}(f:Mark->β){l:List Mark}{i:Nat}(h:i<l.length):(l.take<|i+1).map f=(l.take i).map f++[f (mA l i)]:=by
 rw[NM h,Em,Fw<|Ar h];rfl
def G8{α:Type}{l m:List α}(hl:l.length<=1048576)(hm:m.length<=1048576):Ac (l.length+m.length)=Y:=BE J
def cV{n:A3}(h:Ay n=Y):(wr n).size<=4000:=by have:=S8 h;omega
def RA{n:A3}(h:Ay n=Y):n.tx.size<=1048576:=by
 have h2:=S8 h;by_cases hs:n.tx.size<=1048576
 .exact hs
 .exfalso;unfold Ay at h;simp only[AD]at h;have hx:Lk n.tx=Y:=by simp_all
  unfold Lk at hx;rw[AD]at hx;have:=Aa.1 hx.1;omega
def nw{n:A3}(h:Ay n=Y):(if Ay ⟨n.fr,n.nu,n.to,n.un,n.tx⟩ then wr ⟨n.fr,n.nu,n.to,n.un,n.tx⟩ else noB)=wr n:=by
 rw[show(⟨n.fr,n.nu,n.to,n.un,n.tx⟩:A3)=n from rfl,A5 h]
def HY{n:Int}(h0:0<=n)(h1:n<=999):(BZ n).size<=3:=P3 h0 3 J J
def wP{w:A1}{a b c:Int}(hw:w.size<=1048576)(ha:0<=a/\a<=999)(hb:0<=b/\b<=999)(hc:0<=c/\c<=999):QP (w,a,b,c,())=I ((Ca w a b c,()),()):=by
 have h1:=HY ha.1 ha.2;have h2:=HY hb.1 hb.2;have h3:=HY hc.1 hc.2;unfold QP;simp only[JU (n:=a) J J,JU (n:=b) J J,JU (n:=c) J J,A6];rw[A5<|AW (by simp[BS];omega),A5<|AW (by simp[C3,BS];omega),A5<|AW (by simp[C3,BS];omega),A5<|AW (by simp[C3,BS];omega),A5<|AW (by simp[C3,BS];omega),A5<|AW (by simp[C3,BS];omega)];rfl
def Ir{i n:Nat}(h:i<n):U ((i:Int)<(n:Int))=Y:=AW J
def HL(n:Nat):U ((n:Int)<(n:Int))=A0:=BG J
section
variable {k:AE} (hf:Ey k)
include hf
def arV(o:List A1)(ho:o.length<=100):
  eF (tK k,o,k.marks,(j8 k.marks:Int),0,())=I (.inr (tK k,o++k.marks.map λm=>Ca DB m.mf m.mn m.mu,())):=by
 have ml:=hf.ml;refine Kb (congrArg _ ?_) (CE (λi=>(tK k,o++(k.marks.take i).map (λm=>Ca DB m.mf m.mn m.mu),k.marks,(j8 k.marks:Int),(i:Int),())) k.marks.length ?_ ?_)
 .simp
 .intro i hi;have hm:=P6<|Tn hf.m hi;unfold gB;simp only[Ir hi,A2,AR hi,FJ,wP (w:=DB) aJT (J:0<=(mA k.marks i).mf/\(mA k.marks i).mf<=999) (J:0<=(mA k.marks i).mn/\(mA k.marks i).mn<=999) (J:0<=(mA k.marks i).mu/\(mA k.marks i).mu<=999),A6];rw[A5<|G8 aJL aJO,aJC _ hi,Dh hi J,C7]
 .unfold gB;simp only[HL,A4,E6]
def art(o:List A1)(ho:o.length<=200):
  eE (tK k,o,k.held,(j8 k.held:Int),0,())=I (.inr (tK k,o++k.held.map MP,())):=by
 have hl:=hf.hl;refine Kb (congrArg _ ?_) (CE (λi=>(tK k,o++(k.held.take i).map MP,k.held,(j8 k.held:Int),(i:Int),())) k.held.length ?_ ?_)
 .simp
 .intro i hi;have hm:=HK hf.h hi;have hz:=cV hm;unfold gA;simp only[Ir hi,A2,AR hi,Cf,Wc<|RA hm,nw hm,A6];rw[A5<|AW (by rw[BS];simp;omega),A5<|G8 aJL aJO,aT _ hi,Dh hi J,C7];rfl
 .unfold gA;simp only[HL,A4,E6]
def ars(o:List A1)(ho:o.length<=200):
  dj (o,k.inbox,(j8 k.inbox:Int),0,())=I (.inr (o++k.inbox.map NQ,())):=by
 have il:=hf.il;refine Kb (congrArg _ ?_) (CE (λi=>(o++(k.inbox.take i).map NQ,k.inbox,(j8 k.inbox:Int),(i:Int),())) k.inbox.length ?_ ?_)
 .simp
 .intro i hi;have hm:=HK hf.i hi;have hz:=cV hm;unfold fw;simp only[Ir hi,A2,AR hi,Cf,Wc<|RA hm,nw hm,A6];rw[A5<|AW (by rw[BS];simp;omega),A5<|G8 aJL aJO,aT _ hi,Dh hi J,C7];rfl
 .unfold fw;simp only[HL,A4,E6]
def as8(o:List A1)(ho:o.length<=100):
  dr (tK k,o,0,())=I (.inr (tK k,o++k.marks.map λm=>Ca DB m.mf m.mn m.mu,())):=by
 have ml:=hf.ml;refine Kb (congrArg _ ?_) (CE (λi=>(tK k,o++(k.marks.take i).map (λm=>Ca DB m.mf m.mn m.mu),(i:Int),())) k.marks.length ?_ ?_)
 .simp
 .intro i hi;have hm:=P6<|Tn hf.m hi;have h1:=HY (n:=(mA k.marks i).mf) J J;have h2:=HY (n:=(mA k.marks i).mn) J J;have h3:=HY (n:=(mA k.marks i).mu) J J;unfold gU;simp only[Ir hi,A2,AR hi,FJ,G5 (n:=(mA k.marks i).mf) J J,G5 (n:=(mA k.marks i).mn) J J,G5 (n:=(mA k.marks i).mu) J J,A6];rw[A5<|AW (by simp[C3,BS];omega),A5<|AW (by simp[C3,BS];omega),A5<|AW (by simp[C3,BS];omega),A5<|AW (by simp[C3,BS];omega),A5<|AW (by simp[C3,BS];omega)];rw[A5<|G8 aJL aJO,aJC _ hi,Dh hi J,C7];rfl
 .unfold gU;simp only[HL,A4,E6]
def as7(o:List A1)(ho:o.length<=200):
  dq (tK k,o,0,())=I (.inr (tK k,o++k.held.map MP,())):=by
 have hl:=hf.hl;refine Kb (congrArg _ ?_) (CE (λi=>(tK k,o++(k.held.take i).map MP,(i:Int),())) k.held.length ?_ ?_)
 .simp
 .intro i hi;have hm:=HK hf.h hi;have hz:=cV hm;unfold gT;simp only[Ir hi,A2,AR hi,Cf,Wm<|RA hm,nw hm,A6];rw[A5<|AW (by rw[BS];simp;omega),A5<|G8 aJL aJO,aT _ hi,Dh hi J,C7];rfl
 .unfold gT;simp only[HL,A4,E6]
def as6(o:List A1)(ho:o.length<=200):
  dp (tK k,o,0,())=I (.inr (o++k.inbox.map NQ,())):=by
 have il:=hf.il;refine Kb (congrArg _ ?_) (CE (λi=>(tK k,o++(k.inbox.take i).map NQ,(i:Int),())) k.inbox.length ?_ ?_)
 .simp
 .intro i hi;have hm:=HK hf.i hi;have hz:=cV hm;unfold gS;simp only[Ir hi,A2,AR hi,Cf,Wm<|RA hm,nw hm,A6];rw[A5<|AW (by rw[BS];simp;omega),A5<|G8 aJL aJO,aT _ hi,Dh hi J,C7];rfl
 .unfold gS;simp only[HL,A4,E6]
def RD:Dc k.held k.marks k.inbox:=by
 have hl:=hf.hl;have ml:=hf.ml;have il:=hf.il;refine⟨J,λx hx=> ?_,J,J,λx hx=> ?_⟩
 .obtain⟨i,hi,rfl⟩:=Cv hx;have:=HK hf.h hi;rw[DF<|Ar hi]at this;exact RA this
 .obtain⟨i,hi,rfl⟩:=Cv hx;have:=HK hf.i hi;rw[DF<|Ar hi]at this;exact RA this
def apF:(AM (eF (tK k,(if 0<k.ti then [Fu k.ti] else [])++(if 1<k.nx then [LR k.nx] else []),k.marks,(j8 k.marks:Int),0,()))
  (λ_=>G)
  (λy34=>(AM (eE (y34.1,y34.2.1,y34.1.2.2.2.1,(j8 y34.1.2.2.2.1:Int),0,()))
  (λ_=>G)
  (λy72=>(AM (dj (y72.2.1,y72.1.2.2.2.2.2.1,(j8 y72.1.2.2.2.2.2.1:Int),0,()))
  (λ_=>G)
  (λoZ=>(SX oZ).bind λow=>
  I (ow.1,())))))))=I ((CH k,()),()):=by
 have hl:=hf.hl;have ml:=hf.ml;have il:=hf.il;have ho:((if 0<k.ti then [Fu k.ti] else [])++(if 1<k.nx then [LR k.nx] else [])).length<=2:=by
  rw[Ax];split<;>split<;>simp
 rw[arV hf _ J];simp only[AM,A6];rw[art hf _ (by rw[Ax,Df];omega)];simp only[A6];rw[ars hf _ (by rw[Ax,Ax,Df,Df];omega)];simp only[A6];rw[tX (by rw[Ax,Ax,Ax,Df,Df,Df];omega)];rfl
def apH:(AM (dr (tK k,(if 0<k.ti then [Fu k.ti] else [])++(if 1<k.nx then [LR k.nx] else []),0,()))
  (λ_=>G)
  (λy46=>(AM (dq (y46.1,y46.2.1,0,()))
  (λ_=>G)
  (λy54=>(AM (dp (y54.1,y54.2.1,0,()))
  (λ_=>G)
  (λy62=>I (y62,())))))))=I ((CH k,()),()):=by
 have hl:=hf.hl;have ml:=hf.ml;have il:=hf.il;have ho:((if 0<k.ti then [Fu k.ti] else [])++(if 1<k.nx then [LR k.nx] else [])).length<=2:=by
  rw[Ax];split<;>split<;>simp
 rw[as8 hf _ J];simp only[AM,A6];rw[as7 hf _ (by rw[Ax,Df];omega)];simp only[A6];rw[as6 hf _ (by rw[Ax,Ax,Df,Df];omega)];rfl
end
def aAV{k:AE}(sm:Dc k.held k.marks k.inbox):Wu (tK k,())=I ((if Av k then CH k else [],()),()):=by
 unfold Wu;rw[lA sm];simp only[A6];obtain e|e:=tf (Av k)
 .have hf:=Bv e;have t0:=hf.t0;have t1:=hf.t1;have n0:=hf.n0;have n1:=hf.n1;have e2:Av ⟨k.id,k.ti,k.nx,k.held,k.marks,k.inbox⟩=Y:=e;have d1:=HY t0 J;have d2:=HY (n:=k.nx) J J;have fin:=apF hf;simp only[e,e2,AB,A4,A2,JU (n:=k.ti) J J,JU (n:=k.nx) J J,A6];have h5:U ((B [116,105,109,101,32]).size+(BZ k.ti).size<=4611686018427387904)=Y:=AW (by rw[BS];simp;omega);have h6:U ((B [110,101,120,116,32]).size+(BZ k.nx).size<=4611686018427387904)=Y:=AW (by rw[BS];simp;omega);have q1:∀a:A1,Ac ([a]:List A1).length=Y:=λ_=>rfl;have q2:∀a b:A1,Ac (([a]:List A1).length+([b]:List A1).length)=Y:=λ_ _=>rfl;have q3:∀b:A1,Ac (([]:List A1).length+([b]:List A1).length)=Y:=λ_=>rfl;have q4:∀a b:A1,Ac ((([]:List A1)++[a]).length+([b]:List A1).length)=Y:=λ_ _=>rfl;by_cases h1:0<k.ti<;>by_cases h2:1<k.nx<;>simp only[h1,h2,AX,Ad,A2,A4,if_false]at fin ⊢ <;>simp only[Bh,h2,AX,Ad,A2,A4,h5,h6,q1,q2,q3,q4,JU (n:=k.nx) J J,G5 (n:=k.nx) J J,A6]<;>exact fin
 .have e2:Av ⟨k.id,k.ti,k.nx,k.held,k.marks,k.inbox⟩=A0:=e;simp only[e,e2,AH,A4,A2]
def aAg{k:AE}(sm:Dc k.held k.marks k.inbox):X4 (tK k,())=I ((if Av k then CH k else [],()),()):=by
 unfold X4;rw[lI sm];simp only[A6];obtain e|e:=tf (Av k)
 .have hf:=Bv e;have t0:=hf.t0;have t1:=hf.t1;have n0:=hf.n0;have n1:=hf.n1;have e2:Av ⟨k.id,k.ti,k.nx,k.held,k.marks,k.inbox⟩=Y:=e;have d1:=HY t0 J;have d2:=HY (n:=k.nx) J J;have fin:=apH hf;simp only[e,e2,AB,A4,A2,G5 (n:=k.ti) J J,G5 (n:=k.nx) J J,A6];have h5:U ((B [116,105,109,101,32]).size+(BZ k.ti).size<=4611686018427387904)=Y:=AW (by rw[BS];simp;omega);have h6:U ((B [110,101,120,116,32]).size+(BZ k.nx).size<=4611686018427387904)=Y:=AW (by rw[BS];simp;omega);have q1:∀a:A1,Ac ([a]:List A1).length=Y:=λ_=>rfl;have q2:∀a b:A1,Ac (([a]:List A1).length+([b]:List A1).length)=Y:=λ_ _=>rfl;have q3:∀b:A1,Ac (([]:List A1).length+([b]:List A1).length)=Y:=λ_=>rfl;have q4:∀a b:A1,Ac ((([]:List A1)++[a]).length+([b]:List A1).length)=Y:=λ_ _=>rfl;by_cases h1:0<k.ti<;>by_cases h2:1<k.nx<;>simp only[h1,h2,AX,Ad,A2,A4,if_false]at fin ⊢ <;>simp only[Bh,h2,AX,Ad,A2,A4,h5,h6,q1,q2,q3,q4,JU (n:=k.nx) J J,G5 (n:=k.nx) J J,A6]<;>exact fin
 .have e2:Av ⟨k.id,k.ti,k.nx,k.held,k.marks,k.inbox⟩=A0:=e;simp only[e,e2,AH,A4,A2]
end Go.VS
namespace Go.VS
open Go
def aaP{l:List AT}{m:AT}(h:m∈l):∃i,i<l.length/\xA l i=m:=by
 obtain⟨i,hi,rfl⟩:=pK.1 h;exact⟨i,hi,by rw[xA,BA,Ar hi];rfl⟩
def PW{l:List AG}{m:AG}(h:m∈l):∃i,i<l.length/\hA l i=m:=by
 obtain⟨i,hi,rfl⟩:=pK.1 h;exact⟨i,hi,by rw[hA,BA,Ar hi];rfl⟩
def awk{h:AG}(ok:GB h=Y):PT h:=by
 unfold GB at ok;simp only[AD]at ok;have h1:=BV ok.2.2.2.2.2.1;have h2:=CC.1 ok.2.2.2.2.2.2;refine⟨J,λm hm=> ?_⟩;obtain⟨i,hi,rfl⟩:=aaP hm;have:=h2 i hi;unfold IP at this;simp only[AD]at this;have:=BV this.1.2;show(xA h.got i).da.size<=1048576;omega
def DE{k:A7}(h:Ag k=Y):FZ k:=by
 have hf:=Dq h;have hr:=TT hf.sh;have hl:=hf.hl;refine⟨J,J,λx hx=> ?_⟩;obtain⟨i,hi,rfl⟩:=PW hx;have:=hf.hv i hi;unfold G0 at this;rw[AD]at this;exact awk this.1
def aeW{l:List AG}(hl:l.length<=1048576):uh (l,())=I ((l,()),()):=MM hl
def adf{l:List AT}(hl:l.length<=1048576):uO (l,())=I ((l,()),()):=MM hl
def Me(l:List AG)(i:Nat): @rd AG aJP l (i:Int)=hA l i:=rfl
def IN{l:List AG}{i:Nat}(h:i<l.length):hA l i=l[i]:=by
 rw[hA,BA,Ar h];rfl
def LB{k:A7}(sm:FZ k):I9 (tKp k,())=I ((tKp k,()),()):=by
 obtain⟨id,up,lg,fo,hv⟩:=k;obtain⟨sl,hl,hs⟩:=sm;simp only at sl hl hs;unfold I9;simp only[aeW hl,A6];have h:tG ((0,A0,noB,0,[],()),(id,up,lg,fo,hv,()),(j8 hv:Int),0,())=I (.inr ((0,A0,noB,0,[],()),(id,up,lg,fo,hv,()),())):=by
  refine CE (λi=>((0,A0,noB,0,[],()),(id,up,lg,fo,hv,()),(j8 hv:Int),(i:Int),())) hv.length ?_ ?_
  .intro i hi;unfold eQ;have hg:(hA hv i).got.length<=1048576:=by rw[IN hi];exact(hs _<|CS hi).1
   simp only[Ir hi,A2,AR hi,Me,adf hg,A6,BX];rw[Dh hi hl,show(⟨(hA hv i).fr,(hA hv i).nu,(hA hv i).to,(hA hv i).un,(hA hv i).sz,(hA hv i).got⟩:AG)=hA hv i from rfl,IN hi,List.set_getElem_self]
  .unfold eQ;simp only[HL,A4]
 rw[h];rfl
def ND{k:A7}(sm:FZ k):HH (tKp k,())=I ((tKp k,()),()):=by
 obtain⟨id,up,lg,fo,hv⟩:=k;obtain⟨sl,hl,hs⟩:=sm;simp only at sl hl hs;unfold HH;have h:uj ((id,up,lg,fo,hv,()),(0,A0,noB,0,[],()),[],0,())=I (.inr ((id,up,lg,fo,hv,()),(0,A0,noB,0,[],()),hv,())):=by
  refine CE (λi=>((id,up,lg,fo,hv,()),(0,A0,noB,0,[],()),hv.take i,(i:Int),())) hv.length ?_ ?_
  .intro i hi;unfold iH;have hg:(hA hv i).got.length<=1048576:=by rw[IN hi];exact(hs _<|CS hi).1
   have e1:Ac (([]:List AT).length+(hA hv i).got.length)=Y:=G8 aJO hg;have e2:∀h:AG,Ac ((hv.take i).length+([h]:List AG).length)=Y:=λh=>G8 aJL aJO;simp only[Ir hi,A2,AR hi,Me,El,e1,e2];rw[Dh hi hl,NM hi,← IN hi]
  .unfold iH;simp only[HL,A4,E6]
 rw[h];rfl
structure I5 (k:A7) (st:AE):Prop where
 sh:DM k.log k.fo=Y
 st:DU k.id k.log=I st
def DL.Ls{k:A7}{st:AE}(h:DL k st):I5 k st:=⟨(Dq h.ok).sh,h.st⟩
def I5.kok{k:A7}{st:AE}(h:I5 k st):Av st=Y:=Qr h.st
def I5.sz{k:A7}{st:AE}(h:I5 k st):k.log.size<=1048576:=by have:=TT h.sh;omega
def I5.stT{k:A7}{st:AE}(h:I5 k st):Go.VS.stT k=st:=by
 unfold Go.VS.stT;rw[h.st];rfl
def R4{k:AE}(hk:Av k=Y):(DD<|CH k).size<=800:=by
 have:=(YA hk).2;unfold DD;rw[BS];exact this
def Zt{k:AE}(hk:Av k=Y):(CH k).length<=1048576:=by
 have hf:=Bv hk;have h1:=hf.hl;have h2:=hf.ml;have h3:=hf.il;unfold CH;simp only[Ax,Df];have a2:(if 0<k.ti then [Fu k.ti] else []).length<=1:=by split<;>simp
 have b2:(if 1<k.nx then [LR k.nx] else []).length<=1:=by split<;>simp
 omega
def UE{k:A7}{st o:AE}{r:A1}(h:I5 k st)(hr:BK st r=I o):
  DM (DA st k.log k.fo r).1 (DA st k.log k.fo r).2=Y/\
  (Jh k.log k.fo r=(DA st k.log k.fo r,Y)\/
   (Jh k.log k.fo r=((k.log,k.fo),A0)/\Jb k.log k.fo (CH st)=((DD<|CH st,((DD<|CH st).size:Int)),Y)/\
    Jh (DD<|CH st) ((DD<|CH st).size:Int) r=(DA st k.log k.fo r,Y))):=by
 have hz:=qF h.kok hr;have hrk:rOk r=Y:=Aa.2 J;have hrs:=YA h.kok;have hps:=R4 h.kok;have hpo:=(R9 h.kok).sZ;have hst:=NN hz.2;obtain⟨rs,ts,hl⟩:=abH h.sh;obtain⟨rs',ts',hl',_⟩:=aIq (id:=k.id) (k:=st) hl (by rw[← hl.state];exact h.st) hr;refine⟨hl'.sZ, ?_⟩;unfold DA Jh;rw[A5 h.sh,hrk,AU];by_cases hc:k.log.size+(D7 r).size<=2400
 .rw[A5 hc,A5<|AW hc];exact .inl rfl
 .rw[A9 hc,A9 (by rw[BG hc];exact CY)];refine .inr ⟨rfl, ?_, ?_⟩
  .unfold Jb;rw[A5 h.sh,A5];rw[AD];refine⟨?_,AW J⟩;unfold G1;rw[CZ];exact λx hx=>by
    have:=hrs.1 x hx;exact Aa.2 J
  .rw[A5 hpo,AU,A5<|AW J]
def wrR(k:A7)(r:A1)(f:Bool):A7×Bool:=
 match BK (stT k) r with
 | none=>(k,A0)
 | some _=>(if f then foM (wrM k r) else wrM k r,Y)
def aGW{k:AE}{r:A1}:(Fg k r).2=(BK k r).isSome:=by
 unfold BK;obtain e|e:=tf (Fg k r).2<;>rw[e]<;>rfl
def apN{k:AE}(hk:Av k=Y){r:A1}(hr:r.size<=1048576):TF (tK k,r,())=I ((tK (Fg k r).1,(Fg k r).2,()),()):=aD7 (RD<|Bv hk) hr
def aoq{k:AE}(hk:Av k=Y){r:A1}(hr:r.size<=1048576):TM (tK k,r,())=I ((tK (Fg k r).1,(Fg k r).2,()),()):=aDL (RD<|Bv hk) hr
def ayd{k:A7}{st o:AE}{r:A1}(h:I5 k st)(hr:BK st r=I o):KP (DA st k.log k.fo r).1 (DA st k.log k.fo r).2=((DA st k.log k.fo r).1,((DA st k.log k.fo r).1.size:Int)):=by
 unfold KP;rw[A5 (UE h hr).1]
def Wz{k:A7}{st:AE}(h:I5 k st){r:A1}(hr:r.size<=1048576)(f:Bool):L9 (tKp k,r,f,())=I ((tKp (wrR k r f).1,(wrR k r f).2,()),()):=by
 have hs:=h.sz;have hk:=h.kok;have hsm:=RD<|Bv hk;have hrl:=Zt hk;have hpz:=R4 hk;unfold L9 wrR;rw[h.stT];rw[show GO (tKp k,())=I ((tK<|(DU k.id k.log).getD zK,(DU k.id k.log).isSome,()),()) from nE hs];rw[h.st];simp only[A6,Cy,apN hk hr,aGW];cases hc:BK st r with
 | none=>rfl
 | some o=>
  have hL:=ayd h hc;have hwr:wrM k r=⟨k.id,k.up,(DA st k.log k.fo r).1,(DA st k.log k.fo r).2,k.AJ⟩:=by unfold wrM;rw[h.stT]
  have hsz:(DA st k.log k.fo r).1.size<=1048576:=by have:=TT (UE h hc).1;omega
  have hF:=vR (lg:=(DA st k.log k.fo r).1) (fo:=(DA st k.log k.fo r).2) hsz;rw[hL]at hF;simp only[D6,AB,A4,aAb hs hr,A6];have fin:BU (X:=Bool×(Int×Bool×A1×Int×List AG×D)×(Int×Bool×A1×Int×List AG×D)×(A1×Int×D)×Bool×D) (λj7=>
    (if(!j7.2.2.2.2.1) then
    I ((j7.2.1,A0,()),())
    else
    (if j7.1 then
    (QF (j7.2.2.2.1,())).bind λr12=>
    I (((j7.2.1.1,j7.2.1.2.1,r12.1.1.1,r12.1.1.2.1,j7.2.1.2.2.2.2),Y,()),())
    else
    I (((j7.2.1.1,j7.2.1.2.1,j7.2.2.2.1.1,j7.2.2.2.1.2.1,j7.2.1.2.2.2.2),Y,()),())))) (I<|.inr (f,tKp k,(0,A0,noB,0,[],()),((DA st k.log k.fo r).1,(DA st k.log k.fo r).2,()),Y,()))=
    I ((tKp<|if f then foM (wrM k r) else wrM k r,Y,()),()):=by
   rw[Bh,hwr];cases f
   .rfl
   .simp only[AB,A4,A2,hF,A6];rfl
  rcases(UE h hc).2 with ha|⟨ha,hb,hd⟩
  .rw[ha];simp only[AB,A4];exact fin
  .rw[ha];simp only[AH,A2,aAg hsm,hk,A6];rw[show Sm ((k.log,k.fo,()),CH st,())=_ from zA hs hrl,hb];simp only[A6];rw[show Sy ((DD<|CH st,((DD<|CH st).size:Int),()),r,())=_ from aAb J hr,hd];simp only[A6];exact fin
def YW{k:A7}{st:AE}(h:I5 k st){r:A1}(hr:r.size<=1048576):Oj (tKp k,r,())=I ((tKp (wrR k r A0).1,(wrR k r A0).2,()),()):=by
 have hs:=h.sz;have hk:=h.kok;have hsm:=RD<|Bv hk;have hrl:=Zt hk;have hpz:=R4 hk;unfold Oj wrR;rw[h.stT];simp only[QY hs,h.st,A6,Cy,aoq hk hr,aGW];cases hc:BK st r with
 | none=>rfl
 | some o=>
  have hwr:wrM k r=⟨k.id,k.up,(DA st k.log k.fo r).1,(DA st k.log k.fo r).2,k.AJ⟩:=by unfold wrM;rw[h.stT]
  simp only[D6,AB,A4,aAS hs hr,A6];rcases(UE h hc).2 with ha|⟨ha,hb,hd⟩
  .rw[ha];simp only[AB,A4,Bh,hwr]
  .rw[ha];simp only[AH,A2,aAV hsm,hk,A6];rw[show Sq ((k.log,k.fo,()),CH st,())=_ from aAF hs hrl,hb];simp only[A6,AB,A4];rw[show Sv ((DD<|CH st,((DD<|CH st).size:Int),()),r,())=_ from aAS J hr,hd];simp only[A6,Bh,AB,A4,hwr]
def jT{k:A7}(h:DM k.log k.fo=Y):Of (tKp k,())=I ((tKp<|foM k,()),()):=by
 have hs:k.log.size<=1048576:=by have:=TT h;omega
 unfold Of;simp only[ag2 hs,A6];unfold KP;rw[A5 h];rfl
def aaJ{k:A7}{st o:AE}{r:A1}(h:I5 k st)(hr:BK st r=I o):DM (wrM k r).log (wrM k r).fo=Y:=by
 have:=(UE h hr).1;unfold wrM;rw[h.stT];exact this
def iw{k:A7}{st:AE}(h:DL k st){r:A1}(hr:r.size<=1048576):OX (tKp k,r,())=I ((tKp (wrR k r Y).1,(wrR k r Y).2,()),()):=by
 have hl:=h.Ls;unfold OX;simp only[YW hl hr,A6];unfold wrR;rw[hl.stT];cases hc:BK st r with
 | none=>
  simp only[AH,A2,LB<|DE h.ok,A6]
 | some o=>
  simp only[AB,A4,A2];rw[jT<|aaJ hl hc];simp only[A6];have hsm:FZ (foM<|wrM k r):=DE (RS<|PO h hc).ok;rw[show I9 (tKp<|foM<|wrM k r,())=_ from LB hsm];rfl
abbrev zKp:A7:=⟨0,A0,noB,0,[]⟩
abbrev zN:A3:=⟨0,0,0,0,noB⟩
abbrev tN(n:A3):Int×Int×Int×Int×A1×D:=(n.fr,n.nu,n.to,n.un,n.tx,())
def R8{k:A7}(h:Ag k=Y):k.log.size<=1048576:=(DE h).1
def On{k:A7}(h:Ag k=Y):GO (tKp k,())=I ((tK<|stT k,Y,()),()):=by
 have:=nE (id:=k.id) (fo:=k.fo) (up:=k.up) (hv:=k.AJ)<|R8 h;rw[(Dq h).st]at this;exact this
def Hj{k:A7}(h:Ag k=Y):FD (tKp k,())=I ((tK<|stT k,()),()):=by
 unfold FD;rw[K0<|DE h];simp only[A6,h,AB,A4];rw[show K5 (k.id,k.log,())=_ from QY<|R8 h,(Dq h).st];rfl
def c8{w:A1}{n:A3}(hw:w.size<=10)(hn:Ay n=Y):(w++wr n).size<=1048576:=by
 have:=S8 hn;rw[C3];omega
def Fh(k:A7):A7×Bool:=if k.up then wrR k (Fu<|(stT k).ti+1) Y else(k,A0)
def asl{st:AE}(hk:Av st=Y)(h:999<=st.ti):BK st (Fu<|st.ti+1)=G:=by
 have hf:=Bv hk;have h1:=hf.t1;cases hc:BK st (Fu<|st.ti+1) with
 | none=>rfl
 | some o=>
  exfalso;obtain⟨a,b⟩:=(IC hk).1 hc;rw[IH np<|ZC _]at a;have c:=nC (k:=st) (t:=st.ti+1) (by have:=hf.t0;omega) J J;rw[show B [116,105,109,101]=ED from rfl,c]at a;injection a with a;have:=(Bv b).t1;rw[← a]at this;simp only at this;omega
def aFU{t:Int}(h0:0<=t)(h1:t<=1000):(Fu t).size<=100:=by
 unfold Fu;have:=P3 h0 4 J J;rw[C3,BS];simp;omega
def afm{k:A7}(h:Ag k=Y):WB (tKp k,())=I ((tKp (Fh k).1,(Fh k).2,()),()):=by
 have hk:=Bs h;have hf:=Bv hk.kok;have t0:=hf.t0;have t1:=hf.t1;have hz:=aFU (t:=(stT k).ti+1) J J;have hd:=P3 (n:=(stT k).ti+1) J 4 J J;unfold WB Fh;rw[M7<|DE h];simp only[A6,h,AB,A4,On h,ND<|DE h];obtain e|e:=tf k.up
 .simp only[e,AB,Bl,A2];rw[AZ J J,G5 J J];simp only[A6];by_cases hc:999<=(stT k).ti
  .rw[A5<|AW hc];unfold wrR;rw[asl hk.kok hc]
  .rw[A9 (by rw[BG hc];exact CY),A5<|AW (by rw[BS];simp;omega)];rw[show L9 (tKp k,B [116,105,109,101,32]++BZ ((stT k).ti+1),Y,())=_ from Wz hk.Ls (r:=Fu<|(stT k).ti+1) J Y];rfl
 .simp only[e,AH,By,A2,A4]
def ag5{k:A7}(h:Ag k=Y):WT (tKp k,())=I ((tKp (Fh k).1,(Fh k).2,()),()):=by
 have hk:=Bs h;have hf:=Bv hk.kok;have t0:=hf.t0;have t1:=hf.t1;have hz:=aFU (t:=(stT k).ti+1) J J;have hd:=P3 (n:=(stT k).ti+1) J 4 J J;unfold WT Fh;rw[K0<|DE h];simp only[A6,h,AB,A4,Hj h,LB<|DE h];obtain e|e:=tf k.up
 .simp only[e,AB,A4,A2];rw[AZ J J,JU J J];simp only[A6];rw[A5<|AW (by rw[BS];simp;omega)];rw[show OX (tKp k,B [116,105,109,101,32]++BZ ((stT k).ti+1),())=_ from iw hk (r:=Fu<|(stT k).ti+1) J];rfl
 .simp only[e,AH,A2,A4]
def LV(n:A3):A1:=B [111,119,110,32]++wr n
def Dx(k:A7)(tt un:Int)(tx:A1):A7×Int:=
 if k.up&&Ay ⟨k.id,(stT k).nx,tt,un,tx⟩ then
  ((wrR k (LV ⟨k.id,(stT k).nx,tt,un,tx⟩) Y).1,if(wrR k (LV ⟨k.id,(stT k).nx,tt,un,tx⟩) Y).2 then(stT k).nx else 0)
 else(k,0)
def rU{n:A3}:wr n≠noB:=by
 intro h;have h1:(wr n).size=0:=by rw[h];rfl
 unfold wr at h1;simp only[C3,BS,Bf,CL]at h1;omega
def aFp:DN (B [])=G:=by
 unfold DN;split
 .rename_i h;obtain⟨n,_,h⟩:=h;exact absurd h rU
 .rfl
def aHi:Cb [111,119,110]:=by unfold Cb;decide
def nK:Cb [116,97,107,101]:=by unfold Cb;decide
def aFn{st:AE}{w:List UInt8}(hk:Av st=Y)(hw:Cb w)(h:B w=Dk\/B w=EY):BK st (B (w++[32])++noB)=G:=by
 cases hc:BK st (B (w++[32])++noB) with
 | none=>rfl
 | some o=>
  exfalso;obtain⟨a,_⟩:=(IC hk).1 hc;rw[IH (w:=w) (r:=[]) hw (by rw[Gb,L_B];simp[L,noB])]at a;have h2:∀v,v=Dk\/v=EY->Bb st v (B [])=G:=by
   rintro v (rfl|rfl)
   .unfold Bb;rw[A9 aJT,A5 aJT,aFp]
   .unfold Bb;rw[A9 aJT,A5 aJT,aFp]
  rw[h2 _ h]at a;cases a
def aHP{k:A7}{r:A1}{f:Bool}(h:BK (stT k) r=G):wrR k r f=(k,A0):=by
 unfold wrR;rw[h]
def RF{k:A7}{r:A1}{f:Bool}(h:(wrR k r f).2=A0):(wrR k r f).1=k:=by
 unfold wrR at h ⊢;split at h
 .rfl
 .cases h
def ah9{k:A7}(h:Ag k=Y)(tt un:Int){tx:A1}(ht:tx.size<=1048576):Wn (tKp k,tt,un,tx,())=I ((tKp (Dx k tt un tx).1,(Dx k tt un tx).2,()),()):=by
 have hk:=Bs h;unfold Wn Dx;rw[M7<|DE h];simp only[A6,h,AB,A4,On h,ND<|DE h,Wm ht];obtain e|e:=tf k.up
 .rcases tf (Ay ⟨k.id,(stT k).nx,tt,un,tx⟩) with e2|e2
  .have hz:=c8 (w:=B [111,119,110,32]) (by rw[BS];decide) e2;simp only[e,e2,AB,Bl,Dn,A2];rw[A9 (by rw[BG rU];exact CY),A5<|AW (by rw[C3]at hz;omega)];rw[show L9 (tKp k,B [111,119,110,32]++wr ⟨k.id,(stT k).nx,tt,un,tx⟩,Y,())=_ from Wz hk.Ls (r:=LV ⟨k.id,(stT k).nx,tt,un,tx⟩) hz Y];simp only[A6];obtain e3|e3:=tf (wrR k (LV ⟨k.id,(stT k).nx,tt,un,tx⟩) Y).2
   .simp only[e3,AB,A4,A2]
   .simp only[e3,AH,A4,A2,RF e3]
  .simp only[e,e2,AB,Bl,Ba,A4,AX,A2]
 .simp only[e,AH,By,AP,A2,A4]
def ahh{k:A7}(h:Ag k=Y)(tt un:Int){tx:A1}(ht:tx.size<=1048576):Wd (tKp k,tt,un,tx,())=I ((tKp (Dx k tt un tx).1,(Dx k tt un tx).2,()),()):=by
 have hk:=Bs h;unfold Wd Dx;rw[K0<|DE h];simp only[A6,h,AB,A4,Hj h,LB<|DE h,Wc ht];obtain e|e:=tf k.up
 .rcases tf (Ay ⟨k.id,(stT k).nx,tt,un,tx⟩) with e2|e2
  .have hz:=c8 (w:=B [111,119,110,32]) (by rw[BS];decide) e2;simp only[e,e2,AB,A4,Dn,A2];rw[A5<|AW (by rw[C3]at hz;omega)];rw[show OX (tKp k,B [111,119,110,32]++wr ⟨k.id,(stT k).nx,tt,un,tx⟩,())=_ from iw hk (r:=LV ⟨k.id,(stT k).nx,tt,un,tx⟩) hz];simp only[A6];obtain e3|e3:=tf (wrR k (LV ⟨k.id,(stT k).nx,tt,un,tx⟩) Y).2
   .simp only[e3,AB,A4,A2]
   .simp only[e3,AH,A4,A2]
  .simp only[e,e2,AB,A4,Ba];have hb:BK (stT k) (B [111,119,110,32]++noB)=G:=aFn hk.kok aHi<|.inl rfl;have hz0:(B [111,119,110,32]++noB).size<=1048576:=by rw[C3,BS];show 4+0<=1048576;omega
   have hl:=iw hk (r:=B [111,119,110,32]++noB) hz0;rw[aHP hb]at hl;rw[A5<|AW (show(B [111,119,110,32]).size+noB.size<=4611686018427387904 by rw[BS];show 4+0<=4611686018427387904;omega),hl];rfl
 .simp only[e,AH,AP,A2,A4]
def De(k:A7)(fr nu:Int):A7×A3×Bool:=
 if k.up&& !decide (AY (stT k).inbox fr nu<0) then
  ((wrR k (Ca CO fr nu (nA (stT k).inbox (AY (stT k).inbox fr nu).toNat).un) Y).1,
   (if(wrR k (Ca CO fr nu (nA (stT k).inbox (AY (stT k).inbox fr nu).toNat).un) Y).2 then nA (stT k).inbox (AY (stT k).inbox fr nu).toNat else zN),
   (wrR k (Ca CO fr nu (nA (stT k).inbox (AY (stT k).inbox fr nu).toNat).un) Y).2)
 else(k,zN,A0)
def SC(l:List A3)(i:Int): @rd A3 y5 l i=nA l i.toNat:=rfl
def TY{n:A3}(h:Ay n=Y):(0<=n.fr/\n.fr<=999)/\(0<=n.nu/\n.nu<=999)/\(0<=n.un/\n.un<=999)/\isN n.fr=Y/\isN n.to=Y/\inB n.nu 1 99=Y/\inB n.un 1 999=Y/\n.tx.size<=24/\1<=n.tx.size:=by
 unfold Ay at h;simp only[AD]at h;obtain⟨a,b,c,d,e⟩:=h;have a1:=Aa.1 a;have c1:=Aa.1 c;have d1:=Aa.1 d;unfold Lk at e;rw[AD]at e;have e1:=Aa.1 e.1;exact⟨J,J,J,a,b,c,d,J,J⟩
def Yi{w:A1}{a b c:Int}(hw:w.size<=10)(ha:0<=a/\a<=999)(hb:0<=b/\b<=999)(hc:0<=c/\c<=999):(Ca w a b c).size<=100:=by
 have h1:=HY ha.1 ha.2;have h2:=HY hb.1 hb.2;have h3:=HY hc.1 hc.2;unfold Ca;simp only[C3,BS,Bf,CL];omega
def aDW{a b c:Int}(ha:0<=a/\a<=999)(hb:0<=b/\b<=999)(hc:0<=c/\c<=999):X0 (a,b,c,())=I ((((((BZ a++B [32])++BZ b)++B [32])++BZ c),()),()):=by
 have h1:=HY ha.1 ha.2;have h2:=HY hb.1 hb.2;have h3:=HY hc.1 hc.2;unfold X0;simp only[G5 (n:=a) J J,G5 (n:=b) J J,G5 (n:=c) J J,A6];rw[A5<|AW (by simp only[C3,BS,Bf,CL];omega),A5<|AW (by simp only[C3,BS,Bf,CL];omega),A5<|AW (by simp only[C3,BS,Bf,CL];omega),A5<|AW (by simp only[C3,BS,Bf,CL];omega)]
def Yr(w:List UInt8)(a b c:Int):B (w++[32])++((((BZ a++B [32])++BZ b)++B [32])++BZ c)=Ca (B w) a b c:=by
 apply GD;unfold Ca;simp only[Gb,L_B,C7]
def ahB{k:A7}(h:Ag k=Y)(fr nu:Int):Wp (tKp k,fr,nu,())=I ((tKp (De k fr nu).1,tN (De k fr nu).2.1,(De k fr nu).2.2,()),()):=by
 have hk:=Bs h;have hf:=Bv hk.kok;have il:=hf.il;unfold Wp De;rw[M7<|DE h];simp only[A6,h,AB,A4,On h,ND<|DE h,K4 (l:=(stT k).inbox)<|show(stT k).inbox.length<=1048576 by omega];obtain e|e:=tf k.up
 .by_cases hi:AY (stT k).inbox fr nu<0
  .simp only[e,AB,Bl,AW hi,A2,Ba,A4]
  .have hi':0<=AY (stT k).inbox fr nu:=J
   obtain⟨i1,i2,i3,i4⟩:=FK hi';have hn:=HK hf.i i1;obtain⟨r1,r2,r3,_⟩:=TY hn;rw[i3]at r1;rw[i4]at r2;have hz:=Yi (w:=CO) aJT r1 r2 r3;have hl:=Wz hk.Ls (r:=Ca CO fr nu (nA (stT k).inbox (AY (stT k).inbox fr nu).toNat).un) J Y;simp only[e,AB,Bl,BG hi,A4,AH,Dn,A2,NS hi',SC,aDW r1 r2 r3,A6];rw[A5<|AW (by rw[← Yr [101,97,116]]at hz;rw[C3]at hz;rw[show(B [101,97,116,32]).size=(B<|[101,97,116]++[32]).size from rfl];omega)];rw[show(B [101,97,116,32])=B ([101,97,116]++[32]) from rfl,Yr [101,97,116],hl];simp only[A6];obtain e3|e3:=tf (wrR k (Ca CO fr nu (nA (stT k).inbox (AY (stT k).inbox fr nu).toNat).un) Y).2
   .simp only[e3,AB,A4,A2]
   .simp only[e3,AH,A4,A2,RF e3]
 .simp only[e,AH,By,AP,A2,A4]
def ahj{k:A7}(h:Ag k=Y)(fr nu:Int):Wf (tKp k,fr,nu,())=I ((tKp (De k fr nu).1,tN (De k fr nu).2.1,(De k fr nu).2.2,()),()):=by
 have hk:=Bs h;have hf:=Bv hk.kok;have il:=hf.il;unfold Wf De;rw[K0<|DE h];simp only[A6,h,AB,A4,Hj h,LB<|DE h,KA (l:=(stT k).inbox)<|show(stT k).inbox.length<=1048576 by omega];obtain e|e:=tf k.up
 .by_cases hi:AY (stT k).inbox fr nu<0
  .simp only[e,AB,Bl,AW hi,A2,Ba,A4]
  .have hi':0<=AY (stT k).inbox fr nu:=J
   obtain⟨i1,i2,i3,i4⟩:=FK hi';have hn:=HK hf.i i1;obtain⟨r1,r2,r3,_⟩:=TY hn;rw[i3]at r1;rw[i4]at r2;have hz:=Yi (w:=CO) aJT r1 r2 r3;have hl:=iw hk (r:=Ca CO fr nu (nA (stT k).inbox (AY (stT k).inbox fr nu).toNat).un) J;simp only[e,AB,Bl,BG hi,A4,AH,Dn,A2,NS hi',SC,wP (w:=CO) aJT r1 r2 r3,A6,hl];obtain e3|e3:=tf (wrR k (Ca CO fr nu (nA (stT k).inbox (AY (stT k).inbox fr nu).toNat).un) Y).2
   .simp only[e3,AB,A4,A2]
   .simp only[e3,AH,A4,A2]
 .simp only[e,AH,By,AP,A2,A4]
def EK(k:A7)(fr nu mix:Int):Frame×Bool:=
 if k.up&&(!decide (AY (stT k).held fr nu<0)&&inB mix 0 999) then
  let n:=nA (stT k).held (AY (stT k).held fr nu).toNat
  (⟨1,k.id,BR k.id n.to,n.fr,n.nu,n.to,n.un,n.tx.size,mix,GZ n.tx mix⟩,Y)
 else(zF,A0)
def ahA{k:A7}(sm:FZ k)(fr nu mix:Int):Wo (tKp k,fr,nu,mix,())=I ((tF (if Ag k then EK k fr nu mix else(zF,A0)).1,(if Ag k then EK k fr nu mix else(zF,A0)).2,()),()):=by
 unfold Wo EK;rw[M7 sm];obtain h|h:=tf (Ag k)
 .have hk:=Bs h;have hf:=Bv hk.kok;have hl:=hf.hl;obtain e|e:=tf k.up
  .simp only[A6,h,e,AB,Gk,A4,A2,On h,K4 (l:=(stT k).held)<|show(stT k).held.length<=1048576 by omega,IB,D6,Cy,FY];by_cases hi:AY (stT k).held fr nu<0
   .simp only[AW hi,By,A2,AB,AP,Ba,A4]
   .have hi':0<=AY (stT k).held fr nu:=J
    obtain e2|e2:=tf (inB mix 0 999)
    .simp only[BG hi,e2,AB,Gk,A4,AH,Dn,A2,NS hi',SC,kD,amv,A6]
    .simp only[BG hi,e2,AH,DY,A2,Ba,A4]
  .simp only[A6,h,e,AB,AH,DY,A2,AP,A4]
 .simp only[A6,h,AH,By,A2,A4]
def ahi{k:A7}(sm:FZ k)(fr nu mix:Int):We (tKp k,fr,nu,mix,())=I ((tF (if Ag k then EK k fr nu mix else(zF,A0)).1,(if Ag k then EK k fr nu mix else(zF,A0)).2,()),()):=by
 unfold We EK;rw[K0 sm];obtain h|h:=tf (Ag k)
 .have hk:=Bs h;have hf:=Bv hk.kok;have hl:=hf.hl;obtain e|e:=tf k.up
  .simp only[A6,h,e,AB,A4,A2,EU];obtain e2|e2:=tf (inB mix 0 999)
   .simp only[e2,AB,A4,Hj h,KA (l:=(stT k).held)<|show(stT k).held.length<=1048576 by omega,A6];by_cases hi:AY (stT k).held fr nu<0
    .simp only[AW hi,A2,AB,AP,Ba,A4]
    .have hi':0<=AY (stT k).held fr nu:=J
     simp only[BG hi,A4,AH,Dn,A2,NS hi',SC,Wq,anW,A6]
   .simp only[e2,AH,A2,Ba,A4]
  .simp only[A6,h,e,AB,AH,A2,AP,A4]
 .simp only[A6,h,AH,A2,A4]
def Fj(k:A7):A7×Bool:=if k.up then(pkM k,Y) else(k,A0)
def aaY{k:A7}{st:AE}(h:I5 k st):Jb k.log k.fo (CH st)=((DD<|CH st,((DD<|CH st).size:Int)),Y):=by
 have hrs:=YA h.kok;have hps:=R4 h.kok;unfold Jb;rw[A5 h.sh,A5];rw[AD];refine⟨?_,AW J⟩;unfold G1;rw[CZ];exact λx hx=>by
  have:=hrs.1 x hx;exact Aa.2 J
def afo{k:A7}(h:Ag k=Y):WD (tKp k,())=I ((tKp (Fj k).1,(Fj k).2,()),()):=by
 have hk:=Bs h;have hsm:=RD<|Bv hk.kok;have hP:=zA (lg:=k.log) (fo:=k.fo) (rs:=CH<|stT k) (R8 h)<|Zt hk.kok;rw[aaY hk.Ls]at hP;unfold WD Fj;rw[M7<|DE h];simp only[A6,h,AB,A4,On h,ND<|DE h,aAg hsm,hk.kok,A2,hP];obtain e|e:=tf k.up
 .simp only[e,AB,Gk,A4,A2];unfold pkM;simp only[e]
 .simp only[e,AH,By,A2,A4]
def ag7{k:A7}(h:Ag k=Y):WV (tKp k,())=I ((tKp (Fj k).1,(Fj k).2,()),()):=by
 have hk:=Bs h;have hsm:=RD<|Bv hk.kok;have hP:=aAF (lg:=k.log) (fo:=k.fo) (rs:=CH<|stT k) (R8 h)<|Zt hk.kok;rw[aaY hk.Ls]at hP;unfold WV Fj;rw[K0<|DE h];simp only[A6,h,AB,A4,LB<|DE h];obtain e|e:=tf k.up
 .simp only[e,AB,A4,A2,Hj h,aAV hsm,hk.kok,hP,A6];unfold pkM;simp only[e]
 .simp only[e,AH,A2,A4]
def Di(k:A7):A7×Bool:=if k.up&& !decide (k.fo=(k.log.size:Int)) then(foM k,Y) else(k,A0)
def aes{k:A7}(h:Ag k=Y):W4 (tKp k,())=I ((tKp (Di k).1,(Di k).2,()),()):=by
 have hf:=Dq h;have hF:=vR (lg:=k.log) (fo:=k.fo)<|R8 h;rw[show KP k.log k.fo=(k.log,(k.log.size:Int)) from A5 hf.sh]at hF;unfold W4 Di;rw[M7<|DE h];simp only[A6,h,AB,A4,ND<|DE h];obtain e|e:=tf k.up<;>obtain e2|e2:=tfp (k.fo=(k.log.size:Int))<;>simp only[e,e2,AX,Ad,AB,AH,DY,By,Gk,Dn,Ba,AP,A2,A4,hF,A6];unfold foM;simp only[e]
def afJ{k:A7}(h:Ag k=Y):WM (tKp k,())=I ((tKp (Di k).1,(Di k).2,()),()):=by
 have hf:=Dq h;unfold WM Di;rw[K0<|DE h];simp only[A6,h,AB,A4,LB<|DE h];obtain e|e:=tf k.up<;>obtain e2|e2:=tfp (k.fo=(k.log.size:Int))<;>simp only[e,e2,AX,Ad,AB,AH,DY,By,Gk,Dn,Ba,AP,A2,A4];rw[show Of ((tKp k,()))=_ from jT hf.sh];rfl
def aIf{k:A7}(h:Ag k=Y)(keep:Int):(faM k keep)=⟨k.id,A0,(Mj k.log k.fo keep).1,(Mj k.log k.fo keep).2,[]⟩:=by
 unfold faM Mj Eg;rw[A5 (Dq h).sh]
def afq{k:A7}(sm:FZ k)(keep:Int):WH (tKp k,keep,())=I ((tKp<|if Ag k then faM k keep else zKp,()),()):=by
 unfold WH;rw[M7 sm];obtain h|h:=tf (Ag k)
 .simp only[A6,h,AB,A4,A2,ah7 sm.1,aIf h]
 .simp only[A6,h,AH,A2,A4]
def ag8{k:A7}(sm:FZ k)(keep:Int):WW (tKp k,keep,())=I ((tKp<|if Ag k then faM k keep else zKp,()),()):=by
 unfold WW;rw[K0 sm];obtain h|h:=tf (Ag k)
 .simp only[A6,h,AB,A4,A2,ahe sm.1,aIf h]
 .simp only[A6,h,AH,A2,A4]
def aIj{k:A7}(h:Ag k=Y)(hu:k.up=A0):k.AJ=[]:=by
 rcases(Dq h).up with h1|h1
 .rw[hu]at h1;cases h1
 .exact E5 h1
def afn{k:A7}(h:Ag k=Y):WC (tKp k,())=I ((tKp<|riM k,()),()):=by
 unfold WC riM;rw[M7<|DE h];simp only[A6,h,AB,A4];obtain e|e:=tf k.up
 .simp only[e,A2,ND<|DE h,A6];rw[← e]
 .simp only[e,A4,aIj h e]
def ag6{k:A7}(h:Ag k=Y):WU (tKp k,())=I ((tKp<|riM k,()),()):=by
 unfold WU riM;rw[K0<|DE h];simp only[A6,h,AB,A4,LB<|DE h]
def aaf{hv:List AG}{i:Nat}(h:i<hv.length)(x:AG):hA (hv.set i x) i=x:=by
 rw[hA,BA,bN h];rfl
def amp{l:List AG}{f n:Int}(hl:l.length<=1048576):ia (l,f,n,())=I ((EN l f n,()),()):=by
 have h:uS (l,f,n,0,())=I (if EN l f n<0 then .inr () else .inl (EN l f n,())):=
  Qo (λi=>(l,f,n,(i:Int),())) l.length (λi=>U ((hA l i).fr=f)&&U ((hA l i).nu=n)) (λi=>(i,())) () (λi hi=>by
   unfold iG;simp only[Ir hi,AR hi,A2,Me,FY,Dh hi hl];obtain e|e:=tfp ((hA l i).fr=f)<;>obtain e2|e2:=tfp ((hA l i).nu=n)<;>simp only[e,e2,AX,Ad,Dn,Ba,AP,A2,A4]) (by
   unfold iG;simp only[HL,A4])
 unfold ia;rw[h];by_cases e':EN l f n<0
 .have:EN l f n= -1:=by
   obtain h|⟨i,h,_⟩:=GP l.length (λi=>U ((hA l i).fr=f)&&U ((hA l i).nu=n))
   .exact h.1
   .have:EN l f n=(i:Int):=h;omega
  rw[A5 e',this];rfl
 .rw[A9 e'];rfl
def Ta(l:List AG)(f n:Int):EN l f n<0\/ ∃i:Nat,EN l f n=(i:Int)/\i<l.length/\(hA l i).fr=f/\(hA l i).nu=n:=by
 obtain h|⟨i,h,h2,h3,_⟩:=GP l.length (λi=>U ((hA l i).fr=f)&&U ((hA l i).nu=n))
 .left;have:EN l f n= -1:=h.1;omega
 .right;rw[AD]at h3;exact⟨i,h,h2,BV h3.1,BV h3.2⟩
def At(hv:List AG)(f:Frame):List AG×Nat:=
 if EN hv f.fr f.nu<0 then((if 3<=hv.length then hv.drop 1 else hv)++[⟨f.fr,f.nu,f.to,f.un,f.sz,[]⟩],(if 3<=hv.length then hv.drop 1 else hv).length)
 else(hv,(EN hv f.fr f.nu).toNat)
def PB{hv:List AG}{f:Frame}:(At hv f).2<(At hv f).1.length:=by
 unfold At;obtain h|⟨i,h1,h2,_⟩:=Ta hv f.fr f.nu
 .rw[A5 h];simp
 .rw[A9 J];show(EN hv f.fr f.nu).toNat<hv.length;omega
def U3{hv:List AG}{f:Frame}(h:hv.length<=3):(At hv f).1.length<=3:=by
 unfold At;split
 .simp only[Ax,Jq];split
  .rw[EQ];omega
  .omega
 .exact h
def Dt(mix:Int)(m:AT):Bool:= !decide (m.nu=mix)
def D2(got:List AT)(mix:Int)(da:A1):List AT:=
 (if 14<=(got.filter<|Dt mix).length then(got.filter<|Dt mix).drop 1 else got.filter (Dt mix))++[⟨mix,da⟩]
def aGn{p:AT->Bool}(pre:List AT)(m:AT):(pre++[m]).filter p=pre.filter p++if p m then [m] else []:=by
 rw[Rl];congr 1;simp only[KT,bJ]
def aqL{mix:Int}{da:A1}(post:List AT):∀(pre:List AT),(pre++post).length<=1048576->
  gw ((mix,da,()),pre.filter<|Dt mix,pre++post,((pre++post).length:Int),(j8 pre:Int),())=I (.inr ((mix,da,()),(pre++post).filter<|Dt mix,())):=by
 induction post with
 | nil=>
  intro pre _;refine BC ?_;unfold YK;simp only[CU,HL,A4]
 | cons m post ih=>
  intro pre hl;have hlen:pre.length<(pre++m::post).length:=by simp
  have hw:=Dh hlen hl;have hf:(pre.filter<|Dt mix).length<=pre.length:=J4 _ _;have:=ih (pre++[m]) (by rw[← snoc];exact hl);rw[← snoc]at this;refine Am ?_ this;unfold YK;simp only[Ir hlen,A2,AR hlen,Md,hw,aGn,@Ax _ pre [m],Jq];obtain e|e:=tfp (m.nu=mix)
  .have:Dt mix m=A0:=by unfold Dt;simp only[e,AX,AB]
   simp only[e,this,AX,AB,A4,CU]
  .have:Dt mix m=Y:=by unfold Dt;simp only[e,Ad,AH]
   simp only[e,this,Ad,AH,A2];rw[A5<|BE (by simp at hl ⊢; omega)]
def arQ{got:List AT}{mix:Int}{da:A1}(hl:got.length<=1048576):YS (got,(mix,da,()),())=I ((D2 got mix da,()),()):=by
 have hf:(got.filter<|Dt mix).length<=got.length:=J4 _ _;unfold YS D2;rw[show gw ((mix,da,()),[],got,(j8 got:Int),0,())=_ from aqL got [] hl];simp only[AM,A6,El];by_cases h:14<=(got.filter<|Dt mix).length
 .rw[A5<|AW J,A5 h,A5 aJL,A5<|G8 (by rw[EQ];omega) aJO];rfl
 .rw[A9 (by rw[BG J];exact CY),A9 h,A5<|G8 J aJO]
def aqd{k:Int×Bool×A1×Int×List AG×D}{f:Frame}{z:Int×Bool×A1×Int×List AG×D}{i:Int}{h:AG}(post:List AT):∀(pre:List AT),h.got=pre++post->(pre++post).length<=1048576->
  fe (k,tF f,z,i,(h.fr,h.nu,h.to,h.un,h.sz,h.got,()),pre.filter<|Dt f.mix,(j8 pre:Int),())=I (.inr (k,tF f,z,i,(h.fr,h.nu,h.to,h.un,h.sz,h.got,()),h.got.filter<|Dt f.mix,())):=by
 induction post with
 | nil=>
  intro pre hg _;rw[CU]at hg;refine BC ?_;unfold ib;simp only[hg,HL,A4]
 | cons m post ih=>
  intro pre hg hl;have hlen:pre.length<(pre++m::post).length:=by simp
  have hw:=Dh hlen hl;have hf:(pre.filter<|Dt f.mix).length<=pre.length:=J4 _ _;have:=ih (pre++[m]) (by rw[hg,snoc]) (by rw[← snoc];exact hl);refine Am ?_ this;unfold ib;simp only[hg,Ir hlen,A2,AR hlen,Md,hw,aGn,@Ax _ pre [m],Jq];obtain e|e:=tfp (m.nu=f.mix)
  .have:Dt f.mix m=A0:=by unfold Dt;simp only[e,AX,AB]
   simp only[e,this,AX,AB,A4,CU]
  .have:Dt f.mix m=Y:=by unfold Dt;simp only[e,Ad,AH]
   simp only[e,this,Ad,AH,A2];rw[A5<|BE (by simp at hl ⊢; omega)]
def FR(hv:List AG)(i:Nat):List AG:=hv.take i++hv.drop (i+1)
def aB5{hv:List AG}{i:Nat}(hi:i<hv.length)(hl:hv.length<=1048576):QW (hv,(i:Int),())=I ((FR hv i,()),()):=by
 unfold QW FR;simp only[BX,El];rw[Dh hi hl,A5 aJL,A5<|G8 (l:=([]:List AG)) aJO aJL,A5 aJL,A5<|G8 aJL aJL,BX]
def D8(hv:List AG)(i:Nat)(f:Frame):List AG:=hv.set i ⟨(hA hv i).fr,(hA hv i).nu,(hA hv i).to,(hA hv i).un,(hA hv i).sz,D2 (hA hv i).got f.mix f.da⟩
def Mg(h:AG)(f:Frame):Bool:=U (h.to=f.to)&&(U (h.un=f.un)&&U (h.sz=f.sz))
def apK{k:A7}(sm:FZ k)(h3:k.AJ.length<=3)(f:Frame):
  jX (tKp k,tF f,())=I ((if Mg (hA (At k.AJ f).1 (At k.AJ f).2) f then((k.id,k.up,k.log,k.fo,D8 (At k.AJ f).1 (At k.AJ f).2 f,()),((At k.AJ f).2:Int),()) else((k.id,k.up,k.log,k.fo,(At k.AJ f).1,()),-1,()),())):=by
 obtain⟨id,up,lg,fo,hv⟩:=k;obtain⟨sl,hl,hs⟩:=sm;simp only at sl hl hs h3;unfold jX;simp only[amp hl,A6];have Ew:=PB (hv:=hv) (f:=f);have Lp:=U3 (hv:=hv) (f:=f) h3;have UX:(hA (At hv f).1 (At hv f).2).got.length<=1048576:=by
  unfold At;obtain h|⟨i,h1,h2,_⟩:=Ta hv f.fr f.nu
  .rw[A5 h];simp only;rw[hA,BA,Fl<|Aw _];simp
  .rw[A9 J];show(hA hv (EN hv f.fr f.nu).toNat).got.length<=1048576;rw[h1,BX,IN h2];exact(hs _<|CS h2).1
 have sV:∀ {Ω:Type} (F:(Int×Bool×A1×Int×List AG×D)×(Int×Int×Int×Int×Int×Int×Int×Int×Int×A1×D)×(Int×Bool×A1×Int×List AG×D)×Int×D->Option Ω),
   BU F ((if(U<|EN hv f.fr f.nu<0) then
    (BU (X:=(Int×Bool×A1×Int×List AG×D)×(Int×Int×Int×Int×Int×Int×Int×Int×Int×A1×D)×(Int×Bool×A1×Int×List AG×D)×D) (λj7=>
    (if Ac (j7.1.2.2.2.2.1.length+([(AG.mk j7.2.1.2.2.2.1 j7.2.1.2.2.2.2.1 j7.2.1.2.2.2.2.2.1 j7.2.1.2.2.2.2.2.2.1 j7.2.1.2.2.2.2.2.2.2.1 ([]:List AT))]:List AG).length) then
    let v9:=(w64<|((j7.1.2.2.2.2.1++([(AG.mk j7.2.1.2.2.2.1 j7.2.1.2.2.2.2.1 j7.2.1.2.2.2.2.2.1 j7.2.1.2.2.2.2.2.2.1 j7.2.1.2.2.2.2.2.2.2.1 ([]:List AT))]:List AG)).length:Int) - 1)
    I (.inr ((j7.1.1,j7.1.2.1,j7.1.2.2.1,j7.1.2.2.2.1,(j7.1.2.2.2.2.1++([(AG.mk j7.2.1.2.2.2.1 j7.2.1.2.2.2.2.1 j7.2.1.2.2.2.2.2.1 j7.2.1.2.2.2.2.2.2.1 j7.2.1.2.2.2.2.2.2.2.1 ([]:List AT))]:List AG)),()),j7.2.1,j7.2.2.1,v9,()))
    else G))
    ((if(U<|3<=(j8 hv:Int)) then
    (QW (hv,0,())).bind λr8=>
    I (.inr ((id,up,lg,fo,r8.1),tF f,(0,A0,noB,0,([]:List AG),()),()))
    else
    I (.inr ((id,up,lg,fo,hv,()),tF f,(0,A0,noB,0,([]:List AG),()),())))))
    else
    I (.inr ((id,up,lg,fo,hv,()),tF f,(0,A0,noB,0,([]:List AG),()),(EN hv f.fr f.nu,())))))=F ((id,up,lg,fo,(At hv f).1,()),tF f,(0,A0,noB,0,[],()),((At hv f).2:Int),()):=by
  intro Ω F;unfold At;obtain h|⟨i,h1,h2,_⟩:=Ta hv f.fr f.nu
  .rw[A5<|AW h,A5 h];by_cases h4:3<=hv.length
   .have hd:=aB5 (hv:=hv) (i:=0) J hl;rw[A5<|AW J,show QW (hv,0,())=_ from hd];simp only[A6,Bh,A5 h4];rw[show FR hv 0=hv.drop 1 from by simp[FR],A5<|G8 aJL aJO,Bh,AZ (by first|(simp;done)|(simp;omega)) (by first|(simp;done)|(simp;omega))];congr 1;simp
   .rw[A9 (by rw[BG J];exact CY)];simp only[Bh,A9 h4];rw[A5<|G8 J aJO,Bh,AZ (by first|(simp;done)|(simp;omega)) (by first|(simp;done)|(simp;omega))];congr 1;simp
  .rw[A9 (by rw[BG J];exact CY),A9 (J:¬EN hv f.fr f.nu<0),Bh];simp only;rw[h1,BX]
 rw[sV];revert Ew Lp UX;generalize (At hv f).1=l;generalize (At hv f).2=i;intro Ew Lp UX;unfold Mg;have hff:((hA l i).got.filter<|Dt f.mix).length<=(hA l i).got.length:=J4 _ _;simp only[AR Ew,A2,Me,BX];obtain e1|e1:=tfp ((hA l i).to=f.to)<;>simp only[e1,AX,Ad,AB,AH,A4,A2,AU,AP];obtain e2|e2:=tfp ((hA l i).un=f.un)<;>simp only[e2,AX,Ad,AB,AH,A4,A2,AU,AP];obtain e3|e3:=tfp ((hA l i).sz=f.sz)<;>simp only[e3,AX,Ad,AB,AH,A4,A2];have hgo:=aqd (k:=(id,up,lg,fo,l,())) (f:=f) (z:=(0,A0,noB,0,[],())) (i:=(i:Int)) (h:=hA l i) (hA l i).got [] rfl UX;rw[show fe ((id,up,lg,fo,l,()),tF f,(0,A0,noB,0,[],()),(i:Int),((hA l i).fr,(hA l i).nu,(hA l i).to,(hA l i).un,(hA l i).sz,(hA l i).got,()),[],0,())=_ from hgo];simp only[AM,A6];unfold D8 D2;by_cases h:14<=((hA l i).got.filter<|Dt f.mix).length
 .rw[A5<|AW J,A5 h,A5 aJL,A5<|G8 (l:=([]:List AT)) aJO (by rw[EQ];omega),Bh];simp only[El,show AO 1=1 from rfl];rw[A5<|G8 (by rw[EQ];omega) aJO,A5<|AR Ew];rfl
 .rw[A9 (by rw[BG J];exact CY),A9 h,Bh];dsimp only;rw[A5<|G8 J aJO,A5<|AR Ew];rfl
def Dm(kind:Int)(f:Frame):Frame:=⟨kind,f.dst,f.src,f.fr,f.nu,f.to,f.un,0,0,noB⟩
def JT(n:A3):A1:=B [116,97,107,101,32]++wr n
abbrev Gw(k:A7)(hv:List AG):A7:=⟨k.id,k.up,k.log,k.fo,hv⟩
def JV(k:A7)(n:A3)(f:Frame):A7×List Frame:=
 if Ay n&&(wrR k (JT n) Y).2 then((wrR k (JT n) Y).1,[Dm 2 f]) else(k,[])
def Jc(k:A7)(f:Frame):A7×List Frame:=
 if Mg (hA (At k.AJ f).1 (At k.AJ f).2) f then
  (if(FO f.sz<|D2 (hA (At k.AJ f).1 (At k.AJ f).2).got f.mix f.da).2 then
   JV (Gw k<|FR (D8 (At k.AJ f).1 (At k.AJ f).2 f) (At k.AJ f).2) ⟨f.fr,f.nu,f.to,f.un,(FO f.sz<|D2 (hA (At k.AJ f).1 (At k.AJ f).2).got f.mix f.da).1⟩ f
  else(Gw k<|D8 (At k.AJ f).1 (At k.AJ f).2 f,[]))
 else(Gw k (At k.AJ f).1,[])
def EB(k:A7)(f:Frame):A7×List Frame:=
 if f.un<=(stT k).ti then(k,[Dm 3 f])
 else if 0<=AY (stT k).held f.fr f.nu\/0<=Br (stT k).marks f.fr f.nu then(foM k,[Dm 2 f])
 else if f.fr=k.id then(k,[])
 else Jc k f
def aHJ{s:Int}{l:List AT}:(FO s l).1.size<=24:=by
 unfold FO;split
 .rename_i h;have h1:=Aa.1 h;split
  .exact D5 _
  .rename_i c hc;split
   .have hb:inB (B2 (s+3) 4) 1 6=Y:=by
     have hd:B2 (s+3) 4=(s+3) / 4:=Gi J;exact Aa.2 J
    have hk:=qI hb l;have hz:=ZT hk.all hc;have hz0:noB.size=0:=rfl;have hd:B2 (s+3) 4=(s+3) / 4:=Gi J;rw[hk.1,hz0]at hz;rw[G7 J];omega
   .exact D5 _
 .exact D5 _
def aGj(got:List AT)(mix:Int)(da:A1):(D2 got mix da).length<=got.length+1:=by
 have hf:(got.filter<|Dt mix).length<=got.length:=J4 _ _;unfold D2;simp only[Ax,Jq];split
 .rw[EQ];omega
 .omega
def aay{h:AG}(ok:GB h=Y):h.got.length<=14:=by
 unfold GB at ok;simp only[AD]at ok;have h1:=BV ok.2.2.2.2.2.1;omega
def aGt{hv:List AG}{f:Frame}(hs:∀h∈hv,GB h=Y):(hA (At hv f).1 (At hv f).2).got.length<=14:=by
 unfold At;obtain h|⟨i,h1,h2,_⟩:=Ta hv f.fr f.nu
 .rw[A5 h];simp only;rw[hA,BA,Fl<|Aw _];simp
 .rw[A9 J];show(hA hv (EN hv f.fr f.nu).toNat).got.length<=14;rw[h1,BX,IN h2];exact aay<|hs _<|CS h2
def aHQ{k:A7}{st:AE}(h:I5 k st)(hv:List AG):I5 (Gw k hv) st:=⟨h.sh,h.st⟩
def aGh{k:A7}(h:Ag k=Y):∀x∈k.AJ,GB x=Y:=by
 intro x hx;obtain⟨i,hi,rfl⟩:=PW hx;have:=(Dq h).hv i hi;unfold G0 at this;rw[AD]at this;exact this.1
def aqe{k:A7}(h:Ag k=Y){f:Frame}(hf:C2 f=Y)(h1:f.ki=1):X1 (tKp k,tF f,())=I ((tKp (EB k f).1,(EB k f).2,()),()):=by
 have hk:=Bs h;have hkf:=Bv hk.kok;have sm:=DE h;have kf:=Dq h;have hF:=vR (lg:=k.log) (fo:=k.fo)<|R8 h;rw[show KP k.log k.fo=(k.log,(k.log.size:Int)) from A5 kf.sh]at hF;have hl:=hkf.hl;have ml:=hkf.ml;have hfr:inB f.sz 1 24=Y/\inB f.mix 0 999=Y:=by
  unfold C2 JX at hf;simp only[AD]at hf;have:=hf.2.2.2.2.2.2;rw[A5<|AW h1]at this;simp only[AD]at this;exact⟨this.1,this.2.1⟩
 have hsz:=Aa.1 hfr.1;have hmx:Dy (B2 (f.sz+3) 4) f.mix=Y:=by
  have hd:B2 (f.sz+3) 4=(f.sz+3) / 4:=Gi J;unfold Dy;rw[hfr.2,Lh];exact Aa.2 J
 unfold X1 EB;simp only[On h,A6];by_cases c1:f.un<=(stT k).ti
 .rw[A5<|AW c1,A5 c1];rfl
 .rw[A9 (by rw[BG c1];exact CY),A9 c1];simp only[K4 (l:=(stT k).held)<|show(stT k).held.length<=1048576 by omega,TC (l:=(stT k).marks)<|show(stT k).marks.length<=1048576 by omega,A6,D6,Cy,FY,A2];by_cases c2:0<=AY (stT k).held f.fr f.nu\/0<=Br (stT k).marks f.fr f.nu
  .rw[A5 (by rw[Bp];exact c2.imp AW AW),A5 c2];simp only[hF,A6];rfl
  .rw[A9 (by rw[Bp];exact λh=>c2<|h.imp BV BV),A9 c2];simp only[iF (n:=f.sz) J J,YT,hmx,D6,Cy,FY,A2,AB,En];by_cases c3:f.fr=k.id
   .rw[A5<|AW c3,A5 c3]
   .rw[A9 (by rw[BG c3];exact CY),A9 c3];have oV:=apK sm kf.hl f;rw[oV];simp only[A6];unfold Jc;obtain c4|c4:=tf (Mg (hA (At k.AJ f).1 (At k.AJ f).2) f)
    .have Ew:=PB (hv:=k.AJ) (f:=f);have Lp:=U3 (hv:=k.AJ) (f:=f) kf.hl;have hal:(D8 (At k.AJ f).1 (At k.AJ f).2 f).length=(At k.AJ f).1.length:=by unfold D8;rw[Gh]
     have oO:=aGt (f:=f)<|aGh h;have hgl:=aGj (hA (At k.AJ f).1 (At k.AJ f).2).got f.mix f.da;have UX:(hA (D8 (At k.AJ f).1 (At k.AJ f).2 f) (At k.AJ f).2).got=D2 (hA (At k.AJ f).1 (At k.AJ f).2).got f.mix f.da:=by
      unfold D8;rw[aaf Ew]
     simp only[c4,A2];rw[A9 (by rw[BG J];exact CY),A5<|AR (by rw[hal];exact Ew)];simp only[Me,UX,amt f.sz _<|show(D2 (hA (At k.AJ f).1 (At k.AJ f).2).got f.mix f.da).length<=1048576 by omega,A6];obtain c5|c5:=tf (FO f.sz<|D2 (hA (At k.AJ f).1 (At k.AJ f).2).got f.mix f.da).2
     .simp only[c5,AB,A4,A2];rw[aB5 (by rw[hal];exact Ew) (by rw[hal];omega)];simp only[A6];rw[Wm (by have:=aHJ (s:=f.sz) (l:=D2 (hA (At k.AJ f).1 (At k.AJ f).2).got f.mix f.da);omega)];simp only[A6];unfold JV;generalize hn:(⟨f.fr,f.nu,f.to,f.un,(FO f.sz<|D2 (hA (At k.AJ f).1 (At k.AJ f).2).got f.mix f.da).1⟩:A3)=n;obtain c6|c6:=tf (Ay n)
      .have hz:=c8 (w:=B [116,97,107,101,32]) (by rw[BS];decide) c6;have hw:=Wz (aHQ hk.Ls<|FR (D8 (At k.AJ f).1 (At k.AJ f).2 f) (At k.AJ f).2) (r:=JT n) hz Y;simp only[c6,A2,AU];rw[A9 (by rw[BG rU];exact CY),A5<|AW (by rw[C3]at hz;omega)];rw[show L9 ((k.id,k.up,k.log,k.fo,FR (D8 (At k.AJ f).1 (At k.AJ f).2 f) (At k.AJ f).2,()),B [116,97,107,101,32]++wr n,Y,())=_ from hw];simp only[A6];obtain c7|c7:=tf (wrR (Gw k<|FR (D8 (At k.AJ f).1 (At k.AJ f).2 f) (At k.AJ f).2) (JT n) Y).2
       .simp only[c7,AB,A4,A2];rfl
       .simp only[c7,AH,A4,A2,RF c7]
      .simp only[c6,A4,AX,A2,AP]
     .simp only[c5,AH,A4,A2]
    .simp only[c4,A4];rfl
def ahZ{k:A7}(h:Ag k=Y){f:Frame}:Wb (tKp k,tF f,())=I ((tKp (EB k f).1,(EB k f).2,()),()):=by
 have hk:=Bs h;have hkf:=Bv hk.kok;have sm:=DE h;have kf:=Dq h;have hl:=hkf.hl;have ml:=hkf.ml;have hl3:=kf.hl;have hlen:k.AJ.length<=1048576:=J
 unfold Wb EB;simp only[Hj h,A6];by_cases c1:f.un<=(stT k).ti
 .rw[A5<|AW c1,A5 c1];rfl
 .rw[A9 (by rw[BG c1];exact CY),A9 c1];simp only[KA (l:=(stT k).held)<|show(stT k).held.length<=1048576 by omega,TH (l:=(stT k).marks)<|show(stT k).marks.length<=1048576 by omega,A6,D6,Cy,FY,A2];by_cases c2:0<=AY (stT k).held f.fr f.nu\/0<=Br (stT k).marks f.fr f.nu
  .rw[A5 (by rw[Bp];exact c2.imp AW AW),A5 c2,jT kf.sh];rfl
  .rw[A9 (by rw[Bp];exact λh=>c2<|h.imp BV BV),A9 c2];by_cases c3:f.fr=k.id
   .rw[A5<|AW c3,A5 c3]
   .rw[A9 (by rw[BG c3];exact CY),A9 c3];simp only[aDH hlen,A6];have Ew:=PB (hv:=k.AJ) (f:=f);have Lp:=U3 (hv:=k.AJ) (f:=f) kf.hl;have oO:=aGt (f:=f)<|aGh h;have sV:∀ {Ω:Type} (F:(Int×Bool×A1×Int×List AG×D)×(Int×Int×Int×Int×Int×Int×Int×Int×Int×A1×D)×(Int×Bool×A1×Int×List AG×D)×Int×D->Option Ω),
      BU F ((if(U<|EN k.AJ f.fr f.nu<0) then
      (if Ac (k.AJ.length+([(AG.mk f.fr f.nu f.to f.un f.sz ([]:List AT))]:List AG).length) then
      (if(U<|3<((k.AJ++([(AG.mk f.fr f.nu f.to f.un f.sz ([]:List AT))]:List AG)).length:Int)) then
      (if(U (0<=1)&&U (1<=((k.AJ++([(AG.mk f.fr f.nu f.to f.un f.sz ([]:List AT))]:List AG)).length:Int))) then
      let v22:=(w64<|((Bt (AO 1)<|k.AJ++([(AG.mk f.fr f.nu f.to f.un f.sz ([]:List AT))]:List AG)).length:Int) - 1)
      I (.inr ((k.id,k.up,k.log,k.fo,(Bt (AO 1)<|k.AJ++([(AG.mk f.fr f.nu f.to f.un f.sz ([]:List AT))]:List AG)),()),tF f,(0,A0,noB,0,([]:List AG),()),v22,()))
      else G)
      else
      let v23:=(w64<|((k.AJ++([(AG.mk f.fr f.nu f.to f.un f.sz ([]:List AT))]:List AG)).length:Int) - 1)
      I (.inr ((k.id,k.up,k.log,k.fo,(k.AJ++([(AG.mk f.fr f.nu f.to f.un f.sz ([]:List AT))]:List AG)),()),tF f,(0,A0,noB,0,([]:List AG),()),v23,())))
      else G)
      else
      I (.inr (tKp k,tF f,(0,A0,noB,0,([]:List AG),()),(EN k.AJ f.fr f.nu,())))))=F ((k.id,k.up,k.log,k.fo,(At k.AJ f).1,()),tF f,(0,A0,noB,0,[],()),((At k.AJ f).2:Int),()):=by
     intro Ω F;unfold At;obtain h|⟨i,h1,h2,_⟩:=Ta k.AJ f.fr f.nu
     .rw[A5<|AW h,A5 h,A5<|G8 hlen aJO];by_cases h4:3<=k.AJ.length
      .rw[A5<|AW aJL,A5 aJL,A5 h4];have e1:Bt (AO 1) (k.AJ++[(⟨f.fr,f.nu,f.to,f.un,f.sz,[]⟩:AG)])=k.AJ.drop 1++[⟨f.fr,f.nu,f.to,f.un,f.sz,[]⟩]:=by
        show Bt 1 _=_;rw[Uj J]
       simp only[e1];rw[Bh,AZ (by first|(simp;done)|(simp;omega)) (by first|(simp;done)|(simp;omega))];congr 1;simp
      .rw[A9 aJL,A9 h4];simp only;rw[Bh,AZ (by first|(simp;done)|(simp;omega)) (by first|(simp;done)|(simp;omega))];congr 1;simp
     .rw[A9 (by rw[BG J];exact CY),A9 (J:¬EN k.AJ f.fr f.nu<0),Bh];simp only;rw[h1,BX]
    rw[sV];have hgl:=aGj (hA (At k.AJ f).1 (At k.AJ f).2).got f.mix f.da;unfold Jc;have hLg:=λhv=>aHQ hk.Ls hv;revert Ew Lp oO hgl;generalize (At k.AJ f).1=l;generalize (At k.AJ f).2=i;intro Ew Lp oO hgl;have alw:l.set i ⟨(hA l i).fr,(hA l i).nu,(hA l i).to,(hA l i).un,(hA l i).sz,D2 (hA l i).got f.mix f.da⟩=D8 l i f:=rfl;have hal:(D8 l i f).length=l.length:=by unfold D8;rw[Gh]
    have hat:hA (D8 l i f) i=⟨(hA l i).fr,(hA l i).nu,(hA l i).to,(hA l i).un,(hA l i).sz,D2 (hA l i).got f.mix f.da⟩:=aaf Ew _;simp only[AR Ew,A2,Me,BX];unfold Mg;obtain e1|e1:=tfp ((hA l i).to=f.to)<;>simp only[e1,AX,Ad,AB,AH,A4,A2,AU,AP];obtain e2|e2:=tfp ((hA l i).un=f.un)<;>simp only[e2,AX,Ad,AB,AH,A4,A2,AU,AP];obtain e3|e3:=tfp ((hA l i).sz=f.sz)<;>simp only[e3,AX,Ad,AB,AH,A4,A2];have e3':(hA l i).sz=f.sz:=of_eq_true e3;rw[arQ<|show(hA l i).got.length<=1048576 by omega];simp only[A6,alw,hat];rw[e3'];rw[anw f.sz _<|show(D2 (hA l i).got f.mix f.da).length<=1048576 by omega];simp only[A6];obtain c5|c5:=tf (FO f.sz<|D2 (hA l i).got f.mix f.da).2
    .simp only[c5,AB,A4,A2];rw[A5 aJL,A5<|G8 (l:=([]:List AG)) aJO aJL,Dh (n:=i) (m:=l.length) Ew J,A5 aJL,A5<|G8 aJL aJL];rw[Wc (by have:=aHJ (s:=f.sz) (l:=D2 (hA l i).got f.mix f.da);omega)];simp only[A6,El,BX];unfold JV;generalize hn:(⟨f.fr,f.nu,f.to,f.un,(FO f.sz<|D2 (hA l i).got f.mix f.da).1⟩:A3)=n;have hL:=hLg<|FR (D8 l i f) i;have hdr:BQ i (D8 l i f)++Bt (i+1) (D8 l i f)=FR (D8 l i f) i:=rfl;rw[hdr];obtain c6|c6:=tf (Ay n)
     .have hz:=c8 (w:=B [116,97,107,101,32]) (by rw[BS];decide) c6;have hw:=YW hL (r:=JT n) hz;simp only[c6,A2,AU];rw[A5<|AW (by rw[C3]at hz;omega)];rw[show Oj ((k.id,k.up,k.log,k.fo,FR (D8 l i f) i,()),B [116,97,107,101,32]++wr n,())=_ from hw];simp only[A6];unfold wrR;rw[hL.stT];cases hc:BK (stT k) (JT n) with
      | none=>rfl
      | some o=>
       simp only[AB,A4,A2];rw[jT<|aaJ hL hc];rfl
     .have hb:BK (stT k) (B [116,97,107,101,32]++noB)=G:=aFn hk.kok nK<|.inr rfl;have hz0:(B [116,97,107,101,32]++noB).size<=1048576:=by rw[C3,BS];show 5+0<=1048576;omega
      have hw:=YW hL (r:=B [116,97,107,101,32]++noB) hz0;rw[aHP (by rw[hL.stT];exact hb)]at hw;simp only[c6,A4,AP];rw[A5<|AW (show(B [116,97,107,101,32]).size+noB.size<=4611686018427387904 by rw[BS];show 5+0<=4611686018427387904;omega)];rw[show Oj ((k.id,k.up,k.log,k.fo,FR (D8 l i f) i,()),B [116,97,107,101,32]++noB,())=_ from hw];rfl
    .simp only[c5,AH,A4,A2]
def YE{α β:Type}[DecidableEq β]{l:List α}{f:α->β}:(l.map f).Nodup↔ ∀(i j:Nat) (hi:i<l.length) (hj:j<l.length),j<i->f l[j]≠f l[i]:=by
 unfold List.Nodup;rw[Jj];constructor
 .intro h i j hi hj hlt;have:=h j i (by simpa using hj) (by simpa using hi) hlt;simpa using this
 .intro h i j hi hj hlt;have:=h j i (by simpa using hj) (by simpa using hi) hlt;simpa using this
def cU{l:List AT}{i:Nat}(h:i<l.length):xA l i=l[i]:=by
 rw[xA,BA,Ar h];rfl
def Iz(m:AT):Prop:=inB m.nu 0 999=Y/\(m.da.size:Int)=4
structure SU (l:List AT):Prop where
 el:∀m∈l,Iz m
 nd:(l.map (·.nu)).Nodup
def aa7{l:List AT}:Ap l.length (IP l)=Y↔SU l:=by
 rw[CC];constructor
 .intro h;refine⟨λm hm=> ?_,YE.2 λi j hi hj hlt=> ?_⟩
  .obtain⟨i,hi,rfl⟩:=aaP hm;have:=h i hi;unfold IP at this;simp only[AD]at this;exact⟨this.1.1,BV this.1.2⟩
  .have:=h i hi;unfold IP at this;simp only[AD]at this;have:=CC.1 this.2 j hlt;rw[cU hi,cU hj]at this;simpa using this
 .intro h i hi;unfold IP;simp only[AD];have h1:=h.el l[i] (CS hi);rw[cU hi];refine⟨⟨h1.1,AW h1.2⟩,CC.2 λj hj=> ?_⟩;have:=YE.1 h.nd i j hi J hj;rw[cU (J:j<l.length)];simpa using this
def avl{l:List AT}(h:SU l)(hl:l.length<=14){mix:Int}{da:A1}(hm:Iz ⟨mix,da⟩):SU (D2 l mix da)/\(D2 l mix da).length<=14:=by
 have hf:(l.filter<|Dt mix).length<=l.length:=J4 _ _;have Lt:∀g:List AT,g.Sublist (l.filter<|Dt mix)->SU (g++[⟨mix,da⟩]):=by
  intro g hg;refine⟨λm hm'=> ?_, ?_⟩
  .rcases BL.1 hm' with h1|h1
   .exact h.el m (FU.1<|hg.subset h1).1
   .rw[C8.1 h1];exact hm
  .rw[Em,Jo];refine⟨h.nd.sublist<|(hg.trans List.filter_sublist).map _,by simp,λa ha b hb=> ?_⟩;obtain⟨m,h1,rfl⟩:=C1.1 ha;have h2:=(FU.1<|hg.subset h1).2;have hb:b=mix:=by simpa using hb
   rw[hb];unfold Dt at h2;simpa using h2
 unfold D2;split
 .refine⟨Lt _<|Rs _ _, ?_⟩;simp only[Ax,Jq,EQ];omega
 .refine⟨Lt _<|Ek _, ?_⟩;simp only[Ax,Jq];omega
abbrev O9(h:AG):Int×Int:=(h.fr,h.nu)
structure Jw (l:List AG):Prop where
 el:∀h∈l,GB h=Y
 nd:(l.map O9).Nodup
def rI{l:List AG}:(∀i,i<l.length->G0 l i=Y)↔Jw l:=by
 constructor
 .intro h;refine⟨λm hm=> ?_,YE.2 λi j hi hj hlt=> ?_⟩
  .obtain⟨i,hi,rfl⟩:=PW hm;have:=h i hi;unfold G0 at this;rw[AD]at this;exact this.1
  .have:=h i hi;unfold G0 at this;rw[AD]at this;have:=CC.1 this.2 j hlt;rw[IN hi,IN hj]at this;intro e;simp only[O9,CV]at e;simp[e.1,e.2]at this
 .intro h i hi;unfold G0;rw[AD];refine⟨by rw[IN hi];exact h.el _<|CS hi,CC.2 λj hj=> ?_⟩;have:=YE.1 h.nd i j hi J hj;rw[IN hi,IN (J:j<l.length)];simp only[O9,ne_eq,CV,not_and]at this;by_cases e:l[j].fr=l[i].fr
  .simp[e,this e]
  .simp[e]
def P5{f:Frame}(h:C2 f=Y):isN f.src=Y/\isN f.dst=Y/\isN f.fr=Y/\isN f.to=Y/\inB f.nu 1 99=Y/\inB f.un 1 999=Y/\JX f=Y:=by
 unfold C2 at h;simp only[AD]at h;exact h
def Yx{f:Frame}(h:C2 f=Y)(h1:f.ki=1):inB f.sz 1 24=Y/\Iz ⟨f.mix,f.da⟩/\f.dst=BR f.src f.to:=by
 have:=(P5 h).2.2.2.2.2.2;unfold JX at this;rw[A5<|AW h1]at this;simp only[AD]at this;exact⟨this.1,⟨this.2.1,BV this.2.2.1⟩,BV this.2.2.2⟩
def Jw.sub{l g:List AG}(h:Jw l)(hg:g.Sublist l):Jw g:=⟨λx hx=>h.el x<|hg.subset hx,h.nd.sublist<|hg.map _⟩
def aJh{l:List AG}(h:Jw l){f:Frame}(hf:C2 f=Y)(h1:f.ki=1):Jw (At l f).1:=by
 obtain⟨_,_,r3,r4,r5,r6,_⟩:=P5 hf;have hp:=Yx hf h1;unfold At;split
 .rename_i hi;have Vb:∀x∈l,O9 x≠(f.fr,f.nu):=by
   intro x hx e;obtain⟨i,hi',rfl⟩:=PW hx;simp only[O9,CV]at e;obtain h|⟨i,h,_⟩:=GP l.length (λi=>U ((hA l i).fr=f.fr)&&U ((hA l i).nu=f.nu))
   .have:=h.2 i hi';simp[e.1,e.2]at this
   .have:EN l f.fr f.nu=(i:Int):=h;omega
  have Lt:∀g:List AG,g.Sublist l->Jw (g++[⟨f.fr,f.nu,f.to,f.un,f.sz,[]⟩]):=by
   intro g hg;refine⟨λx hx=> ?_, ?_⟩
   .rcases BL.1 hx with h2|h2
    .exact h.el x (hg.subset h2)
    .rw[C8.1 h2];unfold GB;simp only[r3,r4,r5,r6,hp.1,AU];rfl
   .rw[Em,Jo];refine⟨h.nd.sublist<|hg.map _,by simp,λa ha b hb=> ?_⟩;obtain⟨m,h2,rfl⟩:=C1.1 ha;have hb:b=(f.fr,f.nu):=by simpa using hb
    rw[hb];exact Vb m<|hg.subset h2
  simp only;split
  .exact Lt _ (Rs _ _)
  .exact Lt _ (Ek _)
 .exact h
def avh{h:AG}(ok:GB h=Y):SU h.got/\h.got.length<=14:=by
 have h1:=aay ok;unfold GB at ok;simp only[AD]at ok;exact⟨aa7.1 ok.2.2.2.2.2.2,h1⟩
def avg{h:AG}(ok:GB h=Y){g:List AT}(hg:SU g)(hl:g.length<=14):GB ⟨h.fr,h.nu,h.to,h.un,h.sz,g⟩=Y:=by
 unfold GB at ok ⊢;simp only[AD]at ok ⊢;exact⟨ok.1,ok.2.1,ok.2.2.1,ok.2.2.2.1,ok.2.2.2.2.1,AW J,aa7.2 hg⟩
def aJw{l:List AG}(h:Jw l){i:Nat}(hi:i<l.length){f:Frame}(hm:Iz ⟨f.mix,f.da⟩):Jw (D8 l i f):=by
 have hh:=h.el l[i] (CS hi);have hg:=avh hh;have hn:=avl hg.1 hg.2 hm;unfold D8;rw[IN hi];refine⟨λx hx=> ?_, ?_⟩
 .rcases Rj hx with h1|h1
  .exact h.el x h1
  .rw[h1];exact avg hh hn.1 hn.2
 .rw[List.map_set];have:(l.map O9).set i (O9 ⟨l[i].fr,l[i].nu,l[i].to,l[i].un,l[i].sz,D2 l[i].got f.mix f.da⟩)=l.map O9:=by
   apply List.ext_getElem aJO;intro j h1 h2;rw[List.getElem_set];split
   .rename_i e;subst e;simp
   .rfl
  rw[this];exact h.nd
def aaD{l:List AG}(h:Jw l)(i:Nat):Jw (FR l i):=by
 refine h.sub ?_;unfold FR;have:(l.take i++l.drop (i+1)).Sublist (l.take i++l.drop i):=pa (Ek _) (by rw[← J5];exact Rs _ _);rw[JA]at this;exact this
def aN{k:A7}{st:AE}(h:DL k st)(hu:k.up=Y){hv:List AG}(hl:hv.length<=3)(hf:Jw hv):DL (Gw k hv) st:=by
 obtain⟨rs,ts,h1,h2⟩:=h.lg;have kf:=Dq h.ok;exact⟨Xz (k:=Gw k hv) kf.id h1 hl (.inl hu) (by rw[show(Gw k hv).id=k.id from rfl,h2];rfl)<|rI.2 hf,h.st⟩
def V6{k:A7}{st:AE}(h:DL k st)(r:A1)(b:Bool):∃o,DL (wrR k r b).1 o/\((wrR k r b).2=Y->BK st r=I o)/\((wrR k r b).2=A0->o=st/\BK st r=G):=by
 unfold wrR;rw[h.stT];cases hc:BK st r with
 | none=>exact⟨st,h,(λe=>absurd e CY),λ_=>⟨rfl,rfl⟩⟩
 | some o=>
  refine⟨o, ?_,(λ_=>rfl),λe=>absurd e.symm CY⟩;simp only;split
  .exact RS (PO h hc)
  .exact PO h hc
def nj{k:A7}(h:Ag k=Y)(hu:k.up=Y){f:Frame}(hf:C2 f=Y)(h1:f.ki=1):Ag (EB k f).1=Y:=by
 have hk:=Bs h;have kf:=Dq h;have hv:=rI.1 kf.hv;have hp:=Yx hf h1;have Ew:=PB (hv:=k.AJ) (f:=f);have Lp:=U3 (hv:=k.AJ) (f:=f) kf.hl;have hpf:=aJh hv hf h1;have haf:=aJw hpf Ew hp.2.1;have hal:(D8 (At k.AJ f).1 (At k.AJ f).2 f).length=(At k.AJ f).1.length:=by unfold D8;rw[Gh]
 unfold EB;split
 .exact h
 split
 .exact(RS hk).ok
 split
 .exact h
 unfold Jc;split
 .split
  .unfold JV;have hw:=aN hk hu (hv:=FR (D8 (At k.AJ f).1 (At k.AJ f).2 f) (At k.AJ f).2) (by unfold FR;simp;omega)<|aaD haf _;split
   .obtain⟨o,ho,_⟩:=V6 hw (JT ⟨f.fr,f.nu,f.to,f.un,(FO f.sz<|D2 (hA (At k.AJ f).1 (At k.AJ f).2).got f.mix f.da).1⟩) Y;exact ho.ok
   .exact hw.ok
  .exact(aN hk hu (by rw[hal];exact Lp) haf).ok
 .exact(aN hk hu Lp hpf).ok
def HS(k:A7)(f:Frame):A7×List Frame:=
 if k.up&&(C2 f&&U (f.dst=k.id)) then
  (if U (f.ki=1) then EB k f
   else if U (f.ki=2)&&(!decide (AY (stT k).held f.fr f.nu<0)&&(U ((nA (stT k).held (AY (stT k).held f.fr f.nu).toNat).to=f.to)&&U ((nA (stT k).held (AY (stT k).held f.fr f.nu).toNat).un=f.un))) then
    ((wrR k (Ca C0 f.fr f.nu f.un) A0).1,[])
   else(k,[]))
 else(k,[])
def CF(k:A7)(f:Frame):A7×List Frame:=if Ag k then HS k f else(zKp,[])
def ZP{f:Frame}(h:C2 f=Y):(0<=f.fr/\f.fr<=999)/\(0<=f.nu/\f.nu<=999)/\(0<=f.un/\f.un<=999):=by
 obtain⟨_,_,r3,_,r5,r6,_⟩:=P5 h;have a:=Aa.1 r3;have b:=Aa.1 r5;have c:=Aa.1 r6;exact⟨J,J,J⟩
def afp{k:A7}(sm:FZ k)(f:Frame):WE (tKp k,tF f,())=I ((tKp (CF k f).1,(CF k f).2,()),()):=by
 unfold WE CF;rw[M7 sm];obtain h|h:=tf (Ag k)
 .have hk:=Bs h;have hkf:=Bv hk.kok;have hl:=hkf.hl;have hl':(stT k).held.length<=1048576:=J
  unfold HS;simp only[A6,h,AB,A4,A2,ND sm,aB1,On h,K4 hl'];obtain e|e:=tf k.up<;>simp only[e,AB,AH,A4,A2,AU,AP];obtain e2|e2:=tf (C2 f)<;>simp only[e2,AB,AH,A4,A2,AU,AP];obtain e3|e3:=tfp (f.dst=k.id)<;>simp only[e3,AX,Ad,AB,AH,A4,A2];obtain⟨r1,r2,r3⟩:=ZP e2;obtain e4|e4:=tfp (f.ki=1)
  .have e4':=of_eq_true e4;simp only[e4,AX,A2];rw[show X1 (tKp k,tF f,())=_ from aqe h e2 e4'];simp only[A6];rw[ND<|DE<|nj h e e2 e4'];rfl
  .simp only[e4,Ad,A4];obtain e5|e5:=tfp (f.ki=2)<;>simp only[e5,AX,Ad,AB,AH,A4,A2,AU,AP];by_cases hi:AY (stT k).held f.fr f.nu<0
   .simp only[AW hi,A2,AB,AP,A4]
   .have hi':0<=AY (stT k).held f.fr f.nu:=J
    simp only[BG hi,A4,AH,AU,A2,NS hi',SC];obtain e6|e6:=tfp ((nA (stT k).held (AY (stT k).held f.fr f.nu).toNat).un=f.un)<;>simp only[e6,AX,Ad,AB,AH,A4,A2,Lh,Ba];obtain e7|e7:=tfp ((nA (stT k).held (AY (stT k).held f.fr f.nu).toNat).to=f.to)<;>simp only[e7,AX,Ad,AB,AH,A4,A2];have hz:=Yi (w:=C0) aJT r1 r2 r3;have hw:=Wz hk.Ls (r:=Ca C0 f.fr f.nu f.un) J A0;rw[aDW r1 r2 r3];simp only[A6];rw[A5<|AW (by rw[← Yr [108,101,116]]at hz;rw[C3]at hz;rw[show(B [108,101,116,32]).size=(B<|[108,101,116]++[32]).size from rfl];omega)];rw[show(B [108,101,116,32])=B ([108,101,116]++[32]) from rfl,Yr [108,101,116],hw];rfl
 .simp only[A6,h,AH,A2,A4]
def yC{k:A7}(sm:FZ k)(f:Frame):Sc (tKp k,tF f,())=I ((tKp (CF k f).1,(CF k f).2,()),()):=by
 unfold Sc CF;rw[K0 sm];obtain h|h:=tf (Ag k)
 .have hk:=Bs h;have hkf:=Bv hk.kok;have hl:=hkf.hl;have hl':(stT k).held.length<=1048576:=J
  unfold HS;simp only[A6,h,AB,A4,A2,LB sm,aCD,Hj h,KA hl'];obtain e|e:=tf k.up<;>simp only[e,AB,AH,A4,A2,AU,AP];obtain e2|e2:=tf (C2 f)<;>simp only[e2,AB,AH,A4,A2,AU,AP];obtain e3|e3:=tfp (f.dst=k.id)<;>simp only[e3,AX,Ad,AB,AH,A4,A2];obtain⟨r1,r2,r3⟩:=ZP e2;obtain e4|e4:=tfp (f.ki=1)
  .have e4':=of_eq_true e4;simp only[e4,AX,A2];rw[show Wb (tKp k,tF f,())=_ from ahZ h];simp only[A6];rw[LB<|DE<|nj h e e2 e4'];rfl
  .simp only[e4,Ad,A4];obtain e5|e5:=tfp (f.ki=2)<;>simp only[e5,AX,Ad,A4,A2,AU,AP];by_cases hi:AY (stT k).held f.fr f.nu<0
   .rw[A9 (show ¬U (0<=AY (stT k).held f.fr f.nu)=Y by simp;omega)];simp only[AW hi,Hl,A2,Bh,AB,AP,A4]
   .have hi':0<=AY (stT k).held f.fr f.nu:=J
    rw[A5<|AW hi'];simp only[BG hi,AH,AU,A2,NS hi',SC,FY,Bh];obtain e7|e7:=tfp ((nA (stT k).held (AY (stT k).held f.fr f.nu).toNat).to=f.to)<;>simp only[e7,AX,Ad,A4,A2,AU,AP];obtain e6|e6:=tfp ((nA (stT k).held (AY (stT k).held f.fr f.nu).toNat).un=f.un)<;>simp only[e6,AX,Ad,A4,A2];have hz:=Yi (w:=C0) aJT r1 r2 r3;have hw:=YW hk.Ls (r:=Ca C0 f.fr f.nu f.un) J;rw[show QP (B [108,101,116],f.fr,f.nu,f.un,())=_ from wP (w:=C0) aJT r1 r2 r3];simp only[A6];rw[hw];rfl
 .simp only[A6,h,AH,A2,A4]
def avd{k:A7}(h:Ag k=Y)(f:Frame):Ag (CF k f).1=Y:=by
 have hk:=Bs h;unfold CF HS;rw[A5 h];split
 .rename_i hc;simp only[AD]at hc;split
  .rename_i h1;exact nj h hc.1 hc.2.1 (BV h1)
  .split
   .obtain⟨o,ho,_⟩:=V6 hk (Ca C0 f.fr f.nu f.un) A0;exact ho.ok
   .exact h
 .exact h
def att{k:A7}(h:Ag k=Y):Ag (Fh k).1=Y:=by
 unfold Fh;split
 .obtain⟨o,ho,_⟩:=V6 (Bs h) (Fu<|(stT k).ti+1) Y;exact ho.ok
 .exact h
def axW{k:A7}(h:Ag k=Y)(tt un:Int)(tx:A1):Ag (Dx k tt un tx).1=Y:=by
 unfold Dx;split
 .obtain⟨o,ho,_⟩:=V6 (Bs h) (LV ⟨k.id,(stT k).nx,tt,un,tx⟩) Y;exact ho.ok
 .exact h
def axy{k:A7}(h:Ag k=Y)(fr nu:Int):Ag (De k fr nu).1=Y:=by
 unfold De;split
 .obtain⟨o,ho,_⟩:=V6 (Bs h) (Ca CO fr nu (nA (stT k).inbox (AY (stT k).inbox fr nu).toNat).un) Y;exact ho.ok
 .exact h
def auu{k:A7}(h:Ag k=Y):Ag (Fj k).1=Y:=by
 unfold Fj;split
 .exact(rM<|Bs h).ok
 .exact h
def auS{k:A7}(h:Ag k=Y):Ag (Di k).1=Y:=by
 unfold Di;split
 .exact(RS<|Bs h).ok
 .exact h
def Za(l:List Int):(BI l).size=l.length:=by
 show(List.toArray _).size=_;simp
def at3(f:Frame):(Ci f).length<=17:=by
 unfold Ci;split
 .rename_i h;have:=ZB h;simp only[Ax,Bf,CL];omega
 .simp
def frA(l:List Frame)(i:Nat):Frame:=l.getD i<|dfl .frame
def aI8(l:List Frame)(i:Nat): @rd Frame aJZ l (i:Int)=frA l i:=rfl
def pcF(f:Frame):AL:=⟨f.src,f.dst,BI<|Ci f,A0⟩
def C4(ra:List AL)(fs:List Frame):List AL:=ra++(fs.take<|30 - ra.length).map pcF
def aac{l:List Frame}{i:Nat}(h:i<l.length):frA l i=l[i]:=by
 rw[frA,BA,Ar h];rfl
def aB2{ra:List AL}{fs:List Frame}(hf:fs.length<=1048576):TA (ra,fs,())=I ((C4 ra fs,()),()):=by
 have GJ:uR (ra,fs,0,())=I (.inr (C4 ra fs,())):=by
  have h0:=CE (b:=Wy) (y:= .inr (C4 ra fs,())) (λi=>(ra++(fs.take i).map pcF,fs,(i:Int),())) (min fs.length<|30 - ra.length) (λi hi=>by
   have h1:i<fs.length:=J
   have h2:(ra++(fs.take i).map pcF).length=ra.length+i:=by simp;omega
   unfold Wy;simp only[B6 h1,AR h1,aI8,B1 h1 (by omega:fs.length<=9223372036854775807),h2];rw[A5 aJL];simp only[A2];rw[show QO ((_,_,_,_,_,_,_,_,_,_,()),())=_ from zO<|frA fs i];simp only[A6];rw[A5<|BE aJL];have h3:ra++(fs.take<|i+1).map pcF=(ra++(fs.take i).map pcF)++[pcF (frA fs i)]:=by
    rw[aac h1,C7,← List.map_singleton (f:=pcF),← Em,List.take_append_getElem h1]
   rw[h3];rfl) (by
   unfold Wy;have h2:(ra++(fs.take<|min fs.length<|30 - ra.length).map pcF).length=ra.length+min fs.length (30 - ra.length):=by simp
   simp only[h2];rw[A9 (by simp only[AD,decide_eq_true_eq];omega)];have h3:fs.take (min fs.length<|30 - ra.length)=fs.take (30 - ra.length):=by
    rw[Nat.min_comm,← bF,E6]
   rw[h3];rfl)
  simp only[List.take_zero,Jm,CU]at h0;exact h0
 unfold TA;simp only[GJ,C9]
def Po(f:Frame):Prop:=isN f.src=Y/\isN f.dst=Y/\(f.src - f.dst=1\/f.dst - f.src=1)
def ayu{f:Frame}(h:Po f):Dw (pcF f)=Y:=by
 have:=at3 f;unfold Dw pcF;simp only[h.1,h.2.1,AU,Za,AD,Bp,decide_eq_true_eq];exact⟨h.2.2,J⟩
def aI1{ra:List AL}{fs:List Frame}(h:ra.length<=30):(C4 ra fs).length<=30:=by
 unfold C4;simp;omega
def aJc{ra:List AL}{fs:List Frame}(h:∀p∈ra,Dw p=Y)(hf:∀f∈fs,Po f):∀p∈C4 ra fs,Dw p=Y:=by
 intro p hp;obtain h1|h1:=BL.1 hp
 .exact h p h1
 .obtain⟨f,h2,rfl⟩:=C1.1 h1;exact ayu<|hf f<|Hb h2
def nN{a t:Int}(h:isN (BR a t)=Y):isN a=Y/\(a - BR a t=1\/BR a t - a=1):=by
 have h0:=E9 h;revert h0;unfold BR;split
 .omega
 .rename_i h1;intro _;simp only[Bp,Bz,not_or,Bool.not_eq_false]at h1;refine⟨h1.1, ?_⟩;split<;>omega
def avQ{f:Frame}(h:C2 f=Y):Po f:=by
 obtain⟨r1,r2,_,_,_,_,r7⟩:=P5 h;refine⟨r1,r2, ?_⟩;unfold JX at r7;split at r7
 .simp only[AD,decide_eq_true_eq]at r7;have h1:=r7.2.2.2;have:=nN (a:=f.src) (t:=f.to) (by rw[← h1];exact r2);rw[← h1]at this;exact this.2
 .simp only[AD,decide_eq_true_eq]at r7;have h1:=r7.2.2.2.2;have:=nN (a:=f.dst) (t:=f.to) (by rw[← h1];exact r1);rw[← h1]at this;exact this.2.symm
def axo{f:Frame}(n:Int)(h:Po f):Po (Dm n f):=⟨h.2.1,h.1,h.2.2.symm⟩
def auM(k:A7)(f:Frame):(CF k f).2=[]\/(C2 f=Y/\ ∃n,(CF k f).2=[Dm n f]):=by
 unfold CF;split
 .unfold HS;split
  .rename_i hc;simp only[AD]at hc;split
   .unfold EB;split
    .exact .inr ⟨hc.2.1,3,rfl⟩
    .split
     .exact .inr ⟨hc.2.1,2,rfl⟩
     .split
      .exact .inl rfl
      .unfold Jc;split
       .split
        .unfold JV;split
         .exact .inr ⟨hc.2.1,2,rfl⟩
         .exact .inl rfl
        .exact .inl rfl
       .exact .inl rfl
   .split<;>exact .inl rfl
  .exact .inl rfl
 .exact .inl rfl
def ZO(k:A7)(f:Frame):(CF k f).2.length<=1/\ ∀g∈(CF k f).2,Po g:=by
 obtain h|⟨h,n,h1⟩:=auM k f
 .rw[h];exact⟨by simp,λg hg=>by cases hg⟩
 .rw[h1];exact⟨by simp,λg hg=>by rw[C8.1 hg];exact axo n<|avQ h⟩
def avt{k:A7}(h:Ag k=Y){fr nu mix:Int}(hb:(EK k fr nu mix).2=Y):Po (EK k fr nu mix).1:=by
 unfold EK at hb ⊢;split
 .rename_i hc;simp only[AD,Bz,decide_eq_false_iff_not]at hc;have hk:=Bs h;have h0:=(FK<|Rz.1 hc.2.1).1;have:=nr hk.kok (n:=nA (stT k).held (AY (stT k).held fr nu).toNat) (by rw[nA,BA,Ar h0];exact CS h0);rw[hk.id]at this;have h2:=nN this;exact⟨h2.1,this,h2.2⟩
 .rename_i hc;rw[A9 hc]at hb;cases hb
structure B4 (w:AA):Prop where
 kl:w.A8.length=4
 ll:w.An.length=3
 rl:w.AQ.length<=30
 sl:w.AN.length<=6
 gl:w.got.length<=6
 k:∀i,i<4->Ag (kA w.A8 i)=Y/\(kA w.A8 i).id=(i:Int)
 p:∀p∈w.AQ,Dw p=Y
 s:∀n∈w.AN,Ay n=Y
 g:∀n∈w.got,Ay n=Y
def EC(w:AA)(p:AL)(ra:List AL):AA:=
 if(D0<|BD p.data).2&&(U ((D0<|BD p.data).1.src=p.src)&&U ((D0<|BD p.data).1.dst=p.dst)) then
  ⟨w.ti,w.A8.set p.dst.toNat (CF (kA w.A8 p.dst.toNat) (D0<|BD p.data).1).1,w.An,C4 ra (CF (kA w.A8 p.dst.toNat) (D0<|BD p.data).1).2,w.AN,w.got⟩
 else⟨w.ti,w.A8,w.An,ra,w.AN,w.got⟩
def PS(p:AL)(mix kp:Int):AL:=⟨p.src,p.dst,BI<|Bu (BD p.data) mix.toNat<|E0 .u8 (@rd Int aJW (BD p.data) mix)<|w8 kp,Y⟩
def JY(ra:List AL)(i:Nat):List AL:=ra.take i++ra.drop (i+1)
def lnk(p:AL):Int:=if p.src<p.dst then p.src else p.dst
def EW(w:AA)(e:Event):AA×Bool:=
 if inB e.wo 0 ((w.AQ.length:Int) - 1) then
  if e.ki=6 then
   if !(pA w.AQ e.wo.toNat).sp&&(inB e.mix 0 (((pA w.AQ e.wo.toNat).data.size:Int) - 1)&&inB e.kp 1 255) then
    (⟨w.ti,w.A8,w.An,w.AQ.set e.wo.toNat<|PS (pA w.AQ e.wo.toNat) e.mix e.kp,w.AN,w.got⟩,Y)
   else(w,A0)
  else if e.ki=5 then(⟨w.ti,w.A8,w.An,JY w.AQ e.wo.toNat,w.AN,w.got⟩,Y)
  else if bA w.An (lnk<|pA w.AQ e.wo.toNat).toNat then(EC w (pA w.AQ e.wo.toNat)<|if e.kp=0 then JY w.AQ e.wo.toNat else w.AQ,Y)
  else(w,A0)
 else(w,A0)
def GK(w:AA)(i:Nat)(k:A7):AA:=⟨w.ti,w.A8.set i k,w.An,w.AQ,w.AN,w.got⟩
def O1(w:AA)(e:Event)(k:A7):AA×Bool:=
 if 6<=w.AN.length then(w,A0)
 else if(Dx k e.to e.un e.tx).2=0 then(w,A0)
 else(⟨w.ti,w.A8.set e.at_.toNat (Dx k e.to e.un e.tx).1,w.An,w.AQ,w.AN++[⟨e.at_,(Dx k e.to e.un e.tx).2,e.to,e.un,e.tx⟩],w.got⟩,Y)
def OB(w:AA)(e:Event)(k:A7):AA×Bool:=
 if(De k e.fr e.nu).2.2&&U (w.got.length<6) then
  (⟨w.ti,w.A8.set e.at_.toNat (De k e.fr e.nu).1,w.An,w.AQ,w.AN,w.got++[(De k e.fr e.nu).2.1]⟩,Y)
 else(w,A0)
def Gt(w:AA)(e:Event)(k:A7):AA×Bool:=
 if e.ki=1 then O1 w e k
 else if e.ki=2 then(GK w e.at_.toNat (Fh k).1,(Fh k).2)
 else if e.ki=3 then(if(EK k e.fr e.nu e.mix).2 then(⟨w.ti,w.A8,w.An,C4 w.AQ [(EK k e.fr e.nu e.mix).1],w.AN,w.got⟩,Y) else(w,A0))
 else if e.ki=7 then(GK w e.at_.toNat<|faM k e.kp,k.up)
 else if e.ki=8 then(GK w e.at_.toNat<|riM k,!k.up)
 else if e.ki=11 then OB w e k
 else if e.ki=12 then(GK w e.at_.toNat (Fj k).1,(Fj k).2)
 else if e.ki=13 then(GK w e.at_.toNat (Di k).1,(Di k).2)
 else(w,A0)
def F5(w:AA)(e:Event):AA×Bool:=
 if inB e.at_ 0 ((w.An.length:Int) - 1)&& !decide (bA w.An e.at_.toNat=U (e.ki=9)) then
  (⟨w.ti,w.A8,w.An.set e.at_.toNat<|U<|e.ki=9,w.AQ,w.AN,w.got⟩,Y)
 else(w,A0)
def doM(w:AA)(e:Event):AA×Bool:=
 if e.ki=4\/e.ki=5\/e.ki=6 then EW w e
 else if e.ki=9\/e.ki=10 then F5 w e
 else if isN e.at_ then Gt w e (kA w.A8 e.at_.toNat)
 else(w,A0)
abbrev tE(e:Event):Int×Int×Int×Int×Int×Int×Int×Int×Int×A1×D:=(e.ki,e.at_,e.fr,e.nu,e.wo,e.mix,e.kp,e.to,e.un,e.tx,())
abbrev tS(w:AA)(ev:List Event):Int×List A7×List Bool×List AL×List A3×List A3×List Event×D:=(w.ti,w.A8,w.An,w.AQ,w.AN,w.got,ev,())
def tick(w:AA)(b:Bool):AA:=if b then⟨w64<|w.ti+1,w.A8,w.An,w.AQ,w.AN,w.got⟩ else w
def CX(w:AA)(e:Event):AA:=tick (doM w e).1 (doM w e).2
def KN(ev:List Event)(e:Event)(b:Bool):List Event:=if b then ev++[e] else ev
def aFW(l:List AL)(i:Int): @rd AL aJS l i=pA l i.toNat:=rfl
def Zv(l:List Bool)(i:Int): @rd Bool aJ3 l i=bA l i.toNat:=rfl
def rV{l:List AL}{i:Nat}(h:i<l.length):pA l i=l[i]:=by
 rw[pA,BA,Ar h];rfl
def FN{i:Int}{n:Nat}(h0:0<=i)(h1:i<n):inb i n=Y:=by unfold inb;simp;omega
def MF{p:AL}(h:Dw p=Y):(0<=p.src/\p.src<=3)/\(0<=p.dst/\p.dst<=3)/\p.data.size<=40/\0<=lnk p/\lnk p<3:=by
 unfold Dw at h;simp only[AD,Bp,decide_eq_true_eq]at h;have a:=E9 h.1;have b:=E9 h.2.1;refine⟨a,b,J, ?_, ?_⟩<;>unfold lnk<;>split<;>omega
def amo(a b:Int):iS (a,b,())=I ((if a<b then a else b,()),()):=by
 unfold iS;obtain e|e:=tfp (a<b)<;>simp only[e,AX,Ad,A2,if_false,A4]
def R0{w:AA}(h:B4 w){i:Nat}(hi:i<w.AQ.length):Dw (pA w.AQ i)=Y:=by
 rw[rV hi];exact h.p _<|CS hi
def VN{w:AA}(h:B4 w){i:Nat}(hi:i<4):FZ (kA w.A8 i):=DE (h.k i hi).1
def Qu{n:Nat}(h:n<=1048576):w64 ((n:Int) - 1)=(n:Int) - 1:=AZ J J
def nd{p:Prop}[Decidable p](h:¬p):¬(U p=Y):=by simpa using h
def aJb{α:Type}(l:List α)(i:Nat)(x y:α):(l.set i x).set i y=l.set i y:=by simp
def aaZ{l:List AL}{i:Nat}(h:i<l.length)(p:AL):pA (l.set i p) i=p:=by
 rw[pA,BA,bN h];rfl
def rS(s:A1):(BD s).length=s.size:=by rw[Tu,Df,Az]
def VD{n:Int}(h:isN n=Y):n.toNat<4:=by have:=E9 h;omega
section
variable {Ω:Type} {K2:List A7->List AL->Option Ω} {F:Option Ω}
def aat{w:AA}(h:B4 w){e:Event}(hk:e.ki≠5){p:AL}(hp:Dw p=Y)(ra:List AL):SO w.A8 ra (tE e) p K2=K2 (EC w p ra).A8 (EC w p ra).AQ:=by
 obtain⟨p1,p2,p3,p4,p5⟩:=MF hp;have hin:inb p.dst w.A8.length=Y:=FN p2.1 (by rw[h.kl];omega);unfold SO EC;rw[A9<|nd hk,A5<|BE J,aet<|BOk.str _];generalize D0 (BD p.data)=u;simp only[A6];obtain e2|e2:=tf u.2<;>simp only[e2,AB,AH,A4,A2,AU,AP];obtain e3|e3:=tfp (u.1.src=p.src)<;>simp only[e3,AX,Ad,AB,AH,A4,A2,AU,AP];obtain e4|e4:=tfp (u.1.dst=p.dst)<;>simp only[e4,AX,Ad,AB,AH,A4,A2];simp only[hin,A2,Tg];rw[show WE ((_,_,_,_,_,()),_,())=_ from afp (VN h (i:=p.dst.toNat) J) u.1];simp only[A6];rw[aB2 (by have:=(ZO (kA w.A8 p.dst.toNat) u.1).1;omega)];rfl
def aau{a:List A7}{ra:List AL}{e:Event}(h0:0<=e.wo)(h1:e.wo<ra.length)(hl:ra.length<=1048576)(p:AL):dA a ra (tE e) p K2=SO a (JY ra e.wo.toNat) (tE e) p K2:=by
 have hw:w64 (e.wo+1)=e.wo+1:=AZ J J;have hn:(e.wo+1).toNat=e.wo.toNat+1:=J
 unfold dA;simp only[hw,hn];rw[A5 aJL,A5<|BE aJL,A5 aJL,A5<|BE aJL];rfl
def ayB{w:AA}(h:B4 w){e:Event}(hk:e.ki=4\/e.ki=5\/e.ki=6):SP w.A8 w.An w.AQ (tE e) K2 F=if(EW w e).2 then K2 (EW w e).1.A8 (EW w e).1.AQ else F:=by
 have rl:=h.rl;unfold SP EW;simp only[IB,A6,Qu (J:w.AQ.length<=1048576),aFW];obtain e0|e0:=tf (inB e.wo 0<|(w.AQ.length:Int) - 1)
 .have ha:=Aa.1 e0;have hb:inb e.wo w.AQ.length=Y:=FN ha.1 J;have hwl:e.wo.toNat<w.AQ.length:=J
  have hp:=R0 h (i:=e.wo.toNat) hwl;obtain⟨p1,p2,p3,p4,p5⟩:=MF hp;rw[e0,hb];simp only[AB,A4,A2];obtain c6|c6:=tfp (e.ki=6)
  .simp only[c6,AX,A2,Qu<|show(pA w.AQ e.wo.toNat).data.size<=1048576 by omega];obtain e1|e1:=tf (pA w.AQ e.wo.toNat).sp<;>simp only[e1,AB,AH,A4,A2,AU,AP];obtain e2|e2:=tf (inB e.mix 0<|((pA w.AQ e.wo.toNat).data.size:Int) - 1)<;>simp only[e2,AB,AH,A4,A2,AU,AP];obtain e3|e3:=tf (inB e.kp 1 255)<;>simp only[e3,AB,AH,A4,A2];have hm:=Aa.1 e2;have hmb:inb e.mix (BD (pA w.AQ e.wo.toNat).data).length=Y:=FN hm.1 (by rw[rS];omega);simp only[Gh,aJb,aaZ hwl,hb,A2];rw[A5<|BE J,A5 hmb,A5 hmb];rfl
  .simp only[c6,Ad,A4,if_false];obtain c4|c4:=tfp (e.ki=4)
   .have c5:¬e.ki=5:=by have:e.ki=4:=of_eq_true c4;omega
    have hl:inb (lnk<|pA w.AQ e.wo.toNat) w.An.length=Y:=by
     have:=h.ll;exact FN p4 (by rw[this];exact p5)
    have hlk:∀q:AL,(if q.src<q.dst then q.src else q.dst)=lnk q:=λ_=>rfl;simp only[c4,AX,A2,amo,A6,hlk,hl,Zv,A9 c5];obtain e1|e1:=tf (bA w.An (lnk<|pA w.AQ e.wo.toNat).toNat)<;>simp only[e1,AB,AH,A4,A2];unfold cy;rw[A9<|nd c5];by_cases e5:e.kp=0
    .rw[A5<|AW e5,A5 e5,aau ha.1 J J,aat h c5 hp]
    .rw[A9<|nd e5,A9 e5,aat h c5 hp]
   .have c5:e.ki=5:=by
     have:¬e.ki=4:=by simpa using c4
     have:¬e.ki=6:=by simpa using c6
     omega
    simp only[c4,Ad,A4,A5 c5];unfold cy;rw[A5<|AW c5,aau ha.1 J J];unfold SO;rw[A5<|AW c5];rfl
 .rw[e0];simp only[AH,A2,A4]
def ayC{w:AA}(h:B4 w){e:Event}{K1:List Bool->Option Ω}:VX w.An (tE e) K1 F=if(F5 w e).2 then K1 (F5 w e).1.An else F:=by
 have ll:=h.ll;unfold VX F5;simp only[IB,A6,Qu (J:w.An.length<=1048576),Zv];obtain e0|e0:=tf (inB e.at_ 0<|(w.An.length:Int) - 1)
 .have ha:=Aa.1 e0;have hb:inb e.at_ w.An.length=Y:=FN ha.1 J;rw[e0,hb];simp only[AB,A4,A2,AU];obtain c|c:=tfp (bA w.An e.at_.toNat=U (e.ki=9))<;>simp only[c,AX,Ad,AB,AH,A2,A4]
 .rw[e0];simp only[AH,AP,A2,A4]
end
section
variable {Ω:Type} {K:List A7->List Bool->List AL->List A3->List A3->Option Ω} {F:Option Ω} {Kv:List A7->Bool->Option Ω} {Km:List AL->Bool->Option Ω} {Kz:Bool->Option Ω} {R:Option Ω}
def ayD{w:AA}(h:B4 w){e:Event}(hk:¬(e.ki=4\/e.ki=5\/e.ki=6))(hk':¬(e.ki=9\/e.ki=10))(ht:e.tx.size<=1048576){B8:AA×Bool}
  (hK:B8.2=Y->K B8.1.A8 B8.1.An B8.1.AQ B8.1.AN B8.1.got=R)(hF:B8.2=A0->B8.1=w->F=R)(hKv:∀k' b,B8=(GK w e.at_.toNat k',b)->Kv (w.A8.set e.at_.toNat k') b=R)
  (hKm:∀ra',B8=(⟨w.ti,w.A8,w.An,ra',w.AN,w.got⟩,Y)->Km ra' Y=R)(hKz:B8=(w,A0)->Kz A0=R):
  ∀X,rr w.A8 w.AQ w.AN w.got (tE e) (λx y z=>K x w.An w.AQ y z) F Kv Km Kz=X->doM w e=B8->X=R:=by
 intro X;obtain⟨ki,at_,fr,nu,wo,mix,kp,t',un,tx⟩:=e;simp only at hk hk' ht hKv;have hn:∀(l:List A3) (x:A3),l.length<=6->Ac (l.length+[x].length)=Y:=λl x hl=>BE aJL;unfold rr doM;rw[A9 hk,A9 hk'];simp only[K9,A6];obtain e0|e0:=tf (isN at_)
 .have ha:=E9 e0;have hal:=VD e0;have hb:inb at_ w.A8.length=Y:=FN ha.1 (by rw[h.kl];omega);have hko:=(h.k _ hal).1;have hks:=VN h hal;simp only[e0,AB,A4,hb,A2,Tg];unfold Gt;obtain e1|e1:=tfp (ki=1)
  .simp only[e1,AX,A2];unfold O1;by_cases hs:6<=w.AN.length
   .rw[A5<|AW (J:6<=(w.AN.length:Int)),A5 hs];intro hX hd;subst hd;rw[← hX];exact hF rfl rfl
   .rw[A9<|nd (J:¬6<=(w.AN.length:Int)),A9 hs];rw[show Wn ((_,_,_,_,_,()),_,_,_,())=_ from ah9 hko t' un ht];simp only[A6];obtain e2|e2:=tfp ((Dx (kA w.A8 at_.toNat) t' un tx).2=0)<;>simp only[e2,AX,Ad,A4,A2,if_false]
    .intro hX hd;subst hd;rw[← hX];exact hF rfl rfl
    .rw[A5<|hn _ _ h.sl];intro hX hd;subst hd;rw[← hX];exact hK rfl
  .simp only[e1,Ad,A4,if_false];obtain e2|e2:=tfp (ki=2)
   .simp only[e2,AX,A2];rw[show WB ((_,_,_,_,_,()),())=_ from afm hko];simp only[A6];intro hX hd;subst hd;rw[← hX];exact hKv _ _ rfl
   .simp only[e2,Ad,A4,if_false];obtain e3|e3:=tfp (ki=3)
    .simp only[e3,AX,A2];rw[show Wo ((_,_,_,_,_,()),_,_,_,())=_ from ahA hks fr nu mix];simp only[A6];rw[A5 hko];obtain e4|e4:=tf (EK (kA w.A8 at_.toNat) fr nu mix).2<;>simp only[e4,A2,A4]
     .rw[show TA (_,_,())=_ from aB2 (ra:=w.AQ) (fs:=[(EK (kA w.A8 at_.toNat) fr nu mix).1]) aJO];simp only[A6];intro hX hd;subst hd;rw[← hX];exact hKm _ rfl
     .intro hX hd;subst hd;rw[← hX];exact hKz rfl
    .simp only[e3,Ad,A4,if_false];obtain e4|e4:=tfp (ki=7)
     .simp only[e4,AX,A2];rw[show WH ((_,_,_,_,_,()),_,())=_ from afq hks kp];simp only[A6];rw[A5 hko];intro hX hd;subst hd;rw[← hX];exact hKv _ _ rfl
     .simp only[e4,Ad,A4,if_false];obtain e5|e5:=tfp (ki=8)
      .simp only[e5,AX,A2];rw[show WC ((_,_,_,_,_,()),())=_ from afn hko];simp only[A6];intro hX hd;subst hd;rw[← hX];exact hKv _ _ rfl
      .simp only[e5,Ad,A4,if_false];obtain e6|e6:=tfp (ki=11)
       .simp only[e6,AX,A2];unfold OB;rw[show Wp ((_,_,_,_,_,()),_,_,())=_ from ahB hko fr nu];simp only[A6];obtain e7|e7:=tf (De (kA w.A8 at_.toNat) fr nu).2.2<;>simp only[e7,A2,A4,AU,AP]
        .by_cases hs:w.got.length<6
         .rw[A5<|AW<|show(j8 w.got:Int)<6 by omega,A5<|AW hs,A5<|hn _ _ h.gl];intro hX hd;subst hd;rw[← hX];exact hK rfl
         .rw[A9<|nd (J:¬(j8 w.got:Int)<6),A9<|nd hs];intro hX hd;subst hd;rw[← hX];exact hF rfl rfl
        .intro hX hd;subst hd;rw[← hX];exact hF rfl rfl
       .simp only[e6,Ad,A4,if_false];obtain e7|e7:=tfp (ki=12)
        .simp only[e7,AX,A2];rw[show WD ((_,_,_,_,_,()),())=_ from afo hko];simp only[A6];intro hX hd;subst hd;rw[← hX];exact hKv _ _ rfl
        .simp only[e7,Ad,A4,if_false];obtain e8|e8:=tfp (ki=13)
         .simp only[e8,AX,A2];rw[show W4 ((_,_,_,_,_,()),())=_ from aes hko];simp only[A6];intro hX hd;subst hd;rw[← hX];exact hKv _ _ rfl
         .simp only[e8,Ad,A4,if_false];intro hX hd;subst hd;rw[← hX];exact hF rfl rfl
 .simp only[e0,AH,A4,A2];intro hX hd;subst hd;rw[← hX];exact hF rfl rfl
def atn{w:AA}{e:Event}(h:(EW w e).2=A0):(EW w e).1=w:=by
 unfold EW at h ⊢;split
 .rename_i h2;rw[A5 h2]at h;split
  .rename_i h3;rw[A5 h3]at h;split
   .rename_i h4;rw[A5 h4]at h;cases h
   .rfl
  .rename_i h3;rw[A9 h3]at h;split
   .rename_i h4;rw[A5 h4]at h;cases h
   .rename_i h4;rw[A9 h4]at h;split
    .rename_i h5;rw[A5 h5]at h;cases h
    .rfl
 .rfl
def arc(w:AA)(e:Event):(EW w e).1.An=w.An/\(EW w e).1.AN=w.AN/\(EW w e).1.got=w.got:=by
 unfold EW;split
 .split
  .split<;>exact⟨rfl,rfl,rfl⟩
  .split
   .exact⟨rfl,rfl,rfl⟩
   .split
    .unfold EC;split<;>exact⟨rfl,rfl,rfl⟩
    .exact⟨rfl,rfl,rfl⟩
 .exact⟨rfl,rfl,rfl⟩
def aaz{w:AA}(h:B4 w){e:Event}(ht:e.tx.size<=1048576)
  (hK:(doM w e).2=Y->K (doM w e).1.A8 (doM w e).1.An (doM w e).1.AQ (doM w e).1.AN (doM w e).1.got=R)(hF:(doM w e).2=A0->(doM w e).1=w->F=R)(hKv:∀k' b,doM w e=(GK w e.at_.toNat k',b)->Kv (w.A8.set e.at_.toNat k') b=R)
  (hKm:∀ra',doM w e=(⟨w.ti,w.A8,w.An,ra',w.AN,w.got⟩,Y)->Km ra' Y=R)(hKz:doM w e=(w,A0)->Kz A0=R):
  doK w.A8 w.An w.AQ w.AN w.got (tE e) K F Kv Km Kz=R:=by
 have rad:(e.ki=4\/e.ki=5\/e.ki=6)->SP w.A8 w.An w.AQ (tE e) (λx y=>K x w.An y w.AN w.got) F=R:=by
  intro hk;have hd:doM w e=EW w e:=by
   unfold doM;rw[A5 hk]
  rw[ayB h hk];rw[hd]at hK hF;obtain⟨r1,r2,r3⟩:=arc w e;obtain c|c:=tf (EW w e).2
  .have:=hK c;rw[r1,r2,r3]at this;rw[c,A5 rfl];exact this
  .rw[c,A4];exact hF c<|atn c
 have lk:(e.ki=9\/e.ki=10)->VX w.An (tE e) (λy=>K w.A8 y w.AQ w.AN w.got) F=R:=by
  intro hk;have hd:doM w e=F5 w e:=by
   unfold doM;rw[A9 J,A5 hk]
  rw[ayC h];rw[hd]at hK hF;obtain c|c:=tf (F5 w e).2
  .have:=hK c;rw[c,A5 rfl,← this];unfold F5;split<;>rfl
  .rw[c,A4];refine hF c ?_;unfold F5 at c ⊢;split
   .rename_i h3;rw[A5 h3]at c;cases c
   .rfl
 unfold doK;by_cases h4:e.ki=4
 .rw[A5<|AW h4];exact rad J
 .rw[A9<|nd h4];by_cases h5:e.ki=5
  .rw[A5<|AW h5];exact rad J
  .rw[A9<|nd h5];by_cases h6:e.ki=6
   .rw[A5<|AW h6];exact rad J
   .rw[A9<|nd h6];by_cases h9:e.ki=9
    .rw[A5<|AW h9];exact lk J
    .rw[A9<|nd h9];by_cases h10:e.ki=10
     .rw[A5<|AW h10];exact lk J
     .rw[A9<|nd h10];exact ayD h J J ht hK hF hKv hKm hKz _ rfl rfl
end
def awM(w:AA)(p:AL)(ra:List AL):(EC w p ra).ti=w.ti:=by unfold EC;split<;>rfl
def cQ(w:AA)(e:Event):(doM w e).1.ti=w.ti:=by
 unfold doM;split
 .unfold EW;split
  .split
   .split<;>rfl
   .split
    .rfl
    .split
     .exact awM _ _ _
     .rfl
  .rfl
 .split
  .unfold F5;split<;>rfl
  .split
   .unfold Gt;split
    .unfold O1;split
     .rfl
     .split<;>rfl
    .split
     .rfl
     .split
      .split<;>rfl
      .split
       .rfl
       .split
        .rfl
        .split
         .unfold OB;split<;>rfl
         .split
          .rfl
          .split<;>rfl
   .rfl
def atc{w:AA}(h:B4 w){r:List Int×Int×D}{ev:List Event}(hev:ev.length<=1048576){e:Event}(ht:e.tx.size<=1048576):
  G4 ((r,tS w ev),tE e,())=I (((doM w e).2,()),((r,tS (CX w e)<|KN ev e (doM w e).2),())):=by
 have hr:∀x:Event,Ac (ev.length+[x].length)=Y:=λx=>BE aJL;have hti:=cQ w e;unfold G4;refine aaz (w:=w) h (e:=e) ht (λc=> ?_) (λc c2=> ?_) (λk b c=> ?_) (λra c=> ?_) (λc=> ?_)
 .unfold CX tick KN;rw[c,A5<|hr _,A5 rfl,A5 rfl,hti]
 .unfold CX tick KN;rw[c,A4,A4,c2]
 .unfold CX tick KN;rw[c];cases b
  .rfl
  .show(if Ac _ then _ else _)=_;rw[A5<|hr _];rfl
 .unfold CX tick KN;rw[c,A5 rfl,A5<|hr _];rfl
 .unfold CX tick KN;rw[c];rfl
end Go.VS
namespace Go.VS
open Go
def V7(k:A7)(r:A1)(f:Bool):(wrR k r f).1.id=k.id:=by
 unfold wrR;split
 .rfl
 .cases f<;>rfl
def ave{k:A7}(h:Ag k=Y)(f:Frame):(CF k f).1.id=k.id:=by
 unfold CF;rw[A5 h];unfold HS;split
 .split
  .unfold EB;split
   .rfl
   .split
    .rfl
    .split
     .rfl
     .unfold Jc;split
      .split
       .unfold JV;split
        .exact V7 _ _ _
        .rfl
       .rfl
      .rfl
  .split
   .exact V7 _ _ _
   .rfl
 .rfl
def av1(k:A7):(Fh k).1.id=k.id:=by
 unfold Fh;split
 .exact V7 _ _ _
 .rfl
def axX(k:A7)(tt un:Int)(tx:A1):(Dx k tt un tx).1.id=k.id:=by
 unfold Dx;split
 .exact V7 _ _ _
 .rfl
def axz(k:A7)(fr nu:Int):(De k fr nu).1.id=k.id:=by
 unfold De;split
 .exact V7 _ _ _
 .rfl
def auv(k:A7):(Fj k).1.id=k.id:=by unfold Fj;split<;>rfl
def auT(k:A7):(Di k).1.id=k.id:=by unfold Di;split<;>rfl
def aaq(k:A7)(n:Int):(faM k n).id=k.id:=by unfold faM;rfl
def ayq(k:A7):(riM k).id=k.id:=rfl
def ayo{k:A7}(h:Ag k=Y):Ag (riM k)=Y:=(ayp<|Bs h).ok
def FM{l:List A7}{i j:Nat}(hi:i<l.length)(k:A7):kA (l.set i k) j=if j=i then k else kA l j:=by
 unfold kA;simp only[BA,Pa];by_cases h:j=i
 .subst h;simp[hi]
 .have h':¬i=j:=λe=>h e.symm;simp[h,h']
def B4.put{w:AA}(h:B4 w){i:Nat}(hi:i<4){k:A7}(hk:Ag k=Y)(hid:k.id=(kA w.A8 i).id)(ra:List AL)(se go:List A3)
  (rl:ra.length<=30)(sl:se.length<=6)(gl:go.length<=6)(p:∀p∈ra,Dw p=Y)(s:∀n∈se,Ay n=Y)(g:∀n∈go,Ay n=Y):
  B4 ⟨w.ti,w.A8.set i k,w.An,ra,se,go⟩:=by
 refine⟨by rw[Gh];exact h.kl,h.ll,rl,sl,gl,λj hj=> ?_,p,s,g⟩;show Ag (kA (w.A8.set i k) j)=Y/\(kA (w.A8.set i k) j).id=(j:Int);rw[FM (by rw[h.kl];exact hi)];split
 .rename_i e;rw[e,hid];exact⟨hk,(h.k i hi).2⟩
 .exact h.k j hj
def B4.GK{w:AA}(h:B4 w){i:Nat}(hi:i<4){k:A7}(hk:Ag k=Y)(hid:k.id=(kA w.A8 i).id):B4 (GK w i k):=
 h.put hi hk hid w.AQ w.AN w.got h.rl h.sl h.gl h.p h.s h.g
def B4.ra{w:AA}(h:B4 w){ra:List AL}(rl:ra.length<=30)(p:∀p∈ra,Dw p=Y):B4 ⟨w.ti,w.A8,w.An,ra,w.AN,w.got⟩:=
 ⟨h.kl,h.ll,rl,h.sl,h.gl,h.k,p,h.s,h.g⟩
def B4.ti{w:AA}(h:B4 w)(n:Int):B4 ⟨n,w.A8,w.An,w.AQ,w.AN,w.got⟩:=⟨h.kl,h.ll,h.rl,h.sl,h.gl,h.k,h.p,h.s,h.g⟩
def UD{w:AA}(h:B4 w)(i:Nat):(JY w.AQ i).length<=30/\ ∀p∈JY w.AQ i,Dw p=Y:=by
 have:=h.rl;refine⟨by unfold JY;simp;omega,λp hp=>h.p p ?_⟩;obtain h1|h1:=BL.1 hp
 .exact Hb h1
 .exact Jr h1
def au5{w:AA}(h:B4 w){p:AL}(hp:Dw p=Y){ra:List AL}(rl:ra.length<=30)(hra:∀p∈ra,Dw p=Y):B4 (EC w p ra):=by
 unfold EC;obtain⟨_,p2,_⟩:=MF hp;split
 .have hi:p.dst.toNat<4:=J
  exact h.put hi (avd (h.k _ hi).1 _) (ave (h.k _ hi).1 _) _ _ _ (aI1 rl) h.sl h.gl (aJc hra (ZO _ _).2) h.s h.g
 .exact h.ra rl hra
def atS{p:AL}(hp:Dw p=Y)(mix kp:Int):Dw (PS p mix kp)=Y:=by
 unfold Dw PS at *;simpa[Za,rS] using hp
def ato{w:AA}(h:B4 w)(e:Event):B4 (EW w e).1:=by
 unfold EW;split
 .rename_i h0;have h0:=Aa.1 h0;have hlt:e.wo.toNat<w.AQ.length:=J
  have hp:=R0 h hlt;split
  .split
   .refine h.ra (by rw[Gh];exact h.rl) λp hp'=> ?_;obtain h1|h1:=Rj hp'
    .exact h.p p h1
    .rw[h1];exact atS hp _ _
   .exact h
  .split
   .exact h.ra (UD h _).1 (UD h _).2
   .split
    .refine au5 h hp ?_ ?_<;>split
     .exact(UD h _).1
     .exact h.rl
     .exact(UD h _).2
     .exact h.p
    .exact h
 .exact h
def aw1{w:AA}(h:B4 w)(e:Event):B4 (F5 w e).1:=by
 unfold F5;split
 .exact⟨h.kl,by show(w.An.set _ _).length=3;rw[Gh];exact h.ll,h.rl,h.sl,h.gl,h.k,h.p,h.s,h.g⟩
 .exact h
def aH1{k:A7}{tt un:Int}{tx:A1}(h:(Dx k tt un tx).2≠0):Ay ⟨k.id,(Dx k tt un tx).2,tt,un,tx⟩=Y:=by
 unfold Dx at h ⊢;split
 .rename_i hc;rw[A5 hc]at h;simp only[AD]at hc;simp only at h ⊢;split
  .exact hc.2
  .rename_i h1;rw[A9 h1]at h;exact absurd rfl h
 .rename_i hc;rw[A9 hc]at h;exact absurd rfl h
def aua{k:A7}(hk:Ag k=Y){fr nu:Int}(h:(De k fr nu).2.2=Y):Ay (De k fr nu).2.1=Y:=by
 unfold De at h ⊢;split
 .rename_i hc;rw[A5 hc]at h;simp only at h ⊢;rw[A5 h];simp only[AD,Bz,decide_eq_false_iff_not]at hc;exact HK (Bv (Bs hk).kok).i (FK<|Rz.1 hc.2).1
 .rename_i hc;rw[A9 hc]at h;cases h
def qB{α:Type}{l:List α}{P:α->Prop}{a:α}(h:∀x∈l,P x)(ha:P a):∀x∈l++[a],P x:=by
 intro x hx;obtain h1|h1:=BL.1 hx
 .exact h x h1
 .rw[C8.1 h1];exact ha
def arl{w:AA}(h:B4 w)(e:Event)(ha:isN e.at_=Y):B4 (Gt w e<|kA w.A8 e.at_.toNat).1:=by
 have hi:=VD ha;have hr:=E9 ha;obtain⟨hk,hid⟩:=h.k _ hi;unfold Gt;split
 .unfold O1;split
  .exact h
  .split
   .exact h
   .rename_i h1 h2;refine h.put hi (axW hk _ _ _) (axX _ _ _ _) _ _ _ h.rl aJL h.gl h.p (qB h.s ?_) h.g;have:=aH1 h2;rw[hid,Nq hr.1]at this;exact this
 .split
  .exact h.GK hi (att hk) (av1 _)
  .split
   .split
    .rename_i h1;exact h.ra (aI1 h.rl) (aJc h.p λf hf=>by rw[C8.1 hf];exact avt hk h1)
    .exact h
   .split
    .exact h.GK hi (rK hk _) (aaq _ _)
    .split
     .exact h.GK hi (ayo hk) (ayq _)
     .split
      .unfold OB;split
       .rename_i h1;simp only[AD,decide_eq_true_eq]at h1;exact h.put hi (axy hk _ _) (axz _ _ _) _ _ _ h.rl h.sl aJL h.p h.s (qB h.g<|aua hk h1.1)
       .exact h
      .split
       .exact h.GK hi (auu hk) (auv _)
       .split
        .exact h.GK hi (auS hk) (auT _)
        .exact h
def rQ{w:AA}(h:B4 w)(e:Event):B4 (doM w e).1:=by
 unfold doM;split
 .exact ato h e
 .split
  .exact aw1 h e
  .split
   .rename_i h1;exact arl h e h1
   .exact h
def aIz{w:AA}(h:B4 w)(b:Bool):B4 (tick w b):=by
 unfold tick;split
 .exact h.ti _
 .exact h
def qx{w:AA}(h:B4 w)(e:Event):B4 (CX w e):=aIz (rQ h e) _
def kp0(i:Int):A7:=⟨i,Y,noB,0,[]⟩
def rv0:AA:=⟨0,[kp0 0,kp0 1,kp0 2,kp0 3],[Y,Y,Y],[],[],[]⟩
def ayR{i:Int}(h:isN i=Y):Ag (kp0 i)=Y:=by
 refine Xz (k:=kp0 i) (rs:=[]) (ts:=[]) h ⟨?_,(show noB.size<=2400 by decide),by rfl,by rfl⟩ (show 0<=3 by decide) (.inl rfl) ?_ (λi hi=>absurd hi<|pH _)
 .intro r hr;cases hr
 .unfold Cg;rw[A5<|show isN (kp0 i).id=Y from h];rfl
def cT{i:Nat}(hi:i<4):kA rv0.A8 i=kp0 i:=by
 have:i=0\/i=1\/i=2\/i=3:=J
 obtain rfl|rfl|rfl|rfl:=this<;>rfl
def Fe{i:Nat}(hi:i<4):isN (i:Int)=Y:=Aa.2 ⟨J,J⟩
def dE:B4 rv0:=by
 refine⟨rfl,rfl,by decide,by decide,by decide,λi hi=> ?_,(λp hp=>by cases hp),(λp hp=>by cases hp),(λp hp=>by cases hp)⟩;rw[cT hi];exact⟨ayR<|Fe hi,rfl⟩
def Q1(k:A7):Prop:=k.up=A0->k.fo=(k.log.size:Int)
def PN(k:A7)(r:A1)(f:Bool):(wrR k r f).1.up=k.up:=by
 unfold wrR;split
 .rfl
 .cases f<;>rfl
def aa5{k:A7}(h:Ag k=Y)(f:Frame):(CF k f).1.up=k.up:=by
 unfold CF;rw[A5 h];unfold HS;split
 .split
  .unfold EB;split
   .rfl
   .split
    .rfl
    .split
     .rfl
     .unfold Jc;split
      .split
       .unfold JV;split
        .exact PN _ _ _
        .rfl
       .rfl
      .rfl
  .split
   .exact PN _ _ _
   .rfl
 .rfl
def auL{k:A7}(ok:Ag k=Y)(h:k.up=A0)(f:Frame):CF k f=(k,[]):=by
 unfold CF;rw[A5 ok];unfold HS;rw[h,AP,A4]
def auw{k:A7}(h:k.up=A0)(tt un:Int)(tx:A1):Dx k tt un tx=(k,0):=by
 unfold Dx;rw[h,AP,A4]
def awb{k:A7}(h:k.up=A0)(a b:Int):De k a b=(k,zN,A0):=by
 unfold De;rw[h,AP,A4]
def asm{k:A7}(h:k.up=A0):Fh k=(k,A0):=by
 unfold Fh;rw[h,A4]
def at2{k:A7}(h:k.up=A0):Fj k=(k,A0):=by
 unfold Fj;rw[h,A4]
def arX{k:A7}(h:k.up=A0):Di k=(k,A0):=by
 unfold Di;rw[h,AP,A4]
def ayv(k:A7)(tt un:Int)(tx:A1):(Dx k tt un tx).1.up=k.up:=by
 unfold Dx;split
 .exact PN _ _ _
 .rfl
def ayZ(k:A7)(a b:Int):(De k a b).1.up=k.up:=by
 unfold De;split
 .exact PN _ _ _
 .rfl
def awE(k:A7):(Fh k).1.up=k.up:=by
 unfold Fh;split
 .exact PN _ _ _
 .rfl
def axU(k:A7):(Fj k).1.up=k.up:=by unfold Fj;split<;>rfl
def avR(k:A7):(Di k).1.up=k.up:=by unfold Di;split<;>rfl
def RE{k k':A7}(h:Q1 k)(hu:k'.up=k.up)(hd:k.up=A0->k'=k):Q1 k':=λe=>by
 rw[hu]at e;rw[hd e];exact h e
def axr(k:A7)(n:Int):Q1 (faM k n):=by
 intro _;unfold faM;simp only;have h:=(Qk<|k.log.extract 0 (k.fo+max 0 (min n<|(k.log.size:Int) - k.fo)).toNat).1;rw[@aFD];omega
def awW{k:A7}(ok:Ag k=Y)(h:k.up=A0)(d:Q1 k)(n:Int):faM k n=k:=by
 obtain⟨_,h2,h3⟩:=aFw (Bs ok) (d h) n;have h4:=aIj ok h;have:faM k n=⟨(faM k n).id,(faM k n).up,(faM k n).log,(faM k n).fo,(faM k n).AJ⟩:=rfl;rw[this,h2,h3,aaq,show(faM k n).up=k.up from by rw[h];rfl,show(faM k n).AJ=k.AJ from by rw[h4];rfl]
def aJe{k:A7}(h:k.up=Y):riM k=k:=by
 unfold riM;rw[← h]
def LU{l:List A7}{i:Nat}:l.set i (kA l i)=l:=by
 apply pD;intro j;rw[Pa];by_cases h:i=j
 .subst h;by_cases h1:i<l.length
  .rw[A5 rfl,A5 h1,kA,BA,Ar h1];rfl
  .rw[A5 rfl,A9 h1,Hz J]
 .rw[A9 h]
def Tr{w:AA}{i:Nat}{k:A7}(h:k=kA w.A8 i):GK w i k=w:=by
 subst h;unfold GK;rw[LU]
structure Rh (w:AA):Prop where
 d:∀i,i<4->Q1 (kA w.A8 i)
def ayA{w:AA}(h:B4 w)(hd:Rh w){e:Event}(ho:(doM w e).2=A0):(doM w e).1=w:=by
 unfold doM at ho ⊢;split
 .rename_i h1;rw[A5 h1]at ho;unfold EW at ho ⊢;split
  .rename_i h2;rw[A5 h2]at ho;split
   .rename_i h3;rw[A5 h3]at ho;split
    .rename_i h4;rw[A5 h4]at ho;cases ho
    .rfl
   .rename_i h3;rw[A9 h3]at ho;split
    .rename_i h4;rw[A5 h4]at ho;cases ho
    .rename_i h4;rw[A9 h4]at ho;split
     .rename_i h5;rw[A5 h5]at ho;cases ho
     .rfl
  .rfl
 .rename_i h1;rw[A9 h1]at ho;split
  .rename_i h2;rw[A5 h2]at ho;unfold F5 at ho ⊢;split
   .rename_i h3;rw[A5 h3]at ho;cases ho
   .rfl
  .rename_i h2;rw[A9 h2]at ho;split
   .rename_i h3;rw[A5 h3]at ho;have hi:=VD h3;obtain⟨ok,_⟩:=h.k _ hi;have hdk:=hd.d _ hi;unfold Gt at ho ⊢;split
    .rename_i c;rw[A5 c]at ho;unfold O1 at ho ⊢;split
     .rfl
     .rename_i c1;rw[A9 c1]at ho;split
      .rfl
      .rename_i c2;rw[A9 c2]at ho;cases ho
    .rename_i c;rw[A9 c]at ho;split
     .rename_i c;rw[A5 c]at ho;refine Tr ?_;unfold Fh at ho ⊢;split
      .rename_i c1;rw[A5 c1]at ho;exact RF ho
      .rfl
     .rename_i c;rw[A9 c]at ho;split
      .rename_i c;rw[A5 c]at ho;split
       .rename_i c1;rw[A5 c1]at ho;cases ho
       .rfl
      .rename_i c;rw[A9 c]at ho;split
       .rename_i c;rw[A5 c]at ho;exact Tr (awW ok ho hdk _)
       .rename_i c;rw[A9 c]at ho;split
        .rename_i c;rw[A5 c]at ho;exact Tr (aJe<|by simpa using ho)
        .rename_i c;rw[A9 c]at ho;split
         .rename_i c;rw[A5 c]at ho;unfold OB at ho ⊢;split
          .rename_i c1;rw[A5 c1]at ho;cases ho
          .rfl
         .rename_i c;rw[A9 c]at ho;split
          .rename_i c;rw[A5 c]at ho;refine Tr ?_;unfold Fj at ho ⊢;split
           .rename_i c1;rw[A5 c1]at ho;cases ho
           .rfl
          .rename_i c;rw[A9 c]at ho;split
           .rename_i c;rw[A5 c]at ho;refine Tr ?_;unfold Di at ho ⊢;split
            .rename_i c1;rw[A5 c1]at ho;cases ho
            .rfl
           .rfl
   .rfl
inductive KMv (k:A7):A7->Prop
 | aFA (f:Frame):KMv k (CF k f).1
 | own (tt un:Int) (tx:A1):KMv k (Dx k tt un tx).1
 | time:KMv k (Fh k).1
 | eat (a b:Int):KMv k (De k a b).1
 | UZ (n:Int):KMv k (faM k n)
 | ab:KMv k (riM k)
 | pack:KMv k (Fj k).1
 | force:KMv k (Di k).1
def ayy{w:AA}(h:B4 w)(e:Event):(doM w e).1.A8=w.A8\/ ∃i k',i<4/\KMv (kA w.A8 i) k'/\(doM w e).1.A8=w.A8.set i k':=by
 unfold doM;split
 .unfold EW;split
  .rename_i h2;split
   .split
    .exact .inl rfl
    .exact .inl rfl
   .split
    .exact .inl rfl
    .split
     .unfold EC;split
      .refine .inr ⟨_,_, ?_,.aFA _,rfl⟩;have:=Aa.1 h2;have:=MF<|R0 h (i:=e.wo.toNat) J;omega
      .exact .inl rfl
     .exact .inl rfl
  .exact .inl rfl
 .split
  .unfold F5;split
   .exact .inl rfl
   .exact .inl rfl
  .split
   .rename_i h3;have hi:=VD h3;unfold Gt;split
    .unfold O1;split
     .exact .inl rfl
     .split
      .exact .inl rfl
      .exact .inr ⟨_,_,hi,.own _ _ _,rfl⟩
    .split
     .exact .inr ⟨_,_,hi,.time,rfl⟩
     .split
      .split
       .exact .inl rfl
       .exact .inl rfl
      .split
       .exact .inr ⟨_,_,hi,.UZ _,rfl⟩
       .split
        .exact .inr ⟨_,_,hi,.ab,rfl⟩
        .split
         .unfold OB;split
          .exact .inr ⟨_,_,hi,.eat _ _,rfl⟩
          .exact .inl rfl
         .split
          .exact .inr ⟨_,_,hi,.pack,rfl⟩
          .split
           .exact .inr ⟨_,_,hi,.force,rfl⟩
           .exact .inl rfl
   .exact .inl rfl
def ayn{w:AA}(h:B4 w)(e:Event):(CX w e).A8=w.A8\/ ∃i k',i<4/\KMv (kA w.A8 i) k'/\(CX w e).A8=w.A8.set i k':=by
 have:=ayy h e;unfold CX tick;split<;>exact this
def axJ{P:A7->Prop}(hP:∀k k',Ag k=Y->P k->KMv k k'->P k'){w:AA}(h:B4 w)(hw:∀i,i<4->P (kA w.A8 i))(e:Event):∀i,i<4->P (kA (CX w e).A8 i):=by
 intro i hi;obtain e1|⟨j,k',hj,m,e1⟩:=ayn h e
 .rw[e1];exact hw i hi
 .rw[e1,FM (by rw[h.kl];exact hj)];split
  .exact hP _ _ (h.k j hj).1 (hw j hj) m
  .exact hw i hi
def KMv.dur{k k':A7}(ok:Ag k=Y)(h:Q1 k)(m:KMv k k'):Q1 k':=by
 cases m with
 | aFA f=>exact RE h (aa5 ok f) λe=>by rw[auL ok e]
 | own a b c=>exact RE h (ayv _ _ _ _) λe=>by rw[auw e]
 | time=>exact RE h (awE _) λe=>by rw[asm e]
 | eat a b=>exact RE h (ayZ _ _ _) λe=>by rw[awb e]
 | UZ n=>exact axr _ _
 | ab=>intro e;cases e
 | pack=>exact RE h (axU _) λe=>by rw[at2 e]
 | force=>exact RE h (avR _) λe=>by rw[arX e]
def Rh.sim{w:AA}(hd:Rh w)(h:B4 w)(e:Event):Rh (CX w e):=⟨axJ (λ_ _ ok d m=>m.dur ok d) h hd.d e⟩
inductive Reach:List Event->AA->Prop
 | nil:Reach [] rv0
 | snoc {ev:List Event} {w:AA} {e:Event} :Reach ev w->(doM w e).2=Y->e.tx.size<=1048576->Reach (ev++[e]) (CX w e)
def Reach.both{ev:List Event}{w:AA}(h:Reach ev w):B4 w/\Rh w:=by
 induction h with
 | nil=>exact⟨dE,⟨λi hi e=>by rw[cT hi]at e;cases e⟩⟩
 | snoc _ _ _ ih=>exact⟨qx ih.1 _,ih.2.sim ih.1 _⟩
def Reach.ok{ev:List Event}{w:AA}(h:Reach ev w):B4 w:=h.both.1
def Reach.dur{ev:List Event}{w:AA}(h:Reach ev w):Rh w:=h.both.2
def Reach.step{ev:List Event}{w:AA}(h:Reach ev w){e:Event}(ht:e.tx.size<=1048576):Reach (KN ev e (doM w e).2) (CX w e):=by
 unfold KN;obtain c|c:=tf (doM w e).2
 .rw[c,A5 rfl];exact h.snoc c ht
 .have:=ayA h.ok h.dur c;rw[c,A4];unfold CX tick;rw[c,A4,this];exact h
def Ok{l:List Int}(h:BOk l):BD (BI l)=l:=by
 unfold BD BI;simp only[IV]
 conv=>rhs;rw[← bR l]
 refine H8 λn hn=> ?_;have:=h n hn;simp only[Function.comp,id];rw[UInt8.toNat_ofNat'];omega
def av7{a b:List Int}(ha:BOk a)(hb:BOk b)(h:BI a=BI b):a=b:=by
 rw[← Ok ha,h,Ok hb]
def Oy(f:Frame):BOk (Ci f):=by
 unfold Ci;split
 .exact BOk.app (aL f) (.cons _<|.cons _ .nil)
 .exact .nil
def IM{n:Int}(h0:0<=n)(h1:n<=255):w8 n=n:=by
 rw[Nb];omega
def V2{n:Int}(h0:0<=n)(h1:n<=65535):256 * w8 (w64<|B2 n 256)+w8 (BM n 256)=n:=by
 rw[Nb,Nb,Gi h0,Lg h0,AZ J J];omega
def awq{s:A1}(h:s.size=4):∃a b c d,s=B [a,b,c,d]:=by
 have h':(L s).length=4:=h;rcases hl:L s with _|⟨a,_|⟨b,_|⟨c,_|⟨d,_|⟨e,l⟩⟩⟩⟩⟩<;>rw[hl]at h'<;>simp at h';exact⟨a,b,c,d,GD (by rw[L_B,hl])⟩
def aIZ{a1 a2 a3 a4 a5 a6 a7 a8 a9 b1 b2 b3 b4 b5 b6 b7 b8 b9:Int}{s t:A1}(h1:a1=b1)(h2:a2=b2)(h3:a3=b3)(h4:a4=b4)(h5:a5=b5)(h6:a6=b6)(h7:a7=b7)(h8:a8=b8)(h9:a9=b9)(h:s=t):
  (⟨a1,a2,a3,a4,a5,a6,a7,a8,a9,s⟩:Frame)=⟨b1,b2,b3,b4,b5,b6,b7,b8,b9,t⟩:=by
 subst h1 h2 h3 h4 h5 h6 h7 h8 h9 h;rfl
def YY{f:Frame}(h:C2 f=Y):D0 (Ci f)=(f,Y):=by
 have hr:=P5 h;have r1:=Aa.1 hr.1;have r2:=Aa.1 hr.2.1;have r3:=Aa.1 hr.2.2.1;have r4:=Aa.1 hr.2.2.2.1;have r5:=Aa.1 hr.2.2.2.2.1;have r6:=Aa.1 hr.2.2.2.2.2.1;have r7:=hr.2.2.2.2.2.2;have aES:Fv (Ci f)=f/\((Ci f).length=10\/(Ci f).length=17):=by
  obtain⟨ki,src,dst,fr,nu,t',un,sz,mix,da⟩:=f;simp only at r1 r2 r3 r4 r5 r6 r7;unfold Ci;rw[A5 h];unfold JX at r7;by_cases hk:ki=1
  .subst hk;simp only[AX,A2,AD,decide_eq_true_eq]at r7;obtain⟨q1,q2,q3,q4⟩:=r7;have q1:=Aa.1 q1;have q2:=Aa.1 q2;obtain⟨a,b,c,d,rfl⟩:=awq (s:=da) J;unfold F3;simp only[AX,A2];have hb:BD (B [a,b,c,d])=[(a.toNat:Int),b.toNat,c.toNat,d.toNat]:=rfl;rw[hb];refine⟨?_,.inr rfl⟩;have e1:=V2 (n:=un) J J;have e2:=V2 (n:=mix) J J;unfold Fv;rw[A5<|by rfl];have g1:=IM (n:=src) J J;have g2:=IM (n:=dst) J J;have g3:=IM (n:=fr) J J;have g4:=IM (n:=nu) J J;have g5:=IM (n:=t') J J;have g6:=IM (n:=sz) J J;have g7:=U9 [a,b,c,d];exact aIZ rfl g1 g2 g3 g4 g5 e1 g6 e2 g7
  .rw[A9<|by simpa using hk]at r7;simp only[AD,Bp,decide_eq_true_eq]at r7;obtain⟨q0,q1,q2,q3,q4⟩:=r7;unfold F3;simp only[BG hk,A4];refine⟨?_,.inl rfl⟩;have e1:=V2 (n:=un) J J;unfold Fv;rw[A9 aJO];have g0:=IM (n:=ki) J J;have g1:=IM (n:=src) J J;have g2:=IM (n:=dst) J J;have g3:=IM (n:=fr) J J;have g4:=IM (n:=nu) J J;have g5:=IM (n:=t') J J;exact aIZ g0 g1 g2 g3 g4 g5 e1 q1.symm q2.symm q3.symm
 unfold D0;rw[aES.1,A5,A5<|AW rfl];rw[Bp,decide_eq_true_eq,decide_eq_true_eq];have:=aES.2;omega
def Nz:List Int->Nat->Int
 | [],_=>0
 | x::r,i=>x * ((i % 1000:Nat)+1)+Nz r (i+1)
def nq:∀ {l:List Int} {i:Nat} {n:Int},BOk l->0<=n->n<65521->F9 l i n=(n+Nz l i) % 65521
 | [],i,n,_,h0,h1=>by
  unfold F9 Nz;omega
 | x::r,i,n,hb,h0,h1=>by
  have hx:=hb x As;have hp:0<=x * ((i % 1000:Nat)+1:Int):=Ur hx.1 J;unfold F9 Nz;rw[Lg J,nq (λy hy=>hb y<|Ak x hy) J J];omega
def aHO:∀ {l:List Int} {j i:Nat} {x:Int} (h:j<l.length),Nz (l.set j x) i=Nz l i+(x - l[j]) * (((i+j) % 1000:Nat)+1)
 | y::r,0,i,x,h=>by
  rw[List.set_cons_zero];unfold Nz;simp only[List.getElem_cons_zero,I0];rw[Int.sub_mul];omega
 | y::r,j+1,i,x,h=>by
  rw[List.set_cons_succ];unfold Nz;rw[aHO (j:=j) (i:=i+1)<|by simpa using h,List.getElem_cons_succ,show i+1+j=i+(j+1) by omega];omega
structure dJ (b body:List Int):Prop where
 e:b=body++two (F9 body 0 0)
 ok:BOk body
 len:body.length<=15
def awD{a b:Int}(h0:0<=a/\a<65521)(h1:0<=b/\b<65521)(h:two a=two b):a=b:=by
 have e1:=V2 (n:=a) J J;have e2:=V2 (n:=b) J J;unfold two at h;simp only[Mt,and_true]at h;rw[← e1,← e2,h.1,h.2]
def arE{b body Q5:List Int}{j:Nat}{x:Int}(h:dJ b body)(hj:j<b.length)(hx:x≠b[j])(hr:0<=x/\x<=255):¬dJ (b.set j x) Q5:=by
 intro h';have hlb:b.length=body.length+2:=by rw[h.e];simp
 have am9:(b.set j x).length=Q5.length+2:=by rw[h'.e];simp
 rw[Gh]at am9;have hs:=pv (i:=0) (n:=0) h.ok J J;have hs':=pv (i:=0) (n:=0) h'.ok J J;have e:=h'.e;have hbl:body.length=Q5.length:=J
 by_cases hlt:j<body.length
 .have e1:(body.set j x)++two (F9 body 0 0)=Q5++two (F9 Q5 0 0):=by
   rw[← e,h.e,List.set_append_left _ _ hlt]
  obtain⟨e2,e3⟩:=List.append_inj e1 (by rw[Gh];exact hbl);have e4:=awD hs hs' e3;have hbj:b[j]=body[j]:=by simp only[h.e,List.getElem_append_left hlt]
  rw[← e2]at e4 h';rw[nq h.ok J J,nq h'.ok J J,aHO hlt]at e4;have hb1:=h.ok body[j] (CS hlt);have hlen:=h.len;rw[hbj]at hx;have hm:((0+j) % 1000:Nat)=j:=J
  rw[hm]at e4;have hd:∃d:Int,d=(x - body[j]) * ((j:Int)+1):=⟨_,rfl⟩;obtain⟨d,hd⟩:=hd;rw[← hd]at e4;have h1:d≠0:=by
   rw[hd];exact Int.mul_ne_zero J J
  have h2:d<=255 * 15:=by
   rw[hd];have a1:(x - body[j]) * ((j:Int)+1)<=255 * ((j:Int)+1):=p7 J J;omega
  have h3: -(255 * 15)<=d:=by
   rw[hd];have a1:(-255) * ((j:Int)+1)<=(x - body[j]) * ((j:Int)+1):=p7 J J;omega
  omega
 .have e1:body++(two<|F9 body 0 0).set (j - body.length) x=Q5++two (F9 Q5 0 0):=by
   rw[← e,h.e,List.set_append_right _ _ J]
  obtain⟨e2,e3⟩:=List.append_inj e1 hbl;rw[← e2]at e3;have e4:b.set j x=b:=by
   rw[e,← e2];exact h.e.symm
  have:(b.set j x)[j]'(by rw[Gh];exact hj)=x:=List.getElem_set_self ..;rw[List.getElem_of_eq e4]at this;exact hx this.symm
def aH0{f:Frame}(h:C2 f=Y):dJ (Ci f) (F3 f):=⟨by unfold Ci;rw[A5 h],aL f,ZB h⟩
def arB{b:List Int}(hb:BOk b)(h:(D0 b).2=Y):dJ b (F3 (D0 b).1):=by
 have ok:=arC h;have:Ci (D0 b).1=b:=by
  unfold D0 at h ⊢;split
  .rename_i h1;rw[A5 h1]at h;split
   .rename_i h2;exact av7 (Oy _) hb (BV h2)
   .rename_i h2;rw[A9 h2]at h;cases h
  .rename_i h1;rw[A9 h1]at h;cases h
 have hs:=aH0 ok;rw[this]at hs;exact hs
def axd{x k:Int}(hx:0<=x/\x<=255)(hk:1<=k/\k<=255):E0 .u8 x (w8 k)≠x/\0<=E0 .u8 x (w8 k)/\E0 .u8 x (w8 k)<=255:=by
 rw[IM J J];have e:E0 .u8 x k=w8 ((FT 8 x ^^^ FT 8 k).toNat:Int):=rfl;have hlt:=(FT 8 x ^^^ FT 8 k).isLt;rw[e,IM J J];refine⟨λh=> ?_,J,J⟩;obtain⟨m,rfl⟩:=HZ hx.1;obtain⟨n,rfl⟩:=HZ (J:0<=k);have e1:(FT 8 (m:Int) ^^^ FT 8 (n:Int))=FT 8 (m:Int):=by
  apply pR;rw[Rp];omega
 have e2:FT 8 (n:Int)=0#8:=by
  have:=congrArg (λz=>FT 8 (m:Int) ^^^ z) e1;simpa[← BitVec.xor_assoc] using this
 have e3:=congrArg BitVec.toNat e2;rw[Rp]at e3;simp at e3;omega
def as4{f:Frame}{p:AL}(hf:C2 f=Y)(hd:p.data=BI (Ci f)){mix kp:Int}(hm:inB mix 0 ((p.data.size:Int) - 1)=Y)(hk:inB kp 1 255=Y):(D0<|BD (PS p mix kp).data).2=A0:=by
 have hm:=Aa.1 hm;have hk:=Aa.1 hk;rw[hd,Za]at hm;obtain h|h:=tf (D0<|BD (PS p mix kp).data).2
 .exfalso;have hs:=arB (BOk.str _) h;unfold PS at hs;simp only at hs;rw[hd,Ok<|Oy f]at hs;have hlt:mix.toNat<(Ci f).length:=J
  have hrd: @rd Int aJW (Ci f) mix=(Ci f)[mix.toNat]:=by
   show(Ci f).getD mix.toNat 0=_;rw[BA,Ar hlt];rfl
  rw[hrd]at hs;have hx:=Oy f _<|CS hlt;have hne:=axd hx hk;have hb:BOk ((Ci f).set mix.toNat<|E0 .u8 (Ci f)[mix.toNat] (w8 kp)):=by
   intro y hy;obtain h1|h1:=Rj hy
   .exact Oy f y h1
   .rw[h1];exact hne.2
  rw[Ok hb]at hs;exact arE (aH0 hf) hlt hne.1 hne.2 hs
 .exact h
def aFu{α β:Type}{f g:α->β->α}:∀ {l:List β} {a:α},(∀a,∀b∈l,f a b=g a b)->l.foldl f a=l.foldl g a
 | [],_,_=>rfl
 | x::l,a,h=>by
  rw[E4,E4,h a x As];exact aFu λa b hb=>h a b<|Ak x hb
def O2(b:Nat)(bl:Nat->List UInt8)(kn:List A1):Prop:=∀k,k<b->bsA kn k=noB\/bsA kn k=B (bl k)
def at7{b:Nat}{bl:Nat->List UInt8}{kn kn':List A1}{m:AT}(hb:∀k,(bl k).length=4)(hm:Iz m->m.da=B (Dz 4 bl<|Bj (b:Int) m.nu))
  (h:Ce b kn)(ht:O2 b bl kn)(e:FP b kn m=I kn'):O2 b bl kn':=by
 unfold FP at e;split at e
 .rename_i hc;rw[AD]at hc;have hda:=hm ⟨hc.1,BV hc.2⟩;split at e
  .rename_i u hu;injection e with e;subst e;have Fp:u∈DP kn (Bj (b:Int) m.nu):=by rw[hu];exact Ml u
   obtain⟨h1,h2⟩:=FU.1 Fp;have h3:=MD h1;have hul:u<kn.length:=by rw[h.1];omega
   have hv:Ea kn (Bj (b:Int) m.nu) (L m.da)=bl u:=by
    have hp:=aut (n:=4) (bl:=bl) (p:=λk=> !unk kn k) (ks:=Bj (b:Int) m.nu) (u:=u) (λk _=>hb k) (by
     have:(Bj (b:Int) m.nu).filter (λk=> !(!unk kn k))=DP kn (Bj (b:Int) m.nu):=by
      unfold DP;congr 1;funext k;rw[Bool.not_not]
     rw[this,hu])
    rw[← hp,hda,L_B];unfold Ea;refine aFu λx k hk=> ?_;obtain c|c:=tf (unk kn k)
    .rw[c];rfl
    .rw[c];have hkb:=MD hk;obtain h4|h4:=ht k J
     .exact absurd h4 (J3 c)
     .rw[h4,L_B];rfl
   intro k hk;rw[UR _ hul];by_cases ek:k=u
   .rw[A5 ek,hv,ek];exact .inr rfl
   .rw[A9 ek];exact ht k hk
  .cases e
 .cases e
def o5{b:Nat}{bl:Nat->List UInt8}(hb:∀k,(bl k).length=4):∀(list:List AT) (s:List A1×Bool),(∀m∈list,Iz m->m.da=B (Dz 4 bl<|Bj (b:Int) m.nu))->Ce b s.1->O2 b bl s.1->O2 b bl (list.foldl (CN b) s).1
 | [],_,_,_,h=>h
 | m::list,s,hm,h,ht=>by
  rw[E4];cases e:FP b s.1 m with
  | none=>
   rw[show CN b s m=s by unfold CN;rw[e]];exact o5 hb list s (λx hx=>hm x<|Ak m hx) h ht
  | some kn=>
   rw[show CN b s m=(kn,Y) by unfold CN;rw[e]];exact o5 hb list (kn,Y) (λx hx=>hm x<|Ak m hx) (UG h e).1<|at7 hb (hm m As) h ht e
def mv{b:Nat}{bl:Nat->List UInt8}(hb:∀k,(bl k).length=4){list:List AT}(hm:∀m∈list,Iz m->m.da=B (Dz 4 bl<|Bj (b:Int) m.nu)):∀(n:Nat) (kn:List A1),Ce b kn->O2 b bl kn->O2 b bl (Gz b list n kn)
 | 0,_,_,h=>h
 | n+1,kn,h,ht=>by
  have h1:=(NP list (kn,A0) h).1;have h2:=o5 hb list (kn,A0) hm h ht;unfold Gz;split
  .exact mv hb hm n _ h1 h2
  .exact h2
def aGN{u:Nat}:∀ {l:List A1} {a:A1},u<l.length->bsA l u=noB->GH l a=G
 | [],_,h,_=>absurd h (pH _)
 | x::l,a,h,e=>by
  unfold GH;split
  .rfl
  .rename_i hx;cases u with
   | zero=>exact absurd e hx
   | succ u=>exact aGN (u:=u) (by simpa using h)<|by simpa[bsA] using e
def qc:∀ {l:List (List UInt8)} {a:A1},(∀x∈l,x.length=4)->GH (l.map B) a=I (a++B l.flatten)
 | [],a,_=>by
  show I a=_;congr 1;apply GD;rw[Gb,L_B];simp
 | x::l,a,h=>by
  rw[DZ];unfold GH;have hx:=h x As;rw[A9 (λe=>by have:(B x).size=0:=(by rw[e];rfl);rw[BS]at this;omega),qc λy hy=>h y<|Ak x hy];congr 1;apply GD;simp only[Gb,L_B,List.flatten_cons,C7]
def aaj{b:Nat}{bl:Nat->List UInt8}{kn:List A1}(h:Ce b kn)(ht:O2 b bl kn)(hu:∀k,k<b->unk kn k=A0):kn=((B9 b).map bl).map B:=by
 apply pD;intro i;by_cases hi:i<b
 .rw[IV,DI,H6 hi];have h1:=hu i hi;obtain h2|h2:=ht i hi
  .exact absurd h2 (J3 h1)
  .have hl:i<kn.length:=by rw[h.1];exact hi
   rw[bsA,BA,Ar hl]at h2;rw[Ar hl];exact congrArg I h2
 .rw[Hz (by rw[h.1];omega),Hz aJL]
def aIa(t:List UInt8):∀b:Nat,((B9 b).map<|GI t).flatten=(B9<|4 * b).map λi=>t.getD i 0
 | 0=>rfl
 | b+1=>by
  rw[IU,Em,List.flatten_append,aIa t b];have:B9 (4 * (b+1))=B9 (4 * b)++[4 * b,4 * b+1,4 * b+2,4 * b+3]:=by
   rw[show 4 * (b+1)=4 * b+1+1+1+1 by omega];simp only[IU,C7];rfl
  rw[this,Em];rfl
def awO{s:Int}(h:inB s 1 24=Y):B2 (s+3) 4=(((s.toNat+3) / 4:Nat):Int)/\inB (B2 (s+3) 4) 1 6=Y:=by
 have h:=Aa.1 h;have:B2 (s+3) 4=(((s.toNat+3) / 4:Nat):Int):=by
  rw[Gi J];omega
 refine⟨this,Aa.2 ?_⟩;rw[this];omega
def aHK{s:Int}(h:inB s 1 24=Y)(list:List AT):FO s list=(match GH (Gz ((s.toNat+3) / 4) list 7<|BT ((s.toNat+3) / 4) noB) noB with
  | none=>(noB,A0)
  | some c=>if Ng c s.toNat then(c.extract 0 s.toNat,Y) else(noB,A0)):=by
 obtain⟨h1,h2⟩:=awO h;unfold FO Hq;rw[A5 h,A5 h2,h1,BX]<;>rfl
def aHI{tx:A1}(h:inB tx.size 1 24=Y):(let c:=noB++B ((B9<|(tx.size+3) / 4).map<|GI<|L tx).flatten
  (if Ng c tx.size then(c.extract 0 tx.size,Y) else(noB,A0)))=(tx,Y):=by
 have h:=Aa.1 h;have hc:L (noB++B ((B9<|(tx.size+3) / 4).map<|GI<|L tx).flatten)=(B9<|4 * ((tx.size+3) / 4)).map λi=>(L tx).getD i 0:=by
  rw[Gb,L_B,aIa];rfl
 generalize noB++B ((B9<|(tx.size+3) / 4).map<|GI<|L tx).flatten=c at hc;have hsz:c.size=4 * ((tx.size+3) / 4):=by rw[← Az,hc];simp
 have hz:Ng c tx.size=Y:=by
  unfold Ng;rw[CC];intro i hi;refine AW ?_;unfold bt;show(((L c).getD (tx.size+i) 0).toNat:Int)=0;rw[hc,BA,DI,H6 J];simp only[Rv,Cy];rw[BA,Hz (by rw[Az];omega)];rfl
 show(if Ng c tx.size then(c.extract 0 tx.size,Y) else(noB,A0))=(tx,Y);rw[A5 hz];congr 1;apply GD;rw[EI,J6,hc,Js];apply pD;intro i;rw[H7];split
 .rename_i hi;rw[DI,H6 J];simp only[Rv];rw[BA,Ar (by rw[Az];exact hi)];rfl
 .rw[Hz (by rw[Az];omega)]
def Pw(tx:A1)(list:List AT):Prop:=∀m∈list,Iz m->m.da=GZ tx m.nu
def aaw{tx:A1}(h:inB tx.size 1 24=Y):(DQ tx).length=(tx.size+3) / 4:=by
 unfold DQ;rw[A5 h];simp
def aGR{tx:A1}(h:inB tx.size 1 24=Y):inB (((tx.size+3) / 4:Nat):Int) 1 6=Y:=by
 have h:=Aa.1 h;exact Aa.2 J
def aGI{b:Nat}{f:Nat->Bool}:∀(n:Nat) (x:Int),0<b->(∃k,k<b/\f k=Y)->∃k,k<b/\Jf b n f x k=Y
 | 0,_,_,h=>h
 | n+1,x,hb,h=>by
  obtain⟨k,hk,e⟩:=h;exact aGI n _ hb ⟨k,hk,by unfold IQ;split;rfl;exact e⟩
def ats{b:Nat}{f:Nat->Bool}{n:Nat}{x:Int}(hb:0<b)(hn:0<n):∃k,k<b/\Jf b n f x k=Y:=by
 obtain⟨n,rfl⟩:∃m,n=m+1:=⟨n - 1,J⟩;rw[Jf];refine aGI n _ hb ⟨_, ?_,by unfold IQ;rw[A5 rfl]⟩;refine UH _ _ ?_;have:BM (B2 (rnd x) 16) (b:Int)<b:=Rx _ J;have h0:0<=BM (B2 (rnd x) 16) (b:Int):=Rq _<|pI (UF x).1 J;omega
def aIJ{b r:Int}(hb:1<=b):∀(ws:List Int) (acc d:Int),1<=d->1<=N0 (Ln b r ws acc d)
 | [],_,_,_=>hb
 | w::ws,acc,d,h=>by
  unfold Ln;split
  .exact h
  .exact aIJ hb ws _ _ J
def awd{b n:Int}(h:Dy b n=Y):1<=GG b n:=by
 have hb:1<=b:=by
  unfold Dy at h;rw[AD]at h;exact(Aa.1 h.1).1
 unfold GG;rw[A5 h];split
 .exact Cr _
 .exact aIJ hb _ _ _<|Cr _
def avs{b n:Int}(h:Dy b n=Y):Bj b n≠[]:=by
 have hb:1<=b:=by
  unfold Dy at h;rw[AD]at h;exact(Aa.1 h.1).1
 unfold Bj;rw[A5 h];split
 .simp
 .obtain⟨k,hk,e⟩:=ats (b:=b.toNat) (f:=λ_=>A0) (n:=(GG b n).toNat) (x:=rnd<|7 * n+1) J (by have:=awd h;omega);intro hh;have:k∈Ho (Jf b.toNat (GG b n).toNat (λ_=>A0)<|rnd<|7 * n+1) b.toNat:=FU.2 ⟨D4.2 hk,e⟩;rw[hh]at this;cases this
def aHs{tx:A1}(h:inB tx.size 1 24=Y){n:Int}(hn:inB n 0 999=Y):GZ tx n=B (Dz 4 (GI<|L tx)<|Bj (((tx.size+3) / 4:Nat):Int) n):=by
 unfold GZ;rw[aaw h];have:=avs (b:=(((tx.size+3) / 4:Nat):Int)) (n:=n) (by unfold Dy;rw[aGR h,hn];rfl);rw[A9 (by rw[List.isEmpty_iff];exact this)]
def aHg{tx:A1}(h:inB tx.size 1 24=Y){list:List AT}(hl:Pw tx list):∀m∈list,Iz m->m.da=B (Dz 4 (GI<|L tx)<|Bj (((tx.size+3) / 4:Nat):Int) m.nu):=by
 intro m hm hf;rw[hl m hm hf,aHs h hf.1]
def aai(b:Nat)(bl:Nat->List UInt8):O2 b bl (BT b noB):=by
 intro k hk;left;rw[bsA,BA,bM,A5 hk];rfl
def aHH{tx:A1}(h:inB tx.size 1 24=Y){list:List AT}(hl:Pw tx list)(ht:(FO tx.size list).2=Y):FO tx.size list=(tx,Y):=by
 rw[aHK h,BX]at ht ⊢;have h1:=Zy list 7 _<|Ce.new<|(tx.size+3) / 4;have h2:=mv (λk=>P9 (L tx) k) (aHg h hl) 7 _ (Ce.new<|(tx.size+3) / 4)<|aai _ _;generalize Gz ((tx.size+3) / 4) list 7 (BT ((tx.size+3) / 4) noB)=kn at *;have h3:∀k,k<(tx.size+3) / 4->unk kn k=A0:=by
  intro k hk;obtain c|c:=tf (unk kn k)
  .rw[aGN (u:=k) (by rw[h1.1];exact hk)<|BV c]at ht;cases ht
  .exact c
 rw[aaj h1 h2 h3,qc (by
  intro x hx;obtain⟨k,_,rfl⟩:=C1.1 hx;exact P9 _ _)]
 exact aHI h
def O4(S:A3->Prop)(f:Frame):Prop:=f.ki=1->∃n,S n/\Ay n=Y/\f.fr=n.fr/\f.nu=n.nu/\f.to=n.to/\f.un=n.un/\f.sz=n.tx.size/\f.da=GZ n.tx f.mix
structure PcI (S:A3->Prop) (p:AL):Prop where
 oG:p.sp=A0->∃f,p.data=BI (Ci f)/\p.src=f.src/\p.dst=f.dst/\(C2 f=Y->O4 S f)
 bad:p.sp=Y->(D0<|BD p.data).2=A0
def aFZ:(D0<|BD<|BI []).2=A0:=by rfl
def PcI.frame{S:A3->Prop}{p:AL}(h:PcI S p)(hu:(D0<|BD p.data).2=Y):∃f,D0 (BD p.data)=(f,Y)/\C2 f=Y/\p.src=f.src/\p.dst=f.dst/\O4 S f/\p.data=BI (Ci f):=by
 obtain c|c:=tf p.sp
 .rw[h.bad c]at hu;cases hu
 .obtain⟨f,h1,h2,h3,h4⟩:=h.oG c;obtain e|e:=tf (C2 f)
  .refine⟨f, ?_,e,h2,h3,h4 e,h1⟩;rw[h1,Ok<|Oy f,YY e]
  .rw[h1]at hu;unfold Ci at hu;rw[e,A4,aFZ]at hu;cases hu
def PcI.al8{S:A3->Prop}{p:AL}(h:PcI S p)(hs:p.sp=A0){mix kp:Int}(hm:inB mix 0 ((p.data.size:Int) - 1)=Y)(hk:inB kp 1 255=Y):PcI S (PS p mix kp):=by
 obtain⟨f,h1,_,_,_⟩:=h.oG hs;refine⟨λe=>(by cases e),λ_=> ?_⟩;obtain e|e:=tf (C2 f)
 .exact as4 e h1 hm hk
 .have h2:=Aa.1 hm;rw[h1]at h2;unfold Ci at h2;rw[e,A4,Za]at h2;simp at h2;omega
def PcI.send{S:A3->Prop}{f:Frame}(h:C2 f=Y->O4 S f):PcI S (pcF f):=⟨λ_=>⟨f,rfl,rfl,rfl,h⟩,λe=>by cases e⟩
def PcI.mono{S T:A3->Prop}{p:AL}(h:PcI S p)(hS:∀n,S n->T n):PcI T p:=by
 refine⟨λe=> ?_,h.bad⟩;obtain⟨f,h1,h2,h3,h4⟩:=h.oG e;refine⟨f,h1,h2,h3,λhf hk=> ?_⟩;obtain⟨n,h5,h6⟩:=h4 hf hk;exact⟨n,hS n h5,h6⟩
def aI0{ra:List AL}{fs:List Frame}{p:AL}(h:p∈C4 ra fs):p∈ra\/ ∃f∈fs,p=pcF f:=by
 unfold C4 at h;obtain h|h:=BL.1 h
 .exact .inl h
 .obtain⟨f,hf,rfl⟩:=C1.1 h;exact .inr ⟨f,Hb hf,rfl⟩
def aHt{ra:List AL}{i:Nat}{p:AL}(h:p∈JY ra i):p∈ra:=by
 unfold JY at h;obtain h|h:=BL.1 h
 .exact Hb h
 .exact Jr h
def aws{l:List A3}{i:Int}(h0:0<=i)(h1:i.toNat<l.length):nA l i.toNat∈l:=by
 rw[nA,BA,Ar h1];exact CS h1
def auK{st:AE}(h:Av st=Y){n:A3}(hn:n∈st.held):Ay n=Y:=by
 unfold Av at h;simp only[AD]at h;have hh:=h.2.2.2.1.2;obtain⟨j,hj,rfl⟩:=Cv hn;have:=CC.1 hh j hj;rw[AD,nA,BA,Ar hj]at this;exact this.1
def awx{S:A3->Prop}{k:A7}(h:Ag k=Y)(hS:∀n∈(stT k).held,S n){fr nu mix:Int}(hb:(EK k fr nu mix).2=Y):O4 S (EK k fr nu mix).1:=by
 intro _;unfold EK at hb ⊢;split at hb
 .rename_i hc;rw[A5 hc];simp only[AD,Bz,decide_eq_false_iff_not]at hc;have h0:=FK<|Rz.1 hc.2.1;have hm:=aws (Rz.1 hc.2.1) h0.1;exact⟨_,hS _ hm,auK (Bs h).kok hm,rfl,rfl,rfl,rfl,rfl,rfl⟩
 .cases hb
def MQ{n:A3}(h:Ay n=Y):inB n.tx.size 1 24=Y:=by
 unfold Ay Lk at h;simp only[AD]at h;exact h.2.2.2.2.1
def nc(hv:List AG)(f:Frame):(∃i,At hv f=(hv,i)/\i<hv.length/\(hA hv i).fr=f.fr/\(hA hv i).nu=f.nu/\EN hv f.fr f.nu=(i:Int))\/
  (EN hv f.fr f.nu<0/\ ∃l:List AG,l.Sublist hv/\At hv f=(l++[⟨f.fr,f.nu,f.to,f.un,f.sz,[]⟩],l.length)):=by
 unfold At;obtain h|⟨i,h1,h2,h3,h4⟩:=Ta hv f.fr f.nu
 .rw[A5 h];refine .inr ⟨h,_, ?_,rfl⟩;split
  .exact Rs _ _
  .exact Ek _
 .rw[A9 J];exact .inl ⟨i,by rw[h1];rfl,h2,h3,h4,h1⟩
def bk(l:List AG)(h:AG):hA (l++[h]) l.length=h:=by
 unfold hA;rw[BA,Fl<|Aw _];simp
def V8(k:A7)(r:A1)(f:Bool):(wrR k r f).1.AJ=k.AJ:=by
 unfold wrR;split
 .rfl
 .cases f<;>rfl
def abL(k:A7):Prop:=∀h∈k.AJ,5<=h.sz
def ay0{l:List AG}{i:Nat}{x:AG}(h:x∈FR l i):x∈l:=by
 unfold FR at h;obtain h|h:=BL.1 h
 .exact Hb h
 .exact Jr h
structure aJF (S:A3->Prop) (w:AA):Prop where
 p:∀p∈w.AQ,PcI S p
 b:∀i,i<4->abL (kA w.A8 i)
def ayw(k:A7)(tt un:Int)(tx:A1):(Dx k tt un tx).1.AJ=k.AJ:=by
 unfold Dx;split
 .exact V8 _ _ _
 .rfl
def aya(k:A7)(a b:Int):(De k a b).1.AJ=k.AJ:=by
 unfold De;split
 .exact V8 _ _ _
 .rfl
def awF(k:A7):(Fh k).1.AJ=k.AJ:=by
 unfold Fh;split
 .exact V8 _ _ _
 .rfl
def axV(k:A7):(Fj k).1.AJ=k.AJ:=by unfold Fj;split<;>rfl
def avS(k:A7):(Di k).1.AJ=k.AJ:=by unfold Di;split<;>rfl
def rN{l:List AL}{i:Nat}(h:i<l.length):pA l i∈l:=by
 rw[rV h];exact CS h
def aE{k:A7}(h:Ag k=Y)(f:Frame):CF k f=HS k f:=A5 h
def aHj:Cb [108,101,116]:=by unfold Cb;decide
def aHE(n:A3):L (JT n)=[116,97,107,101]++32::L (wr n):=by unfold JT;simp only[Gb,L_B];rfl
def aHY{k:AE}{r:A1}(hk:Av k=Y):BK k r=(GW k r).filter Av:=by
 unfold BK Fg;rw[A5 hk];cases (GW k r).filter Av<;>rfl
def as0{k:AE}{n:A3}(hn:Ay n=Y):Bb k EY (wr n)=if n.fr=k.id then G else Eh k n:=by
 unfold Bb GS;by_cases h:n.fr=k.id
 .simp[kP,kQ,lK,kR,kF,Qm hn,h]
 .simp[kP,kQ,lK,kR,kF,Qm hn,h]
def n8{k:AE}{n:A3}(hk:Av k=Y)(hn:Ay n=Y):BK k (JT n)=(if n.fr=k.id then G else Eh k n).filter Av:=by
 rw[aHY hk,IH nK<|aHE n,B_L];rw[show Bb k (B [116,97,107,101]) (wr n)=_ from as0 hn]
def qD{l:List Mark}{f n:Int}{x:Mark}(h:x∈l)(h1:x.mf=f)(h2:x.mn=n):0<=Br l f n:=by
 obtain h3|h3:=ark l f n
 .exact absurd ⟨h1,h2⟩ (qC J x h)
 .exact h3
structure amm (k o:AE) (n:A3):Prop where
 id:o.id=k.id
 ti:o.ti=k.ti
 nx:o.nx=k.nx
 at_:(n.to=k.id/\o.held=k.held/\o.marks=EL k.marks ⟨n.fr,n.nu,n.un⟩/\o.inbox=E3 k.inbox n)\/(n.to≠k.id/\o.held=E3 k.held n/\o.marks=k.marks/\o.inbox=k.inbox)
structure Safe (k:A7) (st:AE):Prop where
 is:DL k st
 fo:k.fo=(k.log.size:Int)
def q8{k:A7}{st o:AE}{r:A1}(h:DL k st)(hr:BK st r=I o):Safe (wrR k r Y).1 o/\(wrR k r Y).2=Y:=by
 unfold wrR;rw[h.stT,hr];exact⟨⟨RS<|PO h hr,rfl⟩,rfl⟩
def q7{k:A7}{st:AE}{r:A1}{f:Bool}(h:DL k st)(hr:(wrR k r f).2=Y):∃o,BK st r=I o:=by
 unfold wrR at hr;rw[h.stT]at hr;cases hc:BK st r with
 | none=>rw[hc]at hr;cases hr
 | some o=>exact⟨o,rfl⟩
def cP{k:A7}(h:Ag k=Y)(hu:k.up=Y){f:Frame}(hf:C2 f=Y)(h1:f.ki=1):DL (Gw k<|FR (D8 (At k.AJ f).1 (At k.AJ f).2 f) (At k.AJ f).2) (stT k):=by
 have kf:=Dq h;have hv:=rI.1 kf.hv;have hp:=Yx hf h1;have Ew:=PB (hv:=k.AJ) (f:=f);have Lp:=U3 (hv:=k.AJ) (f:=f) kf.hl;have hpf:=aJh hv hf h1;have haf:=aJw hpf Ew hp.2.1;have hal:(D8 (At k.AJ f).1 (At k.AJ f).2 f).length=(At k.AJ f).1.length:=by unfold D8;rw[Gh]
 exact aN (Bs h) hu (by unfold FR;simp;omega)<|aaD haf _
def ase{k:AE}{m:Mark}{r:A1}(ht:HM r=I m):Bb k C0 r=if EM k.held m then I ⟨k.id,k.ti,k.nx,Ef k.held (AY k.held m.mf m.mn).toNat,EL k.marks m,k.inbox⟩ else G:=by
 unfold Bb F1;cases h:EM k.held m<;>simp[lQ,lS,lz,lR,lU,km,mB,lT,ht,h]
def aGX{k:AE}{a b c:Int}(hk:Av k=Y)(ha:0<=a/\a<=999)(hb:0<=b/\b<=999)(hc:0<=c/\c<=999):
  BK k (Ca C0 a b c)=(if EM k.held ⟨a,b,c⟩ then I ⟨k.id,k.ti,k.nx,Ef k.held (AY k.held a b).toNat,EL k.marks ⟨a,b,c⟩,k.inbox⟩ else G).filter Av:=by
 have h3:=aS (r:=B<|B7 a++32::(B7 b++32::B7 c)) (a:=a) (b:=b) (c:=c) J J J J J J<|L_B _;rw[aHY hk,IH aHj<|Qt C0 a b c];rw[show Bb k (B [108,101,116]) _=_ from ase h3]
structure aks (a b:A3):Prop where
 fr:a.fr=b.fr
 nu:a.nu=b.nu
 to':a.to=b.to
 un:a.un=b.un
 ok:Ay a=Ay b
structure azu (l m:List A3):Prop where
 len:l.length=m.length
 nA:∀i,aks (nA l i)<|nA m i
def FI(tx:A1)(i:Nat):List AT:=(B9 i).map λj:Nat=>⟨(j:Int),GZ tx (j:Int)⟩
structure aJG (x:A7) (d t:Int) (hv:List AG):Prop where
 ok:Ag x=Y
 up:x.up=Y
 id:x.id=d
 st:stT x=⟨d,t,1,[],[],[]⟩
 hv:x.AJ=hv
variable {E:List Event}
def Tot{α:Type}(o:Option α)(P:α->Prop):Prop:=∃a,o=I a/\P a
def Rn{α β:Type}(A:α->Prop)(B:β->Prop):α ⊕ β->Prop
 | .inl a=>A a
 | .inr b=>B b
def Tot.ret{α:Type}{a:α}{P:α->Prop}(h:P a):Tot (I a) P:=⟨a,rfl,h⟩
def Tot.eq{α:Type}{o:Option α}{a:α}(h:o=I a):Tot o (λx=>x=a):=⟨a,h,rfl⟩
def Tot.bind{α β:Type}{o:Option α}{f:α->Option β}{P:α->Prop}{Q:β->Prop}(h:Tot o P)(hf:∀a,P a->Tot (f a) Q):Tot (o.bind f) Q:=by
 obtain⟨a,rfl,p⟩:=h;exact hf a p
def Tot.ite{α:Type}{c:Bool}{a b:Option α}{P:α->Prop}(ha:c=Y->Tot a P)(hb:c=A0->Tot b P):Tot (if c=Y then a else b) P:=by
 cases c
 .rw[A4];exact hb rfl
 .rw[A5 rfl];exact ha rfl
def Tot.pos{α:Type}{c:Bool}{a b:Option α}{P:α->Prop}(hc:c=Y)(ha:Tot a P):Tot (if c=Y then a else b) P:=by
 rw[A5 hc];exact ha
def Tot.neg{α:Type}{c:Bool}{a b:Option α}{P:α->Prop}(hc:c=A0)(hb:Tot b P):Tot (if c=Y then a else b) P:=by
 rw[hc,A4];exact hb
def Tot.join{Ω X:Type}{f:X->Option Ω}{m:Option (Ω ⊕ X)}{A:X->Prop}{Q:Ω->Prop}(h:Tot m (Rn Q A))(hf:∀x,A x->Tot (f x) Q):Tot (BU f m) Q:=by
 obtain⟨r,rfl,p⟩:=h;cases r with
 | inl o=>exact⟨o,rfl,p⟩
 | inr x=>exact hf x p
def Tot.sum{A B8 Ω:Type}{m:Option (A ⊕ B8)}{f:A->Option Ω}{g:B8->Option Ω}{P:A->Prop}{Q:B8->Prop}{R:Ω->Prop}(h:Tot m (Rn P Q))
  (hf:∀a,P a->Tot (f a) R)(hg:∀d,Q d->Tot (g d) R):Tot (AM m f g) R:=by
 obtain⟨r,rfl,p⟩:=h;cases r with
 | inl o=>exact hf o p
 | inr x=>exact hg x p
def Tot.loop{σ ρ:Type}{b:σ->Option (σ ⊕ ρ)}(Inv:Nat->σ->Prop)(OK:ρ->Prop)(n:Nat)
  (h:∀i s,i<=n->Inv i s->Tot (b s) (Rn (λs'=>i<n/\Inv (i+1) s') OK)){s0:σ}(h0:Inv 0 s0):Tot (AS b s0) OK:=by
 refine axA Inv OK n (λi s hi hs=> ?_) (λs hs=> ?_) h0
 .obtain⟨r,e,p⟩:=h i s J hs;cases r with
  | inl s'=>exact .inl ⟨s',e,p.2⟩
  | inr y=>exact .inr ⟨y,e,p⟩
 .obtain⟨r,e,p⟩:=h n s (Aw _) hs;cases r with
  | inl s'=>exact absurd p.1<|Nat.lt_irrefl _
  | inr y=>exact⟨y,e,p⟩
structure I4 (N:Nat) (r:List Int×Int×D):Prop where
 l:r.1.length<=2000
 b:BOk r.1
 p0:0<=r.2.1
 p1:r.2.1<=(N:Int)
def I4.up{N M:Nat}{r:List Int×Int×D}(h:I4 N r)(hM:N<=M):I4 M r:=⟨h.l,h.b,h.p0,by have:=h.p1;omega⟩
def ax9{a b:Int}(ha:0<=a)(ha':a<9223372036854775808)(hb:0<=b)(hb':b<9223372036854775808):0<=E0 .i64 a b:=by
 obtain⟨m,rfl⟩:=HZ ha;obtain⟨n,rfl⟩:=HZ hb;have hm:m<2 ^ 63:=J
 have hn:n<2 ^ 63:=J
 have hx:=Nat.xor_lt_two_pow hm hn;have e:(FT 64 (m:Int) ^^^ FT 64 (n:Int)).toNat=m ^^^ n:=by
  rw[BitVec.toNat_xor,Rp,Rp];congr 1<;>omega
 show 0<=w64 (((FT 64 (m:Int) ^^^ FT 64 (n:Int)).toNat:Int));rw[e,AZ J J];omega
def D1{N:Nat}{x:(List Int×Int×D)×Int×D}(h:I4 N x.1)(hN:N<=1000000):
  Tot (Cl x) λa=>I4 (N+1) a.2.1/\0<=a.1.1/\(1<=x.2.1->a.1.1<x.2.1):=by
 obtain⟨⟨l,p,_⟩,n,_⟩:=x;obtain⟨hl,hb,p0,p1⟩:=h;simp only at hl hb p0 p1;have e1:w64 (p+1)=p+1:=AZ J J;have e2:w64 (p+1 - 1)=p:=by rw[AZ J J];omega
 have hq:I4 (N+1) (l,p+1,()):=⟨hl,hb,by show 0<=p+1;omega,by show p+1<=((N+1:Nat):Int);omega⟩;unfold Cl;simp only[e1,e2];refine Tot.ite (λhc=> ?_) (λhc=> ?_)
 .refine Tot.ret ⟨hq,Cr _,λh=>by show(0:Int)<n;omega⟩
 .simp only[Mk,decide_eq_false_iff_not]at hc;have hn:1<=n:=J
  have hln:0<l.length:=J
  have hl0:¬((j8 l:Int)=0):=hc.2;have hn0:(!decide (n=0))=Y:=by simp;omega
  have oM:(!decide ((j8 l:Int)=0))=Y:=by simpa using hl0
  refine Tot.ite (λhc1=> ?_) (λhc1=> ?_)
  .have hc1:=BV hc1;refine Tot.pos (FN p0 hc1) (Tot.pos hn0<|Tot.ret ⟨hq, ?_,λ_=> ?_⟩)
   .have:=hb.rd p;exact Rq _ (by rw[AZ J J];exact this.1)
   .exact Rx _ J
  .have hp:0<=BM p l.length/\BM p l.length<l.length:=⟨Rq _ p0,Rx _ J⟩;have e3:w64 (w64 (p * 7)+3)=p * 7+3:=by rw[AZ (n:=p * 7) J J,AZ J J]
   have hp2:0<=BM (p * 7+3) l.length/\BM (p * 7+3) l.length<l.length:=⟨Rq _ J,Rx _ J⟩;simp only[e3];refine Tot.pos oM (Tot.pos (FN hp.1 hp.2)<|Tot.pos oM<|Tot.pos (FN hp2.1 hp2.2)<|Tot.pos oM<|Tot.pos hn0<|Tot.ret ⟨hq, ?_,λ_=> ?_⟩)
   .have b1:=hb.rd<|BM p l.length;have b2:=hb.rd<|BM (p * 7+3) l.length;have hd:0<=B2 p l.length/\B2 p l.length<=p:=⟨pI p0 J,Int.tdiv_le_self _ p0⟩;generalize @rd Int aJW l (BM p l.length)=u1 at b1 ⊢;generalize @rd Int aJW l (BM (p * 7+3) l.length)=u2 at b2 ⊢;generalize B2 p l.length=d at hd ⊢;have w1:w64 u1=u1:=AZ J J;have w2:w64 u2=u2:=AZ J J;have w3:w64 (u1 * 131)=u1 * 131:=AZ J J;have w4:w64 (u2 * 1117)=u2 * 1117:=AZ J J;have w5:w64 (p * 29)=p * 29:=AZ J J;have w6:w64 d=d:=AZ J J;have w7:w64 (d * 53)=d * 53:=AZ J J;simp only[w1,w2,w3,w4,w5,w6,w7];have w8:w64 (u1 * 131+u2 * 1117)=u1 * 131+u2 * 1117:=AZ J J;rw[w8];have w9:w64 (u1 * 131+u2 * 1117+p * 29)=u1 * 131+u2 * 1117+p * 29:=AZ J J;rw[w9];have w10:w64 (u1 * 131+u2 * 1117+p * 29+d * 53)=u1 * 131+u2 * 1117+p * 29+d * 53:=AZ J J;rw[w10];have hv:0<=u1 * 131+u2 * 1117+p * 29+d * 53/\u1 * 131+u2 * 1117+p * 29+d * 53<=1000000000:=J
    generalize u1 * 131+u2 * 1117+p * 29+d * 53=v at hv ⊢;have hdv:0<=B2 v 64/\B2 v 64<=v:=⟨pI hv.1 J,Int.tdiv_le_self _ hv.1⟩;have w11:w64 (B2 v 64)=B2 v 64:=AZ J J;rw[w11];exact Rq _ (ax9 hv.1 J hdv.1 J)
   .exact Rx _ J
def arb(l:List A1){i:Int}(h0:0<=i)(h1:i<l.length): @rd A1 aJY l i∈l:=by
 unfold rd;rw[BA,Ar (by omega:i.toNat<l.length)];exact CS _
def az5{N:Nat}{r:List Int×Int×D}{l:List A1}(h:I4 N r)(hN:N<=1000000)(hl:1<=l.length):
  Tot (iR (r,l,())) λa=>I4 (N+1) a.2.1/\a.1.1∈l:=by
 unfold iR;refine Tot.bind (D1 h hN) λa ha=> ?_;have h1:=ha.2.2 (by show(1:Int)<=(j8 l:Int);omega);exact Tot.pos (FN ha.2.1 h1)<|Tot.ret ⟨ha.1,arb l ha.2.1 h1⟩
def OJ(E ev:List Event)(w:AA):Prop:=∃l,Reach l w/\(E=[]->l=ev)
def OJ.ok{ev:List Event}{w:AA}(h:OJ E ev w):B4 w:=by
 obtain⟨_,h,_⟩:=h;exact h.ok
def OJ.reach{ev:List Event}{w:AA}(h:OJ [] ev w):Reach ev w:=by
 obtain⟨_,h,e⟩:=h;rw[← e rfl];exact h
def OJ.step{ev:List Event}{w:AA}(h:OJ E ev w){e:Event}(ht:e.tx.size<=1048576):OJ E (KN ev e (doM w e).2) (CX w e):=by
 obtain⟨l,h,g⟩:=h;exact⟨_,h.step ht,λc=>by rw[g c]⟩
def WOk(E:List Event)(N:Nat)(t:Int×List A7×List Bool×List AL×List A3×List A3×List Event×D):Prop:=∃w ev,t=tS w ev/\OJ E ev w/\ev.length<=N
structure SOk (E:List Event) (N:Nat) (s:(List Int×Int×D)×Int×List A7×List Bool×List AL×List A3×List A3×List Event×D):Prop where
 r:I4 N s.1
 w:WOk E N s.2
def WOk.up{N M:Nat}{t:_}(h:WOk E N t)(hM:N<=M):WOk E M t:=by
 obtain⟨w,ev,e,h1,h2⟩:=h;exact⟨w,ev,e,h1,J⟩
def SOk.up{N M:Nat}{s:_}(h:SOk E N s)(hM:N<=M):SOk E M s:=⟨h.r.up hM,h.w.up hM⟩
def SOk.rd{N M:Nat}{s:_}(h:SOk E N s){r:List Int×Int×D}(hr:I4 M r)(hM:N<=M):SOk E M (r,s.2):=⟨hr,h.w.up hM⟩
abbrev zTx(y:Int×Int×Int×Int×Int×Int×Int×Int×Int×A1×D):A1:=y.2.2.2.2.2.2.2.2.2.1
def HX{N:Nat}{s:_}{y:Int×Int×Int×Int×Int×Int×Int×Int×Int×A1×D}(h:SOk E N s)(hN:N<=1000000)(hy:(zTx y).size<=1048576):
  Tot (G4 (s,y,())) λa=>SOk E (N+1) a.2.1:=by
 obtain⟨hr,w,ev,e,hw,hev⟩:=h;obtain⟨r,t⟩:=s;obtain⟨a,b,c,d,f,g,i,j,k,tx,_⟩:=y;simp only at e hr;subst e;have:=atc hw.ok (r:=r) (ev:=ev) J (e:=⟨a,b,c,d,f,g,i,j,k,tx⟩) hy;refine⟨_,this,hr.up J,⟨_,KN ev ⟨a,b,c,d,f,g,i,j,k,tx⟩ (doM w ⟨a,b,c,d,f,g,i,j,k,tx⟩).2,rfl, ?_, ?_⟩⟩
 .exact hw.step (e:=⟨a,b,c,d,f,g,i,j,k,tx⟩) hy
 unfold KN;split
 .simp;omega
 .omega
def WOk.has{N:Nat}{t:_}(h:WOk E N t){i:Int}(h0:0<=i)(h1:i<4):Ag (kA t.2.1 i.toNat)=Y/\(kA t.2.1 i.toNat).id=i/\inb i t.2.1.length=Y:=by
 obtain⟨w,ev,rfl,hw,_⟩:=h;have:=hw.ok.k i.toNat J;refine⟨this.1, ?_,FN h0 (by show i<(w.A8.length:Int);rw[hw.ok.kl];exact h1)⟩;rw[this.2];omega
def rY{l:List A7}{i:Int}(h:Ag (kA l i.toNat)=Y):
  Tot (GO (((@rd A7 aJN l i).id,(@rd A7 aJN l i).up,(@rd A7 aJN l i).log,(@rd A7 aJN l i).fo,(@rd A7 aJN l i).AJ,()),()))
   λa=>a=((tK<|stT<|kA l i.toNat,Y,()),()):=Tot.eq<|On h
end Go.VS
namespace Go.VS
open Go
variable {E:List Event}
def ayM{l:List A1}{s:A1}(h:s∈l)(hl:(l.all λx=>U<|x.size<=1000)=Y):s.size<=1000:=by
 have:=CZ.1 hl s h;exact BV this
def abC{N:Nat}{s:_}(h:SOk E N s)(hN:N<=900000):Tot (W9 (s,())) λa=>SOk E (N+10) a.2.1:=by
 unfold W9;refine Tot.bind (D1 h.r J) λr1 h1=>Tot.bind (az5 h1.1 J aJT) λr2 h2=>Tot.join (A:=λj=>SOk E (N+2) j.1/\0<=j.2.1/\j.2.1<4/\j.2.2.1.size<=1000) ?_ (λj hj=> ?_)
 .have hz:=ayM h2.2 aJT;have hat:r1.1.1<4:=h1.2.2 (show(1:Int)<=4 by decide);refine Tot.ite (λhc=>Tot.pos ?_<|Tot.ret ⟨h.rd h2.1 J,h1.2.1,hat, ?_⟩) (λhc=>Tot.ret ⟨h.rd h2.1 J,h1.2.1,hat,hz⟩)
  .have:=BV hc;simp;omega
  .show(r2.1.1.extract 0 24).size<=1000;rw[aFD];omega
 .obtain⟨hs,a0,a1,hz⟩:=hj;have hk:=hs.w.has a0 a1;refine Tot.pos hk.2.2 (Tot.bind (rY hk.1) λr6 h6=>Tot.bind (D1 hs.r J) λr7 h7=>Tot.bind (D1 h7.1 J) λr8 h8=>
   Tot.bind (HX (hs.rd h8.1 J) J ?_) λr9 h9=>Tot.ret<|h9.up J)
  show j.2.2.1.size<=1048576;omega
def az7{a:Int}(h0:0<=a)(h1:a<4):0<=BM (w64<|a+1) 4/\BM (w64<|a+1) 4<4:=by
 rw[AZ J J];exact⟨Rq _ J,Rx _ J⟩
def aym{N:Nat}{s:_}(h:SOk E N s)(hN:N<=900000):Tot (ey (s,())) λa=>SOk E (N+2) a.2.1/\a.2.1.2=s.2/\(a.1.2.2.1=Y->0<=a.1.1/\a.1.1<4/\isN (BR a.1.1 a.1.2.1.2.2.1)=Y):=by
 unfold ey;refine Tot.bind (D1 h.r J) λr1 h1=>Tot.sum (P:=λy=>SOk E (N+2) y.1/\y.1.2=s.2/\(0<=y.2.1/\y.2.1<4/\isN (BR y.2.1 y.2.2.1.2.2.1)=Y)) (Q:=λy=>SOk E (N+2) y.1/\y.1.2=s.2) ?_ (λy hy=>Tot.ret ⟨hy.1,hy.2.1,λ_=>hy.2.2⟩) (λy hy=>Tot.ret ⟨hy.1,hy.2,λh=>by cases h⟩);refine Tot.loop (λi x=>SOk E (N+1) x.1/\x.1.2=s.2/\0<=x.2.2.1/\x.2.2.1<4/\x.2.2.2.1=(i:Int)) _ 4 (λi x hi hx=> ?_) ⟨h.rd h1.1 J,rfl,h1.2.1,h1.2.2<|show(1:Int)<=4 by decide,rfl⟩;obtain⟨hs,hw,a0,a1,hx⟩:=hx;have hk:=hs.w.has a0 a1;unfold uF;refine Tot.ite (λhc=> ?_) (λhc=>Tot.ret ⟨hs.up J,hw⟩);have hc:=BV hc;refine Tot.pos hk.2.2 (Tot.bind (rY hk.1) λr6 h6=> ?_);subst h6;refine Tot.ite (λhl=> ?_) (λhl=> ?_)
 .have hl:(0:Int)<((stT<|kA x.1.2.2.1 x.2.2.1.toNat).held.length:Int):=BV hl;refine Tot.bind (D1 hs.r J) λr7 h7=> ?_;have hlt:=h7.2.2 hl;refine Tot.pos (FN h7.2.1 hlt)<|Tot.ret ⟨hs.rd h7.1 J,hw,a0,a1, ?_⟩;have hkk:=Bs hk.1;have hid:=hkk.id;have h9:r7.1.1.toNat<(stT<|kA x.1.2.2.1 x.2.2.1.toNat).held.length:=by
   have:r7.1.1<((stT<|kA x.1.2.2.1 x.2.2.1.toNat).held.length:Int):=hlt;have:=h7.2.1;omega
  have:=nr hkk.kok (n:=nA (stT<|kA x.1.2.2.1 x.2.2.1.toNat).held r7.1.1.toNat) (by rw[nA,BA,Ar h9];exact CS h9);rw[hid,hk.2.1]at this;exact this
 .have hm:=az7 a0 a1;refine Tot.ret ⟨?_,hs,hw,hm.1,hm.2, ?_⟩
  .omega
  .show w64 (x.2.2.2.1+1)=_;rw[hx,AZ J J];rfl
def US{N:Nat}{s:_}(h:SOk E N s){E8 odd:Int}(hm:E8<=64)(hN:N<=900000):Tot (OO (s,E8,odd,())) λa=>SOk E (N+1000) a.2.1:=by
 unfold OO;refine Tot.sum (P:=λ_=>False) (Q:=λy=>SOk E (N+1000) y.1) ?_ (λ_ h=>h.elim) (λy hy=>Tot.ret hy);refine Tot.loop (λi x=>SOk E (N+12 * i) x.1/\x.2.1=E8/\x.2.2.2.1=(i:Int)) _ E8.toNat (λi x hi hx=> ?_) ⟨h,rfl,rfl⟩;obtain⟨hs,hx1,hx⟩:=hx;unfold tr;refine Tot.ite (λhc=> ?_) (λhc=>Tot.ret<|show SOk E (N+1000) _ from hs.up J);rw[AD,hx1,hx]at hc;have hlt:(i:Int)<E8:=BV hc.1;have hN1:N+12 * i<=950000:=J
 generalize hM:N+12 * i=M at hs hN1;refine Tot.join (A:=λj=>SOk E (M+5) j.1/\j.2.1=E8/\j.2.2.2.1=(i:Int)/\(zTx j.2.2.2.2.1).size<=1000) ?_ (λj hj=> ?_)
 .refine Tot.join (A:=λj=>SOk E (M+1) j.1/\j.2.1=E8/\j.2.2.2.1=(i:Int)/\(zTx j.2.2.2.2.1).size<=1000) ?_ (λj hj=> ?_)
  .refine Tot.ite (λhc=>Tot.bind (D1 hs.r J) λr1 h1=>Tot.ret ?_) (λhc=>Tot.ret ?_)
   .exact⟨hs.rd h1.1 J,hx1,hx,show noB.size<=1000 by decide⟩
   .exact⟨hs.up J,hx1,hx,show noB.size<=1000 by decide⟩
  .obtain⟨hs,hj1,hj2,hj3⟩:=hj;refine Tot.ite (λhc=> ?_) (λhc=>Tot.ret ⟨hs.up J,hj1,hj2,hj3⟩);refine Tot.bind (D1 hs.r J) λr1 h1=> ?_;refine Tot.ite (λhc=>Tot.ret ⟨hs.rd (h1.1.up J) J,hj1,hj2,hj3⟩) (λhc=> ?_);refine Tot.ite (λhc=>Tot.ret ⟨hs.rd (h1.1.up J) J,hj1,hj2,hj3⟩) (λhc=> ?_);refine Tot.ite (λhc=> ?_) (λhc=> ?_)
   .exact Tot.bind (D1 h1.1 J) λr2 h2=>Tot.bind (D1 h2.1 J) λr3 h3=>Tot.bind (D1 h3.1 J) λr4 h4=>
     Tot.ret ⟨hs.rd (h4.1.up J) J,hj1,hj2,hj3⟩
   .exact Tot.bind (D1 h1.1 J) λr2 h2=>Tot.ret ⟨hs.rd (h2.1.up J) J,hj1,hj2,hj3⟩
 .obtain⟨hs,hj1,hj2,hj3⟩:=hj;have hw:w64 (j.2.2.2.1+1)=((i+1:Nat):Int):=by rw[hj2,AZ J J];rfl
  refine Tot.join (A:=λj=>SOk E (M+7) j.1/\j.2.1=E8/\j.2.2.2.1=(i:Int)/\(zTx j.2.2.2.2.1).size<=1000) ?_ (λj hj=> ?_)
  .refine Tot.bind (HX hs J<|Cc hj3 aJT) λr1 h1=>Tot.ite (λhc=> ?_) (λhc=>Tot.ret ⟨h1.up J,hj1,hj2,hj3⟩);exact Tot.bind (HX h1 J<|show noB.size<=1048576 by decide) λr2 h2=>Tot.ret ⟨h2.up J,hj1,hj2,hj3⟩
  .obtain⟨hs,hj1,hj2,hj3⟩:=hj;refine Tot.join (A:=λj=>SOk E (M+8) j.1/\j.2.1=E8/\j.2.2.2.1=(i:Int)/\(zTx j.2.2.2.2.1).size<=1000) ?_ (λj hj=> ?_)
   .refine Tot.ite (λhc=>Tot.bind (D1 hs.r J) λr1 h1=>Tot.ret ⟨hs.rd h1.1 J,hj1,hj2,hj3⟩) (λhc=>Tot.ret ⟨hs.up J,hj1,hj2,hj3⟩)
   .obtain⟨hs,hj1,hj2,hj3⟩:=hj;have hw:w64 (j.2.2.2.1+1)=((i+1:Nat):Int):=by rw[hj2,AZ J J];rfl
    refine Tot.ite (λhc=> ?_) (λhc=>Tot.ret ⟨J, ?_,hj1,hw⟩)
    .refine Tot.bind (D1 hs.r J) λr1 h1=>Tot.bind (D1 h1.1 J) λr2 h2=>Tot.bind (HX (hs.rd h2.1 J) J ?_) λr3 h3=>Tot.ret ⟨J, ?_,hj1,hw⟩
     .show(zTx j.2.2.2.2.1).size<=1048576;omega
     .exact h3.up J
    .exact hs.up J
end Go.VS
namespace Go.VS
open Go
variable {E:List Event}
def nz:noB.size<=1048576:=by decide
def WOk.rl{N:Nat}{t:_}(h:WOk E N t):t.2.2.2.1.length<=30:=by
 obtain⟨w,ev,rfl,hw,_⟩:=h;exact hw.ok.rl
def LY{n:Int}{i:Nat}(h:n=(i:Int))(hi:i<=1000000):w64 (n+1)=((i+1:Nat):Int):=by
 rw[h,AZ J J];rfl
def bY{N:Nat}{s:_}(h:SOk E N s){E8 odd:Int}(h0:0<=E8)(hm:E8<=8)(hN:N<=800000):Tot (QB (s,E8,odd,())) λa=>SOk E (N+1100) a.2.1:=by
 unfold QB;refine Tot.bind (aym h J) λr1 h1=>Tot.ite (λhc=>Tot.ret<|h1.1.up J) (λhc=> ?_);refine Tot.bind (D1 h1.1.r J) λr2 h2=>Tot.bind (D1 h2.1 J) λr3 h3=> ?_;refine Tot.sum (P:=λ_=>False) (Q:=λy=>SOk E (N+20) y.1/\y.2.1=E8) ?_ (λ_ h=>h.elim) (λy hy=> ?_)
 .refine Tot.loop (λi x=>SOk E (N+4+i) x.1/\x.2.1=E8/\x.2.2.2.2.2.2.1=(i:Int)) _ E8.toNat (λi x hi hx=> ?_) ⟨h1.1.rd h3.1 J,rfl,rfl⟩;obtain⟨hs,hx1,hx⟩:=hx;unfold tO;refine Tot.ite (λhc=> ?_) (λhc=>Tot.ret ⟨hs.up J,hx1⟩);have hc:=BV hc;exact Tot.bind (HX hs J nz) λr4 h4=>Tot.ret ⟨J,h4.up J,hx1,LY hx J⟩
 .have hy2:=hy.2;refine Tot.bind (D1 hy.1.r J) λr4 h4=> ?_;have h5:r4.1.1<=64:=by
   have:w64 (y.2.1+4)=E8+4:=by rw[hy.2,AZ J J]
   have:=h4.2.2 (by show 1<=w64 (y.2.1+4);omega);have:r4.1.1<w64 (y.2.1+4):=this;omega
  exact Tot.bind (US (hy.1.rd h4.1 J) h5 J) λr5 h6=>Tot.ret<|h6.up J
def ayY{N:Nat}{s:_}(h:SOk E N s)(hN:N<=700000):Tot (ez (s,())) λa=>SOk E (N+4500) a.2.1:=by
 unfold ez;refine Tot.bind (US h aJT J) λr1 h1=>Tot.bind (bY h1 aJT aJT J) λr2 h2=> ?_;refine Tot.sum (P:=λ_=>False) (Q:=λy=>SOk E (N+2220) y.1) ?_ (λ_ h=>h.elim) (λy hy=> ?_)
 .refine Tot.loop (λi x=>SOk E (N+2100+40 * i) x.1/\x.2.1=(i:Int)) _ 2 (λi x hi hx=> ?_) ⟨h2.up J,rfl⟩;obtain⟨hs,hx⟩:=hx;unfold uB;refine Tot.bind (D1 hs.r J) λr3 h3=>Tot.ite (λhc=> ?_) (λhc=>Tot.ret<|show SOk E (N+2220) _ from hs.rd (h3.1.up J) J);have hc:=BV hc;have hv:=h3.2.2 (show(1:Int)<=2 by decide);have hv:r3.1.1<2:=hv;have hv0:=h3.2.1;rw[AZ J J]at hc;have hrl:=hs.w.rl;refine Tot.sum (P:=λ_=>False) (Q:=λy=>SOk E (N+2100+40 * (i+1)) y.1/\y.2.1=(i:Int)) ?_ (λ_ h=>h.elim) (λy hy=>Tot.ret ⟨J,hy.1,LY hy.2 J⟩);refine Tot.loop (λk y=>SOk E (N+2100+40 * i+1+k) y.1/\y.2.1=(i:Int)/\y.2.2.1=(j8 x.1.2.2.2.2.1:Int)/\y.2.2.2.1=(k:Int)) _ x.1.2.2.2.2.1.length (λk y hk hy=> ?_) ⟨hs.rd h3.1 J,hx,rfl,rfl⟩;obtain⟨hs,y1,y2,y3⟩:=hy;unfold uA;refine Tot.ite (λhc=> ?_) (λhc=>Tot.ret ⟨hs.up J,y1⟩);have hc:=BV hc;exact Tot.bind (HX hs J nz) λr4 h4=>Tot.ret ⟨J,h4.up J,y1,y2,LY y3 J⟩
 .refine Tot.bind (D1 (SOk.r hy) J) λr3 h3=>Tot.join (A:=λj=>SOk E (N+2240) j.1) ?_ (λj hj=> ?_)
  .refine Tot.bind (D1 h3.1 J) λr4 h4=>Tot.ite (λhc=> ?_) (λhc=>Tot.ite (λhc=> ?_) λhc=> ?_)
   .exact Tot.bind (D1 h4.1 J) λr5 h5=>Tot.bind (HX (SOk.rd hy h5.1 J) J nz) λr6 h6=>Tot.bind (HX h6 J nz) λr7 h7=>Tot.ret (show SOk E (N+2240) _ from h7.up J)
   .refine Tot.bind (D1 h4.1 J) λr5 h5=>Tot.sum (P:=λ_=>False) (Q:=λy=>SOk E (N+2240) y.1) ?_ (λ_ h=>h.elim) (λy hy=>Tot.ret<|show SOk E (N+2240) y.1 from hy);have hv:r5.1.1<9:=h5.2.2 (show(1:Int)<=9 by decide);have hv0:=h5.2.1;refine Tot.loop (λk y=>SOk E (N+2224+k) y.1/\y.2.2.1=r5.1.1 - (k:Int)) _ r5.1.1.toNat (λk y hk hy=> ?_) ⟨SOk.rd hy (h5.1.up J) J,by show r5.1.1=r5.1.1 - 0;omega⟩;obtain⟨hs,y1⟩:=hy;unfold u9;refine Tot.ite (λhc=> ?_) (λhc=>Tot.ret<|show SOk E (N+2240) _ from hs.up J);have hc:=BV hc;refine Tot.bind (HX hs J nz) λr6 h6=>Tot.ret ⟨J,h6.up J, ?_⟩;show w64 (y.2.2.1 - 1)=r5.1.1 - ((k+1:Nat):Int);rw[AZ J J];omega
   .exact Tot.ret (show SOk E (N+2240) _ from SOk.rd hy (h4.1.up J) J)
  .have hj:SOk E (N+2240) j.1:=hj;refine Tot.bind (bY hj aJT aJT J) λr4 h4=>Tot.sum (P:=λ_=>False) (Q:=λy=>SOk E (N+3400) y.1) ?_ (λ_ h=>h.elim) (λy hy=> ?_)
   .refine Tot.loop (λk y=>SOk E (N+3340+k) y.1/\y.2.2.1=(k:Int)) _ 12 (λk y hk hy=> ?_) ⟨h4.up J,rfl⟩;obtain⟨hs,y1⟩:=hy;unfold uG;refine Tot.ite (λhc=> ?_) (λhc=>Tot.ret<|show SOk E (N+3400) _ from hs.up J);rw[AD]at hc;have hc:=BV hc.1;exact Tot.bind (HX hs J nz) λr6 h6=>Tot.ret ⟨J,h6.up J,LY y1 J⟩
   .exact Tot.bind (US (SOk.up hy<|Aw _) aJT J) λr5 h5=>Tot.ret<|h5.up J
def ayi{N:Nat}{s:_}(h:SOk E N s)(odd:Int)(hN:N<=690000):Tot (eu (s,odd,())) λa=>SOk E (N+25000) a.2.1:=by
 unfold eu;refine Tot.bind (D1 h.r J) λr1 h1=>Tot.bind (D1 h1.1 J) λr2 h2=> ?_;have a0:=h1.2.1;have a1:r1.1.1<4:=h1.2.2 (show(1:Int)<=4 by decide);have hs:SOk E (N+2) (r2.2.1,s.2):=h.rd h2.1 J;refine Tot.join (A:=λj=>SOk E (N+2) j.1/\0<=j.2.2.1/\j.2.2.1<4) ?_ (λj hj=> ?_)
 .exact Tot.ite (λ_=>Tot.ret ⟨hs,a0,a1⟩) λ_=>Tot.ite (λ_=>Tot.ret ⟨hs,a0,a1⟩) λ_=>Tot.ret ⟨hs,a0,a1⟩
 clear hs a0 a1;refine Tot.ite (λ_=>Tot.bind (abC hj.1 J) λr4 h4=>Tot.ret<|h4.up J) (λ_=> ?_);refine Tot.join (A:=λj=>SOk E (N+2) j.1/\0<=j.2.2.1/\j.2.2.1<4) ?_ (λj hj=> ?_)
 .exact Tot.ite (λ_=>Tot.ret hj) λ_=>Tot.ite (λ_=>Tot.ret hj) λ_=>Tot.ite (λ_=>Tot.ret hj) λ_=>Tot.ite (λ_=>Tot.ret hj) λ_=>Tot.ite (λ_=>Tot.ret hj) λ_=>Tot.ret hj
 refine Tot.ite (λ_=> ?_) (λ_=> ?_)
 .refine Tot.bind (D1 hj.1.r J) λr3 h3=> ?_;have hv:r3.1.1<7:=h3.2.2 (show(1:Int)<=7 by decide);have hv0:=h3.2.1;have hw:w64 (1+r3.1.1)=1+r3.1.1:=AZ J J;exact Tot.bind (bY (hj.1.rd h3.1 J) (by rw[hw];omega) (by rw[hw];omega) J) λr4 h4=>Tot.ret<|h4.up J
 refine Tot.join (A:=λj=>SOk E (N+2) j.1/\0<=j.2.2.1/\j.2.2.1<4) ?_ (λj hj=> ?_)
 .exact Tot.ite (λ_=>Tot.ret hj) λ_=>Tot.ret hj
 refine Tot.ite (λ_=> ?_) (λ_=> ?_)
 .refine Tot.bind (D1 hj.1.r J) λr3 h3=> ?_;have hv:r3.1.1<20:=h3.2.2 (show(1:Int)<=20 by decide);have hv0:=h3.2.1;have hw:w64 (1+r3.1.1)=1+r3.1.1:=AZ J J;exact Tot.bind (US (hj.1.rd h3.1 J) (by rw[hw];omega) J) λr4 h4=>Tot.ret<|h4.up J
 refine Tot.join (A:=λj=>SOk E (N+2) j.1/\0<=j.2.1/\j.2.1<4) ?_ (λj hj=> ?_)
 .exact Tot.ite (λ_=>Tot.ret hj) λ_=>Tot.ret hj
 refine Tot.ite (λ_=>Tot.bind (HX hj.1 J nz) λr4 h4=>Tot.ret<|h4.up J) (λ_=> ?_);refine Tot.ite (λ_=>Tot.bind (D1 hj.1.r J) λr3 h3=>Tot.bind (HX (hj.1.rd h3.1 J) J nz) λr4 h4=>Tot.ret<|h4.up J) (λ_=> ?_);refine Tot.join (A:=λj=>SOk E (N+2) j.1/\0<=j.2.1/\j.2.1<4) ?_ (λj hj=> ?_)
 .exact Tot.ite (λ_=>Tot.ret hj) λ_=>Tot.ret hj
 refine Tot.ite (λ_=>Tot.bind (HX hj.1 J nz) λr4 h4=>Tot.ret<|h4.up J) (λ_=> ?_);refine Tot.ite (λ_=>Tot.bind (D1 hj.1.r J) λr3 h3=>Tot.bind (D1 h3.1 J) λr4 h4=>Tot.bind (HX (hj.1.rd h4.1 J) J nz) λr5 h5=>Tot.ret<|h5.up J) (λ_=> ?_);refine Tot.join (A:=λj=>SOk E (N+2) j.1/\0<=j.2.1/\j.2.1<4) ?_ (λj hj=> ?_)
 .exact Tot.ite (λ_=>Tot.ret hj) λ_=>Tot.ret hj
 refine Tot.ite (λ_=> ?_) (λ_=> ?_)
 .have hk:=hj.1.w.has hj.2.1 hj.2.2;refine Tot.pos hk.2.2 (Tot.bind (rY hk.1) λr6 h6=> ?_);subst h6;refine Tot.ite (λhl=> ?_) (λhl=>Tot.ret<|hj.1.up J);have hl:(0:Int)<((stT<|kA j.1.2.2.1 j.2.1.toNat).inbox.length:Int):=BV hl;refine Tot.bind (D1 hj.1.r J) λr7 h7=>Tot.pos (FN h7.2.1<|h7.2.2 hl)<|Tot.bind (HX (hj.1.rd h7.1 J) J nz) λr8 h8=>Tot.ret<|h8.up J
 refine Tot.ite (λ_=>Tot.bind (D1 hj.1.r J) λr3 h3=>Tot.bind (HX (hj.1.rd h3.1 J) J nz) λr4 h4=>Tot.ret<|h4.up J) (λ_=> ?_);refine Tot.join (A:=λj=>SOk E (N+2) j.1) ?_ (λj hj=> ?_)
 .exact Tot.ite (λ_=>Tot.ret hj.1) λ_=>Tot.ite (λ_=>Tot.ret hj.1) λ_=>Tot.ret hj.1
 have hj:SOk E (N+2) j.1:=hj;refine Tot.ite (λ_=>Tot.bind (ayY hj J) λr4 h4=>Tot.ret<|h4.up J) (λ_=> ?_);refine Tot.sum (P:=λ_=>False) (Q:=λy=>SOk E (N+25000) y.1) ?_ (λ_ h=>h.elim) (λy hy=>Tot.ret hy);refine Tot.loop (λk y=>SOk E (N+2+2200 * k) y.1/\y.2.1=(k:Int)) _ 4 (λk y hk hy=> ?_) ⟨hj,rfl⟩;unfold uE;refine Tot.ite (λhc=> ?_) (λhc=>Tot.ret<|show SOk E (N+25000) _ from hy.1.up J);have hc:=BV hc;have hy2:=hy.2;exact Tot.bind (bY hy.1 aJT aJT J) λr5 h5=>Tot.bind (US h5 aJT J) λr6 h6=>Tot.ret ⟨J,h6.up J,LY hy.2 J⟩
end Go.VS
namespace Go.VS
open Go
variable {E:List Event}
def awI{i:Int}(h:isN i=Y):W3 (i,())=I (((i,Y,noB,0,[],()),()),()):=by
 unfold W3;simp only[K9,A6,h,AB,A4]
def aJa:Si ()=I (((rv0.ti,rv0.A8,rv0.An,rv0.AQ,rv0.AN,rv0.got,()),()),()):=by
 have h0:tD ((0,([]:List A7),([]:List Bool),([]:List AL),([]:List A3),([]:List A3),()),(0,([]:List A7),([]:List Bool),([]:List AL),([]:List A3),([]:List A3),()),0,())
   =I (.inr ((0,[],[],[],[],[],()),(0,[kp0 0,kp0 1,kp0 2,kp0 3],[],[],[],[],()),())):=by
  have st:∀(n:Nat) (l:List A7),n<4->l.length<=4->eJ ((0,[],[],[],[],[],()),(0,l,[],[],[],[],()),(n:Int),())=I (.inl ((0,[],[],[],[],[],()),(0,l++[kp0 n],[],[],[],[],()),((n+1:Nat):Int),())):=by
   intro n l hn hl;unfold eJ;have hi:isN (n:Int)=Y:=Aa.2 ⟨J,J⟩;rw[A5<|AW<|show(n:Int)<4 by omega];rw[show W3 (_,())=_ from awI hi];simp only[A6];rw[A5<|BE aJL,AZ J J];rfl
  exact Am (st 0 [] aJT aJT)<|Am (st 1 _ aJT aJT)<|Am (st 2 _ aJT aJT)<|Am (st 3 _ aJT aJT)<|BC<|by rfl
 have h1:tM ((0,([]:List A7),([]:List Bool),([]:List AL),([]:List A3),([]:List A3),()),(0,[kp0 0,kp0 1,kp0 2,kp0 3],[],[],[],[],()),0,())
   =I (.inr ((0,[],[],[],[],[],()),(0,[kp0 0,kp0 1,kp0 2,kp0 3],[Y,Y,Y],[],[],[],()),())):=by
  have st:∀(n:Nat) (l:List Bool),n<3->l.length<=4->W1 ((0,[],[],[],[],[],()),(0,[kp0 0,kp0 1,kp0 2,kp0 3],l,[],[],[],()),(n:Int),())=I (.inl ((0,[],[],[],[],[],()),(0,[kp0 0,kp0 1,kp0 2,kp0 3],l++[Y],[],[],[],()),((n+1:Nat):Int),())):=by
   intro n l hn hl;unfold W1;have hw:w64 ((n:Int)+1)=((n+1:Nat):Int):=by rw[AZ J J];rfl
   simp only[hw];rw[A5<|AW<|show((n+1:Nat):Int)<4 by omega,A5<|BE aJL]
  refine Am (st 0 [] aJT aJT) (Am (st 1 _ aJT aJT)<|Am (st 2 _ aJT aJT)<|BC ?_);unfold W1;have hw:w64 (((2+1:Nat):Int)+1)=4:=by rw[AZ J J];rfl
  simp only[hw];rfl
 unfold Si;rw[h0];simp only[C9];rw[h1];rfl
def ayt{N M:Nat}{r:List Int×Int×D}(h:I4 N r){E8:Int}(hm0:1<=E8)(hm:E8<=(M:Int))(hN:N+25000 * M<=710000):
  Tot (iQ (r,E8,())) λa=>I4 (N+12+25000 * M) a.2.1/\WOk [] (N+12+25000 * M) a.1.1.2:=by
 unfold iQ;rw[aJa];simp only[A6];refine Tot.bind (D1 h J) λr2 h2=>Tot.pos (FN h2.2.1<|h2.2.2<|show(1:Int)<=5 by decide) ?_;have hs:SOk [] (N+1) (r2.2.1,rv0.ti,rv0.A8,rv0.An,rv0.AQ,rv0.AN,rv0.got,([]:List Event),()):=⟨h2.1,rv0,[],rfl,⟨[],.nil,λ_=>rfl⟩,D5 _⟩;refine Tot.bind (abC hs J) λr4 h4=>Tot.bind (D1 h4.r J) λr9 h9=> ?_;refine Tot.sum (P:=λ_=>False) (Q:=λy=>I4 (N+12+25000 * M) y.1/\WOk [] (N+12+25000 * M) y.2.1.2) ?_ (λ_ h=>h.elim) (λy hy=>Tot.ret hy);have hn0:=h9.2.1;have hn:r9.1.1<(M:Int):=by
  have:r9.1.1<E8:=h9.2.2 hm0;omega
 refine Tot.loop (λi y=>I4 (N+12+25000 * i) y.1/\WOk [] (N+12+25000 * i) y.2.1.2/\y.2.2.2.1=r9.1.1 - (i:Int)) _ r9.1.1.toNat (λi y hi hy=> ?_) ⟨h9.1.up J,h4.w.up J,by show r9.1.1=r9.1.1 - 0;omega⟩;obtain⟨hr,hw,hy⟩:=hy;unfold k9;refine Tot.ite (λhc=> ?_) (λhc=>Tot.ret ⟨hr.up J,hw.up J⟩);have hc:=BV hc;refine Tot.bind (ayi (s:=(y.1,y.2.1.2)) ⟨hr,hw⟩ _ J) λr5 h5=>Tot.ret ⟨J,h5.r.up J,h5.w.up J, ?_⟩;show w64 (y.2.2.2.1 - 1)=r9.1.1 - ((i+1:Nat):Int);rw[AZ J J];omega
end Go.VS
namespace Go.VS
open Go
def ayG{l:List Int}(hb:BOk l):Tot (jU (l,())) λa=>I4 0 a.1.1:=by
 unfold jU;refine Tot.ite (λhc=> ?_) (λhc=>Tot.ret ⟨?_,hb,Cr _,Cr _⟩)
 .have hc:(2000:Int)<(j8 l:Int):=BV hc;refine Tot.pos aJL (Tot.ret ⟨?_,λx hx=>hb x<|Hb hx,Cr _,Cr _⟩);show(BQ (AO 2000) l).length<=2000;rw[DS];omega
 .have:¬(2000:Int)<(j8 l:Int):=J3 hc;show l.length<=2000;omega
abbrev tR(w:AA):YR:=(w.ti,w.A8,w.An,w.AQ,w.AN,w.got,())
abbrev zR:AA:=⟨0,[],[],[],[],[]⟩
abbrev SmR(w:AA):Prop:=HE w.A8 w.An w.AQ w.AN w.got
def B4.sm{w:AA}(h:B4 w):SmR w:=by
 have h1:=h.kl;have h2:=h.ll;have h3:=h.rl;have h4:=h.sl;have h5:=h.gl;refine⟨J,λk hk=> ?_,J,J,λp hp=> ?_,J,λn hn=> ?_,J,λn hn=> ?_⟩
 .obtain⟨i,hi,rfl⟩:=Cv hk;have:=(h.k i J).1;rw[kA,BA,Ar hi]at this;exact DE this
 .have:=(MF<|h.p p hp).2.2.1;unfold aHy;omega
 .have:=Aa.1<|MQ<|h.s n hn;unfold GU;omega
 .have:=Aa.1<|MQ<|h.g n hn;unfold GU;omega
def adD{l:List A7}(hl:l.length<=1048576):dV (l,())=I ((l,()),()):=MM hl
def aeU{l:List Bool}(hl:l.length<=1048576):eU (l,())=I ((l,()),()):=MM hl
def adC{l:List AL}(hl:l.length<=1048576):df (l,())=I ((l,()),()):=MM hl
def So{w:AA}(sm:SmR w):K6 (tR w,())=I ((tR w,()),()):=by
 obtain⟨ti,ks,ls,ra,se,go⟩:=w;have kl:=sm.kl;unfold K6;rw[show dV ((tR ⟨ti,ks,ls,ra,se,go⟩).2.1,())=_ from adD sm.kl,show eU ((tR ⟨ti,ks,ls,ra,se,go⟩).2.2.1,())=_ from aeU sm.l,show df ((tR ⟨ti,ks,ls,ra,se,go⟩).2.2.2.1,())=_ from adC sm.rl,
  show OS ((tR ⟨ti,ks,ls,ra,se,go⟩).2.2.2.2.1,())=_ from eV sm.sl,show OS (tR ⟨ti,ks,ls,ra,se,go⟩).2.2.2.2.2=_ from eV sm.gl]
 simp only[A6];have h:de (tR zR,tR ⟨ti,ks,ls,ra,se,go⟩,(j8 ks:Int),0,())=I (.inr (tR zR,tR ⟨ti,ks,ls,ra,se,go⟩,())):=by
  refine CE (λi=>(tR zR,tR ⟨ti,ks,ls,ra,se,go⟩,(j8 ks:Int),(i:Int),())) ks.length ?_ ?_
  .intro i hi;unfold fK;have hc:=LB<|Nc sm.k i;simp only[Ir hi,A2,AR hi,Ox,hc,A6,BX];rw[Dh hi kl,show(⟨(kA ks i).id,(kA ks i).up,(kA ks i).log,(kA ks i).fo,(kA ks i).AJ⟩:A7)=kA ks i from rfl,LU]
  .unfold fK;simp only[HL,A4]
 rw[show de _=_ from h];rfl
def mY{w:AA}{fs:List Frame}(hr:w.AQ.length<=1048000)(hf:fs.length<=40):Oi (tR w,fs,())=I ((),(tR ⟨w.ti,w.A8,w.An,C4 w.AQ fs,w.AN,w.got⟩,())):=by
 obtain⟨ti,ks,ls,ra,se,go⟩:=w;unfold Oi;have h0:C4 ra (fs.take 0)=ra:=by
  unfold C4;simp
 have h:gq (tR ⟨ti,ks,ls,C4 ra<|fs.take 0,se,go⟩,fs,(j8 fs:Int),((0:Nat):Int),())=I (.inr (tR ⟨ti,ks,ls,C4 ra fs,se,go⟩,())):=by
  refine CE (λi=>(tR ⟨ti,ks,ls,C4 ra<|fs.take i,se,go⟩,fs,(j8 fs:Int),(i:Int),())) fs.length ?_ ?_
  .intro i hi;unfold YH;simp only[Ir hi,A2,AR hi,aI8];have hz:(C4 ra<|fs.take i).length<=1048100:=by
    unfold C4;simp;have:min (30 - ra.length) (min i fs.length)<=40:=J
    simp only at hr;omega
   have hw:w64 ((i:Int)+1)=((i+1:Nat):Int):=Dh hi J;have hrm:∀p:AL,Ac ((C4 ra<|fs.take i).length+[p].length)=Y:=λp=>BE aJL;have ht:fs.take (i+1)=fs.take i++[frA fs i]:=by rw[JC,Ar hi,aac hi];rfl
   have hl:(fs.take i).length=i:=by rw[DS];omega
   have hlen:(C4 ra<|fs.take i).length=ra.length+min (30 - ra.length) i:=by
    unfold C4;simp;omega
   by_cases h30:(C4 ra<|fs.take i).length<30
   .rw[A5<|AW<|show((C4 ra<|fs.take i).length:Int)<30 by omega];rw[show QI ((_,_,_,_,_,_,_,_,_,_,()),())=_ from zk<|frA fs i];simp only[A6,hrm,A2];have e:C4 ra (fs.take<|i+1)=C4 ra (fs.take i)++[pcF (frA fs i)]:=by
     rw[hlen]at h30;have a1:BQ (30 - ra.length) (fs.take i++[frA fs i])=fs.take i++[frA fs i]:=KY (by rw[Ax,hl];simp;omega);have a2:BQ (30 - ra.length) (fs.take i)=fs.take i:=KY (by rw[hl];omega);unfold C4;rw[ht,a1,a2,Em,← C7];rfl
    rw[e,hw];rfl
   .rw[A9<|nd<|show ¬((C4 ra<|fs.take i).length:Int)<30 by omega];have e:C4 ra (fs.take<|i+1)=C4 ra (fs.take i):=by
     rw[hlen]at h30;unfold C4;rw[ht,List.take_append_of_le_length (by rw[hl];omega)]
    rw[e,hw]
  .unfold YH;simp only[HL,A4,E6]
 rw[h0]at h;have h':gq (tR ⟨ti,ks,ls,ra,se,go⟩,fs,(j8 fs:Int),0,())=I (.inr (tR ⟨ti,ks,ls,C4 ra fs,se,go⟩,())):=h;simp only[h'];rfl
def ai6{l:List AL}{i:Int}(h0:0<=i)(h1:i<l.length)(hl:l.length<=1048576):Wa (l,i,())=I ((JY l i.toNat,()),()):=by
 unfold Wa;have hw:w64 (i+1)=i+1:=AZ J J;have hn:(i+1).toNat=i.toNat+1:=J
 simp only[hw,hn];rw[A5 aJL,A5<|BE aJL,A5 aJL,A5<|BE aJL];rfl
def aol{w:AA}(h:B4 w)(e:Event):((e.ki=9\/e.ki=10)->jh (tR w,tE e,())=I (((F5 w e).2,()),(tR (F5 w e).1,()))):=by
 intro _;have ll:=h.ll;unfold jh F5;simp only[EU,A6,Qu (J:w.An.length<=1048576),Zv];obtain e0|e0:=tf (inB e.at_ 0<|(w.An.length:Int) - 1)
 .have ha:=Aa.1 e0;have hb:inb e.at_ w.An.length=Y:=FN ha.1 J;rw[e0,hb];simp only[AB,AH,FY,A2,Bl,AU];obtain c|c:=tfp (bA w.An e.at_.toNat=U (e.ki=9))<;>simp only[c,AX,Ad,AB,AH,A2,A4]
 .rw[e0];simp only[AB,AH,Hl,A2,By,AP,A4]
def ayO(l:List AL)(i:Int){inst:Decidable ((@rd AL aJS l i).dst<(@rd AL aJS l i).src)}:(@ite Int ((@rd AL aJS l i).dst<(@rd AL aJS l i).src) inst (@rd AL aJS l i).dst (@rd AL aJS l i).src)=lnk (pA l i.toNat):=by
 show _=lnk (@rd AL aJS l i);unfold lnk;split<;>split<;>omega
def ajy{w:AA}(h:B4 w)(e:Event):((e.ki=4\/e.ki=5\/e.ki=6)->Su (tR w,tE e,())=I (((EW w e).2,()),(tR (EW w e).1,()))):=by
 intro hk;have rl:=h.rl;unfold Su EW;simp only[↓ayO,EU,A6,Qu (J:w.AQ.length<=1048576),aFW];obtain e0|e0:=tf (inB e.wo 0<|(w.AQ.length:Int) - 1)
 .have ha:=Aa.1 e0;have hb:inb e.wo w.AQ.length=Y:=FN ha.1 J;have hwl:e.wo.toNat<w.AQ.length:=J
  have hp:=R0 h (i:=e.wo.toNat) hwl;obtain⟨p1,p2,p3,p4,p5⟩:=MF hp;have FH:=ai6 (l:=w.AQ) ha.1 J J;rw[e0,hb];simp only[AB,A4,A2];obtain c5|c5:=tfp (e.ki=5)
  .have c6:¬e.ki=6:=by have:e.ki=5:=of_eq_true c5;omega
   simp only[c5,AX,A2,FH,A6,c6,if_false]
  .rcases tfp (e.ki=6) with c6|c6
   .simp only[c5,c6,AX,Ad,A2,A4,Qu<|show(pA w.AQ e.wo.toNat).data.size<=1048576 by omega];obtain e2|e2:=tf (inB e.mix 0<|((pA w.AQ e.wo.toNat).data.size:Int) - 1)<;>simp only[e2,AB,AH,A4,A2,AU,AP,Ba];obtain e1|e1:=tf (pA w.AQ e.wo.toNat).sp<;>simp only[e1,AB,AH,A4,A2,AU,AP];obtain e3|e3:=tf (inB e.kp 1 255)<;>simp only[e3,AB,AH,A4,A2];have hm:=Aa.1 e2;have hmb:inb e.mix (BD (pA w.AQ e.wo.toNat).data).length=Y:=FN hm.1 (by rw[rS];omega);simp only[Gh,aJb,aaZ hwl,hb,A2];rw[A5<|BE J,A5 hmb,A5 hmb];rfl
   .have c4:e.ki=4:=by
     have:¬e.ki=5:=by simpa using c5
     have:¬e.ki=6:=by simpa using c6
     omega
    have hl:inb (lnk<|pA w.AQ e.wo.toNat) w.An.length=Y:=by
     have:=h.ll;exact FN p4 (by rw[this];exact p5)
    have hin:inb (pA w.AQ e.wo.toNat).dst w.A8.length=Y:=FN p2.1 (by rw[h.kl];omega);have c4':(e.ki=4)=True:=eq_true c4;simp only[c5,c6,c4',AX,Ad,A2,A4,hl,Zv,if_false];obtain e1|e1:=tf (bA w.An (lnk<|pA w.AQ e.wo.toNat).toNat)<;>simp only[e1,AB,AH,A4,A2];have hlo:=(UD h e.wo.toNat).1;obtain e5|e5:=tfp (e.kp=0)
    .simp only[e5,AX,A2,FH,A6,Bh];simp only[BE<|show(pA w.AQ e.wo.toNat).data.size<=4294967296 by omega,A2,xe<|BOk.str _,A6];unfold EC;generalize D0 (BD (pA w.AQ e.wo.toNat).data)=u;obtain e2|e2:=tf u.2<;>simp only[e2,A4,A2,AU,AP,Bh];obtain e3|e3:=tf (U (u.1.src=(pA w.AQ e.wo.toNat).src)&&U (u.1.dst=(pA w.AQ e.wo.toNat).dst))<;>simp only[e3,A4,A2,hin,Tg];rw[show Sc ((_,_,_,_,_,()),_,())=_ from yC (VN h (i:=(pA w.AQ e.wo.toNat).dst.toNat) J) u.1];simp only[A6];have hs:=mY (w:=⟨w.ti,w.A8.set (pA w.AQ e.wo.toNat).dst.toNat (CF (kA w.A8 (pA w.AQ e.wo.toNat).dst.toNat) u.1).1,w.An,JY w.AQ e.wo.toNat,w.AN,w.got⟩) (fs:=(CF (kA w.A8 (pA w.AQ e.wo.toNat).dst.toNat) u.1).2) (by show(JY w.AQ e.wo.toNat).length<=1048000;omega) (by have:=(ZO (kA w.A8 (pA w.AQ e.wo.toNat).dst.toNat) u.1).1;omega);rw[show Oi _=_ from hs];rfl
    .simp only[e5,Ad,A4,Bh,if_false];simp only[BE<|show(pA w.AQ e.wo.toNat).data.size<=4294967296 by omega,A2,xe<|BOk.str _,A6];unfold EC;generalize D0 (BD (pA w.AQ e.wo.toNat).data)=u;obtain e2|e2:=tf u.2<;>simp only[e2,A4,A2,AU,AP,Bh];obtain e3|e3:=tf (U (u.1.src=(pA w.AQ e.wo.toNat).src)&&U (u.1.dst=(pA w.AQ e.wo.toNat).dst))<;>simp only[e3,A4,A2,hin,Tg];rw[show Sc ((_,_,_,_,_,()),_,())=_ from yC (VN h (i:=(pA w.AQ e.wo.toNat).dst.toNat) J) u.1];simp only[A6];have hs:=mY (w:=⟨w.ti,w.A8.set (pA w.AQ e.wo.toNat).dst.toNat (CF (kA w.A8 (pA w.AQ e.wo.toNat).dst.toNat) u.1).1,w.An,w.AQ,w.AN,w.got⟩) (fs:=(CF (kA w.A8 (pA w.AQ e.wo.toNat).dst.toNat) u.1).2) (by show(w.AQ).length<=1048000;omega) (by have:=(ZO (kA w.A8 (pA w.AQ e.wo.toNat).dst.toNat) u.1).1;omega);rw[show Oi _=_ from hs];rfl
 .rw[e0];simp only[AH,A2,A4]
def aok{w:AA}(h:B4 w){e:Event}(hk:¬(e.ki=4\/e.ki=5\/e.ki=6))(hk':¬(e.ki=9\/e.ki=10))(ht:e.tx.size<=1048576):
  TL (tR w,tE e,())=I (((doM w e).2,()),(tR (doM w e).1,())):=by
 obtain⟨ki,at_,fr,nu,wo,mix,kp,t',un,tx⟩:=e;simp only at hk hk' ht;have hn:∀(l:List A3) (x:A3),l.length<=6->Ac (l.length+[x].length)=Y:=λl x hl=>BE aJL;have rl:=h.rl;unfold TL doM;rw[A9 hk,A9 hk'];simp only[K7,A6];obtain e0|e0:=tf (isN at_)
 .have ha:=E9 e0;have hal:=VD e0;have hb:inb at_ w.A8.length=Y:=FN ha.1 (by rw[h.kl];omega);have hko:=(h.k _ hal).1;have hks:=VN h hal;simp only[e0,AB,A4,hb,A2,Tg];unfold Gt;obtain e1|e1:=tfp (ki=1)
  .simp only[e1,AX,A2];unfold O1;by_cases hs:6<=w.AN.length
   .rw[A5<|AW (J:6<=(w.AN.length:Int)),A5 hs];rfl
   .rw[A9<|nd (J:¬6<=(w.AN.length:Int)),A9 hs];rw[show Wd ((_,_,_,_,_,()),_,_,_,())=_ from ahh hko t' un ht];simp only[A6];obtain e2|e2:=tfp ((Dx (kA w.A8 at_.toNat) t' un tx).2=0)<;>simp only[e2,AX,Ad,A4,A2,if_false]
    .rfl
    .rw[A5<|hn _ _ h.sl,Bh];simp only[hb,A2]
  .simp only[e1,Ad,A4,if_false];obtain e2|e2:=tfp (ki=2)
   .simp only[e2,AX,A2];rw[show WT ((_,_,_,_,_,()),())=_ from ag5 hko];simp only[A6,Bh,hb,A2];rfl
   .simp only[e2,Ad,A4,if_false];obtain e3|e3:=tfp (ki=3)
    .simp only[e3,AX,A2];rw[show We ((_,_,_,_,_,()),_,_,_,())=_ from ahi hks fr nu mix];simp only[A6];rw[A5 hko];obtain e4|e4:=tf (EK (kA w.A8 at_.toNat) fr nu mix).2<;>simp only[e4,A2,A4]
     .have hs:=mY (w:=w) (fs:=[(EK (kA w.A8 at_.toNat) fr nu mix).1]) J aJO;rw[show Oi (_,_,())=_ from hs];simp only[A6,Bh,hb,A2];rw[show(⟨(kA w.A8 at_.toNat).id,(kA w.A8 at_.toNat).up,(kA w.A8 at_.toNat).log,(kA w.A8 at_.toNat).fo,(kA w.A8 at_.toNat).AJ⟩:A7)=kA w.A8 at_.toNat from rfl,LU]
     .simp only[Bh,hb,A2];rw[show(⟨(kA w.A8 at_.toNat).id,(kA w.A8 at_.toNat).up,(kA w.A8 at_.toNat).log,(kA w.A8 at_.toNat).fo,(kA w.A8 at_.toNat).AJ⟩:A7)=kA w.A8 at_.toNat from rfl,LU]
    .simp only[e3,Ad,A4,if_false];obtain e4|e4:=tfp (ki=7)
     .simp only[e4,AX,A2];rw[show WW ((_,_,_,_,_,()),_,())=_ from ag8 hks kp];rw[A5 hko];simp only[A6,Bh,hb,A2];rfl
     .simp only[e4,Ad,A4,if_false];obtain e5|e5:=tfp (ki=8)
      .simp only[e5,AX,A2];rw[show WU ((_,_,_,_,_,()),())=_ from ag6 hko];simp only[A6,Bh,hb,A2];rfl
      .simp only[e5,Ad,A4,if_false];obtain e6|e6:=tfp (ki=11)
       .simp only[e6,AX,A2];unfold OB;by_cases hs:w.got.length<6
        .rw[A9<|nd (J:¬6<=(j8 w.got:Int))];rw[show Wf ((_,_,_,_,_,()),_,_,())=_ from ahj hko fr nu];simp only[A6];obtain e7|e7:=tf (De (kA w.A8 at_.toNat) fr nu).2.2<;>simp only[e7,AB,AH,A2,A4,AU,AP]
         .rw[A5<|AW hs,A5<|hn _ _ h.gl,Bh];simp only[hb,A2]
         .rfl
        .rw[A5<|AW (J:6<=(j8 w.got:Int)),BG hs,Ba,A4];rfl
       .simp only[e6,Ad,A4,if_false];obtain e7|e7:=tfp (ki=12)
        .simp only[e7,AX,A2];rw[show WV ((_,_,_,_,_,()),())=_ from ag7 hko];simp only[A6,Bh,hb,A2];rfl
        .simp only[e7,Ad,A4,if_false];obtain e8|e8:=tfp (ki=13)
         .simp only[e8,AX,A2];rw[show WM ((_,_,_,_,_,()),())=_ from afJ hko];simp only[A6,Bh,hb,A2];rfl
         .simp only[e8,Ad,A4,if_false,Bh,hb,A2];rw[show(⟨(kA w.A8 at_.toNat).id,(kA w.A8 at_.toNat).up,(kA w.A8 at_.toNat).log,(kA w.A8 at_.toNat).fo,(kA w.A8 at_.toNat).AJ⟩:A7)=kA w.A8 at_.toNat from rfl,LU]
 .simp only[e0,AH,A4,A2]
noncomputable abbrev Aq(w:AA):Bool:=GR w.ti w.A8 w.An w.AQ w.AN w.got
def aIS{l:List A3}(h:HW l=Y):∀n∈l,Ay n=Y:=by
 intro n hn;obtain⟨i,hi,rfl⟩:=Cv hn;have:=CC.1 h i hi;rw[nA,BA,Ar hi]at this;exact this
def Cw{w:AA}(h:Aq w=Y):B4 w/\0<=w.ti/\w.ti<=99999:=by
 unfold Aq GR at h;simp only[AD,Aa,decide_eq_true_eq,CC]at h;obtain⟨ht,hk,hl,hr,⟨hs,hs6⟩,⟨hg,hg6⟩,hks,hps⟩:=h;refine⟨⟨J,J,J,J,J,λi hi=> ?_,λp hp=> ?_,aIS hs,aIS hg⟩,ht.1,ht.2⟩
 .have:=hks i J;unfold Je at this;simp only[AD,decide_eq_true_eq]at this;exact⟨this.2,this.1⟩
 .obtain⟨i,hi,rfl⟩:=Cv hp;have:=hps i hi;rw[rV hi]at this;exact this
def qi{w:AA}(h:B4 w)(h0:0<=w.ti)(h1:w.ti<=99999):Aq w=Y:=by
 have k1:=h.kl;have k2:=h.ll;have k3:=h.rl;have k4:=h.sl;have k5:=h.gl;unfold Aq GR;simp only[AD,Aa,decide_eq_true_eq,CC];refine⟨⟨h0,h1⟩,J,J,J,⟨?_,J⟩,⟨?_,J⟩,λi hi=> ?_,λi hi=> ?_⟩
 .unfold HW;exact CC.2 λi hi=>h.s _ (by rw[nA,BA,Ar hi];exact CS hi)
 .unfold HW;exact CC.2 λi hi=>h.g _ (by rw[nA,BA,Ar hi];exact CS hi)
 .unfold Je;have:=h.k i J;rw[this.1,this.2];simp
 .exact R0 h hi
def Ei(w:AA)(e:Event):AA×Bool:=
 if Aq w then(if U (99999<=w.ti) then(w,A0) else if(doM w e).2 then(CX w e,Y) else(w,A0)) else(zR,A0)
def kr{w:AA}(h:B4 w)(ht0:0<=w.ti)(ht1:w.ti<=99999){e:Event}(ht:e.tx.size<=1048576):
  I8 (tR w,tE e,())=I ((tR (if U (99999<=w.ti) then(w,A0) else if(doM w e).2 then(CX w e,Y) else(w,A0)).1,(if U (99999<=w.ti) then(w,A0) else if(doM w e).2 then(CX w e,Y) else(w,A0)).2,()),()):=by
 have hti:=cQ w e;have am7:∀b:Bool,b=U (e.ki=9\/e.ki=10)->(BU (X:=YR×YR×YR×Bool×D) (λj16=>
   (if((!j16.2.2.2.1)||(U<|j16.1.1=99999)) then
   (K6 (j16.1,())).bind λr29=>
   I ((r29.1.1,A0,()),())
   else
   (K6 (((w64<|j16.2.2.1.1+1),j16.2.2.1.2),())).bind λr30=>
   I ((r30.1.1,Y,()),()))) (I<|.inr (tR w,tR zR,tR (doM w e).1,(doM w e).2,())):Option ((YR×Bool×D)×D))=I ((tR (if U (99999<=w.ti) then(w,A0) else if(doM w e).2 then(CX w e,Y) else(w,A0)).1,(if U (99999<=w.ti) then(w,A0) else if(doM w e).2 then(CX w e,Y) else(w,A0)).2,()),()):=by
  intro b hb;rw[Bh];have alk:U (w.ti=99999)=U (99999<=w.ti):=decide_eq_decide.2 J;simp only[alk];obtain c|c:=tf (U<|99999<=w.ti)
  .simp only[c,DY,A2,So h.sm,A6]
  .rcases tf (doM w e).2 with c2|c2
   .simp only[c,c2,AB,En,A4,A2];have hs:=So (qx h e).sm;have e1:tR (CX w e)=(w64<|(doM w e).1.ti+1,(doM w e).1.A8,(doM w e).1.An,(doM w e).1.AQ,(doM w e).1.AN,(doM w e).1.got,()):=by
     unfold CX tick;rw[c2,A5 rfl]
    rw[e1]at hs ⊢;rw[show K6 ((w64<|(doM w e).1.ti+1,(doM w e).1.A8,(doM w e).1.An,(doM w e).1.AQ,(doM w e).1.AN,(doM w e).1.got,()),())=_ from hs];rfl
   .simp only[c,c2,AH,By,A4,A2,So h.sm,A6]
 unfold I8;rw[So h.sm];simp only[A6];have Ie:=am7 _ rfl;by_cases h9:e.ki=9\/e.ki=10
 .have hdo:doM w e=F5 w e:=by
   unfold doM;rw[A9 J,A5 h9]
  have hL:=aol h e h9;rw[← hdo]at hL;rw[← Ie];congr 1;obtain c|c:=tfp (e.ki=9)
  .simp only[c,AX,A2,Bh,hL,A6]
  .have c10:(e.ki=10)=True:=eq_true (by have:¬e.ki=9:=(by simpa using c);omega);simp only[c,c10,AX,Ad,A4,Bh,A2,hL,A6]
 .have n9:(e.ki=9)=False:=by simp;omega
  have n10:(e.ki=10)=False:=by simp;omega
  simp only[n9,n10,Ad,A4,Bh];rw[← Ie];congr 1;by_cases h4:e.ki=4\/e.ki=5\/e.ki=6
  .have hdo:doM w e=EW w e:=by
    unfold doM;rw[A5 h4]
   have hP:=ajy h e h4;rw[← hdo]at hP;obtain c|c:=tfp (e.ki=4)
   .simp only[c,AX,A2,hP,A6]
   .rcases tfp (e.ki=5) with c1|c1
    .simp only[c,c1,AX,Ad,A4,A2,hP,A6]
    .have c6:(e.ki=6)=True:=eq_true (by have h4:¬e.ki=4:=(by simpa using c);have h5:¬e.ki=5:=(by simpa using c1);omega);simp only[c,c1,c6,AX,Ad,A4,A2,hP,A6]
  .have n4:(e.ki=4)=False:=by simp;omega
   have n5:(e.ki=5)=False:=by simp;omega
   have n6:(e.ki=6)=False:=by simp;omega
   have hN:=aok h h4 h9 ht;simp only[n4,n5,n6,Ad,A4,hN,A6]
def kS{w:AA}(sm:SmR w):QV (tR w,())=I ((tR w,()),()):=by
 obtain⟨ti,ks,ls,ra,se,go⟩:=w;have k1:=sm.kl;have k2:=sm.l;have k3:=sm.rl;have k4:=sm.sl;have k5:=sm.gl;unfold QV;simp only at k1 k2 k3 k4 k5;simp only[El,CL,DR];rw[A5<|BE J,A5<|BE J,A5<|BE J,A5<|BE J];have h:fA (tR ⟨ti,ks,ls,ra,se,go⟩,tR zR,tR ⟨ti,ks.take 0,ls,ra,se,go⟩,((0:Nat):Int),())=I (.inr (tR zR,tR ⟨ti,ks,ls,ra,se,go⟩,())):=by
  refine CE (λi=>(tR ⟨ti,ks,ls,ra,se,go⟩,tR zR,tR ⟨ti,ks.take i,ls,ra,se,go⟩,(i:Int),())) ks.length ?_ ?_
  .intro i hi;unfold iE;have hc:=ND<|Nc sm.k i;simp only[Ir hi,A2,AR hi,Ox,hc,A6];rw[A5<|BE aJL,Dh hi k1];have:ks.take i++[kA ks i]=ks.take (i+1):=by rw[JC,Ar hi,kA,BA,Ar hi];rfl
   rw[← this]
  .unfold iE;simp only[HL,A4,E6]
 have h':fA (tR ⟨ti,ks,ls,ra,se,go⟩,tR zR,tR ⟨ti,[],ls,ra,se,go⟩,0,())=I (.inr (tR zR,tR ⟨ti,ks,ls,ra,se,go⟩,())):=h;simp only[h'];rfl
def aqc{w:AA}(h:B4 w){e:Event}(ht:e.tx.size<=1048576):
  Xk (tR w,tE e,())=I ((tR<|tick (doM w e).1 Y,(doM w e).2,()),()):=by
 have hti:=cQ w e;unfold Xk;refine aaz (w:=w) h (e:=e) ht (λc=> ?_) (λc c2=> ?_) (λk b c=> ?_) (λra c=> ?_) (λc=> ?_)
 .rw[c,tick,A5 rfl,hti]<;>rfl
 .rw[c,c2];rfl
 .rw[c];rfl
 .rw[c];rfl
 .rw[c];rfl
def as9{w:AA}(h:B4 w)(hlt:¬99999<=w.ti)(hrv:Aq w=Y){e:Event}(ht:e.tx.size<=1048576):
  OW (tR w,tE e,())=I ((tR (if(doM w e).2 then(CX w e,Y) else(w,A0)).1,(if(doM w e).2 then(CX w e,Y) else(w,A0)).2,()),()):=by
 have hcw:=kS h.sm;have hd:=aqc h ht;have hc2:=kS (aIz (rQ h e) Y).sm;unfold OW;rw[show QX ((tR w,tE e,()).1,())=_ from kV h.sm];simp only[A6,show GR w.ti w.A8 w.An w.AQ w.AN w.got=Y from hrv,AB,A4,BG hlt,hcw];rw[show Xk (tR w,(tE e,()))=_ from hd];unfold CX;obtain c|c:=tf (doM w e).2
 .simp only[A6,c,AB,A4,hc2,A2]
 .simp only[A6,c,AH,A2,A4]
def ams{w:AA}(sm:SmR w){e:Event}(ht:e.tx.size<=1048576):OW (tR w,tE e,())=I ((tR (Ei w e).1,(Ei w e).2,()),()):=by
 unfold Ei;obtain c|c:=tf (Aq w)
 .have hw:=Cw c;rw[A5 c];by_cases hlt:99999<=w.ti
  .unfold OW;rw[show QX (tR w,())=_ from kV sm];simp only[A6,show GR w.ti w.A8 w.An w.AQ w.AN w.got=Y from c,AB,A4,AW hlt,A2,kS sm]
  .rw[A9<|nd hlt];exact as9 hw.1 hlt c ht
 .rw[A9 (by rw[c];exact CY)];unfold OW;rw[show QX (tR w,())=_ from kV sm];simp only[A6,show GR w.ti w.A8 w.An w.AQ w.AN w.got=A0 from c,AH,A2]
def ar7{l:List AG}{i:Nat}(hi:i<l.length)(hl:(hA l i).got.length<=1048576):uI (l,l,(i:Int),0,())=I (.inr (l,l,(i:Int),())):=
 CE (b:=WX) (λk=>(l,l,(i:Int),(k:Int),())) (hA l i).got.length (λk hk=>by
  unfold WX;simp only[AR hi,Me,AR hk,A2,AX,Dn,AB,A4,B1 hk (by omega:(hA l i).got.length<=9223372036854775807)];rw[A5<|by simpa using hk]) (by
  unfold WX;simp only[AR hi,Me,A2];rw[A9 aJO])
def aow{l:List AG}(hl:l.length<=1048576)(hs:∀h∈l,PT h):QT (l,l,())=I ((Y,()),()):=by
 have h0:uJ (l,l,0,())=I (.inr ()):=
  CE (b:=WZ) (λk=>(l,l,(k:Int),())) l.length (λk hk=>by
   have hg:(hA l k).got.length<=1048576:=by rw[IN hk];exact(hs _<|CS hk).1
   unfold WZ;simp only[AR hk,Me,B6 hk,A2,AX,AB,A4,ar7 hk hg,C9,B1 hk (by omega:l.length<=9223372036854775807)]) (by
   unfold WZ;rw[A9 aJO])
 unfold QT;simp only[AX,AB,A4,h0,C9]
def aov{k:A7}(sm:FZ k):gn (tKp k,tKp k,())=I ((Y,()),()):=by
 unfold gn;simp only[AX,A2,aow sm.2.1 sm.2.2];rfl
def Xl{l:List A3}(hl:l.length<=1048576):GN (l,l,())=I ((Y,()),()):=by
 have h0:uX (l,l,0,())=I (.inr ()):=
  CE (b:=X8) (λk=>(l,l,(k:Int),())) l.length (λk hk=>by
   unfold X8;simp only[AR hk,B6 hk,A2,Mz,AX,Dn,AB,A4,B1 hk (by omega:l.length<=9223372036854775807)]) (by
   unfold X8;rw[A9 aJO])
 unfold GN;simp only[AX,AB,A4,h0,C9]
def TO{w:AA}(sm:SmR w):M5 (tR w,tR w,())=I ((Y,()),()):=by
 obtain⟨ti,ks,ls,ra,se,go⟩:=w;have k1:ks.length<=1048576:=sm.kl;have k2:ls.length<=1048576:=sm.l;have k3:ra.length<=1048576:=sm.rl;have h0:uV (tR ⟨ti,ks,ls,ra,se,go⟩,tR ⟨ti,ks,ls,ra,se,go⟩,0,())=I (.inr (tR ⟨ti,ks,ls,ra,se,go⟩,tR ⟨ti,ks,ls,ra,se,go⟩,())):=
  CE (b:=X7) (λk=>(tR ⟨ti,ks,ls,ra,se,go⟩,tR ⟨ti,ks,ls,ra,se,go⟩,(k:Int),())) ks.length (λk hk=>by
   unfold X7;have hc:=aov<|Nc sm.k k;simp only[AR hk,B6 hk,A2,Ox,hc,A6,AB,A4,B1 hk (by omega:ks.length<=9223372036854775807)]) (by
   unfold X7;simp only[HL,A4])
 have h1:uU (tR ⟨ti,ks,ls,ra,se,go⟩,tR ⟨ti,ks,ls,ra,se,go⟩,0,())=I (.inr (tR ⟨ti,ks,ls,ra,se,go⟩,tR ⟨ti,ks,ls,ra,se,go⟩,())):=
  CE (b:=X6) (λk=>(tR ⟨ti,ks,ls,ra,se,go⟩,tR ⟨ti,ks,ls,ra,se,go⟩,(k:Int),())) ls.length (λk hk=>by
   unfold X6;simp only[AR hk,B6 hk,A2,AX,AB,A4,B1 hk (by omega:ls.length<=9223372036854775807)]) (by
   unfold X6;simp only[HL,A4])
 have h2:uT (tR ⟨ti,ks,ls,ra,se,go⟩,tR ⟨ti,ks,ls,ra,se,go⟩,0,())=I (.inr ()):=
  CE (b:=X5) (λk=>(tR ⟨ti,ks,ls,ra,se,go⟩,tR ⟨ti,ks,ls,ra,se,go⟩,(k:Int),())) ra.length (λk hk=>by
   unfold X5;simp only[AR hk,B6 hk,A2,AX,Dn,AB,A4,B1 hk (by omega:ra.length<=9223372036854775807)]) (by
   unfold X5;simp only[HL,A4])
 unfold M5;rw[show GN ((tR ⟨ti,ks,ls,ra,se,go⟩,tR ⟨ti,ks,ls,ra,se,go⟩,()).1.2.2.2.2.2.1,(tR ⟨ti,ks,ls,ra,se,go⟩,tR ⟨ti,ks,ls,ra,se,go⟩,()).2.1.2.2.2.2.2)=_ from Xl sm.gl];simp only[AX,AB,A4,Xl sm.sl,A6,h0,h1,h2,C9]
def Tf(w:AA)(e:Event):(Aq w=A0/\Ei w e=(zR,A0))\/(Aq w=Y/\Ei w e=(w,A0))\/(Aq w=Y/\w.ti<99999/\(doM w e).2=Y/\Ei w e=(CX w e,Y)):=by
 unfold Ei;obtain c|c:=tf (Aq w)
 .rw[c,A5 rfl];by_cases h:99999<=w.ti
  .rw[A5<|AW h];exact .inr (.inl ⟨rfl,rfl⟩)
  .rw[A9<|nd h];obtain d|d:=tf (doM w e).2
   .rw[A5 d];exact .inr (.inr ⟨rfl,J,d,rfl⟩)
   .rw[A9 (by rw[d];exact CY)];exact .inr (.inl ⟨rfl,rfl⟩)
 .rw[c,A4];exact .inl ⟨rfl,rfl⟩
def V5{w:AA}{e:Event}(h:(doM w e).2=Y):CX w e=⟨w64<|w.ti+1,(doM w e).1.A8,(doM w e).1.An,(doM w e).1.AQ,(doM w e).1.AN,(doM w e).1.got⟩:=by
 unfold CX tick;rw[h,A5 rfl,cQ]
def qw{w:AA}{e:Event}(h:(doM w e).2=Y):(CX w e).ti=w64 (w.ti+1):=by rw[V5 h]
def aHz{w:AA}{e:Event}(h:Aq w=Y)(ht:w.ti<99999)(hd:(doM w e).2=Y):Aq (CX w e)=Y:=by
 obtain⟨h1,h2,h3⟩:=Cw h;have e1:w64 (w.ti+1)=w.ti+1:=AZ J J;exact qi (qx h1 e) (by rw[qw hd,e1];omega) (by rw[qw hd,e1];omega)
def Tot.val{α:Type}{o:Option α}{a:α}(h:Tot o (λx=>x=a)):o=I a:=by
 obtain⟨b,h1,h2⟩:=h;rw[h1,h2]
def aH4:Cb [101,97,116]:=by unfold Cb;decide
def atQ{k:AE}{m:Mark}{r:A1}(ht:HM r=I m):Bb k CO r=if EM k.inbox m then I ⟨k.id,k.ti,k.nx,k.held,k.marks,Ef k.inbox (AY k.inbox m.mf m.mn).toNat⟩ else G:=by
 unfold Bb F1;cases h:EM k.inbox m<;>simp[lV,lX,mC,lW,lZ,ko,mD,lY,ht,h]
def aJj{l:List A3}(h:DV l=Y){i:Nat}(hi:i<l.length):nA l i ∉ Ef l i:=by
 have irr:∀a b:Int,bef a b a b=A0:=λa b=>by unfold bef;simp
 have at_:∀j (hj:j<l.length),l[j]=nA l j:=λj hj=>by rw[nA,BA,Ar hj];rfl
 have dif:∀j,j<l.length->j≠i->nA l j≠nA l i:=λj hj hne e=>by
  obtain h1|h1:=Uh hne
  .have:=TU h i j h1 hi;rw[e,irr]at this;cases this
  .have:=TU h j i h1 hj;rw[e,irr]at this;cases this
 intro hm;unfold Ef at hm;obtain hm|hm:=BL.1 hm
 .obtain⟨j,hj,e⟩:=Cv hm;rw[DS]at hj;rw[List.getElem_take,at_ j J]at e;exact dif j J J e
 .obtain⟨j,hj,e⟩:=Cv hm;rw[EQ]at hj;rw[List.getElem_drop,at_ (i+1+j) J]at e;exact dif _ J J e
structure LtF (d t:AE):Prop where
 id:t.id=d.id
 ti:t.ti=d.ti
 nx:t.nx=d.nx
 box:t.inbox=d.inbox
 held:∀n∈t.held,n∈d.held
 mrk:∀m∈d.marks,m∈t.marks
def LtF.rfl(d:AE):LtF d d:=⟨HC _,HC _,HC _,HC _,λ_ h=>h,λ_ h=>h⟩
def LtF.trans{a b c:AE}(h:LtF a b)(g:LtF b c):LtF a c:=⟨g.id.trans h.id,g.ti.trans h.ti,g.nx.trans h.nx,g.box.trans h.box,λn hn=>h.held n<|g.held n hn,λm hm=>g.mrk m<|h.mrk m hm⟩
def cW(r:A1):Prop:=∃a b c:Int,(0<=a/\a<=999)/\(0<=b/\b<=999)/\(0<=c/\c<=999)/\r=Ca C0 a b c
def bh{k o:AE}{a b c:Int}(hk:Av k=Y)(ha:0<=a/\a<=999)(hb:0<=b/\b<=999)(hc:0<=c/\c<=999)(h:BK k (Ca C0 a b c)=I o):
  EM k.held ⟨a,b,c⟩=Y/\o=⟨k.id,k.ti,k.nx,Ef k.held (AY k.held a b).toNat,EL k.marks ⟨a,b,c⟩,k.inbox⟩:=by
 rw[aGX hk ha hb hc]at h;have h:=(Jk.1 h).1;split at h
 .rename_i h1;exact⟨h1,(Ck h).symm⟩
 .cases h
def ayP{k o:AE}{r:A1}(hk:Av k=Y)(hr:cW r)(h:BK k r=I o):LtF k o:=by
 obtain⟨a,b,c,ha,hb,hc,rfl⟩:=hr;obtain⟨_,rfl⟩:=bh hk ha hb hc h;exact⟨rfl,rfl,rfl,rfl,λn hn=>Oz hn,λm hm=>Is _<|.inr hm⟩
def ast{k o:AE}{r:A1}(hk:Av k=Y)(h:BK k r=I o):Av o=Y:=((IC hk).1 h).2
def bg:∀ {ts:List A1} {d t:AE},Av d=Y->(∀r∈ts,cW r)->Ez d ts=I t->LtF d t
 | [],d,t,_,_,h=>by
  cases h;exact LtF.rfl _
 | r::ts,d,t,hk,hl,h=>by
  have h:(BK d r).bind (λk=>Ez k ts)=I t:=h;obtain⟨m,h1,h2⟩:=Aj.1 h;exact(ayP hk (hl r<|.head _) h1).trans<|bg (ast hk h1) (λx hx=>hl x<|.tail _ hx) h2
def LO(k:A7):Prop:=∃rs ts,CD k.log k.fo rs ts/\ ∀r∈ts,cW r
def cI{k:A7}{rs ts:List A1}(l:CD k.log k.fo rs ts):stD k=(Cg k.id rs).getD zK:=by unfold stD;rw[l.abS]
def LO.two{k:A7}(h:Ag k=Y){rs ts:List A1}(l:CD k.log k.fo rs ts):Cg k.id rs=I (stD k)/\Av (stD k)=Y/\Ez (stD k) ts=I (stT k):=by
 have hs:=(Dq h).st;rw[l.state,YV]at hs;obtain⟨d,h1,h2⟩:=Aj.1 hs;have e:stD k=d:=by rw[cI l,h1];rfl
 rw[e];exact⟨h1,Qr h1,h2⟩
def LO.lf{k:A7}(h:Ag k=Y)(hl:LO k):LtF (stD k) (stT k):=by
 obtain⟨rs,ts,l,g⟩:=hl;obtain⟨_,h2,h3⟩:=LO.two h l;exact bg h2 g h3
def awK{ts:List A1}(h:(cat ts).length=0):ts=[]:=by
 cases ts with
 | nil=>rfl
 | cons r ts=>
  rw[ID,Ax,Az]at h;have:=Ys r;omega
def awp{k:A7}(h:Ag k=Y)(hf:k.fo=(k.log.size:Int)):∃rs,CD k.log k.fo rs []:=by
 obtain⟨rs,ts,l,_⟩:=(Bs h).lg;have h1:=l.fo;have h2:=l.size_eq;have:ts=[]:=awK J;subst this;exact⟨rs,l⟩
def UI{k:A7}(h:Ag k=Y)(hf:k.fo=(k.log.size:Int)):LO k/\stD k=stT k:=by
 obtain⟨rs,l⟩:=awp h hf;refine⟨⟨rs,[],l,λr hr=>by cases hr⟩, ?_⟩;have:=(LO.two h l).2.2;exact Ck this
def aaQ{k:A7}(h:Ag k=Y)(hl:LO k){r:A1}(hr:cW r)(h2:(wrR k r A0).2=Y):
  LO (wrR k r A0).1/\Ag (wrR k r A0).1=Y/\BK (stT k) r=I (stT (wrR k r A0).1)/\(stD (wrR k r A0).1=stD k\/stD (wrR k r A0).1=stT k):=by
 have hk:=Bs h;obtain⟨o,ho⟩:=q7 hk h2;have hi:=PO hk ho;have e:(wrR k r A0).1=wrM k r:=by unfold wrR;rw[ho];rfl
 rw[e,hi.stT];refine⟨?_,hi.ok,ho, ?_⟩
 all_goals
  obtain⟨rs,ts,l,g⟩:=hl;have hz:=qF hk.kok ho
 .by_cases hc:k.log.size+(D7 r).size<=2400
  .refine⟨rs,ts++[r], ?_,λx hx=> ?_⟩
   .show CD (DA (stT k) k.log k.fo r).1 (DA (stT k) k.log k.fo r).2 _ _;unfold DA;rw[A5 hc];exact l.add hz.1 hz.2 hc
   .rcases BL.1 hx with hx|hx
    .exact g x hx
    .rw[C8.1 hx];exact hr
  .refine⟨CH<|stT k,[]++[r], ?_,λx hx=> ?_⟩
   .show CD (DA (stT k) k.log k.fo r).1 (DA (stT k) k.log k.fo r).2 _ _;unfold DA;rw[A9 hc];refine(R9 hk.kok).add hz.1 hz.2 ?_;have h1:=R4 hk.kok;have h2:=NN hz.2;omega
   .rw[El]at hx;rw[C8.1 hx];exact hr
 .by_cases hc:k.log.size+(D7 r).size<=2400
  .left;have l2:CD (wrM k r).log (wrM k r).fo rs (ts++[r]):=by
    show CD (DA (stT k) k.log k.fo r).1 (DA (stT k) k.log k.fo r).2 _ _;unfold DA;rw[A5 hc];exact l.add hz.1 hz.2 hc
   rw[cI l2,cI l];rfl
  .right;have l2:CD (wrM k r).log (wrM k r).fo (CH<|stT k) ([]++[r]):=by
    show CD (DA (stT k) k.log k.fo r).1 (DA (stT k) k.log k.fo r).2 _ _;unfold DA;rw[A9 hc];refine(R9 hk.kok).add hz.1 hz.2 ?_;have h1:=R4 hk.kok;have h2:=NN hz.2;omega
   have l3:CD (pkM k).log (pkM k).fo (CH<|stT k) []:=R9 hk.kok;have p:=rM hk;have:=(LO.two p.ok l3);rw[cI l2];have e1:Cg k.id (CH<|stT k)=I (stT k):=by
    have t:=this.2.2;have t1:stD (pkM k)=stT (pkM k):=Ck t;have t0:=this.1;rw[t1,p.stT]at t0;exact t0
   show(Cg k.id<|CH<|stT k).getD zK=_;rw[e1];rfl
def awV{k:A7}(h:Ag k=Y){r:A1}(h2:(wrR k r Y).2=Y):
  Ag (wrR k r Y).1=Y/\LO (wrR k r Y).1/\stD (wrR k r Y).1=stT (wrR k r Y).1/\BK (stT k) r=I (stT (wrR k r Y).1):=by
 have hk:=Bs h;obtain⟨o,ho⟩:=q7 hk h2;have hs:=(q8 hk ho).1;have:=UI hs.is.ok hs.fo;refine⟨hs.is.ok,this.1,this.2, ?_⟩;rw[hs.is.stT];exact ho
def UJ{k:A7}(h:Ag k=Y):Ag (foM k)=Y/\LO (foM k)/\stD (foM k)=stT k/\stT (foM k)=stT k:=by
 have hk:=RS<|Bs h;have:=UI (k:=foM k) hk.ok rfl;exact⟨hk.ok,this.1,this.2.trans hk.stT,hk.stT⟩
def axT{k:A7}(h:Ag k=Y):Ag (pkM k)=Y/\LO (pkM k)/\stD (pkM k)=stT k/\stT (pkM k)=stT k:=by
 have hk:=rM<|Bs h;have:=UI (k:=pkM k) hk.ok rfl;exact⟨hk.ok,this.1,this.2.trans hk.stT,hk.stT⟩
def axq{k:A7}(h:Ag k=Y)(hl:LO k)(keep:Int):
  Ag (faM k keep)=Y/\LO (faM k keep)/\stD (faM k keep)=stT (faM k keep)/\LtF (stD k) (stT<|faM k keep)/\LtF (stT<|faM k keep) (stT k):=by
 have ok:=rK h keep;obtain⟨rs,ts,l,g⟩:=hl;have hfo:=l.fo;obtain⟨us,vs,e,l2⟩:=l.UZ (k.fo+max 0 (min keep<|(k.log.size:Int) - k.fo)).toNat J;have lf:(faM k keep).fo=((faM k keep).log.size:Int):=by
  have a:(faM k keep).fo=_:=l2.fo;have b:(faM k keep).log.size=_:=l2.size_eq;rw[a,b];simp[KE]
 have hf:=UI ok lf;obtain⟨d0,d1,d2⟩:=LO.two h l;have l2:CD (faM k keep).log (faM k keep).fo (rs++us) []:=l2;obtain⟨f0,f1,f2⟩:=LO.two ok l2;rw[hf.2]at f0 f1;have f0:Cg k.id (rs++us)=I (stT<|faM k keep):=f0;rw[YV,d0]at f0;rw[e,NG,show Ez (stD k) us=_ from f0]at d2;subst e;exact⟨ok,hf.1,hf.2,bg d1 (λr hr=>g r<|Bw _ hr) f0,bg f1 (λr hr=>g r<|CR _ hr) d2⟩
inductive Act|non|own (n:A3)|take (n:A3)|eat (n:A3)|lets (m:Mark)
def Act.new(a:Act)(n:A3):Prop:=a= .own n\/a= .take n
structure KF (k o:AE) (a:Act):Prop where
 id:o.id=k.id
 ti:k.ti<=o.ti
 nx:(o.nx=k.nx/\ ∀n,a≠ .own n)\/ ∃n,a= .own n/\n.nu=k.nx/\n.fr=k.id/\o.nx=k.nx+1
 hold:∀n∈k.held,n∈o.held\/n.un<=o.ti\/a= .lets ⟨n.fr,n.nu,n.un⟩
 held:∀n∈o.held,n∈k.held\/a.new n
 box:∀n∈k.inbox,n∈o.inbox\/a= .eat n
 OE:∀n∈o.inbox,(n∈k.inbox/\a≠ .eat n)\/(a.new n/\n.to=k.id)
 mrk:∀m∈o.marks,m∈k.marks\/a= .lets m\/ ∃n,a.new n/\n.to=k.id/\m=⟨n.fr,n.nu,n.un⟩
 mks:∀m∈k.marks,m∈o.marks\/m.mu<=o.ti
 new:∀n,a.new n->k.ti<n.un/\(∀m∈k.marks,¬(m.mf=n.fr/\m.mn=n.nu))/\(if n.to=k.id then n∈o.inbox else n∈o.held)
 eat:∀n,a= .eat n->n∈k.inbox
 lets:∀m,a= .lets m->∃n∈k.held,m=⟨n.fr,n.nu,n.un⟩
def aHm{l:List A3}{i:Nat}{x:A3}(h:x∈l)(hne:x≠nA l i):x∈Ef l i:=by
 obtain⟨j,hj,e⟩:=Cv h;have at_:nA l j=x:=by rw[nA,BA,Ar hj];exact e
 have hji:j≠i:=λc=>hne (by rw[← c];exact at_.symm);unfold Ef;rw[BL];by_cases h1:j<i
 .left;rw[List.mem_take_iff_getElem];exact⟨j,J,e⟩
 .right;rw[List.mem_drop_iff_getElem];exact⟨j - (i+1),J,by rw[← e];congr 1;omega⟩
def awz{l:List Mark}{f n:Int}(h:¬0<=Br l f n):∀m∈l,¬(m.mf=f/\m.mn=n):=λm hm e=>h<|qD hm e.1 e.2
def aap{k o:AE}{n:A3}{a:Act}(ha:a.new n)(hu:∀x,a.new x->x=n)(hnx:(o.nx=k.nx/\ ∀n,a≠ .own n)\/ ∃n,a= .own n/\n.nu=k.nx/\n.fr=k.id/\o.nx=k.nx+1)
  {c:Int}(h:Eh ⟨k.id,k.ti,c,k.held,k.marks,k.inbox⟩ n=I o):KF k o a:=by
 have ne:∀x,a≠ .eat x:=λx e=>by obtain h|h:=ha<;>rw[h]at e<;>cases e
 have nl:∀x,a≠ .lets x:=λx e=>by obtain h|h:=ha<;>rw[h]at e<;>cases e
 unfold Eh at h;split at h
 .cases h
 split at h
 .cases h
 split at h
 .cases h
 split at h
 .cases h
 split at h
 .cases h
 split at h
 .cases h
 rename_i _ h1 _ _ h2 _;have h1:k.ti<n.un:=by simpa using h1
 have h2:=awz (l:=k.marks) (f:=n.fr) (n:=n.nu) (by simpa using h2);split at h
 .rename_i ht;have ht:n.to=k.id:=BV ht;cases h;refine⟨rfl,Cr _,hnx,λ_ h=> .inl h,λ_ h=> .inl h,λx h=> .inl<|Is _<|.inr h,λx h=> ?_,λm h=> ?_,λm h=> .inl<|Is _<|.inr h,λx h=> ?_,λx e=>absurd e<|ne x,λx e=>absurd e<|nl x⟩
  .rcases Gu _ h with rfl|h
   .exact .inr ⟨ha,ht⟩
   .exact .inl ⟨h,ne x⟩
  .rcases Gu _ h with rfl|h
   .exact .inr (.inr ⟨n,ha,ht,rfl⟩)
   .exact .inl h
  .rw[hu x h,A5 ht];exact⟨h1,h2,Is _<|.inl rfl⟩
 .rename_i ht;have ht:¬n.to=k.id:=by simpa using ht
  cases h;refine⟨rfl,Cr _,hnx,λx h=> .inl<|Is _<|.inr h,λx h=> ?_,λ_ h=> .inl h,λ_ h=> .inl ⟨h,ne _⟩,λ_ h=> .inl h,λ_ h=> .inl h,λx h=> ?_,λx e=>absurd e<|ne x,λx e=>absurd e<|nl x⟩
  .rcases Gu _ h with rfl|h
   .exact .inr ha
   .exact .inl h
  .rw[hu x h,A9 ht];exact⟨h1,h2,Is _<|.inl rfl⟩
def auC(n:A3):L (LV n)=[111,119,110]++32::L (wr n):=by unfold LV;simp only[Gb,L_B];rfl
def asd{k:AE}{n:A3}(hn:Ay n=Y):Bb k Dk (wr n)=if n.fr=k.id/\n.nu=k.nx then Eh ⟨k.id,k.ti,k.nx+1,k.held,k.marks,k.inbox⟩ n else(if 0<=AY k.held n.fr n.nu\/0<=AY k.inbox n.fr n.nu then G else G):=by
 unfold Bb;rw[A9 aJT,A5 aJT,Qm hn];unfold GS;by_cases h:n.fr=k.id/\n.nu=k.nx
 .simp[h.1,h.2]
 .rw[A9 h];have:(U (n.fr=k.id)&&U (n.nu=k.nx))=A0:=by
   rw[← Gj,AD,decide_eq_true_eq,decide_eq_true_eq];exact h
  simp[aDA,aDB,aBm,this]
def ayx{k o:AE}{n:A3}(hk:Av k=Y)(hn:Ay n=Y)(h:BK k (LV n)=I o):KF k o (.own n):=by
 have h:=((IC hk).1 h).1;rw[IH aHi<|auC n,show Bb k (B [111,119,110]) (B<|L<|wr n)=Bb k Dk (wr n) by rw[B_L]]at h;rw[asd hn]at h;split at h
 .rename_i hc;have hx:o.nx=k.nx+1:=by
   unfold Eh at h
   (repeat' split at h)<;>first|(cases h;done)|(cases h;rfl)
  exact aap (.inl rfl) (λx h=>by obtain h|h:=h<;>cases h;rfl) (.inr ⟨n,rfl,hc.2,hc.1,hx⟩) h
 .split at h<;>cases h
def aJD{k o:AE}{n:A3}(hk:Av k=Y)(hn:Ay n=Y)(h:BK k (JT n)=I o):KF k o (.take n)/\n.fr≠k.id:=by
 rw[n8 hk hn]at h;have h:=(Jk.1 h).1;split at h
 .cases h
 rename_i hne;have hx:o.nx=k.nx:=by
  unfold Eh at h
  (repeat' split at h)<;>first|(cases h;done)|(cases h;rfl)
 exact⟨aap (.inr rfl) (λx h=>by obtain h|h:=h<;>cases h;rfl) (.inl ⟨hx,λn e=>by cases e⟩) h,hne⟩
def awG{k o:AE}(hk:Av k=Y)(h:BK k (Fu<|k.ti+1)=I o):KF k o .non:=by
 have hf:=Bv hk;have t0:=hf.t0;have t1:=hf.t1;have h:=((IC hk).1 h).1;rw[IH np<|ZC _,nC J J J]at h;cases h;refine⟨rfl,by show k.ti<=k.ti+1;omega,.inl ⟨rfl,λ_ h=>by cases h⟩,λn h=> ?_,λn h=> .inl (FU.1 h).1,λ_ h=> .inl h,λ_ h=> .inl ⟨h,λe=>by cases e⟩,λm h=> .inl (FU.1 h).1,λm h=> ?_,
  λ_ h=>(by obtain h|h:=h<;>cases h),λ_ h=>(by cases h),λ_ h=>(by cases h)⟩
 .by_cases hc:k.ti+1<n.un
  .exact .inl (FU.2 ⟨h,AW hc⟩)
  .exact .inr (.inl (by show n.un<=k.ti+1;omega))
 .by_cases hc:k.ti+1<m.mu
  .exact .inl (FU.2 ⟨h,AW hc⟩)
  .exact .inr (by show m.mu<=k.ti+1;omega)
def aah{k o:AE}{a b c:Int}(hk:Av k=Y)(ha:0<=a/\a<=999)(hb:0<=b/\b<=999)(hc:0<=c/\c<=999)(h:BK k (Ca C0 a b c)=I o):KF k o (.lets ⟨a,b,c⟩):=by
 obtain⟨h1,rfl⟩:=bh hk ha hb hc h;unfold EM at h1;rw[AD,decide_eq_true_eq,decide_eq_true_eq]at h1;obtain⟨i0,i1⟩:=h1;obtain⟨j0,j1,j2,j3⟩:=FK i0;have e:(⟨a,b,c⟩:Mark)=⟨(nA k.held (AY k.held a b).toNat).fr,(nA k.held (AY k.held a b).toNat).nu,(nA k.held (AY k.held a b).toNat).un⟩:=by rw[j2,j3,i1]
 refine⟨rfl,Cr _,.inl ⟨rfl,λ_ h=>by cases h⟩,λn h=> ?_,λn h=> .inl<|Oz h,λ_ h=> .inl h,λ_ h=> .inl ⟨h,λe=>by cases e⟩,λm h=> ?_,λm h=> .inl<|Is _<|.inr h,
  λ_ h=>(by obtain h|h:=h<;>cases h),λ_ h=>(by cases h),λm h=> ?_⟩
 .by_cases hx:n=nA k.held (AY k.held a b).toNat
  .right;right;rw[e,hx]
  .exact .inl (aHm h hx)
 .rcases Gu _ h with rfl|h
  .exact .inr (.inl rfl)
  .exact .inl h
 .cases h;exact⟨_,EX j0,e⟩
def ayb{k o:AE}{n:A3}(hk:Av k=Y)(hn:n=nA k.inbox (AY k.inbox n.fr n.nu).toNat)(h0:0<=AY k.inbox n.fr n.nu)(h:BK k (Ca CO n.fr n.nu n.un)=I o):KF k o (.eat n):=by
 have hf:=Bv hk;obtain⟨hlt,dP,hfr,hnu⟩:=FK h0;have hm:n∈k.inbox:=by rw[hn];exact EX hlt
 obtain⟨⟨a0,a1⟩,⟨b0,b1⟩,⟨c0,c1⟩,_⟩:=TY<|Qi hf.i hm;have h3:=aS (r:=B<|B7 n.fr++32::(B7 n.nu++32::B7 n.un)) (a:=n.fr) (b:=n.nu) (c:=n.un) J J J J J J<|L_B _;have h2:=((IC hk).1 h).1;rw[IH aH4<|Qt CO _ _ _,show Bb k (B [101,97,116]) _=_ from atQ h3]at h2;split at h2
 .cases h2;refine⟨rfl,Cr _,.inl ⟨rfl,λ_ h=>by cases h⟩,λ_ h=> .inl h,λ_ h=> .inl h,λx h=> ?_,λx h=> .inl ⟨Oz h,λe=> ?_⟩,λ_ h=> .inl h,λ_ h=> .inl h,
   λ_ h=>(by obtain h|h:=h<;>cases h),λx e=> ?_,λ_ h=>(by cases h)⟩
  .by_cases hx:x=n
   .exact .inr (by rw[hx])
   .exact .inl (aHm h λe=>hx<|e.trans hn.symm)
  .cases e;rw[hn]at h;exact aJj hf.i hlt (by rw[← hn]at h ⊢; exact h)
  .cases e;exact hm
 .cases h2
structure Mvd (k k':A7) (a:Act):Prop where
 lo:LO k'
 id:(stT k').id=(stT k).id
 ti:(stT k).ti<=(stT k').ti
 nx:((stT k').nx=(stT k).nx/\ ∀n,a≠ .own n)\/ ∃n,a= .own n/\n.nu=(stT k).nx/\n.fr=(stT k).id/\(stT k').nx=(stT k).nx+1
 hold:∀n,n∈(stT k).held->n∈(stD k).held->(n∈(stT k').held/\n∈(stD k').held)\/n.un<=(stT k').ti\/a= .lets ⟨n.fr,n.nu,n.un⟩
 held:∀n∈(stD k').held,n∈(stD k).held\/a.new n
 box:∀n∈(stT k).inbox,n∈(stT k').inbox\/a= .eat n
 OE:∀n∈(stT k').inbox,(n∈(stT k).inbox/\a≠ .eat n)\/(a.new n/\n.to=(stT k).id)
 mrk:∀m∈(stT k').marks,m∈(stT k).marks\/a= .lets m\/ ∃n,a.new n/\n.to=(stT k).id/\m=⟨n.fr,n.nu,n.un⟩
 mks:∀m∈(stD k).marks,m∈(stD k').marks\/m.mu<=(stT k').ti
 new:∀n,a.new n->(stT k).ti<n.un/\(∀m∈(stT k).marks,¬(m.mf=n.fr/\m.mn=n.nu))/\(if n.to=(stT k).id then n∈(stT k').inbox else n∈(stT k').held/\n∈(stD k').held)
 eat:∀n,a= .eat n->n∈(stT k).inbox/\ ∀m∈(stT k).marks,m∈(stD k').marks
 lets:∀m,a= .lets m->∃n∈(stT k).held,m=⟨n.fr,n.nu,n.un⟩
def auj{k k':A7}{a:Act}(h:Ag k=Y)(hl:LO k)(lo:LO k')(e:stD k'=stT k')(f:KF (stT k) (stT k') a)(he:∀n,a= .eat n->∀m∈(stT k).marks,m∈(stT k').marks):Mvd k k' a where
 lo:=lo
 id:=f.id
 ti:=f.ti
 nx:=f.nx
 hold:=λn h1 _=>by
  obtain h|h|h:=f.hold n h1
  .exact .inl ⟨h,by rw[e];exact h⟩
  .exact .inr (.inl h)
  .exact .inr (.inr h)
 held:=λn hn=>by
  rw[e]at hn;obtain h1|h1:=f.held n hn
  .exact .inl ((hl.lf h).held n h1)
  .exact .inr h1
 box:=f.box
 OE:=f.OE
 mrk:=f.mrk
 mks:=λm hm=>by
  rw[e];exact f.mks m ((hl.lf h).mrk m hm)
 new:=λn hn=>by
  obtain⟨a1,a2,a3⟩:=f.new n hn;refine⟨a1,a2, ?_⟩;rw[e];split at a3
  .rename_i hc;rw[A5 hc];exact a3
  .rename_i hc;rw[A9 hc];exact⟨a3,a3⟩
 eat:=λn hn=>⟨f.eat n hn,by rw[e];exact he n hn⟩
 lets:=f.lets
def Qx{k k':A7}(h:Ag k=Y)(hl:LO k)(lo:LO k')(et:stT k'=stT k)(ed:stD k'=stD k\/stD k'=stT k):Mvd k k' .non where
 lo:=lo
 id:=by rw[et]
 ti:=by rw[et];exact Cr _
 nx:= .inl ⟨by rw[et],λ_ e=>by cases e⟩
 hold:=λn h1 h2=> .inl (by rw[et];exact⟨h1,by obtain e|e:=ed<;>rw[e]<;>assumption⟩)
 held:=λn hn=> .inl (by
  obtain e|e:=ed<;>rw[e]at hn
  .exact hn
  .exact(hl.lf h).held n hn)
 box:=λn hn=> .inl (by rw[et];exact hn)
 OE:=λn hn=> .inl ⟨by rw[← et];exact hn,λe=>by cases e⟩
 mrk:=λm hm=> .inl (by rw[← et];exact hm)
 mks:=λm hm=> .inl (by
  obtain e|e:=ed<;>rw[e]
  .exact hm
  .exact(hl.lf h).mrk m hm)
 new:=λn hn=>by obtain e|e:=hn<;>cases e
 eat:=λn e=>by cases e
 lets:=λm e=>by cases e
def PK{k:A7}(h:Ag k=Y)(hl:LO k):Mvd k k .non:=Qx h hl hl rfl (.inl rfl)
def avp{k:A7}(h:Ag k=Y)(hl:LO k)(n:Int):Ag (faM k n)=Y/\Mvd k (faM k n) .non:=by
 obtain⟨a0,a1,a2,a3,a4⟩:=axq h hl n;refine⟨a0,⟨a1,a4.id.symm,by rw[a4.ti];exact Cr _,.inl ⟨a4.nx.symm,λ_ e=>by cases e⟩,λn h1 h2=> .inl ⟨a4.held n h1,by rw[a2];exact a4.held n h1⟩,λn hn=> .inl (by rw[a2]at hn;exact a3.held n hn),λn hn=> .inl (by rw[← a4.box];exact hn),
  λn hn=> .inl ⟨by rw[a4.box];exact hn,λe=>(by cases e)⟩,λm hm=> .inl<|a4.mrk m hm,λm hm=> .inl (by rw[a2];exact a3.mrk m hm),λn hn=>(by obtain e|e:=hn<;>cases e),λn e=>(by cases e),λm e=>(by cases e)⟩⟩
def cD{k:A7}{a:Act}(h:Ag k=Y)(hl:LO k){r:A1}(h2:(wrR k r Y).2=Y)(hf:∀o,BK (stT k) r=I o->KF (stT k) o a)(he:∀n,a= .eat n->∀o,BK (stT k) r=I o->∀m∈(stT k).marks,m∈o.marks):
  Ag (wrR k r Y).1=Y/\Mvd k (wrR k r Y).1 a:=by
 obtain⟨a0,a1,a2,a3⟩:=awV h h2;exact⟨a0,auj h hl a1 a2 (hf _ a3) λn e=>he n e _ a3⟩
def awt{k:A7}{a:Act}(h:Ag k=Y)(hl:LO k){r:A1}(hf:∀o,BK (stT k) r=I o->KF (stT k) o a)(he:∀n,a= .eat n->∀o,BK (stT k) r=I o->∀m∈(stT k).marks,m∈o.marks):
  ((wrR k r Y).2=Y/\Ag (wrR k r Y).1=Y/\Mvd k (wrR k r Y).1 a)\/((wrR k r Y).2=A0/\(wrR k r Y).1=k):=by
 obtain e|e:=tf (wrR k r Y).2
 .exact .inl ⟨e,cD h hl e hf he⟩
 .exact .inr ⟨e,RF e⟩
def aug{k:A7}(h:Ag k=Y)(hl:LO k):Mvd k (Fh k).1 .non:=by
 unfold Fh;split
 .rcases awt h hl (r:=Fu<|(stT k).ti+1) (a:= .non) (λo ho=>awG (Bs h).kok ho) (λn e=>by cases e) with⟨_,_,m⟩|⟨_,e⟩
  .exact m
  .rw[e];exact PK h hl
 .exact PK h hl
def awu{k:A7}(h:Ag k=Y)(hl:LO k){tt un:Int}{tx:A1}(h0:(Dx k tt un tx).2≠0):Mvd k (Dx k tt un tx).1 (.own ⟨k.id,(Dx k tt un tx).2,tt,un,tx⟩):=by
 unfold Dx at h0 ⊢;split at h0
 .rename_i hc;rw[AD]at hc;rw[A5 (by rw[AD];exact hc)];simp only at h0 ⊢;split at h0
  .rename_i h2;rw[A5 h2];exact(cD h hl h2 (λo ho=>ayx (Bs h).kok hc.2 ho) λn e=>by cases e).2
  .exact absurd rfl h0
 .exact absurd rfl h0
def auZ{k o:AE}{a b c:Int}(hk:Av k=Y)(h:BK k (Ca CO a b c)=I o):∀m∈k.marks,m∈o.marks:=by
 have h2:=((IC hk).1 h).1;rw[IH aH4<|Qt CO _ _ _]at h2;unfold Bb at h2;rw[A9 aJT,A9 aJT,A5 aJT]at h2;split at h2
 .unfold F1 at h2;rw[show U (B [101,97,116]=C0)=A0 by decide,AP,A4,show U (B [101,97,116]=DB)=A0 by decide,AP,A4]at h2;split at h2
  .cases h2;exact λm hm=>hm
  .cases h2
 .cases h2
def aww{k:A7}(h:Ag k=Y)(hl:LO k){fr nu:Int}(ok:(De k fr nu).2.2=Y):Mvd k (De k fr nu).1 (.eat (De k fr nu).2.1):=by
 have hk:=Bs h;unfold De at ok ⊢;split at ok
 .rename_i hc;rw[A5 hc];simp only[AD,Bz,decide_eq_false_iff_not]at hc;have h0:0<=AY (stT k).inbox fr nu:=by have:=hc.2;omega
  obtain⟨_,_,j2,j3⟩:=FK h0;simp only at ok ⊢;rw[A5 ok];refine(cD h hl ok (λo ho=> ?_) λn _ o ho=>auZ hk.kok ho).2;refine ayb hk.kok ?_ ?_ ?_
  .rw[j2,j3]
  .rw[j2,j3];exact h0
  .rw[j2,j3];exact ho
 .cases ok
def aui{k:A7}(h:Ag k=Y)(hl:LO k):Mvd k (Fj k).1 .non:=by
 unfold Fj;split
 .obtain⟨_,a1,a2,a3⟩:=axT h;exact Qx h hl a1 a3 (.inr a2)
 .exact PK h hl
def atH{k:A7}(h:Ag k=Y)(hl:LO k):Mvd k (Di k).1 .non:=by
 unfold Di;split
 .obtain⟨_,a1,a2,a3⟩:=UJ h;exact Qx h hl a1 a3 (.inr a2)
 .exact PK h hl
def LO.ab{k:A7}(hl:LO k):LO (riM k):=hl
def auh{k:A7}(h:Ag k=Y)(hl:LO k):Mvd k (riM k) .non:=Qx h hl hl.ab rfl (.inl rfl)
def awv{k:A7}(h:Ag k=Y)(hl:LO k){a b c:Int}(ha:0<=a/\a<=999)(hb:0<=b/\b<=999)(hc:0<=c/\c<=999)(h2:(wrR k (Ca C0 a b c) A0).2=Y):
  Mvd k (wrR k (Ca C0 a b c) A0).1 (.lets ⟨a,b,c⟩):=by
 obtain⟨a0,a1,a2,a3⟩:=aaQ h hl ⟨a,b,c,ha,hb,hc,rfl⟩ h2;have f:=aah (Bs h).kok ha hb hc a2;have lf:=hl.lf h;have sub:∀n∈(stD (wrR k (Ca C0 a b c) A0).1).held,n∈(stD k).held:=λn hn=>by
  obtain e|e:=a3<;>rw[e]at hn
  .exact hn
  .exact lf.held n hn
 refine⟨a0,f.id,f.ti,f.nx,λn h1 h2=> ?_,λn hn=> .inl<|sub n hn,f.box,f.OE,f.mrk,λm hm=> .inl ?_,λn hn=>(by obtain e|e:=hn<;>cases e),λn e=>(by cases e),f.lets⟩
 .rcases f.hold n h1 with h|h|h
  .refine .inl ⟨h, ?_⟩;obtain e|e:=a3<;>rw[e]<;>assumption
  .exact .inr (.inl h)
  .exact .inr (.inr h)
 .rcases a3 with e|e<;>rw[e]
  .exact hm
  .exact lf.mrk m hm
def Dif(a b:A3):Prop:=¬(a.fr=b.fr/\a.nu=b.nu)
def dsN(n:A3)(i:Int):Nat:=(n.to - i).natAbs
def onW(n:A3)(i:Int):Prop:=(n.fr<=i/\i<=n.to)\/(n.to<=i/\i<=n.fr)
noncomputable abbrev sT(w:AA)(i:Nat):AE:=stT<|kA w.A8 i
noncomputable abbrev sD(w:AA)(i:Nat):AE:=stD<|kA w.A8 i
def Eu(w:AA)(n:A3):Prop:=n∈w.got\/n∈(sT w n.to.toNat).inbox
def F8(w:AA)(n:A3):Prop:=∃i:Nat,i<4/\onW n i/\n.un<=(sT w i).ti
def JW(w:AA)(n:A3)(i:Nat):Prop:=i<4/\n∈(sT w i).held/\n∈(sD w i).held
def Bey(w:AA)(i:Int)(n:A3):Prop:=Eu w n\/F8 w n\/ ∃j:Nat,JW w n j/\dsN n j<dsN n i
def HvF(w:AA)(f:Frame):Prop:=f.ki=2->∃n∈w.AN,n.fr=f.fr/\n.nu=f.nu/\Bey w f.dst n
def HfG(se:List A3)(h:AG):Prop:=∃n∈se,h.fr=n.fr/\h.nu=n.nu/\h.to=n.to/\h.un=n.un/\h.sz=n.tx.size/\Pw n.tx h.got
structure Inv (w:AA):Prop where
 lo:∀i,i<4->LO (kA w.A8 i)
 hs:∀i,i<4->∀n∈(sD w i).held,n∈w.AN
 bx:∀i,i<4->∀n∈(sT w i).inbox,n∈w.AN/\ ∀g∈w.got,Dif g n
 nx:∀n∈w.AN,n.nu<(sT w n.fr.toNat).nx
 sp:w.AN.Pairwise Dif
 gp:w.got.Pairwise Dif
 gs:∀g∈w.got,g∈w.AN/\(g.un<=(sT w g.to.toNat).ti\/ ∃m∈(sD w g.to.toNat).marks,m.mf=g.fr/\m.mn=g.nu/\m.mu=g.un)
 cu:∀n∈w.AN,Eu w n\/F8 w n\/ ∃j,JW w n j
 mrk:∀i,i<4->∀m∈(sT w i).marks,∃n∈w.AN,m=⟨n.fr,n.nu,n.un⟩/\Bey w i n
 ra:∀p∈w.AQ,PcI (λn=>n∈w.AN) p
 hv:∀p∈w.AQ,∀f,D0 (BD p.data)=(f,Y)->HvF w f
 hf:∀i,i<4->∀h∈(kA w.A8 i).AJ,HfG w.AN h
def Ix{l:List A3}(h:l.Pairwise Dif):∀ {a b:A3},a∈l->b∈l->a.fr=b.fr->a.nu=b.nu->a=b:=by
 intro a b ha hb h1 h2;obtain⟨i,hi,ei⟩:=Cv ha;obtain⟨j,hj,ej⟩:=Cv hb;obtain c|c|c:=IX i j
 .have:=Jj.1 h i j hi hj c;rw[ei,ej]at this;exact absurd ⟨h1,h2⟩ this
 .subst c;rw[← ei,← ej]
 .have:=Jj.1 h j i hj hi c;rw[ei,ej]at this;exact absurd ⟨h1.symm,h2.symm⟩ this
def aJg{l:List A3}{n:A3}(h:l.Pairwise Dif)(hn:∀a∈l,Dif a n):(l++[n]).Pairwise Dif:=by
 rw[Nj];exact⟨h,pG _ _,λa ha b hb=>by rw[C8.1 hb];exact hn a ha⟩
def cE{l:List A3}{x:A3}(h:x∈l):∃i,i<l.length/\nA l i=x:=by
 obtain⟨i,hi,e⟩:=Cv h;exact⟨i,hi,by rw[nA,BA,Ar hi];exact e⟩
def aIW{k:AE}(h:Av k=Y){n:A3}(hn:n∈k.held):k.ti<n.un/\onW n k.id/\n.to≠k.id:=by
 obtain⟨i,hi,e⟩:=cE hn;have:=(Bv h).ho i hi;unfold HO Ec at this;rw[e]at this;simp only[AD,Bp,decide_eq_true_eq,Aa,Bz,decide_eq_false_iff_not]at this;obtain⟨_,h1,⟨h2,h3⟩,_⟩:=this;unfold onW;exact⟨h1,J,λe=>h2 e.symm⟩
def bu{k:AE}(h:Av k=Y){n:A3}(hn:n∈k.inbox):n.to=k.id/\(n.un<=k.ti\/ ∃m∈k.marks,m.mf=n.fr/\m.mn=n.nu):=by
 obtain⟨i,hi,e⟩:=cE hn;have:=(Bv h).io i hi;unfold It at this;rw[e]at this;simp only[AD,Bp,decide_eq_true_eq,Bz,decide_eq_false_iff_not]at this;obtain⟨h1,_,h2⟩:=this;refine⟨h1, ?_⟩;obtain h2|h2:=h2
 .exact .inl J
 .obtain⟨j0,_,j2,j3⟩:=bf h2;refine .inr ⟨mA k.marks (Br k.marks n.fr n.nu).toNat, ?_,j2,j3⟩;rw[mA,BA,Ar j0];exact CS j0
def Gy{w:AA}(ok:B4 w){i:Nat}(hi:i<4):(sT w i).id=(i:Int):=(Bs (ok.k i hi).1).id.trans (ok.k i hi).2
def FL{w:AA}(ok:B4 w){i:Nat}(hi:i<4):Av (sT w i)=Y:=(Bs (ok.k i hi).1).kok
def Qv{n:A3}(h:Ay n=Y):(0<=n.fr/\n.fr<=3)/\(0<=n.to/\n.to<=3):=by
 unfold Ay at h;simp only[AD]at h;exact⟨Aa.1 h.1,Aa.1 h.2.1⟩
def awQ{w w':AA}{i:Nat}{a:Act}{k':A7}(ok:B4 w)(hi:i<4)(m:Mvd (kA w.A8 i) k' a)(ek:w'.A8=w.A8.set i k')
  (eg:∀n,n∈w.got\/a= .eat n->n∈w'.got){n:A3}(nok:Ay n=Y)(lets:a= .lets ⟨n.fr,n.nu,n.un⟩->Bey w i n){d:Nat}
  (h:Eu w n\/F8 w n\/ ∃j:Nat,JW w n j/\dsN n j<d):Eu w' n\/F8 w' n\/ ∃j:Nat,JW w' n j/\dsN n j<d:=by
 have kl:=ok.kl;have kA':∀j,kA w'.A8 j=if j=i then k' else kA w.A8 j:=λj=>by rw[ek,FM J]
 have up:∀j:Nat,(sT w j).ti<=(sT w' j).ti:=λj=>by
  unfold sT;rw[kA' j];split
  .rename_i e;rw[e];exact m.ti
  .exact Cr _
 have cam:Eu w n->Eu w' n:=λh=>by
  obtain h|h:=h
  .exact .inl (eg n<|.inl h)
  .by_cases e:n.to.toNat=i
   .rw[e]at h;obtain h1|h1:=m.box n h
    .right;unfold sT;rw[kA' n.to.toNat,A5 e];exact h1
    .exact .inl (eg n<|.inr h1)
   .right;unfold sT;rw[kA' n.to.toNat,A9 e];exact h
 have ove:F8 w n->F8 w' n:=fun⟨j,h1,h2,h3⟩=>⟨j,h1,h2,J7 h3<|up j⟩;have oth:∀j:Nat,j≠i->JW w n j->JW w' n j:=λj hj h=>by
  unfold JW sT sD;rw[kA' j,A9 hj];exact h
 obtain h|h|⟨j,h,hd⟩:=h
 .exact .inl (cam h)
 .exact .inr (.inl<|ove h)
 .by_cases e:j=i
  .subst e;obtain⟨_,h1,h2⟩:=h;obtain c|c|c:=m.hold n h1 h2
   .exact .inr (.inr ⟨j,by unfold JW sT sD;rw[kA' j,A5 rfl];exact⟨hi,c⟩,hd⟩)
   .have hw:=(aIW (FL ok hi) h1).2.1;rw[Gy ok hi]at hw;exact .inr (.inl ⟨j,hi,hw,by unfold sT;rw[kA' j,A5 rfl];exact c⟩)
   .rcases lets c with h|h|⟨x,hx,hx2⟩
    .exact .inl (cam h)
    .exact .inr (.inl<|ove h)
    .exact .inr (.inr ⟨x,oth x (λe=>by subst e;omega) hx,J⟩)
  .exact .inr<|.inr ⟨j,oth j e h,hd⟩
def HvF.up{w w':AA}{f:Frame}(hs:∀n∈w.AN,n∈w'.AN)(hb:∀n∈w.AN,∀i,Bey w i n->Bey w' i n)(h:HvF w f):HvF w' f:=λe=>by
 obtain⟨n,h1,h2,h3,h4⟩:=h e;exact⟨n,hs n h1,h2,h3,hb n h1 _ h4⟩
def HfG.up{se se':List A3}{h:AG}(hs:∀n∈se,n∈se')(g:HfG se h):HfG se' h:=by
 obtain⟨n,h1,h2⟩:=g;exact⟨n,hs n h1,h2⟩
def RaN(w w':AA)(p:AL):Prop:=p∈w.AQ\/(PcI (λn=>n∈w'.AN) p/\ ∀f,D0 (BD p.data)=(f,Y)->HvF w' f)
structure OH (w w':AA) (i:Nat) (k':A7) (a:Act):Prop where
 hi:i<4
 m:Mvd (kA w.A8 i) k' a
 ek:w'.A8=w.A8.set i k'
 se:(w'.AN=w.AN/\ ∀n,a≠ .own n)\/ ∃n,a= .own n/\w'.AN=w.AN++[n]/\Ay n=Y
 go:(w'.got=w.got/\ ∀n,a≠ .eat n)\/ ∃n,a= .eat n/\w'.got=w.got++[n]
 tk:∀n,a= .take n->n∈w.AN
 lt:∀m,a= .lets m->∃n∈w.AN,n.fr=m.mf/\n.nu=m.mn/\Bey w i n
 ra:∀p∈w'.AQ,RaN w w' p
 hf:∀h∈k'.AJ,HfG w'.AN h
def OH.bey{w w':AA}{i:Nat}{k':A7}{a:Act}(s:OH w w' i k' a)(v:Inv w)(ok:B4 w){n:A3}(hn:n∈w.AN){d:Nat}
  (h:Eu w n\/F8 w n\/ ∃j:Nat,JW w n j/\dsN n j<d):Eu w' n\/F8 w' n\/ ∃j:Nat,JW w' n j/\dsN n j<d:=by
 refine awQ ok s.hi s.m s.ek (λx hx=> ?_) (ok.s n hn) (λe=> ?_) h
 .rcases s.go with⟨e,h1⟩|⟨y,e1,e2⟩
  .rw[e];obtain hx|hx:=hx
   .exact hx
   .exact absurd hx (h1 x)
  .rw[e2,BL,C8];obtain hx|hx:=hx
   .exact .inl hx
   .rw[e1]at hx;cases hx;exact .inr rfl
 .obtain⟨x,h1,h2,h3,h4⟩:=s.lt _ e;have:=Ix v.sp h1 hn h2 h3;rw[← this];exact h4
def Inv.step{w w':AA}{i:Nat}{k':A7}{a:Act}(v:Inv w)(ok:B4 w)(s:OH w w' i k' a):Inv w':=by
 have kl:=ok.kl;have hi:=s.hi;have m:=s.m;have kA':∀j,kA w'.A8 j=if j=i then k' else kA w.A8 j:=λj=>by rw[s.ek,FM J]
 have eT:sT w' i=stT k':=by unfold sT;rw[kA' i,A5 rfl]
 have eD:sD w' i=stD k':=by unfold sD;rw[kA' i,A5 rfl]
 have oT:∀j,j≠i->sT w' j=sT w j:=λj hj=>by unfold sT;rw[kA' j,A9 hj]
 have oD:∀j,j≠i->sD w' j=sD w j:=λj hj=>by unfold sD;rw[kA' j,A9 hj]
 have id':(stT<|kA w.A8 i).id=(i:Int):=Gy ok hi;have ses:∀n∈w.AN,n∈w'.AN:=λn hn=>by
  obtain⟨e,_⟩|⟨x,_,e,_⟩:=s.se<;>rw[e]
  .exact hn
  .exact Bw _ hn
 have sen:∀n,n∈w'.AN->n∈w.AN\/a= .own n:=λn hn=>by
  obtain⟨e,_⟩|⟨x,e1,e,_⟩:=s.se<;>rw[e]at hn
  .exact .inl hn
  .rcases BL.1 hn with hn|hn
   .exact .inl hn
   .rw[C8.1 hn];exact .inr e1
 have amc:∀n,a= .own n->n∈w'.AN:=λn hn=>by
  obtain⟨_,e⟩|⟨x,e1,e,_⟩:=s.se
  .exact absurd hn (e n)
  .rw[e1]at hn;cases hn;rw[e];exact CR _<|Ml _
 have af:∀n,a.new n->n∈w'.AN:=λn hn=>by
  obtain hn|hn:=hn
  .exact amc n hn
  .exact ses n<|s.tk n hn
 have gos:∀n∈w.got,n∈w'.got:=λn hn=>by
  obtain⟨e,_⟩|⟨x,_,e⟩:=s.go<;>rw[e]
  .exact hn
  .exact Bw _ hn
 have aEw:∀n,a= .own n->n.fr=(i:Int)/\n.nu=(sT w i).nx/\(stT k').nx=(sT w i).nx+1:=λn hn=>by
  obtain⟨_,h⟩|⟨x,h1,h2,h3,h4⟩:=m.nx
  .exact absurd hn (h n)
  .rw[h1]at hn;cases hn;exact⟨h3.trans id',h2,h4⟩
 have nxu:∀j,(sT w j).nx<=(sT w' j).nx:=λj=>by
  by_cases e:j=i
  .subst e;rw[eT];obtain⟨h,_⟩|⟨_,_,_,_,h⟩:=m.nx<;>unfold sT<;>omega
  .rw[oT j e];exact Cr _
 have tiu:∀j,(sT w j).ti<=(sT w' j).ti:=λj=>by
  by_cases e:j=i
  .subst e;rw[eT];exact m.ti
  .rw[oT j e];exact Cr _
 have b0:∀n∈w.AN,∀j,Bey w j n->Bey w' j n:=λn hn j h=>s.bey v ok hn h;have ame:∀n,a= .own n->∀x∈w.AN,Dif x n:=λn hn x hx c=>by
  obtain⟨h1,h2,_⟩:=aEw n hn;have:=v.nx x hx;rw[c.1,h1,BX]at this;have:=c.2;omega
 have sp':w'.AN.Pairwise Dif:=by
  obtain⟨e,_⟩|⟨x,e1,e,_⟩:=s.se<;>rw[e]
  .exact v.sp
  .exact aJg v.sp<|ame x e1
 have amk:∀n,a.new n->n.to=(i:Int)->∀g∈w.got,Dif g n:=λn hn ht g hg c=>by
  obtain⟨g1,g2⟩:=v.gs g hg;have e:g=n:=Ix sp' (ses g g1) (af n hn) c.1 c.2;obtain⟨h1,h2,_⟩:=m.new n hn;subst e;rw[ht,BX]at g2;obtain g2|⟨y,y1,y2,y3,_⟩:=g2
  .unfold sT at g2;omega
  .exact h2 y (((v.lo i hi).lf (ok.k i hi).1).mrk y y1) ⟨y2,y3⟩
 have aEz:∀n,a.new n->Eu w' n\/F8 w' n\/ ∃j:Nat,JW w' n j/\(n.to≠(i:Int)/\j=i):=λn hn=>by
  obtain⟨_,_,h⟩:=m.new n hn;rw[id']at h;split at h
  .rename_i ht;refine .inl<|.inr ?_;rw[ht,BX,eT];exact h
  .rename_i ht;exact .inr<|.inr ⟨i,by unfold JW;rw[eT,eD];exact⟨hi,h⟩,ht,rfl⟩
 have azs:∀n∈w'.AN,Ay n=Y:=λn hn=>by
  obtain⟨e,_⟩|⟨x,_,e,h⟩:=s.se<;>rw[e]at hn
  .exact ok.s n hn
  .rcases BL.1 hn with hn|hn
   .exact ok.s n hn
   .rw[C8.1 hn];exact h
 refine⟨λj hj=> ?_,λj hj n hn=> ?_,λj hj n hn=> ?_,λn hn=> ?_,sp', ?_,λg hg=> ?_,λn hn=> ?_,λj hj y hy=> ?_,λp hp=> ?_,λp hp f hu=> ?_,λj hj h hh=> ?_⟩
 .rw[kA' j];split
  .exact m.lo
  .exact v.lo j hj
 .by_cases e:j=i
  .subst e;rw[eD]at hn;obtain h|h:=m.held n hn
   .exact ses n (v.hs j hj n h)
   .exact af n h
  .rw[oD j e]at hn;exact ses n (v.hs j hj n hn)
 .by_cases e:j=i
  .subst e;rw[eT]at hn;obtain⟨h,ne⟩|⟨h,ht⟩:=m.OE n hn
   .obtain⟨h1,h2⟩:=v.bx j hj n h;refine⟨ses n h1,λg hg=> ?_⟩;obtain⟨e,_⟩|⟨x,e1,e⟩:=s.go<;>rw[e]at hg
    .exact h2 g hg
    .rcases BL.1 hg with hg|hg
     .exact h2 g hg
     .rw[C8.1 hg];intro c;have:=Ix v.sp ((v.bx j hj x (m.eat x e1).1).1) h1 c.1 c.2;rw[this]at e1;exact ne e1
   .rw[id']at ht;refine⟨af n h,λg hg=> ?_⟩;obtain⟨e,_⟩|⟨x,e1,e⟩:=s.go
    .rw[e]at hg;exact amk n h ht g hg
    .rcases h with h|h<;>rw[h]at e1<;>cases e1
  .rw[oT j e]at hn;obtain⟨h1,h2⟩:=v.bx j hj n hn;refine⟨ses n h1,λg hg=> ?_⟩;obtain⟨e,_⟩|⟨x,e1,e2⟩:=s.go
   .rw[e]at hg;exact h2 g hg
   .rw[e2]at hg;obtain hg|hg:=BL.1 hg
    .exact h2 g hg
    .rw[C8.1 hg];intro c;have hx:=(m.eat x e1).1;have:=Ix v.sp ((v.bx i hi x hx).1) h1 c.1 c.2;subst this;have a1:=(bu (FL ok hi) hx).1;have a2:=(bu (FL ok hj) hn).1;rw[Gy ok hi]at a1;rw[Gy ok hj]at a2;omega
 .rcases sen n hn with h|h
  .exact Int.lt_of_lt_of_le (v.nx n h) (nxu _)
  .obtain⟨h1,h2,h3⟩:=aEw n h;rw[h1,BX,eT];omega
 .rcases s.go with⟨e,_⟩|⟨x,e1,e⟩<;>rw[e]
  .exact v.gp
  .exact aJg v.gp (λg hg=>(v.bx i hi x (m.eat x e1).1).2 g hg)
 .have old:g∈w.got->g∈w'.AN/\(g.un<=(sT w' g.to.toNat).ti\/ ∃m∈(sD w' g.to.toNat).marks,m.mf=g.fr/\m.mn=g.nu/\m.mu=g.un):=λhg=>by
   obtain⟨h1,h2⟩:=v.gs g hg;refine⟨ses g h1, ?_⟩;obtain h2|⟨y,y1,y2,y3,y4⟩:=h2
   .exact .inl (J7 h2<|tiu _)
   .by_cases e:g.to.toNat=i
    .rw[e]at y1 ⊢;rw[eT,eD];obtain c|c:=m.mks y y1
     .exact .inr ⟨y,c,y2,y3,y4⟩
     .exact .inl J
    .rw[oD _ e];exact .inr ⟨y,y1,y2,y3,y4⟩
  obtain⟨e,_⟩|⟨x,e1,e⟩:=s.go<;>rw[e]at hg
  .exact old hg
  .rcases BL.1 hg with hg|hg
   .exact old hg
   .rw[C8.1 hg];obtain⟨hx,hm⟩:=m.eat x e1;obtain⟨b1,b2⟩:=bu (FL ok hi) hx;rw[Gy ok hi]at b1;refine⟨ses x (v.bx i hi x hx).1, ?_⟩;rw[b1,BX,eT,eD];obtain b2|⟨y,y1,y2,y3⟩:=b2
    .exact .inl (J7 b2 m.ti)
    .obtain⟨z,z1,z2,_⟩:=v.mrk i hi y y1;have:z=x:=Ix v.sp z1 (v.bx i hi x hx).1 (by rw[← y2,z2]) (by rw[← y3,z2]);exact .inr ⟨y,hm y y1,y2,y3,by rw[z2,this]⟩
 .rcases sen n hn with h|h
  .rcases v.cu n h with c|c|⟨j,c⟩
   .rcases s.bey v ok h (d:=0) (.inl c) with c|c|⟨j,c,_⟩
    .exact .inl c
    .exact .inr (.inl c)
    .exact .inr (.inr ⟨j,c⟩)
   .rcases s.bey v ok h (d:=0) (.inr<|.inl c) with c|c|⟨j,c,_⟩
    .exact .inl c
    .exact .inr (.inl c)
    .exact .inr (.inr ⟨j,c⟩)
   .rcases s.bey v ok h (.inr<|.inr ⟨j,c,Pf _⟩) with c|c|⟨j,c,_⟩
    .exact .inl c
    .exact .inr (.inl c)
    .exact .inr (.inr ⟨j,c⟩)
  .rcases aEz n (.inl h) with c|c|⟨j,c,_⟩
   .exact .inl c
   .exact .inr (.inl c)
   .exact .inr (.inr ⟨j,c⟩)
 .have old:∀j,j<4->y∈(sT w j).marks->∃n∈w'.AN,y=⟨n.fr,n.nu,n.un⟩/\Bey w' j n:=λj hj hy=>by
   obtain⟨n,h1,h2,h3⟩:=v.mrk j hj y hy;exact⟨n,ses n h1,h2,b0 n h1 _ h3⟩
  by_cases e:j=i
  .subst e;rw[eT]at hy;obtain h|h|⟨n,h,ht,rfl⟩:=m.mrk y hy
   .exact old j hj h
   .obtain⟨n,h1,h2,h3,h4⟩:=s.lt y h;obtain⟨x,x1,x2⟩:=m.lets y h;have:x=n:=Ix v.sp (v.hs j hj x<|((v.lo j hj).lf (ok.k j hj).1).held x x1) h1 (by rw[h2,x2]) (by rw[h3,x2]);subst this;exact⟨x,ses x h1,x2,b0 x h1 _ h4⟩
   .refine⟨n,af n h,rfl, ?_⟩;rw[id']at ht;obtain c|c|⟨_,_,c,_⟩:=aEz n h
    .exact .inl c
    .exact .inr (.inl c)
    .exact absurd ht c
  .rw[oT j e]at hy;exact old j hj hy
 .rcases s.ra p hp with h|h
  .exact(v.ra p h).mono ses
  .exact h.1
 .rcases s.ra p hp with h|h
  .exact(v.hv p h f hu).up ses b0
  .exact h.2 f hu
 .rw[kA' j]at hh;split at hh
  .exact s.hf h hh
  .exact(v.hf j hj h hh).up ses
end Go.VS
end
