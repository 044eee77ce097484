/- Part 20. -/
import Derived.Test.YtgjljlpdfceilaaGreatDoorQAS
open BitVec renaming eq_of_toNat_eq->pR,ofInt->FV,toNat_ofInt->Rp
open Bool renaming and_eq_true->AG,and_false->Bc,and_self->Dq,and_true->Lh,eq_iff_iff->Ke,false->A3,false_and->AS,false_ne_true->Ca,false_or->Bn,not_eq_true'->C1,not_eq_true->Gk,not_false->AK,not_true->AF,or_eq_false_iff->Mk,or_eq_true->Br,or_false->Ep,or_self->Gl,or_true->Da,true->U,true_and->AY,true_or->C0
open ByteArray renaming size_extract->aFD
open Decidable renaming decide->A1
open Eq renaming refl->HD,trans->Kb
open Go.Lib renaming itoa->BA
open Int renaming eq_ofNat_of_zero_le->HZ,le_refl->Ct,le_trans->J7,mul_comm->S5,mul_le_mul_of_nonneg_right->p7,mul_nonneg->Ur,not_lt->Rz,tdiv->B5,tdiv_eq_ediv_of_nonneg->Gj,tdiv_nonneg->pI,tmod->BO,tmod_eq_emod_of_nonneg->Lg,tmod_lt_of_pos->Rx,tmod_nonneg->Rq,toNat->AR,toNat_natCast->BZ,toNat_of_nonneg->Nq
open List renaming all_cons->Pb,all_eq_true->Cb,append_assoc->C9,append_nil->CW,drop->Bv,drop_append_of_le_length->Uj,drop_drop->J5,drop_sublist->Rs,drop_zero->J6,eq_nil_of_length_eq_zero->E7,ext_getElem?->pD,filter_append->Rl,filter_cons->KT,filter_nil->bJ,foldl_cons->E6,getD_eq_getElem?_getD->BC,getElem?_append_right->Fo,getElem?_eq_getElem->Au,getElem?_eq_none->Hz,getElem?_map->DK,getElem?_range->H7,getElem?_replicate->bM,getElem?_set->Pa,getElem?_set_self->bN,getElem?_take->H8,getElem_mem->CV,getElem_of_mem->Cy,length_append->B0,length_cons->Bh,length_drop->ES,length_filter_le->J4,length_map->Dh,length_nil->CN,length_set->Gi,length_singleton->Jq,length_take->DU,map_append->Eo,map_congr_left->H9,map_cons->Db,map_id->bR,map_map->IV,map_nil->Jm,mem_append->BN,mem_append_left->By,mem_append_right->CU,mem_cons->Bo,mem_cons_of_mem->An,mem_cons_self->Av,mem_filter->FW,mem_iff_getElem->pK,mem_map->C3,mem_of_getElem?->Cu,mem_of_mem_drop->Jr,mem_of_mem_take->Hb,mem_or_eq_of_mem_set->Rj,mem_range->D6,mem_singleton->CA,mem_singleton_self->Ml,nil_append->En,nodup_append->Jo,pairwise_append->Nj,pairwise_iff_getElem->Jj,pairwise_singleton->pG,range->BB,range_succ->IU,replicate->BV,set->Bw,take->BS,take_add_one->JC,take_append_drop->JA,take_length->E8,take_of_length_le->KY,take_take->bF
open List.Sublist renaming append->pa,refl->Em
open List.cons renaming injEq->Mt
open Nat renaming add_zero->I0,le_refl->Az,le_trans->Ce,lt_or_gt_of_ne->Uh,lt_succ_self->Pf,lt_trichotomy->IX,min_eq_left->S3,not_lt_zero->pH,sub_zero->Js,zero_add->DT,zero_le->D7
open Option renaming bind_eq_some_iff->Am,bind_some->A9,filter_eq_some_iff->Jk,getD_some->D0,isSome_some->D8,map_some->Rv,none->A0,some->I
open Option.some renaming inj->Cn
open Or renaming inl->Ny,inr->Nw
open Prod.mk renaming injEq->CX
set_option linter.all false
noncomputable section
namespace Go.VS
open Go
def GJ:List A4->A4->Option A4
 | [],a=>I a
 | x::r,a=>if x=noB then A0 else GJ r (a++x)
def ZT:∀ {l:List A4} {a c:A4},(∀x∈l,x=noB\/x.size=4)->GJ l a=I c->c.size=a.size+4 * l.length
 | [],a,c,_,h=>by
  injection h with h;rw[h];rfl
 | x::r,a,c,hx,h=>by
  unfold GJ at h;split at h
  .cases h
  .rename_i hne;rw[ZT (λy hy=>hx y<|An x hy) h,C5,Bh];rcases hx x Av with h1|h1
   .exact absurd h1 hne
   .omega
def Nd(pre:List A4)(x:A4)(post:List A4): @rd A4 (dfl .str) (pre++x::post) (pre.length:Int)=x:=by
 rw[PI,BC,Fo<|Az _];simp
abbrev dD(s:Int)(o:Option A4):(A4×Bool×A2) ⊕ (Int×A4×A2):=match o with|none=> .inl (noB,A3,())|some c=> .inr (s,c,())
def avZ(s:Int)(post:List A4):∀(pre:List A4) (a:A4),(pre++post).length<=1048576->(∀x∈post,x.size<=4)->a.size<=4 * pre.length->
  ee (s,a,pre++post,((pre++post).length:Int),(pre.length:Int),())=I (dD s<|GJ post a):=by
 induction post with
 | nil=>
  intro pre a _ _ _;refine BE ?_;unfold Wr;simp only[CW,show A1 ((pre.length:Int)<(pre.length:Int))=A3 from BI J,A7];rfl
 | cons x post ih=>
  intro pre a hl hx ha;have hlen:pre.length<(pre++x::post).length:=by simp
  have hw:=Dk hlen hl;have hx4:=hx x Av;by_cases e:x=noB
  .refine BE ?_;unfold Wr GJ;simp only[show A1 ((pre.length:Int)<((pre++x::post).length:Int))=U from AZ J,A5,AU hlen,Nd];rw[A8<|AZ e,A8 e]
  .refine Ap (x':=(s,a++x,pre++x::post,((pre++x::post).length:Int),((pre++[x]).length:Int),())) ?_ ?_
   .unfold Wr;simp only[show A1 ((pre.length:Int)<((pre++x::post).length:Int))=U from AZ J,A5,AU hlen,Nd];rw[AD (by rw[BI e];exact Ca),A8<|AZ (by simp at hl;omega),hw,@B0 _ pre [x]];rfl
   .have:=ih (pre++[x]) (a++x) (by rw[← snoc];exact hl) (λy hy=>hx y<|An x hy) (by rw[C5,B0,Jq];omega);rw[← snoc]at this;rw[show GJ (x::post) a=GJ post (a++x) from AD e];exact this
def avH(s:Int)(post:List A4):∀(pre:List A4) (a:A4),(pre++post).length<=1048576->(∀x∈post,x.size<=4)->a.size<=4 * pre.length->
  eK (s,pre++post,a,(pre.length:Int),())=I (dD s<|GJ post a):=by
 induction post with
 | nil=>
  intro pre a _ _ _;refine BE ?_;unfold X3;simp only[CW,show A1 ((pre.length:Int)<(pre.length:Int))=A3 from BI J,A7];rfl
 | cons x post ih=>
  intro pre a hl hx ha;have hlen:pre.length<(pre++x::post).length:=by simp
  have hw:=Dk hlen hl;have hx4:=hx x Av;by_cases e:x=noB
  .refine BE ?_;unfold X3 GJ;simp only[show A1 ((pre.length:Int)<((pre++x::post).length:Int))=U from AZ J,A5,AU hlen,Nd];rw[A8<|AZ e,A8 e]
  .refine Ap (x':=(s,pre++x::post,a++x,((pre++[x]).length:Int),())) ?_ ?_
   .unfold X3;simp only[show A1 ((pre.length:Int)<((pre++x::post).length:Int))=U from AZ J,A5,AU hlen,Nd];rw[AD (by rw[BI e];exact Ca),A8<|AZ (by simp at hl;omega),hw,@B0 _ pre [x]];rfl
   .have:=ih (pre++[x]) (a++x) (by rw[← snoc];exact hl) (λy hy=>hx y<|An x hy) (by rw[C5,B0,Jq];omega);rw[← snoc]at this;rw[show GJ (x::post) a=GJ post (a++x) from AD e];exact this
def Ng(c:A4)(s:Nat):Bool:=As (c.size - s) λi=>A1<|bt c ((s+i:Nat):Int)=0
def asw{c:A4}{s:Nat}(h:s<=c.size)(hc:c.size<=1048576):vE ((s:Int),c,(s:Int),())=I (if Ng c s then .inr ((s:Int),c,()) else .inl (noB,A3,())):=by
 refine Cs (λi=>((s:Int),c,((s+i:Nat):Int),())) (c.size - s) _ _ _ ?_ ?_
 .intro i hi;unfold iB;simp only[show A1 (((s+i:Nat):Int)<(c.size:Int))=U from AZ J,A5,AU<|show s+i<c.size by omega];rw[Ac J J];rcases tf (A1<|bt c ((s+i:Nat):Int)=0) with e|e
  .simp only[e,AF,A7,A5];rfl
  .simp only[e,AK,A7,A5]
 .unfold iB;simp only[show A1 (((s+(c.size - s):Nat):Int)<(c.size:Int))=A3 from BI J,A7]
def atV{c:A4}{s:Nat}(h:s<=c.size)(hc:c.size<=1048576):ux ((s:Int),c,(s:Int),())=I (if Ng c s then .inr ((s:Int),c,()) else .inl (noB,A3,())):=by
 refine Cs (λi=>((s:Int),c,((s+i:Nat):Int),())) (c.size - s) _ _ _ ?_ ?_
 .intro i hi;unfold gj;simp only[show A1 (((s+i:Nat):Int)<(c.size:Int))=U from AZ J,A5,AU<|show s+i<c.size by omega];rw[Ac J J];rcases tf (A1<|bt c ((s+i:Nat):Int)=0) with e|e
  .simp only[e,AF,A7,A5];rfl
  .simp only[e,AK,A7,A5]
 .unfold gj;simp only[show A1 (((s+(c.size - s):Nat):Int)<(c.size:Int))=A3 from BI J,A7]
def Zy{b:Nat}(list:List AX):∀(n:Nat) (kn:List A4),Cg b kn->Cg b (H4 b list n kn)
 | 0,_,h=>h
 | n+1,kn,h=>by
  have:=(NP list (kn,A3) h).1;unfold H4;split
  .exact Zy list n _ this
  .exact this
def Cg.all{b:Nat}{kn:List A4}(h:Cg b kn):∀x∈kn,x=noB\/x.size=4:=by
 intro x hx;obtain⟨k,hk,rfl⟩:=pK.1 hx;have:=h.2 k (by rw[← h.1];exact hk);rw[bsA,BC,Au hk]at this;exact this
def qI{b:Int}(hb:inB b 1 6=U)(list:List AX):Cg b.toNat (Hq b list):=by
 unfold Hq;rw[A8 hb];exact Zy list 7 _<|Cg.new _
def Cg.le{b:Nat}{kn:List A4}(h:Cg b kn):∀x∈kn,x.size<=4:=by
 intro x hx;rcases h.all x hx with h1|h1
 .rw[h1];exact D7 _
 .omega
def FQ(s:Int)(list:List AX):A4×Bool:=
 if inB s 1 24 then(match GJ (Hq (B5 (s+3) 4) list) noB with
  | none=>(noB,A3)
  | some c=>if Ng c s.toNat then(c.extract 0 s.toNat,U) else(noB,A3)) else(noB,A3)
def aEQ(s:Int)(hs:0<=s)(c:A4)(hc:s<=c.size)(b:Bool):
  AP (I<|if b then(.inr (s,c,()):(A4×Bool×A2) ⊕ (Int×A4×A2)) else .inl (noB,A3,())) (λy=>I (y,()))
   (λy=>if(A1 (0<=y.1)&&A1 (y.1<=(y.2.1.size:Int))) then I ((y.2.1.extract 0<|AR y.1,U,()),()) else A0)=
   I (((if b then(c.extract 0 s.toNat,U) else(noB,A3)).1,(if b then(c.extract 0 s.toNat,U) else(noB,A3)).2,()),()):=by
 cases b
 .rfl
 .show(if(A1 (0<=s)&&A1 (s<=(c.size:Int))) then _ else _)=_;rw[A8 (by simp;omega)];rfl
def anw(s:Int)(list:List AX)(hl:list.length<=1048576):jB (s,list,())=I (((FQ s list).1,(FQ s list).2,()),()):=by
 unfold jB FQ;simp only[EW,A9];rcases tf (inB s 1 24) with e|e
 .have h1:=Ad.1 e;have hd:B5 (s+3) 4=(s+3) / 4:=Gj J;simp only[e,AF,A7,A5];rw[Ac (n:=s+4) J J,Ac (n:=s+4 - 1) J J,show s+4 - 1=s+3 by omega,Ac J J,anV _ _ hl];simp only[A9];have hb:inB (B5 (s+3) 4) 1 6=U:=Ad.2 J;have hk:=qI hb list;have oS:=avZ s (Hq (B5 (s+3) 4) list) [] noB (by rw[En,hk.1];omega) (Cg.le hk)<|Az _;have sW:ee (s,noB,Hq (B5 (s+3) 4) list,((Hq (B5 (s+3) 4) list).length:Int),0,())=_:=oS;rw[sW];cases hc:GJ (Hq (B5 (s+3) 4) list) noB with
  | none=>rfl
  | some c=>
   have hz:=ZT hk.all hc;have hz0:noB.size=0:=rfl;rw[hk.1,hz0]at hz;have hzero:=asw (c:=c) (s:=s.toNat) J J;rw[show((s.toNat:Nat):Int)=s by omega]at hzero;simp only[AP,A9,dD];rw[hzero];exact aEQ s J c J _
 .simp only[e,AK,A5,A7]
def amt(s:Int)(list:List AX)(hl:list.length<=1048576):ig (s,list,())=I (((FQ s list).1,(FQ s list).2,()),()):=by
 unfold ig FQ;simp only[IB,A9];rcases tf (inB s 1 24) with e|e
 .have h1:=Ad.1 e;have hd:B5 (s+3) 4=(s+3) / 4:=Gj J;simp only[e,AF,A7,A5,iF (n:=s) J J,A9];rw[amu _ _ hl];simp only[A9];have hb:inB (B5 (s+3) 4) 1 6=U:=Ad.2 J;have hk:=qI hb list;have oS:=avH s (Hq (B5 (s+3) 4) list) [] noB (by rw[En,hk.1];omega) (Cg.le hk)<|Az _;have sW:eK (s,Hq (B5 (s+3) 4) list,noB,0,())=_:=oS;rw[sW];cases hc:GJ (Hq (B5 (s+3) 4) list) noB with
  | none=>rfl
  | some c=>
   have hz:=ZT hk.all hc;have hz0:noB.size=0:=rfl;rw[hk.1,hz0]at hz;have hzero:=atV (c:=c) (s:=s.toNat) J J;rw[show((s.toNat:Nat):Int)=s by omega]at hzero;simp only[AP,A9,dD];rw[hzero];exact aEQ s J c J _
 .simp only[e,AK,A5,A7]
abbrev tF(f:Frame):Int×Int×Int×Int×Int×Int×Int×Int×Int×A4×A2:=(f.ki,f.src,f.dst,f.fr,f.nu,f.to,f.un,f.sz,f.mix,f.da,())
def JX(f:Frame):Bool:=
 if A1 (f.ki=1) then inB f.sz 1 24&&(inB f.mix 0 999&&(A1 ((f.da.size:Int)=4)&&A1 (f.dst=BT f.src f.to)))
 else(A1 (f.ki=2)||decide (f.ki=3))&&(A1 (f.sz=0)&&(A1 (f.mix=0)&&(A1 (f.da=noB)&&A1 (f.src=BT f.dst f.to))))
def C4(f:Frame):Bool:=isN f.src&&(isN f.dst&&(isN f.fr&&(isN f.to&&(inB f.nu 1 99&&(inB f.un 1 999&&JX f)))))
def aCD(f:Frame):XJ (tF f,())=I ((C4 f,()),()):=by
 obtain⟨ki,src,dst,fr,nu,t',un,sz,mix,da⟩:=f;unfold XJ C4;simp only[K7,EW,A9];rcases tf (isN src) with e|e<;>simp only[e,AF,AK,A5,A7,AY,AS];rcases tf (isN dst) with e|e<;>simp only[e,AF,AK,A5,A7,AY,AS];rcases tf (isN fr) with e|e<;>simp only[e,AF,AK,A5,A7,AY,AS];rcases tf (isN t') with e|e<;>simp only[e,AF,AK,A5,A7,AY,AS];rcases tf (inB nu 1 99) with e|e<;>simp only[e,AF,AK,A5,A7,AY,AS];rcases tf (inB un 1 999) with e|e<;>simp only[e,AF,AK,A5,A7,AY,AS];unfold JX;simp only[Wq,D8,D0,Fa,A5];rcases tfp (ki=1) with e|e<;>simp only[e,Aa,Ag,A5,A7]
 .rcases tf (inB sz 1 24) with e|e<;>simp only[e,A5,A7,AY,AS];rcases tf (inB mix 0 999) with e|e<;>simp only[e,A5,A7,AY,AS]
 .rcases tfp (ki=2) with e|e<;>simp only[e,Aa,Ag,A5,A7,Bj,C0,Bn,AY]
  .rcases tfp (sz=0) with e|e<;>simp only[e,Aa,Ag,A5,A7,AY,AS];rcases tfp (mix=0) with e|e<;>simp only[e,Aa,Ag,A5,A7,AY,AS]
  .rcases tfp (ki=3) with e|e<;>simp only[e,Aa,Ag,A5,A7,AY,AS];rcases tfp (sz=0) with e|e<;>simp only[e,Aa,Ag,A5,A7,AY,AS];rcases tfp (mix=0) with e|e<;>simp only[e,Aa,Ag,A5,A7,AY,AS]
def azX{ki:Int}(h1:(ki=1)=False):inB ki 1 3=(A1 (ki=2)||decide (ki=3)):=by
 have h1:ki≠1:=of_eq_false h1;rw[Ke,Ad,Br,decide_eq_true_iff,decide_eq_true_iff];omega
def aB1(f:Frame):XR (tF f,())=I ((C4 f,()),()):=by
 obtain⟨ki,src,dst,fr,nu,t',un,sz,mix,da⟩:=f;unfold XR C4;simp only[K9,IB,A9];have hk:inB ki 1 3=(A1 (ki=1)||(A1 (ki=2)||decide (ki=3))):=by
  rcases tfp (ki=1) with e|e
  .have:ki=1:=of_eq_true e;subst this;rfl
  .rw[azX e];simp only[e,Ag,Bn]
 rw[hk];unfold JX;rcases tfp (ki=1) with e0|e0<;>simp only[e0,Aa,Ag,C0,Bn,AF,AK,A5,A7]
 .rcases tf (isN src) with e|e<;>simp only[e,AF,AK,A5,A7,AY,AS];rcases tf (isN dst) with e|e<;>simp only[e,AF,AK,A5,A7,AY,AS];rcases tf (isN fr) with e|e<;>simp only[e,AF,AK,A5,A7,AY,AS];rcases tf (isN t') with e|e<;>simp only[e,AF,AK,A5,A7,AY,AS];rcases tf (inB nu 1 99) with e|e<;>simp only[e,AF,AK,A5,A7,AY,AS];rcases tf (inB un 1 999) with e|e<;>simp only[e,AF,AK,A5,A7,AY,AS];simp only[kD,A9];rw[show A1 (BT src t'=dst)=A1 (dst=BT src t') from decide_eq_decide.2 eq_comm];rcases tf (inB sz 1 24) with e|e<;>rcases tf (inB mix 0 999) with e1|e1<;>rcases tf (A1<|(da.size:Int)=4) with e2|e2<;>rcases tfp (dst=BT src t') with e3|e3<;>simp only[e,e1,e2,e3,Aa,Ag,A5,A7,AY,AS,Dq,Bc]
 .rcases tf (A1 (ki=2)||decide (ki=3)) with e9|e9<;>simp only[e9,AF,AK,A5,A7,AY,AS,Bc];rcases tf (isN src) with e|e<;>simp only[e,AF,AK,A5,A7,AY,AS];rcases tf (isN dst) with e|e<;>simp only[e,AF,AK,A5,A7,AY,AS];rcases tf (isN fr) with e|e<;>simp only[e,AF,AK,A5,A7,AY,AS];rcases tf (isN t') with e|e<;>simp only[e,AF,AK,A5,A7,AY,AS];rcases tf (inB nu 1 99) with e|e<;>simp only[e,AF,AK,A5,A7,AY,AS];rcases tf (inB un 1 999) with e|e<;>simp only[e,AF,AK,A5,A7,AY,AS];simp only[kD,A9];rw[show A1 (BT dst t'=src)=A1 (src=BT dst t') from decide_eq_decide.2 eq_comm];rcases tfp (sz=0) with e|e<;>rcases tfp (mix=0) with e1|e1<;>rcases tfp (da=noB) with e2|e2<;>rcases tfp (src=BT dst t') with e3|e3<;>simp only[e,e1,e2,e3,Aa,Ag,A5,A7,AY,AS,Dq,Bc]
def BOk(l:List Int):Prop:=∀x∈l,0<=x/\x<=255
def BOk.rd{l:List Int}(h:BOk l)(i:Int):0<= @rd Int (dfl .u8) l i/\ @rd Int (dfl .u8) l i<=255:=by
 show 0<=l.getD i.toNat 0/\l.getD i.toNat 0<=255;rw[BC];cases e:l[i.toNat]? with
 | none=>exact⟨by decide,by decide⟩
 | some x=>exact h x<|Cu e
def BOk.str(s:A4):BOk (BF s):=by
 intro x hx;obtain⟨b,_,rfl⟩:=C3.1 hx;have:=b.toNat_lt;omega
def BOk.app{a b:List Int}(ha:BOk a)(hb:BOk b):BOk (a++b):=by
 intro x hx;rcases BN.1 hx with h|h
 .exact ha x h
 .exact hb x h
def ayf(n:Int):0<=w8 n/\w8 n<=255:=by
 rw[Nb];omega
def BOk.nil:BOk []:=λx hx=>by cases hx
def BOk.cons(n:Int){l:List Int}(h:BOk l):BOk (w8 n::l):=by
 intro x hx;rcases Bo.1 hx with h1|h1
 .rw[h1];exact ayf n
 .exact h x h1
def FB:List Int->Nat->Int->Int
 | [],_,n=>n
 | x::r,i,n=>FB r (i+1) (BO (n+x * ((i % 1000:Nat)+1)) 65521)
def pv:∀ {l:List Int} {i:Nat} {n:Int},BOk l->0<=n->n<65521->0<=FB l i n/\FB l i n<65521
 | [],_,_,_,h0,h1=>⟨h0,h1⟩
 | x::r,i,n,hb,h0,h1=>by
  have hx:=hb x Av;have hp:0<=x * ((i % 1000:Nat)+1:Int):=Ur hx.1 J;unfold FB;rw[Lg J];exact pv (λy hy=>hb y<|An x hy) J J
def aJn{x:Int}(i:Nat)(h:0<=x/\x<=255):0<=x * ((i % 1000:Nat)+1:Int)/\x * ((i % 1000:Nat)+1:Int)<=255000:=by
 refine⟨Ur h.1 J, ?_⟩;have h1:x * ((i % 1000:Nat)+1:Int)<=255 * ((i % 1000:Nat)+1:Int):=p7 h.2 J;omega
def abB(pre:List Int)(x:Int)(post:List Int): @rd Int (dfl .u8) (pre++x::post) (pre.length:Int)=x:=by
 rw[PI,BC,Fo<|Az _];simp
def auI(post:List Int):∀(pre:List Int) (n:Int),BOk post->0<=n->n<65521->(pre++post).length<=1048576->
  eG (n,pre++post,((pre++post).length:Int),(pre.length:Int),())=I (.inr (FB post pre.length n,())):=by
 induction post with
 | nil=>
  intro pre n _ _ _ _;refine BE ?_;unfold gD;simp only[CW,show A1 ((pre.length:Int)<(pre.length:Int))=A3 from BI J,A7];rfl
 | cons x post ih=>
  intro pre n hb h0 h1 hl;have hlen:pre.length<(pre++x::post).length:=by simp
  have hw:=Dk hlen hl;have hx:=hb x Av;have hm:=aJn pre.length hx;have ht:BO (pre.length:Int) 1000=((pre.length % 1000:Nat):Int):=rfl;refine Ap (x':=(BO (n+x * ((pre.length % 1000:Nat)+1)) 65521,pre++x::post,((pre++x::post).length:Int),((pre++[x]).length:Int),())) ?_ ?_
  .unfold gD;simp only[show A1 ((pre.length:Int)<((pre++x::post).length:Int))=U from AZ J,A5,AU hlen,abB,ht];rw[Ac (n:=x) J J,Ac (n:=((pre.length % 1000:Nat):Int)+1) J J,Ac (n:=x * _) J J,Ac (n:=n+_) J J,hw,@B0 _ pre [x]];rfl
  .have hr:0<=BO (n+x * ((pre.length % 1000:Nat)+1)) 65521/\BO (n+x * ((pre.length % 1000:Nat)+1)) 65521<65521:=by
    rw[Lg J];omega
   have:=ih (pre++[x]) _ (λy hy=>hb y<|An x hy) hr.1 hr.2 (by rw[← snoc];exact hl);rw[← snoc]at this;rw[FB];rw[show(pre++[x]).length=pre.length+1 by simp]at this ⊢;exact this
def atb(post:List Int):∀(pre:List Int) (n:Int),BOk post->0<=n->n<65521->(pre++post).length<=1048576->
  dt (pre++post,n,(pre.length:Int),())=I (.inr (FB post pre.length n,())):=by
 induction post with
 | nil=>
  intro pre n _ _ _ _;refine BE ?_;unfold gV;simp only[CW,show A1 ((pre.length:Int)<(pre.length:Int))=A3 from BI J,A7];rfl
 | cons x post ih=>
  intro pre n hb h0 h1 hl;have hlen:pre.length<(pre++x::post).length:=by simp
  have hw:=Dk hlen hl;have hx:=hb x Av;have hm:=aJn pre.length hx;have ht:BO (pre.length:Int) 1000=((pre.length % 1000:Nat):Int):=rfl;refine Ap (x':=(pre++x::post,BO (n+x * ((pre.length % 1000:Nat)+1)) 65521,((pre++[x]).length:Int),())) ?_ ?_
  .unfold gV;simp only[show A1 ((pre.length:Int)<((pre++x::post).length:Int))=U from AZ J,A5,AU hlen,abB,ht];rw[Ac (n:=x) J J,Ac (n:=((pre.length % 1000:Nat):Int)+1) J J,S5 _ x,Ac (n:=x * _) J J,Ac (n:=n+_) J J,hw,@B0 _ pre [x]];rfl
  .have hr:0<=BO (n+x * ((pre.length % 1000:Nat)+1)) 65521/\BO (n+x * ((pre.length % 1000:Nat)+1)) 65521<65521:=by
    rw[Lg J];omega
   have:=ih (pre++[x]) _ (λy hy=>hb y<|An x hy) hr.1 hr.2 (by rw[← snoc];exact hl);rw[← snoc]at this;rw[FB];rw[show(pre++[x]).length=pre.length+1 by simp]at this ⊢;exact this
def ak2{l:List Int}(h:BOk l)(hl:l.length<=1048576):Wv (l,())=I ((FB l 0 0,()),()):=by
 unfold Wv;have h1:eG (0,l,(l.length:Int),0,())=I (.inr (FB l 0 0,())):=auI l [] 0 h J J hl;rw[h1];rfl
def aiz{l:List Int}(h:BOk l)(hl:l.length<=1048576):T5 (l,())=I ((FB l 0 0,()),()):=by
 unfold T5;have h1:dt (l,0,0,())=I (.inr (FB l 0 0,())):=atb l [] 0 h J J hl;rw[h1];rfl
abbrev two(n:Int):List Int:=[w8 (w64<|B5 n 256),w8<|BO n 256]
abbrev S9(f:Frame):List Int:=[w8 f.ki,w8 f.src,w8 f.dst,w8 f.fr,w8 f.nu,w8 f.to,w8<|w64<|B5 f.un 256,w8<|BO f.un 256]
def F5(f:Frame):List Int:=if A1 (f.ki=1) then(S9 f++[w8 f.sz,w8<|w64<|B5 f.mix 256,w8<|BO f.mix 256])++BF f.da else S9 f
def Ck(f:Frame):List Int:=if C4 f then F5 f++two (FB (F5 f) 0 0) else []
def lF{l:List Int}(n:Int)(hl:l.length<=1048576):Oc (l,n,())=I ((l++two n,()),()):=by
 unfold Oc;rw[A8<|BG (by simp;omega)]
def aL(f:Frame):BOk (F5 f):=by
 unfold F5;split
 .exact BOk.app (.cons _<|.cons _<|.cons _<|.cons _<|.cons _<|.cons _<|.cons _<|.cons _<|.cons _<|.cons _<|.cons _ .nil) (BOk.str _)
 .exact .cons _<|.cons _<|.cons _<|.cons _<|.cons _<|.cons _<|.cons _<|.cons _ .nil
def rC{f:Frame}(h:C4 f=U)(hk:A1 (f.ki=1)=U):f.da.size=4:=by
 unfold C4 JX at h;simp only[AG]at h;have h:=h.2.2.2.2.2.2;rw[A8 hk]at h;simp only[AG]at h;have:=BX h.2.2.1;omega
def ZB{f:Frame}(h:C4 f=U):(F5 f).length<=15:=by
 unfold F5;split
 .rename_i hk;have:=rC h hk;simp[Tu,B2];omega
 .simp
def zk(f:Frame):QI (tF f,())=I ((Ck f,()),()):=by
 unfold QI Ck;simp only[aCD,A9];rcases tf (C4 f) with e|e
 .simp only[e,AF,A7,A5];have hl:=ZB e;have hj:∀ {X Ω:Type} (g:X->Option Ω) (y:X),BW g (I<|.inr y)=g y:=λ_ _=>rfl;have hs:=ak2 (aL f) J;have key:∀l,l=F5 f->((Wv (l,())).bind λr4=>if Af (l.length+(two r4.1.1).length) then(eS ((l++two r4.1.1),())).bind λr5=>I (r5.1,()) else A0)=I ((F5 f++two (FB (F5 f) 0 0),()),()):=by
   rintro l rfl;simp only[hs,A9];rw[A8<|BG (by simp;omega),aeT (by simp;omega)];rfl
  rcases tf (A1<|f.ki=1) with e1|e1
  .have hd:=rC e e1;have hb:F5 f=(S9 f++[w8 f.sz,w8<|w64<|B5 f.mix 256,w8<|BO f.mix 256])++BF f.da:=by unfold F5;rw[A8 e1]
   rw[A8 e1,A8<|BG<|by simp,A8<|BG (by simp[Tu,B2];omega),hj];exact key _ hb.symm
  .have hb:F5 f=S9 f:=by unfold F5;rw[e1,A7]
   rw[AD (by rw[e1];exact Ca),hj];exact key _ hb.symm
 .simp only[e,AK,A5,A7]
def zO(f:Frame):QO (tF f,())=I ((Ck f,()),()):=by
 unfold QO Ck;simp only[aB1,A9];rcases tf (C4 f) with e|e
 .simp only[e,AF,A7,A5];have hl:=ZB e;have hs:=aiz (aL f) J;have key:∀l,l=F5 f->((T5 (l,())).bind λr6=>(Oc (l,r6.1)).bind λr7=>I (r7.1,()))=I ((F5 f++two (FB (F5 f) 0 0),()),()):=by
   rintro l rfl;simp only[hs,A9];rw[lF _ J];rfl
  rw[A8<|by rfl,lF _<|by simp];simp only[A9];rcases tf (A1<|f.ki=1) with e1|e1
  .have hd:=rC e e1;have hb:F5 f=(S9 f++[w8 f.sz,w8<|w64<|B5 f.mix 256,w8<|BO f.mix 256])++BF f.da:=by unfold F5;rw[A8 e1]
   rw[A8 e1,A8<|by rfl,lF _<|by simp];simp only[A9];rw[A8<|BG J,A8<|BG (by simp[Tu,B2];omega)];exact key _ (by rw[hb];rfl)
  .have hb:F5 f=S9 f:=by unfold F5;rw[e1,A7]
   rw[AD (by rw[e1];exact Ca)];exact key _ (by rw[hb];rfl)
 .simp only[e,AK,A5,A7]
abbrev zF:Frame:=⟨0,0,0,0,0,0,0,0,0,noB⟩
abbrev r8(b:List Int)(i:Int):Int:= @rd Int (dfl .u8) b i
def Fy(b:List Int):Frame:=
 if A1 ((b.length:Int)=17) then⟨r8 b 0,r8 b 1,r8 b 2,r8 b 3,r8 b 4,r8 b 5,256 * r8 b 6+r8 b 7,r8 b 8,256 * r8 b 9+r8 b 10,BK<|Bv 11<|BS 15 b⟩
 else⟨r8 b 0,r8 b 1,r8 b 2,r8 b 3,r8 b 4,r8 b 5,256 * r8 b 6+r8 b 7,0,0,noB⟩
def D2(b:List Int):Frame×Bool:=
 if A1 ((b.length:Int)=10)||decide ((b.length:Int)=17) then(if A1 (BK (Ck<|Fy b)=BK b) then(Fy b,U) else(zF,A3)) else(zF,A3)
def abN{b:List Int}(h:BOk b)(i:Int):w64 (r8 b i)=r8 b i:=by
 have:0<=r8 b i/\r8 b i<=255:=h.rd i;exact Ac J J
def aaU{b:List Int}(h:BOk b)(i j:Int):w64 (w64 (256 * r8 b i)+r8 b j)=256 * r8 b i+r8 b j:=by
 have h1:0<=r8 b i/\r8 b i<=255:=h.rd i;have h2:0<=r8 b j/\r8 b j<=255:=h.rd j;rw[Ac (n:=256 * r8 b i) J J,Ac J J]
def xe{b:List Int}(h:BOk b):fF (b,())=I ((tF (D2 b).1,(D2 b).2,()),()):=by
 unfold fF D2;by_cases h1:b.length=10\/b.length=17
 .have hn:10<=b.length:=J
  have hI:∀i:Int,(0<=i/\i<10)->inb i b.length=U:=λi hi=>by simp[inb];omega
  rw[AD (by simp;omega)];dsimp only;rw[A8<|hI 0 J,A8<|hI 1 J,A8<|hI 2 J,A8<|hI 3 J,A8<|hI 4 J,A8<|hI 5 J,A8<|hI 6 J,A8<|hI 7 J];rw[A8 (show(A1 ((b.length:Int)=10)||decide ((b.length:Int)=17))=U by simp;omega)];simp only[abN h,aaU h];have fin:∀f:Frame,Fy b=f->((QI (tF f,())).bind λr16=>if(!decide ((BK r16.1.1)=(BK b))) then I ((tF zF,A3,()),()) else I ((tF f,U,()),()))=
    I ((tF (if A1 (BK (Ck<|Fy b)=BK b) then(Fy b,U) else(zF,A3)).1,(if A1 (BK (Ck<|Fy b)=BK b) then(Fy b,U) else(zF,A3)).2,()),()):=by
   rintro f rfl;simp only[zk,A9];rcases tf (A1<|BK (Ck<|Fy b)=BK b) with e|e<;>simp only[e,AF,AK,A5,A7]
  rcases tf (A1<|(b.length:Int)=17) with e|e
  .have e17:b.length=17:=by have:=BX e;omega
   have hJ:∀i:Int,(0<=i/\i<17)->inb i b.length=U:=λi hi=>by simp[inb];omega
   rw[A8 e,A8<|hJ 8 J,A8<|hJ 9 J,A8<|hJ 10 J,A8 (by simp;omega),Bj];refine fin ⟨r8 b 0,r8 b 1,r8 b 2,r8 b 3,r8 b 4,r8 b 5,256 * r8 b 6+r8 b 7,r8 b 8,256 * r8 b 9+r8 b 10,BK<|Bv 11<|BS 15 b⟩ ?_;unfold Fy;rw[A8 e]
  .rw[AD (by rw[e];exact Ca),Bj];refine fin ⟨r8 b 0,r8 b 1,r8 b 2,r8 b 3,r8 b 4,r8 b 5,256 * r8 b 6+r8 b 7,0,0,noB⟩ ?_;unfold Fy;rw[AD (by rw[e];exact Ca)]
 .rw[A8 (by simp;omega),AD (by simp;omega)]
def aet{b:List Int}(h:BOk b):eO (b,())=I ((tF (D2 b).1,(D2 b).2,()),()):=by
 unfold eO D2;by_cases h1:b.length=10\/b.length=17
 .have hn:10<=b.length:=J
  have hI:∀i:Int,(0<=i/\i<10)->inb i b.length=U:=λi hi=>by simp[inb];omega
  rw[AD (by simp;omega)];dsimp only;rw[A8<|hI 0 J,A8<|hI 1 J,A8<|hI 2 J,A8<|hI 3 J,A8<|hI 4 J,A8<|hI 5 J,A8<|hI 6 J,A8<|hI 7 J];rw[A8 (show(A1 ((b.length:Int)=10)||decide ((b.length:Int)=17))=U by simp;omega)];simp only[abN h,S5 _ 256,aaU h];have fin:∀f:Frame,Fy b=f->((QO (tF f,())).bind λr16=>if(!decide ((BK r16.1.1)=(BK b))) then I ((tF zF,A3,()),()) else I ((tF f,U,()),()))=
    I ((tF (if A1 (BK (Ck<|Fy b)=BK b) then(Fy b,U) else(zF,A3)).1,(if A1 (BK (Ck<|Fy b)=BK b) then(Fy b,U) else(zF,A3)).2,()),()):=by
   rintro f rfl;simp only[zO,A9];rcases tf (A1<|BK (Ck<|Fy b)=BK b) with e|e<;>simp only[e,AF,AK,A5,A7]
  rcases tf (A1<|(b.length:Int)=17) with e|e
  .have e17:b.length=17:=by have:=BX e;omega
   have hJ:∀i:Int,(0<=i/\i<17)->inb i b.length=U:=λi hi=>by simp[inb];omega
   rw[A8<|AZ J,A8<|hJ 8 J,A8<|hJ 9 J,A8<|hJ 10 J,A8 (by simp;omega),Bj];refine fin ⟨r8 b 0,r8 b 1,r8 b 2,r8 b 3,r8 b 4,r8 b 5,256 * r8 b 6+r8 b 7,r8 b 8,256 * r8 b 9+r8 b 10,BK<|Bv 11<|BS 15 b⟩ ?_;unfold Fy;rw[A8 e]
  .have e17:b.length≠17:=by have:=J3 e;omega
   rw[AD (by simp;omega),Bj];refine fin ⟨r8 b 0,r8 b 1,r8 b 2,r8 b 3,r8 b 4,r8 b 5,256 * r8 b 6+r8 b 7,0,0,noB⟩ ?_;unfold Fy;rw[AD (by rw[e];exact Ca)]
 .rw[A8 (by simp;omega),AD (by simp;omega)]
def arC{b:List Int}(h:(D2 b).2=U):C4 (D2 b).1=U:=by
 unfold D2 at h ⊢;split
 .rename_i h1;rw[A8 h1]at h;split
  .rename_i h2;have h2:=BX h2;unfold Ck at h2;split at h2
   .assumption
   .have h3:(BK b).size=b.length:=by simp[BK,ByteArray.size]
    have h4:(BK ([]:List Int)).size=0:=rfl;rw[← h2,h4]at h3;rw[← h3]at h1;cases h1
  .rename_i h2;rw[AD h2]at h;cases h
 .rename_i h1;rw[AD h1]at h;cases h
def P3{n:Int}(h0:0<=n)(k:Nat)(hk:1<=k)(h:n<(10 ^ k:Nat)):(Bb n).size<=k:=by
 show(BA n).length<=k;exact MG h0 k hk h
def aDE{r:A4}(hr:r.size<=1048576):Qe (r,())=I ((D9 r,()),()):=by
 have hd:=P3 (n:=(r.size:Int)) J 7 J J;unfold Qe;simp only[JU (n:=(r.size:Int)) J J,A9];rw[A8<|AZ (by rw[BU];simp;omega),A8<|AZ (by rw[C5,BU];simp;omega),A8<|AZ (by rw[C5,C5,BU,BU];simp;omega)];rfl
def aCX{r:A4}(hr:r.size<=1048576):Qc (r,())=I ((D9 r,()),()):=by
 have hd:=P3 (n:=(r.size:Int)) J 7 J J;unfold Qc;simp only[G7 (n:=(r.size:Int)) J J,A9];rw[A8<|AZ (by rw[BU];simp;omega),A8<|AZ (by rw[C5,BU];simp;omega),A8<|AZ (by rw[C5,C5,BU,BU];simp;omega)];rfl
def ZX{r:A4}(hr:r.size<=1048576):(D9 r).size<=r.size+9:=by
 have hd:=P3 (n:=(r.size:Int)) J 7 J J;unfold D9;simp only[C5,BU];simp;omega
def rOk(r:A4):Bool:=inB r.size 1 60
def mE(r:A4):YI (r,())=I ((rOk r,()),()):=rfl
def mI(r:A4):ga (r,())=I ((rOk r,()),()):=rfl
def Jh(lg:A4)(fo:Int)(r:A4):(A4×Int)×Bool:=
 if DO lg fo then(if rOk r&&A1 (lg.size+(D9 r).size<=2400) then((lg++D9 r,fo),U) else((lg,fo),A3)) else((noB,0),A3)
def aJx{lg st:A4}{fo:Int}(b:Bool)(hl:lg.size<=1048576)(hs:st.size<=1048585):
  (if((!b)||(A1<|2400<(w64<|(lg.size:Int)+(st.size:Int)))) then I (((lg,fo,()),A3,()),()) else(if A1 (lg.size+st.size<=4611686018427387904) then I (((lg++st,fo,()),U,()),()) else A0))=
   I ((((if b&&A1 (lg.size+st.size<=2400) then((lg++st,fo),U) else((lg,fo),A3)).1.1,(if b&&A1 (lg.size+st.size<=2400) then((lg++st,fo),U) else((lg,fo),A3)).1.2,()),(if b&&A1 (lg.size+st.size<=2400) then((lg++st,fo),U) else((lg,fo),A3)).2,()),()):=by
 rw[Ac J J];cases b
 .rfl
 .by_cases h:lg.size+st.size<=2400
  .rw[AD (by simp;omega),A8<|AZ J,A8 (by simp;omega)]
  .rw[A8 (by simp;omega),AD (by simp;omega)]
def aAS{lg r:A4}{fo:Int}(hl:lg.size<=1048576)(hr:r.size<=1048576):
  Sv ((lg,fo,()),r,())=I ((((Jh lg fo r).1.1,(Jh lg fo r).1.2,()),(Jh lg fo r).2,()),()):=by
 unfold Sv Jh;simp only[XH hl,A9];rcases tf (DO lg fo) with e|e
 .simp only[e,AF,A7,A5,mE,aDE hr,A9,D8,D0,Fa];exact aJx (rOk r) hl (by have:=ZX hr;omega)
 .simp only[e,AK,A7,A5]
def aAb{lg r:A4}{fo:Int}(hl:lg.size<=1048576)(hr:r.size<=1048576):
  Sy ((lg,fo,()),r,())=I ((((Jh lg fo r).1.1,(Jh lg fo r).1.2,()),(Jh lg fo r).2,()),()):=by
 unfold Sy Jh;simp only[XP hl,A9];rcases tf (DO lg fo) with e|e
 .simp only[e,AF,A7,A5,mI,aCX hr,A9,D8,D0,Fa];exact aJx (rOk r) hl (by have:=ZX hr;omega)
 .simp only[e,AK,A7,A5]
def KP(lg:A4)(fo:Int):A4×Int:=if DO lg fo then(lg,(lg.size:Int)) else(noB,0)
def ag2{lg:A4}{fo:Int}(hl:lg.size<=1048576):fO ((lg,fo,()),())=I ((((KP lg fo).1,(KP lg fo).2,()),()),()):=by
 unfold fO KP;simp only[XH hl,A9];rcases tf (DO lg fo) with e|e<;>simp only[e,AF,AK,A7,A5]
def vR{lg:A4}{fo:Int}(hl:lg.size<=1048576):QF ((lg,fo,()),())=I ((((KP lg fo).1,(KP lg fo).2,()),()),()):=by
 unfold QF KP;simp only[XP hl,A9];rcases tf (DO lg fo) with e|e<;>simp only[e,AF,AK,A7,A5]
def TT{lg:A4}{fo:Int}(h:DO lg fo=U):lg.size<=2400/\0<=fo/\fo<=lg.size:=by
 unfold DO at h;simp only[AG]at h;have h1:=BX h.1;have h2:=Ad.1 h.2.1;omega
def Ei(lg:A4)(fo keep:Int):Nat:=(fo+max 0 (min keep<|(lg.size:Int) - fo)).toNat
def Mj(lg:A4)(fo keep:Int):A4×Int:=
 if DO lg fo then((lg.extract 0<|Ei lg fo keep).extract 0 (DE<|lg.extract 0<|Ei lg fo keep).2,((DE<|lg.extract 0<|Ei lg fo keep).2:Int)) else(noB,0)
def ay5{lg:A4}{fo keep:Int}(h0:0<=fo)(h1:fo<=lg.size)(h2:lg.size<=2400):
  w64 (fo+(if 0<(if w64 ((lg.size:Int) - fo)<keep then w64 ((lg.size:Int) - fo) else keep) then(if w64 ((lg.size:Int) - fo)<keep then w64 ((lg.size:Int) - fo) else keep) else 0))=(Ei lg fo keep:Int)/\Ei lg fo keep<=lg.size:=by
 rw[Ac (n:=(lg.size:Int) - fo) J J];unfold Ei;by_cases h3:(lg.size:Int) - fo<keep
 .rw[A8 h3];by_cases h4:(0:Int)<(lg.size:Int) - fo
  .rw[A8 h4,Ac J J];omega
  .rw[AD h4,Ac J J];omega
 .rw[AD h3];by_cases h4:(0:Int)<keep
  .rw[A8 h4,Ac J J];omega
  .rw[AD h4,Ac J J];omega
def ahe{lg:A4}{fo keep:Int}(hl:lg.size<=1048576):fp ((lg,fo,()),keep,())=I ((((Mj lg fo keep).1,(Mj lg fo keep).2,()),()),()):=by
 unfold fp Mj;simp only[XH hl,A9];rcases tf (DO lg fo) with e|e
 .have hr:=TT e;obtain⟨c1,c2⟩:=ay5 (keep:=keep) hr.2.1 hr.2.2 hr.1;simp only[e,AF,A7,A5,c1,BZ];have hz:(lg.extract 0<|Ei lg fo keep).size=Ei lg fo keep:=by rw[G9 J];omega
  have hg:=Qk<|lg.extract 0<|Ei lg fo keep;rw[A8 (by simp;omega),fl J];simp only[A9,BZ];rw[A8 (by simp;omega)]
 .simp only[e,AK,A7,A5]
def axs{s:A4}{a b:Nat}(h:b<=a)(ha:a<=s.size):s.extract 0 b=(s.extract 0 a).extract 0 b:=by
 apply GG;rw[EK,EK,EK,Js,Js,J6,J6,bF,S3 h]
def ah7{lg:A4}{fo keep:Int}(hl:lg.size<=1048576):gM ((lg,fo,()),keep,())=I ((((Mj lg fo keep).1,(Mj lg fo keep).2,()),()),()):=by
 unfold gM Mj;simp only[XP hl,A9];rcases tf (DO lg fo) with e|e
 .have hr:=TT e;simp only[e,AF,A7,A5];rw[Ac (n:=(lg.size:Int) - fo) J J];have hz:(lg.extract 0<|Ei lg fo keep).size=Ei lg fo keep:=by rw[G9 (by unfold Ei;omega)];omega
  have hg:=Qk<|lg.extract 0<|Ei lg fo keep;have fin:∀n:Int,n=(Ei lg fo keep:Int)->(if(A1 (0<=n)&&A1 (n<=(lg.size:Int))) then(Lz ((lg.extract (0)<|AR n),())).bind λr9=>
    (if(A1 (0<=r9.1.2.1)&&A1 (r9.1.2.1<=(lg.size:Int))) then I (((lg.extract (0)<|AR r9.1.2.1,r9.1.2),()),()) else A0) else A0)=
    I ((((lg.extract 0<|Ei lg fo keep).extract 0 (DE<|lg.extract 0<|Ei lg fo keep).2,((DE<|lg.extract 0<|Ei lg fo keep).2:Int),()),()),()):=by
   rintro n rfl;have hc:Ei lg fo keep<=lg.size:=by unfold Ei;omega
   rw[A8 (by simp;omega),BZ,Wl J];simp only[A9,BZ];rw[A8 (by simp;omega),axs (a:=Ei lg fo keep) J hc]
  rcases tf (A1<|(lg.size:Int) - fo<keep) with h3|h3<;>simp only[h3,A5,A7,Bj]
  .have h3:=BX h3;rcases tf (A1<|(0:Int)<(lg.size:Int) - fo) with h4|h4<;>simp only[h4,A5,A7,Bj]
   .have h4:=BX h4;rw[Ac (n:=fo+((lg.size:Int) - fo)) J J];exact fin _ (by unfold Ei;omega)
   .have h4:=J3 h4;exact fin _ (by unfold Ei;omega)
  .have h3:=J3 h3;rcases tf (A1<|0<keep) with h4|h4<;>simp only[h4,A5,A7,Bj]
   .have h4:=BX h4;rw[Ac (n:=fo+keep) J J];exact fin _ (by unfold Ei;omega)
   .have h4:=J3 h4;exact fin _ (by unfold Ei;omega)
 .simp only[e,AK,A7,A5]
def G3(rs:List A4):Bool:=rs.all rOk
def Jb(lg:A4)(fo:Int)(rs:List A4):(A4×Int)×Bool:=
 if DO lg fo then(if G3 rs&&A1 ((DF rs).size<=2400) then((DF rs,((DF rs).size:Int)),U) else((lg,fo),A3)) else((noB,0),A3)
def aaT{r:A4}(h:rOk r=U):1<=r.size/\r.size<=60:=by
 have:=Ad.1 h;omega
def aIN(pre:List A4)(r:A4):B (cat<|pre++[r])=B (cat pre)++D9 r:=by
 apply GG;rw[Ge,L_B,L_B,LI,ID,KE,CW]
abbrev zS:A4×Int×A2:=(noB,0,())
def asy{sl:A4×Int×A2}(post:List A4):∀(pre:List A4),(pre++post).length<=1048576->(cat pre).length<=69 * pre.length->
  (SY (sl,zS,B<|cat pre,pre++post,((pre++post).length:Int),(pre.length:Int),())=I (.inl (sl,A3,()))/\(G3 post=A3\/2400<(cat<|pre++post).length))\/
  (SY (sl,zS,B<|cat pre,pre++post,((pre++post).length:Int),(pre.length:Int),())=I (.inr (sl,zS,B<|cat<|pre++post,()))/\G3 post=U):=by
 induction post with
 | nil=>
  intro pre _ _;refine Nw ⟨BE ?_,rfl⟩;unfold Sl;simp only[CW,show A1 ((pre.length:Int)<(pre.length:Int))=A3 from BI J,A7]
 | cons r post ih=>
  intro pre hl hc;have hlen:pre.length<(pre++r::post).length:=by simp
  have hw:=Dk hlen hl;have hb:(A1<|(pre.length:Int)<((pre++r::post).length:Int))=U:=AZ J;by_cases h:rOk r=U/\(cat pre).length<=2400
  .have hz:=aaT h.1;have hs:=ZX (r:=r) J;have N2:Sl (sl,zS,B<|cat pre,pre++r::post,((pre++r::post).length:Int),(pre.length:Int),())=I (.inl (sl,zS,B<|cat<|pre++[r],(pre++[r])++post,(((pre++[r])++post).length:Int),((pre++[r]).length:Int),())):=by
    unfold Sl;simp only[hb,A5,AU hlen,Nd,mE,A9,h.1,AF,Bn];rw[AD (by rw[BU];exact λg=>absurd (BX g) J),aDE (r:=r) J];simp only[A9];rw[A8<|AZ (by rw[BU];omega),hw,aIN,@B0 _ pre [r],← snoc];rfl
   have hc2:(cat<|pre++[r]).length<=69 * (pre++[r]).length:=by
    rw[LI,ID,KE,CW,B0,B2,B0,Jq];omega
   have e:G3 (r::post)=G3 post:=by
    unfold G3;rw[Pb,h.1,AY]
   rw[e];rcases ih (pre++[r]) (by rw[← snoc];exact hl) hc2 with⟨h1,h2⟩|⟨h1,h2⟩
   .rw[← snoc]at h2;exact Ny ⟨Ap N2 h1,h2⟩
   .refine Nw ⟨?_,h2⟩;rw[snoc];rw[← snoc]at N2 ⊢;rw[snoc pre r post]at N2 ⊢;exact Ap N2 h1
  .refine Ny ⟨BE ?_, ?_⟩
   .unfold Sl;simp only[hb,A5,AU hlen,Nd,mE,A9];rw[A8];rcases tf (rOk r) with e|e
    .rw[e,AF,Bn];refine AZ ?_;rw[BU];have:¬(cat pre).length<=2400:=λg=>h ⟨e,g⟩;omega
    .rw[e];rfl
   .rcases tf (rOk r) with e|e
    .have:¬(cat pre).length<=2400:=λg=>h ⟨e,g⟩;refine Nw ?_;rw[LI,B0];omega
    .refine Ny ?_;unfold G3;rw[Pb,e,AS]
def atX{sl:A4×Int×A2}(post:List A4):∀(pre:List A4),(pre++post).length<=1048576->(cat pre).length<=69 * pre.length->
  dX (pre++post,sl,zS,B<|cat pre,(pre.length:Int),())=I (if G3 post then .inr (sl,zS,B<|cat<|pre++post,()) else .inl (sl,A3,())):=by
 induction post with
 | nil=>
  intro pre _ _;refine BE ?_;unfold Sg;simp only[CW,show A1 ((pre.length:Int)<(pre.length:Int))=A3 from BI J,A7];rfl
 | cons r post ih=>
  intro pre hl hc;have hlen:pre.length<(pre++r::post).length:=by simp
  have hw:=Dk hlen hl;have hb:(A1<|(pre.length:Int)<((pre++r::post).length:Int))=U:=AZ J;rcases tf (rOk r) with h|h
  .have hz:=aaT h;have hs:=ZX (r:=r) J;have N2:Sg (pre++r::post,sl,zS,B<|cat pre,(pre.length:Int),())=I (.inl ((pre++[r])++post,sl,zS,B<|cat<|pre++[r],((pre++[r]).length:Int),())):=by
    unfold Sg;simp only[hb,A5,AU hlen,Nd,mI,A9,h,AF,A7];rw[aCX (r:=r) J];simp only[A9];rw[A8<|AZ (by rw[BU];simp at hl;omega),hw,aIN,@B0 _ pre [r],← snoc];rfl
   have hc2:(cat<|pre++[r]).length<=69 * (pre++[r]).length:=by
    rw[LI,ID,KE,CW,B0,B2,B0,Jq];omega
   have e:G3 (r::post)=G3 post:=by
    unfold G3;rw[Pb,h,AY]
   rw[e];have:=ih (pre++[r]) (by rw[← snoc];exact hl) hc2;rw[snoc pre r post];rw[snoc pre r post]at N2;exact Ap N2 this
  .refine BE ?_;unfold Sg;simp only[hb,A5,AU hlen,Nd,mI,A9,h,AK];rw[AD (by unfold G3;rw[Pb,h,AS];exact Ca)]
def qK{lg:A4}{fo:Int}(rs:List A4)(s:(((A4×Int×A2)×Bool×A2) ⊕ ((A4×Int×A2)×(A4×Int×A2)×A4×A2)))
  (h:(s= .inl ((lg,fo,()),A3,())/\(G3 rs&&A1 ((DF rs).size<=2400))=A3)\/(s= .inr ((lg,fo,()),zS,DF rs,())/\G3 rs=U)):
  AP (I s) (λy28=>I (y28,())) (λy28=>(if(A1<|2400<(y28.2.2.1.size:Int)) then I ((y28.1,A3,()),()) else I (((y28.2.2.1,(y28.2.2.1.size:Int),()),U,()),())))=
   I ((((if G3 rs&&A1 ((DF rs).size<=2400) then((DF rs,((DF rs).size:Int)),U) else((lg,fo),A3)).1.1,(if G3 rs&&A1 ((DF rs).size<=2400) then((DF rs,((DF rs).size:Int)),U) else((lg,fo),A3)).1.2,()),(if G3 rs&&A1 ((DF rs).size<=2400) then((DF rs,((DF rs).size:Int)),U) else((lg,fo),A3)).2,()),()):=by
 obtain⟨rfl,h⟩|⟨rfl,h⟩:=h
 .rw[h];rfl
 .simp only[AP,A9];by_cases h2:(DF rs).size<=2400
  .rw[AD (by simp;omega),h,AZ h2];rfl
  .rw[A8<|AZ J,h,BI h2];rfl
def aAF{lg:A4}{fo:Int}{rs:List A4}(hl:lg.size<=1048576)(hr:rs.length<=1048576):
  Sq ((lg,fo,()),rs,())=I ((((Jb lg fo rs).1.1,(Jb lg fo rs).1.2,()),(Jb lg fo rs).2,()),()):=by
 unfold Sq Jb;simp only[XH hl,A9];rcases tf (DO lg fo) with e|e
 .simp only[e,AF,A7,A5];rcases asy (sl:=(lg,fo,())) rs [] hr (by simp[KE]) with⟨h1,h2⟩|⟨h1,h2⟩
  .rw[show SY ((lg,fo,()),(noB,0,()),noB,rs,(rs.length:Int),0,())=_ from h1];refine qK rs _<|Ny ⟨rfl, ?_⟩;obtain h2|h2:=h2
   .rw[h2];rfl
   .rw[BI,Bc];show ¬(B<|cat rs).size<=2400;rw[BU];exact Nat.not_le.2 h2
  .rw[show SY ((lg,fo,()),(noB,0,()),noB,rs,(rs.length:Int),0,())=_ from h1];exact qK rs _ (Nw ⟨rfl,h2⟩)
 .simp only[e,AK,A7,A5]
def zA{lg:A4}{fo:Int}{rs:List A4}(hl:lg.size<=1048576)(hr:rs.length<=1048576):
  Sm ((lg,fo,()),rs,())=I ((((Jb lg fo rs).1.1,(Jb lg fo rs).1.2,()),(Jb lg fo rs).2,()),()):=by
 unfold Sm Jb;simp only[XP hl,A9];rcases tf (DO lg fo) with e|e
 .simp only[e,AF,A7,A5];have h1:=atX (sl:=(lg,fo,())) rs [] hr (by simp[KE]);rw[show dX (rs,(lg,fo,()),(noB,0,()),noB,0,())=_ from h1];refine qK rs _ ?_;rcases tf (G3 rs) with h2|h2
  .exact Nw ⟨A8 h2,h2⟩
  .exact Ny ⟨AD (by rw[h2];exact Ca),by rw[h2];rfl⟩
 .simp only[e,AK,A7,A5]
def aT{β:Type}(f:A6->β){l:List A6}{i:Nat}(h:i<l.length):(l.take<|i+1).map f=(l.take i).map f++[f (nA l i)]:=by
 rw[NM h,Eo,DH<|Au h];rfl
def aJC{β:Type}(f:Mark->β){l:List Mark}{i:Nat}(h:i<l.length):(l.take<|i+1).map f=(l.take i).map f++[f (mA l i)]:=by
 rw[NM h,Eo,Fz<|Au h];rfl
def GA{α:Type}{l m:List α}(hl:l.length<=1048576)(hm:m.length<=1048576):Af (l.length+m.length)=U:=BG J
def cV{n:A6}(h:B1 n=U):(wr n).size<=4000:=by have:=S8 h;omega
def RA{n:A6}(h:B1 n=U):n.tx.size<=1048576:=by
 have h2:=S8 h;by_cases hs:n.tx.size<=1048576
 .exact hs
 .exfalso;unfold B1 at h;simp only[AG]at h;have hx:Lk n.tx=U:=by simp_all
  unfold Lk at hx;rw[AG]at hx;have:=Ad.1 hx.1;omega
def nw{n:A6}(h:B1 n=U):(if B1 ⟨n.fr,n.nu,n.to,n.un,n.tx⟩ then wr ⟨n.fr,n.nu,n.to,n.un,n.tx⟩ else noB)=wr n:=by
 rw[show(⟨n.fr,n.nu,n.to,n.un,n.tx⟩:A6)=n from rfl,A8 h]
def HY{n:Int}(h0:0<=n)(h1:n<=999):(Bb n).size<=3:=P3 h0 3 J J
def wP{w:A4}{a b c:Int}(hw:w.size<=1048576)(ha:0<=a/\a<=999)(hb:0<=b/\b<=999)(hc:0<=c/\c<=999):QP (w,a,b,c,())=I ((Cc w a b c,()),()):=by
 have h1:=HY ha.1 ha.2;have h2:=HY hb.1 hb.2;have h3:=HY hc.1 hc.2;unfold QP;simp only[JU (n:=a) J J,JU (n:=b) J J,JU (n:=c) J J,A9];rw[A8<|AZ (by simp[BU];omega),A8<|AZ (by simp[C5,BU];omega),A8<|AZ (by simp[C5,BU];omega),A8<|AZ (by simp[C5,BU];omega),A8<|AZ (by simp[C5,BU];omega),A8<|AZ (by simp[C5,BU];omega)];rfl
def Ir{i n:Nat}(h:i<n):A1 ((i:Int)<(n:Int))=U:=AZ J
def HM(n:Nat):A1 ((n:Int)<(n:Int))=A3:=BI J
section
variable {k:AH} (hf:F1 k)
include hf
def arV(o:List A4)(ho:o.length<=100):
  eF (tK k,o,k.marks,(k.marks.length:Int),0,())=I (.inr (tK k,o++k.marks.map λm=>Cc DD m.mf m.mn m.mu,())):=by
 have ml:=hf.ml;refine Kb (congrArg _ ?_) (CG (λi=>(tK k,o++(k.marks.take i).map (λm=>Cc DD m.mf m.mn m.mu),k.marks,(k.marks.length:Int),(i:Int),())) k.marks.length ?_ ?_)
 .simp
 .intro i hi;have hm:=P6<|Tn hf.m hi;unfold gB;simp only[Ir hi,A5,AU hi,FL,wP (w:=DD) (by decide) (show 0<=(mA k.marks i).mf/\(mA k.marks i).mf<=999 by omega) (show 0<=(mA k.marks i).mn/\(mA k.marks i).mn<=999 by omega)<|show 0<=(mA k.marks i).mu/\(mA k.marks i).mu<=999 by omega,A9];rw[A8<|GA (by simp;omega)<|by simp,aJC _ hi,Dk hi J,C9]
 .unfold gB;simp only[HM,A7,E8]
def art(o:List A4)(ho:o.length<=200):
  eE (tK k,o,k.held,(k.held.length:Int),0,())=I (.inr (tK k,o++k.held.map MP,())):=by
 have hl:=hf.hl;refine Kb (congrArg _ ?_) (CG (λi=>(tK k,o++(k.held.take i).map MP,k.held,(k.held.length:Int),(i:Int),())) k.held.length ?_ ?_)
 .simp
 .intro i hi;have hm:=HL hf.h hi;have hz:=cV hm;unfold gA;simp only[Ir hi,A5,AU hi,Ch,Wc<|RA hm,nw hm,A9];rw[A8<|AZ (by rw[BU];simp;omega),A8<|GA (by simp;omega)<|by simp,aT _ hi,Dk hi J,C9];rfl
 .unfold gA;simp only[HM,A7,E8]
def ars(o:List A4)(ho:o.length<=200):
  dj (o,k.inbox,(k.inbox.length:Int),0,())=I (.inr (o++k.inbox.map NQ,())):=by
 have il:=hf.il;refine Kb (congrArg _ ?_) (CG (λi=>(o++(k.inbox.take i).map NQ,k.inbox,(k.inbox.length:Int),(i:Int),())) k.inbox.length ?_ ?_)
 .simp
 .intro i hi;have hm:=HL hf.i hi;have hz:=cV hm;unfold fw;simp only[Ir hi,A5,AU hi,Ch,Wc<|RA hm,nw hm,A9];rw[A8<|AZ (by rw[BU];simp;omega),A8<|GA (by simp;omega)<|by simp,aT _ hi,Dk hi J,C9];rfl
 .unfold fw;simp only[HM,A7,E8]
def as8(o:List A4)(ho:o.length<=100):
  dr (tK k,o,0,())=I (.inr (tK k,o++k.marks.map λm=>Cc DD m.mf m.mn m.mu,())):=by
 have ml:=hf.ml;refine Kb (congrArg _ ?_) (CG (λi=>(tK k,o++(k.marks.take i).map (λm=>Cc DD m.mf m.mn m.mu),(i:Int),())) k.marks.length ?_ ?_)
 .simp
 .intro i hi;have hm:=P6<|Tn hf.m hi;have h1:=HY (n:=(mA k.marks i).mf) J J;have h2:=HY (n:=(mA k.marks i).mn) J J;have h3:=HY (n:=(mA k.marks i).mu) J J;unfold gU;simp only[Ir hi,A5,AU hi,FL,G7 (n:=(mA k.marks i).mf) J J,G7 (n:=(mA k.marks i).mn) J J,G7 (n:=(mA k.marks i).mu) J J,A9];rw[A8<|AZ (by simp[C5,BU];omega),A8<|AZ (by simp[C5,BU];omega),A8<|AZ (by simp[C5,BU];omega),A8<|AZ (by simp[C5,BU];omega),A8<|AZ (by simp[C5,BU];omega)];rw[A8<|GA (by simp;omega)<|by simp,aJC _ hi,Dk hi J,C9];rfl
 .unfold gU;simp only[HM,A7,E8]
def as7(o:List A4)(ho:o.length<=200):
  dq (tK k,o,0,())=I (.inr (tK k,o++k.held.map MP,())):=by
 have hl:=hf.hl;refine Kb (congrArg _ ?_) (CG (λi=>(tK k,o++(k.held.take i).map MP,(i:Int),())) k.held.length ?_ ?_)
 .simp
 .intro i hi;have hm:=HL hf.h hi;have hz:=cV hm;unfold gT;simp only[Ir hi,A5,AU hi,Ch,Wm<|RA hm,nw hm,A9];rw[A8<|AZ (by rw[BU];simp;omega),A8<|GA (by simp;omega)<|by simp,aT _ hi,Dk hi J,C9];rfl
 .unfold gT;simp only[HM,A7,E8]
def as6(o:List A4)(ho:o.length<=200):
  dp (tK k,o,0,())=I (.inr (o++k.inbox.map NQ,())):=by
 have il:=hf.il;refine Kb (congrArg _ ?_) (CG (λi=>(tK k,o++(k.inbox.take i).map NQ,(i:Int),())) k.inbox.length ?_ ?_)
 .simp
 .intro i hi;have hm:=HL hf.i hi;have hz:=cV hm;unfold gS;simp only[Ir hi,A5,AU hi,Ch,Wm<|RA hm,nw hm,A9];rw[A8<|AZ (by rw[BU];simp;omega),A8<|GA (by simp;omega)<|by simp,aT _ hi,Dk hi J,C9];rfl
 .unfold gS;simp only[HM,A7,E8]
def RD:De k.held k.marks k.inbox:=by
 have hl:=hf.hl;have ml:=hf.ml;have il:=hf.il;refine⟨J,λx hx=> ?_,J,J,λx hx=> ?_⟩
 .obtain⟨i,hi,rfl⟩:=Cy hx;have:=HL hf.h hi;rw[DH<|Au hi]at this;exact RA this
 .obtain⟨i,hi,rfl⟩:=Cy hx;have:=HL hf.i hi;rw[DH<|Au hi]at this;exact RA this
def apF:(AP (eF (tK k,(if 0<k.ti then [Fw k.ti] else [])++(if 1<k.nx then [LR k.nx] else []),k.marks,(k.marks.length:Int),0,()))
  (λ_=>A0)
  (λy34=>(AP (eE (y34.1,y34.2.1,y34.1.2.2.2.1,(y34.1.2.2.2.1.length:Int),0,()))
  (λ_=>A0)
  (λy72=>(AP (dj (y72.2.1,y72.1.2.2.2.2.2.1,(y72.1.2.2.2.2.2.1.length:Int),0,()))
  (λ_=>A0)
  (λoZ=>(SX oZ).bind λow=>
  I (ow.1,())))))))=I ((CJ k,()),()):=by
 have hl:=hf.hl;have ml:=hf.ml;have il:=hf.il;have ho:((if 0<k.ti then [Fw k.ti] else [])++(if 1<k.nx then [LR k.nx] else [])).length<=2:=by
  rw[B0];split<;>split<;>simp
 rw[arV hf _ J];simp only[AP,A9];rw[art hf _ (by rw[B0,Dh];omega)];simp only[A9];rw[ars hf _ (by rw[B0,B0,Dh,Dh];omega)];simp only[A9];rw[tX (by rw[B0,B0,B0,Dh,Dh,Dh];omega)];rfl
def apH:(AP (dr (tK k,(if 0<k.ti then [Fw k.ti] else [])++(if 1<k.nx then [LR k.nx] else []),0,()))
  (λ_=>A0)
  (λy46=>(AP (dq (y46.1,y46.2.1,0,()))
  (λ_=>A0)
  (λy54=>(AP (dp (y54.1,y54.2.1,0,()))
  (λ_=>A0)
  (λy62=>I (y62,())))))))=I ((CJ k,()),()):=by
 have hl:=hf.hl;have ml:=hf.ml;have il:=hf.il;have ho:((if 0<k.ti then [Fw k.ti] else [])++(if 1<k.nx then [LR k.nx] else [])).length<=2:=by
  rw[B0];split<;>split<;>simp
 rw[as8 hf _ J];simp only[AP,A9];rw[as7 hf _ (by rw[B0,Dh];omega)];simp only[A9];rw[as6 hf _ (by rw[B0,B0,Dh,Dh];omega)];rfl
end
def aAV{k:AH}(sm:De k.held k.marks k.inbox):Wu (tK k,())=I ((if Ay k then CJ k else [],()),()):=by
 unfold Wu;rw[lA sm];simp only[A9];rcases tf (Ay k) with e|e
 .have hf:=Bx e;have t0:=hf.t0;have t1:=hf.t1;have n0:=hf.n0;have n1:=hf.n1;have e2:Ay ⟨k.id,k.ti,k.nx,k.held,k.marks,k.inbox⟩=U:=e;have d1:=HY t0 J;have d2:=HY (n:=k.nx) J J;have fin:=apF hf;simp only[e,e2,AF,A7,A5,JU (n:=k.ti) J J,JU (n:=k.nx) J J,A9];have h5:A1 ((B [116,105,109,101,32]).size+(Bb k.ti).size<=4611686018427387904)=U:=AZ (by rw[BU];simp;omega);have h6:A1 ((B [110,101,120,116,32]).size+(Bb k.nx).size<=4611686018427387904)=U:=AZ (by rw[BU];simp;omega);have q1:∀a:A4,Af ([a]:List A4).length=U:=λ_=>rfl;have q2:∀a b:A4,Af (([a]:List A4).length+([b]:List A4).length)=U:=λ_ _=>rfl;have q3:∀b:A4,Af (([]:List A4).length+([b]:List A4).length)=U:=λ_=>rfl;have q4:∀a b:A4,Af ((([]:List A4)++[a]).length+([b]:List A4).length)=U:=λ_ _=>rfl;by_cases h1:0<k.ti<;>by_cases h2:1<k.nx<;>simp only[h1,h2,Aa,Ag,A5,A7,if_false]at fin ⊢ <;>simp only[Bj,h2,Aa,Ag,A5,A7,h5,h6,q1,q2,q3,q4,JU (n:=k.nx) J J,G7 (n:=k.nx) J J,A9]<;>exact fin
 .have e2:Ay ⟨k.id,k.ti,k.nx,k.held,k.marks,k.inbox⟩=A3:=e;simp only[e,e2,AK,A7,A5]
def aAg{k:AH}(sm:De k.held k.marks k.inbox):X4 (tK k,())=I ((if Ay k then CJ k else [],()),()):=by
 unfold X4;rw[lI sm];simp only[A9];rcases tf (Ay k) with e|e
 .have hf:=Bx e;have t0:=hf.t0;have t1:=hf.t1;have n0:=hf.n0;have n1:=hf.n1;have e2:Ay ⟨k.id,k.ti,k.nx,k.held,k.marks,k.inbox⟩=U:=e;have d1:=HY t0 J;have d2:=HY (n:=k.nx) J J;have fin:=apH hf;simp only[e,e2,AF,A7,A5,G7 (n:=k.ti) J J,G7 (n:=k.nx) J J,A9];have h5:A1 ((B [116,105,109,101,32]).size+(Bb k.ti).size<=4611686018427387904)=U:=AZ (by rw[BU];simp;omega);have h6:A1 ((B [110,101,120,116,32]).size+(Bb k.nx).size<=4611686018427387904)=U:=AZ (by rw[BU];simp;omega);have q1:∀a:A4,Af ([a]:List A4).length=U:=λ_=>rfl;have q2:∀a b:A4,Af (([a]:List A4).length+([b]:List A4).length)=U:=λ_ _=>rfl;have q3:∀b:A4,Af (([]:List A4).length+([b]:List A4).length)=U:=λ_=>rfl;have q4:∀a b:A4,Af ((([]:List A4)++[a]).length+([b]:List A4).length)=U:=λ_ _=>rfl;by_cases h1:0<k.ti<;>by_cases h2:1<k.nx<;>simp only[h1,h2,Aa,Ag,A5,A7,if_false]at fin ⊢ <;>simp only[Bj,h2,Aa,Ag,A5,A7,h5,h6,q1,q2,q3,q4,JU (n:=k.nx) J J,G7 (n:=k.nx) J J,A9]<;>exact fin
 .have e2:Ay ⟨k.id,k.ti,k.nx,k.held,k.marks,k.inbox⟩=A3:=e;simp only[e,e2,AK,A7,A5]
end Go.VS
namespace Go.VS
open Go
def aaP{l:List AX}{m:AX}(h:m∈l):∃i,i<l.length/\xA l i=m:=by
 obtain⟨i,hi,rfl⟩:=pK.1 h;exact⟨i,hi,by rw[xA,BC,Au hi];rfl⟩
def PW{l:List AJ}{m:AJ}(h:m∈l):∃i,i<l.length/\hA l i=m:=by
 obtain⟨i,hi,rfl⟩:=pK.1 h;exact⟨i,hi,by rw[hA,BC,Au hi];rfl⟩
def awk{h:AJ}(ok:GD h=U):PT h:=by
 unfold GD at ok;simp only[AG]at ok;have h1:=BX ok.2.2.2.2.2.1;have h2:=CE.1 ok.2.2.2.2.2.2;refine⟨J,λm hm=> ?_⟩;obtain⟨i,hi,rfl⟩:=aaP hm;have:=h2 i hi;unfold IP at this;simp only[AG]at this;have:=BX this.1.2;show(xA h.got i).da.size<=1048576;omega
def DG{k:AA}(h:Aj k=U):Fc k:=by
 have hf:=Ds h;have hr:=TT hf.sh;have hl:=hf.hl;refine⟨J,J,λx hx=> ?_⟩;obtain⟨i,hi,rfl⟩:=PW hx;have:=hf.hv i hi;unfold G2 at this;rw[AG]at this;exact awk this.1
def aeW{l:List AJ}(hl:l.length<=1048576):uh (l,())=I ((l,()),()):=MM hl
def adf{l:List AX}(hl:l.length<=1048576):uO (l,())=I ((l,()),()):=MM hl
def Me(l:List AJ)(i:Nat): @rd AJ (dfl .half) l (i:Int)=hA l i:=rfl
def IN{l:List AJ}{i:Nat}(h:i<l.length):hA l i=l[i]:=by
 rw[hA,BC,Au h];rfl
def LB{k:AA}(sm:Fc k):I9 (tKp k,())=I ((tKp k,()),()):=by
 obtain⟨id,up,lg,fo,hv⟩:=k;obtain⟨sl,hl,hs⟩:=sm;simp only at sl hl hs;unfold I9;simp only[aeW hl,A9];have h:tG ((0,A3,noB,0,[],()),(id,up,lg,fo,hv,()),(hv.length:Int),0,())=I (.inr ((0,A3,noB,0,[],()),(id,up,lg,fo,hv,()),())):=by
  refine CG (λi=>((0,A3,noB,0,[],()),(id,up,lg,fo,hv,()),(hv.length:Int),(i:Int),())) hv.length ?_ ?_
  .intro i hi;unfold eQ;have hg:(hA hv i).got.length<=1048576:=by rw[IN hi];exact(hs _<|CV hi).1
   simp only[Ir hi,A5,AU hi,Me,adf hg,A9,BZ];rw[Dk hi hl,show(⟨(hA hv i).fr,(hA hv i).nu,(hA hv i).to,(hA hv i).un,(hA hv i).sz,(hA hv i).got⟩:AJ)=hA hv i from rfl,IN hi,List.set_getElem_self]
  .unfold eQ;simp only[HM,A7]
 rw[h];rfl
def ND{k:AA}(sm:Fc k):HI (tKp k,())=I ((tKp k,()),()):=by
 obtain⟨id,up,lg,fo,hv⟩:=k;obtain⟨sl,hl,hs⟩:=sm;simp only at sl hl hs;unfold HI;have h:uj ((id,up,lg,fo,hv,()),(0,A3,noB,0,[],()),[],0,())=I (.inr ((id,up,lg,fo,hv,()),(0,A3,noB,0,[],()),hv,())):=by
  refine CG (λi=>((id,up,lg,fo,hv,()),(0,A3,noB,0,[],()),hv.take i,(i:Int),())) hv.length ?_ ?_
  .intro i hi;unfold iH;have hg:(hA hv i).got.length<=1048576:=by rw[IN hi];exact(hs _<|CV hi).1
   have e1:Af (([]:List AX).length+(hA hv i).got.length)=U:=GA (by simp) hg;have e2:∀h:AJ,Af ((hv.take i).length+([h]:List AJ).length)=U:=λh=>GA (by simp;omega) (by simp);simp only[Ir hi,A5,AU hi,Me,En,e1,e2];rw[Dk hi hl,NM hi,← IN hi]
  .unfold iH;simp only[HM,A7,E8]
 rw[h];rfl
structure I5 (k:AA) (st:AH):Prop where
 sh:DO k.log k.fo=U
 st:DW k.id k.log=I st
def DN.Ls{k:AA}{st:AH}(h:DN k st):I5 k st:=⟨(Ds h.ok).sh,h.st⟩
def I5.kok{k:AA}{st:AH}(h:I5 k st):Ay st=U:=Qr h.st
def I5.sz{k:AA}{st:AH}(h:I5 k st):k.log.size<=1048576:=by have:=TT h.sh;omega
def I5.stT{k:AA}{st:AH}(h:I5 k st):Go.VS.stT k=st:=by
 unfold Go.VS.stT;rw[h.st];rfl
def R4{k:AH}(hk:Ay k=U):(DF<|CJ k).size<=800:=by
 have:=(YA hk).2;unfold DF;rw[BU];exact this
def Zt{k:AH}(hk:Ay k=U):(CJ k).length<=1048576:=by
 have hf:=Bx hk;have h1:=hf.hl;have h2:=hf.ml;have h3:=hf.il;unfold CJ;simp only[B0,Dh];have a2:(if 0<k.ti then [Fw k.ti] else []).length<=1:=by split<;>simp
 have b2:(if 1<k.nx then [LR k.nx] else []).length<=1:=by split<;>simp
 omega
def UE{k:AA}{st o:AH}{r:A4}(h:I5 k st)(hr:BM st r=I o):
  DO (DC st k.log k.fo r).1 (DC st k.log k.fo r).2=U/\
  (Jh k.log k.fo r=(DC st k.log k.fo r,U)\/
   (Jh k.log k.fo r=((k.log,k.fo),A3)/\Jb k.log k.fo (CJ st)=((DF<|CJ st,((DF<|CJ st).size:Int)),U)/\
    Jh (DF<|CJ st) ((DF<|CJ st).size:Int) r=(DC st k.log k.fo r,U))):=by
 have hz:=qF h.kok hr;have hrk:rOk r=U:=Ad.2 J;have hrs:=YA h.kok;have hps:=R4 h.kok;have hpo:=(R9 h.kok).sZ;have hst:=NN hz.2;obtain⟨rs,ts,hl⟩:=abH h.sh;obtain⟨rs',ts',hl',_⟩:=aIq (id:=k.id) (k:=st) hl (by rw[← hl.state];exact h.st) hr;refine⟨hl'.sZ, ?_⟩;unfold DC Jh;rw[A8 h.sh,hrk,AY];by_cases hc:k.log.size+(D9 r).size<=2400
 .rw[A8 hc,A8<|AZ hc];exact .inl rfl
 .rw[AD hc,AD (by rw[BI hc];exact Ca)];refine .inr ⟨rfl, ?_, ?_⟩
  .unfold Jb;rw[A8 h.sh,A8];rw[AG];refine⟨?_,AZ J⟩;unfold G3;rw[Cb];exact λx hx=>by
    have:=hrs.1 x hx;exact Ad.2 J
  .rw[A8 hpo,AY,A8<|AZ J]
def wrR(k:AA)(r:A4)(f:Bool):AA×Bool:=
 match BM (stT k) r with
 | none=>(k,A3)
 | some _=>(if f then foM (wrM k r) else wrM k r,U)
def aGW{k:AH}{r:A4}:(Fj k r).2=(BM k r).isSome:=by
 unfold BM;rcases tf (Fj k r).2 with e|e<;>rw[e]<;>rfl
def apN{k:AH}(hk:Ay k=U){r:A4}(hr:r.size<=1048576):TF (tK k,r,())=I ((tK (Fj k r).1,(Fj k r).2,()),()):=aD7 (RD<|Bx hk) hr
def aoq{k:AH}(hk:Ay k=U){r:A4}(hr:r.size<=1048576):TM (tK k,r,())=I ((tK (Fj k r).1,(Fj k r).2,()),()):=aDL (RD<|Bx hk) hr
def ayd{k:AA}{st o:AH}{r:A4}(h:I5 k st)(hr:BM st r=I o):KP (DC st k.log k.fo r).1 (DC st k.log k.fo r).2=((DC st k.log k.fo r).1,((DC st k.log k.fo r).1.size:Int)):=by
 unfold KP;rw[A8 (UE h hr).1]
def Wz{k:AA}{st:AH}(h:I5 k st){r:A4}(hr:r.size<=1048576)(f:Bool):L9 (tKp k,r,f,())=I ((tKp (wrR k r f).1,(wrR k r f).2,()),()):=by
 have hs:=h.sz;have hk:=h.kok;have hsm:=RD<|Bx hk;have hrl:=Zt hk;have hpz:=R4 hk;unfold L9 wrR;rw[h.stT];rw[show GQ (tKp k,())=I ((tK<|(DW k.id k.log).getD zK,(DW k.id k.log).isSome,()),()) from nE hs];rw[h.st];simp only[A9,D0,apN hk hr,aGW];cases hc:BM st r with
 | none=>rfl
 | some o=>
  have hL:=ayd h hc;have hwr:wrM k r=⟨k.id,k.up,(DC st k.log k.fo r).1,(DC st k.log k.fo r).2,k.AM⟩:=by unfold wrM;rw[h.stT]
  have hsz:(DC st k.log k.fo r).1.size<=1048576:=by have:=TT (UE h hc).1;omega
  have hF:=vR (lg:=(DC st k.log k.fo r).1) (fo:=(DC st k.log k.fo r).2) hsz;rw[hL]at hF;simp only[D8,AF,A7,aAb hs hr,A9];have fin:BW (X:=Bool×(Int×Bool×A4×Int×List AJ×A2)×(Int×Bool×A4×Int×List AJ×A2)×(A4×Int×A2)×Bool×A2) (λj7=>
    (if(!j7.2.2.2.2.1) then
    I ((j7.2.1,A3,()),())
    else
    (if j7.1 then
    (QF (j7.2.2.2.1,())).bind λr12=>
    I (((j7.2.1.1,j7.2.1.2.1,r12.1.1.1,r12.1.1.2.1,j7.2.1.2.2.2.2),U,()),())
    else
    I (((j7.2.1.1,j7.2.1.2.1,j7.2.2.2.1.1,j7.2.2.2.1.2.1,j7.2.1.2.2.2.2),U,()),())))) (I<|.inr (f,tKp k,(0,A3,noB,0,[],()),((DC st k.log k.fo r).1,(DC st k.log k.fo r).2,()),U,()))=
    I ((tKp<|if f then foM (wrM k r) else wrM k r,U,()),()):=by
   rw[Bj,hwr];cases f
   .rfl
   .simp only[AF,A7,A5,hF,A9];rfl
  rcases(UE h hc).2 with ha|⟨ha,hb,hd⟩
  .rw[ha];simp only[AF,A7];exact fin
  .rw[ha];simp only[AK,A5,aAg hsm,hk,A9];rw[show Sm ((k.log,k.fo,()),CJ st,())=_ from zA hs hrl,hb];simp only[A9];rw[show Sy ((DF<|CJ st,((DF<|CJ st).size:Int),()),r,())=_ from aAb J hr,hd];simp only[A9];exact fin
def YW{k:AA}{st:AH}(h:I5 k st){r:A4}(hr:r.size<=1048576):Oj (tKp k,r,())=I ((tKp (wrR k r A3).1,(wrR k r A3).2,()),()):=by
 have hs:=h.sz;have hk:=h.kok;have hsm:=RD<|Bx hk;have hrl:=Zt hk;have hpz:=R4 hk;unfold Oj wrR;rw[h.stT];simp only[QY hs,h.st,A9,D0,aoq hk hr,aGW];cases hc:BM st r with
 | none=>rfl
 | some o=>
  have hwr:wrM k r=⟨k.id,k.up,(DC st k.log k.fo r).1,(DC st k.log k.fo r).2,k.AM⟩:=by unfold wrM;rw[h.stT]
  simp only[D8,AF,A7,aAS hs hr,A9];rcases(UE h hc).2 with ha|⟨ha,hb,hd⟩
  .rw[ha];simp only[AF,A7,Bj,hwr]
  .rw[ha];simp only[AK,A5,aAV hsm,hk,A9];rw[show Sq ((k.log,k.fo,()),CJ st,())=_ from aAF hs hrl,hb];simp only[A9,AF,A7];rw[show Sv ((DF<|CJ st,((DF<|CJ st).size:Int),()),r,())=_ from aAS J hr,hd];simp only[A9,Bj,AF,A7,hwr]
def jT{k:AA}(h:DO k.log k.fo=U):Of (tKp k,())=I ((tKp<|foM k,()),()):=by
 have hs:k.log.size<=1048576:=by have:=TT h;omega
 unfold Of;simp only[ag2 hs,A9];unfold KP;rw[A8 h];rfl
def aaJ{k:AA}{st o:AH}{r:A4}(h:I5 k st)(hr:BM st r=I o):DO (wrM k r).log (wrM k r).fo=U:=by
 have:=(UE h hr).1;unfold wrM;rw[h.stT];exact this
def iw{k:AA}{st:AH}(h:DN k st){r:A4}(hr:r.size<=1048576):OX (tKp k,r,())=I ((tKp (wrR k r U).1,(wrR k r U).2,()),()):=by
 have hl:=h.Ls;unfold OX;simp only[YW hl hr,A9];unfold wrR;rw[hl.stT];cases hc:BM st r with
 | none=>
  simp only[AK,A5,LB<|DG h.ok,A9]
 | some o=>
  simp only[AF,A7,A5];rw[jT<|aaJ hl hc];simp only[A9];have hsm:Fc (foM<|wrM k r):=DG (RS<|PO h hc).ok;rw[show I9 (tKp<|foM<|wrM k r,())=_ from LB hsm];rfl
abbrev zKp:AA:=⟨0,A3,noB,0,[]⟩
abbrev zN:A6:=⟨0,0,0,0,noB⟩
abbrev tN(n:A6):Int×Int×Int×Int×A4×A2:=(n.fr,n.nu,n.to,n.un,n.tx,())
def R8{k:AA}(h:Aj k=U):k.log.size<=1048576:=(DG h).1
def On{k:AA}(h:Aj k=U):GQ (tKp k,())=I ((tK<|stT k,U,()),()):=by
 have:=nE (id:=k.id) (fo:=k.fo) (up:=k.up) (hv:=k.AM)<|R8 h;rw[(Ds h).st]at this;exact this
def Hj{k:AA}(h:Aj k=U):FF (tKp k,())=I ((tK<|stT k,()),()):=by
 unfold FF;rw[K0<|DG h];simp only[A9,h,AF,A7];rw[show K5 (k.id,k.log,())=_ from QY<|R8 h,(Ds h).st];rfl
def c8{w:A4}{n:A6}(hw:w.size<=10)(hn:B1 n=U):(w++wr n).size<=1048576:=by
 have:=S8 hn;rw[C5];omega
def Fl(k:AA):AA×Bool:=if k.up then wrR k (Fw<|(stT k).ti+1) U else(k,A3)
def asl{st:AH}(hk:Ay st=U)(h:999<=st.ti):BM st (Fw<|st.ti+1)=A0:=by
 have hf:=Bx hk;have h1:=hf.t1;cases hc:BM st (Fw<|st.ti+1) with
 | none=>rfl
 | some o=>
  exfalso;obtain⟨a,b⟩:=(IC hk).1 hc;rw[IH np<|ZC _]at a;have c:=nC (k:=st) (t:=st.ti+1) (by have:=hf.t0;omega) J J;rw[show B [116,105,109,101]=EF from rfl,c]at a;injection a with a;have:=(Bx b).t1;rw[← a]at this;simp only at this;omega
def aFU{t:Int}(h0:0<=t)(h1:t<=1000):(Fw t).size<=100:=by
 unfold Fw;have:=P3 h0 4 J J;rw[C5,BU];simp;omega
def afm{k:AA}(h:Aj k=U):WB (tKp k,())=I ((tKp (Fl k).1,(Fl k).2,()),()):=by
 have hk:=Bu h;have hf:=Bx hk.kok;have t0:=hf.t0;have t1:=hf.t1;have hz:=aFU (t:=(stT k).ti+1) J J;have hd:=P3 (n:=(stT k).ti+1) J 4 J J;unfold WB Fl;rw[M7<|DG h];simp only[A9,h,AF,A7,On h,ND<|DG h];rcases tf k.up with e|e
 .simp only[e,AF,Bn,A5];rw[Ac J J,G7 J J];simp only[A9];by_cases hc:999<=(stT k).ti
  .rw[A8<|AZ hc];unfold wrR;rw[asl hk.kok hc]
  .rw[AD (by rw[BI hc];exact Ca),A8<|AZ (by rw[BU];simp;omega)];rw[show L9 (tKp k,B [116,105,109,101,32]++Bb ((stT k).ti+1),U,())=_ from Wz hk.Ls (r:=Fw<|(stT k).ti+1) J U];rfl
 .simp only[e,AK,C0,A5,A7]
def ag5{k:AA}(h:Aj k=U):WT (tKp k,())=I ((tKp (Fl k).1,(Fl k).2,()),()):=by
 have hk:=Bu h;have hf:=Bx hk.kok;have t0:=hf.t0;have t1:=hf.t1;have hz:=aFU (t:=(stT k).ti+1) J J;have hd:=P3 (n:=(stT k).ti+1) J 4 J J;unfold WT Fl;rw[K0<|DG h];simp only[A9,h,AF,A7,Hj h,LB<|DG h];rcases tf k.up with e|e
 .simp only[e,AF,A7,A5];rw[Ac J J,JU J J];simp only[A9];rw[A8<|AZ (by rw[BU];simp;omega)];rw[show OX (tKp k,B [116,105,109,101,32]++Bb ((stT k).ti+1),())=_ from iw hk (r:=Fw<|(stT k).ti+1) J];rfl
 .simp only[e,AK,A5,A7]
def LV(n:A6):A4:=B [111,119,110,32]++wr n
def Dz(k:AA)(tt un:Int)(tx:A4):AA×Int:=
 if k.up&&B1 ⟨k.id,(stT k).nx,tt,un,tx⟩ then
  ((wrR k (LV ⟨k.id,(stT k).nx,tt,un,tx⟩) U).1,if(wrR k (LV ⟨k.id,(stT k).nx,tt,un,tx⟩) U).2 then(stT k).nx else 0)
 else(k,0)
def rU{n:A6}:wr n≠noB:=by
 intro h;have h1:(wr n).size=0:=by rw[h];rfl
 unfold wr at h1;simp only[C5,BU,Bh,CN]at h1;omega
def aFp:DP (B [])=A0:=by
 unfold DP;split
 .rename_i h;obtain⟨n,_,h⟩:=h;exact absurd h rU
 .rfl
def aHi:Cd [111,119,110]:=by unfold Cd;decide
def nK:Cd [116,97,107,101]:=by unfold Cd;decide
def aFn{st:AH}{w:List UInt8}(hk:Ay st=U)(hw:Cd w)(h:B w=Dm\/B w=Ea):BM st (B (w++[32])++noB)=A0:=by
 cases hc:BM st (B (w++[32])++noB) with
 | none=>rfl
 | some o=>
  exfalso;obtain⟨a,_⟩:=(IC hk).1 hc;rw[IH (w:=w) (r:=[]) hw (by rw[Ge,L_B];simp[L,noB])]at a;have h2:∀v,v=Dm\/v=Ea->Bd st v (B [])=A0:=by
   rintro v (rfl|rfl)
   .unfold Bd;rw[AD<|by decide,A8<|by decide,aFp]
   .unfold Bd;rw[AD<|by decide,A8<|by decide,aFp]
  rw[h2 _ h]at a;cases a
def aHP{k:AA}{r:A4}{f:Bool}(h:BM (stT k) r=A0):wrR k r f=(k,A3):=by
 unfold wrR;rw[h]
def RF{k:AA}{r:A4}{f:Bool}(h:(wrR k r f).2=A3):(wrR k r f).1=k:=by
 unfold wrR at h ⊢;split at h
 .rfl
 .cases h
def ah9{k:AA}(h:Aj k=U)(tt un:Int){tx:A4}(ht:tx.size<=1048576):Wn (tKp k,tt,un,tx,())=I ((tKp (Dz k tt un tx).1,(Dz k tt un tx).2,()),()):=by
 have hk:=Bu h;unfold Wn Dz;rw[M7<|DG h];simp only[A9,h,AF,A7,On h,ND<|DG h,Wm ht];rcases tf k.up with e|e
 .rcases tf (B1 ⟨k.id,(stT k).nx,tt,un,tx⟩) with e2|e2
  .have hz:=c8 (w:=B [111,119,110,32]) (by rw[BU];decide) e2;simp only[e,e2,AF,Bn,Dq,A5];rw[AD (by rw[BI rU];exact Ca),A8<|AZ (by rw[C5]at hz;omega)];rw[show L9 (tKp k,B [111,119,110,32]++wr ⟨k.id,(stT k).nx,tt,un,tx⟩,U,())=_ from Wz hk.Ls (r:=LV ⟨k.id,(stT k).nx,tt,un,tx⟩) hz U];simp only[A9];rcases tf (wrR k (LV ⟨k.id,(stT k).nx,tt,un,tx⟩) U).2 with e3|e3
   .simp only[e3,AF,A7,A5]
   .simp only[e3,AK,A7,A5,RF e3]
  .simp only[e,e2,AF,Bn,Bc,A7,Aa,A5]
 .simp only[e,AK,C0,AS,A5,A7]
def ahh{k:AA}(h:Aj k=U)(tt un:Int){tx:A4}(ht:tx.size<=1048576):Wd (tKp k,tt,un,tx,())=I ((tKp (Dz k tt un tx).1,(Dz k tt un tx).2,()),()):=by
 have hk:=Bu h;unfold Wd Dz;rw[K0<|DG h];simp only[A9,h,AF,A7,Hj h,LB<|DG h,Wc ht];rcases tf k.up with e|e
 .rcases tf (B1 ⟨k.id,(stT k).nx,tt,un,tx⟩) with e2|e2
  .have hz:=c8 (w:=B [111,119,110,32]) (by rw[BU];decide) e2;simp only[e,e2,AF,A7,Dq,A5];rw[A8<|AZ (by rw[C5]at hz;omega)];rw[show OX (tKp k,B [111,119,110,32]++wr ⟨k.id,(stT k).nx,tt,un,tx⟩,())=_ from iw hk (r:=LV ⟨k.id,(stT k).nx,tt,un,tx⟩) hz];simp only[A9];rcases tf (wrR k (LV ⟨k.id,(stT k).nx,tt,un,tx⟩) U).2 with e3|e3
   .simp only[e3,AF,A7,A5]
   .simp only[e3,AK,A7,A5]
  .simp only[e,e2,AF,A7,Bc];have hb:BM (stT k) (B [111,119,110,32]++noB)=A0:=aFn hk.kok aHi<|.inl rfl;have hz0:(B [111,119,110,32]++noB).size<=1048576:=by rw[C5,BU];show 4+0<=1048576;omega
   have hl:=iw hk (r:=B [111,119,110,32]++noB) hz0;rw[aHP hb]at hl;rw[A8<|AZ (show(B [111,119,110,32]).size+noB.size<=4611686018427387904 by rw[BU];show 4+0<=4611686018427387904;omega),hl];rfl
 .simp only[e,AK,AS,A5,A7]
def Dg(k:AA)(fr nu:Int):AA×A6×Bool:=
 if k.up&& !decide (Ab (stT k).inbox fr nu<0) then
  ((wrR k (Cc CQ fr nu (nA (stT k).inbox (Ab (stT k).inbox fr nu).toNat).un) U).1,
   (if(wrR k (Cc CQ fr nu (nA (stT k).inbox (Ab (stT k).inbox fr nu).toNat).un) U).2 then nA (stT k).inbox (Ab (stT k).inbox fr nu).toNat else zN),
   (wrR k (Cc CQ fr nu (nA (stT k).inbox (Ab (stT k).inbox fr nu).toNat).un) U).2)
 else(k,zN,A3)
def SC(l:List A6)(i:Int): @rd A6 (dfl .note) l i=nA l i.toNat:=rfl
def TY{n:A6}(h:B1 n=U):(0<=n.fr/\n.fr<=999)/\(0<=n.nu/\n.nu<=999)/\(0<=n.un/\n.un<=999)/\isN n.fr=U/\isN n.to=U/\inB n.nu 1 99=U/\inB n.un 1 999=U/\n.tx.size<=24/\1<=n.tx.size:=by
 unfold B1 at h;simp only[AG]at h;obtain⟨a,b,c,d,e⟩:=h;have a1:=Ad.1 a;have c1:=Ad.1 c;have d1:=Ad.1 d;unfold Lk at e;rw[AG]at e;have e1:=Ad.1 e.1;exact⟨J,J,J,a,b,c,d,J,J⟩
def Yi{w:A4}{a b c:Int}(hw:w.size<=10)(ha:0<=a/\a<=999)(hb:0<=b/\b<=999)(hc:0<=c/\c<=999):(Cc w a b c).size<=100:=by
 have h1:=HY ha.1 ha.2;have h2:=HY hb.1 hb.2;have h3:=HY hc.1 hc.2;unfold Cc;simp only[C5,BU,Bh,CN];omega
def aDW{a b c:Int}(ha:0<=a/\a<=999)(hb:0<=b/\b<=999)(hc:0<=c/\c<=999):X0 (a,b,c,())=I ((((((Bb a++B [32])++Bb b)++B [32])++Bb c),()),()):=by
 have h1:=HY ha.1 ha.2;have h2:=HY hb.1 hb.2;have h3:=HY hc.1 hc.2;unfold X0;simp only[G7 (n:=a) J J,G7 (n:=b) J J,G7 (n:=c) J J,A9];rw[A8<|AZ (by simp only[C5,BU,Bh,CN];omega),A8<|AZ (by simp only[C5,BU,Bh,CN];omega),A8<|AZ (by simp only[C5,BU,Bh,CN];omega),A8<|AZ (by simp only[C5,BU,Bh,CN];omega)]
def Yr(w:List UInt8)(a b c:Int):B (w++[32])++((((Bb a++B [32])++Bb b)++B [32])++Bb c)=Cc (B w) a b c:=by
 apply GG;unfold Cc;simp only[Ge,L_B,C9]
def ahB{k:AA}(h:Aj k=U)(fr nu:Int):Wp (tKp k,fr,nu,())=I ((tKp (Dg k fr nu).1,tN (Dg k fr nu).2.1,(Dg k fr nu).2.2,()),()):=by
 have hk:=Bu h;have hf:=Bx hk.kok;have il:=hf.il;unfold Wp Dg;rw[M7<|DG h];simp only[A9,h,AF,A7,On h,ND<|DG h,K4 (l:=(stT k).inbox)<|show(stT k).inbox.length<=1048576 by omega];rcases tf k.up with e|e
 .by_cases hi:Ab (stT k).inbox fr nu<0
  .simp only[e,AF,Bn,AZ hi,A5,Bc,A7]
  .have hi':0<=Ab (stT k).inbox fr nu:=J
   obtain⟨i1,i2,i3,i4⟩:=FM hi';have hn:=HL hf.i i1;obtain⟨r1,r2,r3,_⟩:=TY hn;rw[i3]at r1;rw[i4]at r2;have hz:=Yi (w:=CQ) (by decide) r1 r2 r3;have hl:=Wz hk.Ls (r:=Cc CQ fr nu (nA (stT k).inbox (Ab (stT k).inbox fr nu).toNat).un) J U;simp only[e,AF,Bn,BI hi,A7,AK,Dq,A5,NS hi',SC,aDW r1 r2 r3,A9];rw[A8<|AZ (by rw[← Yr [101,97,116]]at hz;rw[C5]at hz;rw[show(B [101,97,116,32]).size=(B<|[101,97,116]++[32]).size from rfl];omega)];rw[show(B [101,97,116,32])=B ([101,97,116]++[32]) from rfl,Yr [101,97,116],hl];simp only[A9];rcases tf (wrR k (Cc CQ fr nu (nA (stT k).inbox (Ab (stT k).inbox fr nu).toNat).un) U).2 with e3|e3
   .simp only[e3,AF,A7,A5]
   .simp only[e3,AK,A7,A5,RF e3]
 .simp only[e,AK,C0,AS,A5,A7]
def ahj{k:AA}(h:Aj k=U)(fr nu:Int):Wf (tKp k,fr,nu,())=I ((tKp (Dg k fr nu).1,tN (Dg k fr nu).2.1,(Dg k fr nu).2.2,()),()):=by
 have hk:=Bu h;have hf:=Bx hk.kok;have il:=hf.il;unfold Wf Dg;rw[K0<|DG h];simp only[A9,h,AF,A7,Hj h,LB<|DG h,KA (l:=(stT k).inbox)<|show(stT k).inbox.length<=1048576 by omega];rcases tf k.up with e|e
 .by_cases hi:Ab (stT k).inbox fr nu<0
  .simp only[e,AF,Bn,AZ hi,A5,Bc,A7]
  .have hi':0<=Ab (stT k).inbox fr nu:=J
   obtain⟨i1,i2,i3,i4⟩:=FM hi';have hn:=HL hf.i i1;obtain⟨r1,r2,r3,_⟩:=TY hn;rw[i3]at r1;rw[i4]at r2;have hz:=Yi (w:=CQ) (by decide) r1 r2 r3;have hl:=iw hk (r:=Cc CQ fr nu (nA (stT k).inbox (Ab (stT k).inbox fr nu).toNat).un) J;simp only[e,AF,Bn,BI hi,A7,AK,Dq,A5,NS hi',SC,wP (w:=CQ) (by decide) r1 r2 r3,A9,hl];rcases tf (wrR k (Cc CQ fr nu (nA (stT k).inbox (Ab (stT k).inbox fr nu).toNat).un) U).2 with e3|e3
   .simp only[e3,AF,A7,A5]
   .simp only[e3,AK,A7,A5]
 .simp only[e,AK,C0,AS,A5,A7]
def EM(k:AA)(fr nu mix:Int):Frame×Bool:=
 if k.up&&(!decide (Ab (stT k).held fr nu<0)&&inB mix 0 999) then
  let n:=nA (stT k).held (Ab (stT k).held fr nu).toNat
  (⟨1,k.id,BT k.id n.to,n.fr,n.nu,n.to,n.un,n.tx.size,mix,Gb n.tx mix⟩,U)
 else(zF,A3)
def ahA{k:AA}(sm:Fc k)(fr nu mix:Int):Wo (tKp k,fr,nu,mix,())=I ((tF (if Aj k then EM k fr nu mix else(zF,A3)).1,(if Aj k then EM k fr nu mix else(zF,A3)).2,()),()):=by
 unfold Wo EM;rw[M7 sm];rcases tf (Aj k) with h|h
 .have hk:=Bu h;have hf:=Bx hk.kok;have hl:=hf.hl;rcases tf k.up with e|e
  .simp only[A9,h,e,AF,Gl,A7,A5,On h,K4 (l:=(stT k).held)<|show(stT k).held.length<=1048576 by omega,IB,D8,D0,Fa];by_cases hi:Ab (stT k).held fr nu<0
   .simp only[AZ hi,C0,A5,AF,AS,Bc,A7]
   .have hi':0<=Ab (stT k).held fr nu:=J
    rcases tf (inB mix 0 999) with e2|e2
    .simp only[BI hi,e2,AF,Gl,A7,AK,Dq,A5,NS hi',SC,kD,amv,A9]
    .simp only[BI hi,e2,AK,Da,A5,Bc,A7]
  .simp only[A9,h,e,AF,AK,Da,A5,AS,A7]
 .simp only[A9,h,AK,C0,A5,A7]
def ahi{k:AA}(sm:Fc k)(fr nu mix:Int):We (tKp k,fr,nu,mix,())=I ((tF (if Aj k then EM k fr nu mix else(zF,A3)).1,(if Aj k then EM k fr nu mix else(zF,A3)).2,()),()):=by
 unfold We EM;rw[K0 sm];rcases tf (Aj k) with h|h
 .have hk:=Bu h;have hf:=Bx hk.kok;have hl:=hf.hl;rcases tf k.up with e|e
  .simp only[A9,h,e,AF,A7,A5,EW];rcases tf (inB mix 0 999) with e2|e2
   .simp only[e2,AF,A7,Hj h,KA (l:=(stT k).held)<|show(stT k).held.length<=1048576 by omega,A9];by_cases hi:Ab (stT k).held fr nu<0
    .simp only[AZ hi,A5,AF,AS,Bc,A7]
    .have hi':0<=Ab (stT k).held fr nu:=J
     simp only[BI hi,A7,AK,Dq,A5,NS hi',SC,Wq,anW,A9]
   .simp only[e2,AK,A5,Bc,A7]
  .simp only[A9,h,e,AF,AK,A5,AS,A7]
 .simp only[A9,h,AK,A5,A7]
def Fm(k:AA):AA×Bool:=if k.up then(pkM k,U) else(k,A3)
def aaY{k:AA}{st:AH}(h:I5 k st):Jb k.log k.fo (CJ st)=((DF<|CJ st,((DF<|CJ st).size:Int)),U):=by
 have hrs:=YA h.kok;have hps:=R4 h.kok;unfold Jb;rw[A8 h.sh,A8];rw[AG];refine⟨?_,AZ J⟩;unfold G3;rw[Cb];exact λx hx=>by
  have:=hrs.1 x hx;exact Ad.2 J
def afo{k:AA}(h:Aj k=U):WD (tKp k,())=I ((tKp (Fm k).1,(Fm k).2,()),()):=by
 have hk:=Bu h;have hsm:=RD<|Bx hk.kok;have hP:=zA (lg:=k.log) (fo:=k.fo) (rs:=CJ<|stT k) (R8 h)<|Zt hk.kok;rw[aaY hk.Ls]at hP;unfold WD Fm;rw[M7<|DG h];simp only[A9,h,AF,A7,On h,ND<|DG h,aAg hsm,hk.kok,A5,hP];rcases tf k.up with e|e
 .simp only[e,AF,Gl,A7,A5];unfold pkM;simp only[e]
 .simp only[e,AK,C0,A5,A7]
def ag7{k:AA}(h:Aj k=U):WV (tKp k,())=I ((tKp (Fm k).1,(Fm k).2,()),()):=by
 have hk:=Bu h;have hsm:=RD<|Bx hk.kok;have hP:=aAF (lg:=k.log) (fo:=k.fo) (rs:=CJ<|stT k) (R8 h)<|Zt hk.kok;rw[aaY hk.Ls]at hP;unfold WV Fm;rw[K0<|DG h];simp only[A9,h,AF,A7,LB<|DG h];rcases tf k.up with e|e
 .simp only[e,AF,A7,A5,Hj h,aAV hsm,hk.kok,hP,A9];unfold pkM;simp only[e]
 .simp only[e,AK,A5,A7]
def Dl(k:AA):AA×Bool:=if k.up&& !decide (k.fo=(k.log.size:Int)) then(foM k,U) else(k,A3)
def aes{k:AA}(h:Aj k=U):W4 (tKp k,())=I ((tKp (Dl k).1,(Dl k).2,()),()):=by
 have hf:=Ds h;have hF:=vR (lg:=k.log) (fo:=k.fo)<|R8 h;rw[show KP k.log k.fo=(k.log,(k.log.size:Int)) from A8 hf.sh]at hF;unfold W4 Dl;rw[M7<|DG h];simp only[A9,h,AF,A7,ND<|DG h];rcases tf k.up with e|e<;>rcases tfp (k.fo=(k.log.size:Int)) with e2|e2<;>simp only[e,e2,Aa,Ag,AF,AK,Da,C0,Gl,Dq,Bc,AS,A5,A7,hF,A9];unfold foM;simp only[e]
def afJ{k:AA}(h:Aj k=U):WM (tKp k,())=I ((tKp (Dl k).1,(Dl k).2,()),()):=by
 have hf:=Ds h;unfold WM Dl;rw[K0<|DG h];simp only[A9,h,AF,A7,LB<|DG h];rcases tf k.up with e|e<;>rcases tfp (k.fo=(k.log.size:Int)) with e2|e2<;>simp only[e,e2,Aa,Ag,AF,AK,Da,C0,Gl,Dq,Bc,AS,A5,A7];rw[show Of ((tKp k,()))=_ from jT hf.sh];rfl
def aIf{k:AA}(h:Aj k=U)(keep:Int):(faM k keep)=⟨k.id,A3,(Mj k.log k.fo keep).1,(Mj k.log k.fo keep).2,[]⟩:=by
 unfold faM Mj Ei;rw[A8 (Ds h).sh]
def afq{k:AA}(sm:Fc k)(keep:Int):WH (tKp k,keep,())=I ((tKp<|if Aj k then faM k keep else zKp,()),()):=by
 unfold WH;rw[M7 sm];rcases tf (Aj k) with h|h
 .simp only[A9,h,AF,A7,A5,ah7 sm.1,aIf h]
 .simp only[A9,h,AK,A5,A7]
def ag8{k:AA}(sm:Fc k)(keep:Int):WW (tKp k,keep,())=I ((tKp<|if Aj k then faM k keep else zKp,()),()):=by
 unfold WW;rw[K0 sm];rcases tf (Aj k) with h|h
 .simp only[A9,h,AF,A7,A5,ahe sm.1,aIf h]
 .simp only[A9,h,AK,A5,A7]
def aIj{k:AA}(h:Aj k=U)(hu:k.up=A3):k.AM=[]:=by
 rcases(Ds h).up with h1|h1
 .rw[hu]at h1;cases h1
 .exact E7 h1
def afn{k:AA}(h:Aj k=U):WC (tKp k,())=I ((tKp<|riM k,()),()):=by
 unfold WC riM;rw[M7<|DG h];simp only[A9,h,AF,A7];rcases tf k.up with e|e
 .simp only[e,A5,ND<|DG h,A9];rw[← e]
 .simp only[e,A7,aIj h e]
def ag6{k:AA}(h:Aj k=U):WU (tKp k,())=I ((tKp<|riM k,()),()):=by
 unfold WU riM;rw[K0<|DG h];simp only[A9,h,AF,A7,LB<|DG h]
def aaf{hv:List AJ}{i:Nat}(h:i<hv.length)(x:AJ):hA (hv.set i x) i=x:=by
 rw[hA,BC,bN h];rfl
def amp{l:List AJ}{f n:Int}(hl:l.length<=1048576):ia (l,f,n,())=I ((EP l f n,()),()):=by
 have h:uS (l,f,n,0,())=I (if EP l f n<0 then .inr () else .inl (EP l f n,())):=
  Qo (λi=>(l,f,n,(i:Int),())) l.length (λi=>A1 ((hA l i).fr=f)&&A1 ((hA l i).nu=n)) (λi=>(i,())) () (λi hi=>by
   unfold iG;simp only[Ir hi,AU hi,A5,Me,Fa,Dk hi hl];rcases tfp ((hA l i).fr=f) with e|e<;>rcases tfp ((hA l i).nu=n) with e2|e2<;>simp only[e,e2,Aa,Ag,Dq,Bc,AS,A5,A7]) (by
   unfold iG;simp only[HM,A7])
 unfold ia;rw[h];by_cases e':EP l f n<0
 .have:EP l f n= -1:=by
   rcases GR l.length (λi=>A1 ((hA l i).fr=f)&&A1 ((hA l i).nu=n)) with h|⟨i,h,_⟩
   .exact h.1
   .have:EP l f n=(i:Int):=h;omega
  rw[A8 e',this];rfl
 .rw[AD e'];rfl
def Ta(l:List AJ)(f n:Int):EP l f n<0\/ ∃i:Nat,EP l f n=(i:Int)/\i<l.length/\(hA l i).fr=f/\(hA l i).nu=n:=by
 rcases GR l.length (λi=>A1 ((hA l i).fr=f)&&A1 ((hA l i).nu=n)) with h|⟨i,h,h2,h3,_⟩
 .left;have:EP l f n= -1:=h.1;omega
 .right;rw[AG]at h3;exact⟨i,h,h2,BX h3.1,BX h3.2⟩
def Aw(hv:List AJ)(f:Frame):List AJ×Nat:=
 if EP hv f.fr f.nu<0 then((if 3<=hv.length then hv.drop 1 else hv)++[⟨f.fr,f.nu,f.to,f.un,f.sz,[]⟩],(if 3<=hv.length then hv.drop 1 else hv).length)
 else(hv,(EP hv f.fr f.nu).toNat)
def PB{hv:List AJ}{f:Frame}:(Aw hv f).2<(Aw hv f).1.length:=by
 unfold Aw;rcases Ta hv f.fr f.nu with h|⟨i,h1,h2,_⟩
 .rw[A8 h];simp
 .rw[AD J];show(EP hv f.fr f.nu).toNat<hv.length;omega
def U3{hv:List AJ}{f:Frame}(h:hv.length<=3):(Aw hv f).1.length<=3:=by
 unfold Aw;split
 .simp only[B0,Jq];split
  .rw[ES];omega
  .omega
 .exact h
def Dv(mix:Int)(m:AX):Bool:= !decide (m.nu=mix)
def D4(got:List AX)(mix:Int)(da:A4):List AX:=
 (if 14<=(got.filter<|Dv mix).length then(got.filter<|Dv mix).drop 1 else got.filter (Dv mix))++[⟨mix,da⟩]
def aGn{p:AX->Bool}(pre:List AX)(m:AX):(pre++[m]).filter p=pre.filter p++if p m then [m] else []:=by
 rw[Rl];congr 1;simp only[KT,bJ]
def aqL{mix:Int}{da:A4}(post:List AX):∀(pre:List AX),(pre++post).length<=1048576->
  gw ((mix,da,()),pre.filter<|Dv mix,pre++post,((pre++post).length:Int),(pre.length:Int),())=I (.inr ((mix,da,()),(pre++post).filter<|Dv mix,())):=by
 induction post with
 | nil=>
  intro pre _;refine BE ?_;unfold YK;simp only[CW,HM,A7]
 | cons m post ih=>
  intro pre hl;have hlen:pre.length<(pre++m::post).length:=by simp
  have hw:=Dk hlen hl;have hf:(pre.filter<|Dv mix).length<=pre.length:=J4 _ _;have:=ih (pre++[m]) (by rw[← snoc];exact hl);rw[← snoc]at this;refine Ap ?_ this;unfold YK;simp only[Ir hlen,A5,AU hlen,Md,hw,aGn,@B0 _ pre [m],Jq];rcases tfp (m.nu=mix) with e|e
  .have:Dv mix m=A3:=by unfold Dv;simp only[e,Aa,AF]
   simp only[e,this,Aa,AF,A7,CW]
  .have:Dv mix m=U:=by unfold Dv;simp only[e,Ag,AK]
   simp only[e,this,Ag,AK,A5];rw[A8<|BG (by simp at hl ⊢; omega)]
def arQ{got:List AX}{mix:Int}{da:A4}(hl:got.length<=1048576):YS (got,(mix,da,()),())=I ((D4 got mix da,()),()):=by
 have hf:(got.filter<|Dv mix).length<=got.length:=J4 _ _;unfold YS D4;rw[show gw ((mix,da,()),[],got,(got.length:Int),0,())=_ from aqL got [] hl];simp only[AP,A9,En];by_cases h:14<=(got.filter<|Dv mix).length
 .rw[A8<|AZ J,A8 h,A8 (by simp;omega),A8<|GA (by rw[ES];omega)<|by simp];rfl
 .rw[AD (by rw[BI J];exact Ca),AD h,A8<|GA J<|by simp]
def aqd{k:Int×Bool×A4×Int×List AJ×A2}{f:Frame}{z:Int×Bool×A4×Int×List AJ×A2}{i:Int}{h:AJ}(post:List AX):∀(pre:List AX),h.got=pre++post->(pre++post).length<=1048576->
  fe (k,tF f,z,i,(h.fr,h.nu,h.to,h.un,h.sz,h.got,()),pre.filter<|Dv f.mix,(pre.length:Int),())=I (.inr (k,tF f,z,i,(h.fr,h.nu,h.to,h.un,h.sz,h.got,()),h.got.filter<|Dv f.mix,())):=by
 induction post with
 | nil=>
  intro pre hg _;rw[CW]at hg;refine BE ?_;unfold ib;simp only[hg,HM,A7]
 | cons m post ih=>
  intro pre hg hl;have hlen:pre.length<(pre++m::post).length:=by simp
  have hw:=Dk hlen hl;have hf:(pre.filter<|Dv f.mix).length<=pre.length:=J4 _ _;have:=ih (pre++[m]) (by rw[hg,snoc]) (by rw[← snoc];exact hl);refine Ap ?_ this;unfold ib;simp only[hg,Ir hlen,A5,AU hlen,Md,hw,aGn,@B0 _ pre [m],Jq];rcases tfp (m.nu=f.mix) with e|e
  .have:Dv f.mix m=A3:=by unfold Dv;simp only[e,Aa,AF]
   simp only[e,this,Aa,AF,A7,CW]
  .have:Dv f.mix m=U:=by unfold Dv;simp only[e,Ag,AK]
   simp only[e,this,Ag,AK,A5];rw[A8<|BG (by simp at hl ⊢; omega)]
def FU(hv:List AJ)(i:Nat):List AJ:=hv.take i++hv.drop (i+1)
def aB5{hv:List AJ}{i:Nat}(hi:i<hv.length)(hl:hv.length<=1048576):QW (hv,(i:Int),())=I ((FU hv i,()),()):=by
 unfold QW FU;simp only[BZ,En];rw[Dk hi hl,A8 (by simp;omega),A8<|GA (l:=([]:List AJ)) (by simp) (by simp;omega),A8 (by simp;omega),A8<|GA (by simp;omega) (by simp;omega),BZ]
def DA(hv:List AJ)(i:Nat)(f:Frame):List AJ:=hv.set i ⟨(hA hv i).fr,(hA hv i).nu,(hA hv i).to,(hA hv i).un,(hA hv i).sz,D4 (hA hv i).got f.mix f.da⟩
def Mg(h:AJ)(f:Frame):Bool:=A1 (h.to=f.to)&&(A1 (h.un=f.un)&&A1 (h.sz=f.sz))
def apK{k:AA}(sm:Fc k)(h3:k.AM.length<=3)(f:Frame):
  jX (tKp k,tF f,())=I ((if Mg (hA (Aw k.AM f).1 (Aw k.AM f).2) f then((k.id,k.up,k.log,k.fo,DA (Aw k.AM f).1 (Aw k.AM f).2 f,()),((Aw k.AM f).2:Int),()) else((k.id,k.up,k.log,k.fo,(Aw k.AM f).1,()),-1,()),())):=by
 obtain⟨id,up,lg,fo,hv⟩:=k;obtain⟨sl,hl,hs⟩:=sm;simp only at sl hl hs h3;unfold jX;simp only[amp hl,A9];have Ey:=PB (hv:=hv) (f:=f);have Lp:=U3 (hv:=hv) (f:=f) h3;have UX:(hA (Aw hv f).1 (Aw hv f).2).got.length<=1048576:=by
  unfold Aw;rcases Ta hv f.fr f.nu with h|⟨i,h1,h2,_⟩
  .rw[A8 h];simp only;rw[hA,BC,Fo<|Az _];simp
  .rw[AD J];show(hA hv (EP hv f.fr f.nu).toNat).got.length<=1048576;rw[h1,BZ,IN h2];exact(hs _<|CV h2).1
 have sV:∀ {Ω:Type} (F:(Int×Bool×A4×Int×List AJ×A2)×(Int×Int×Int×Int×Int×Int×Int×Int×Int×A4×A2)×(Int×Bool×A4×Int×List AJ×A2)×Int×A2->Option Ω),
   BW F ((if(A1<|EP hv f.fr f.nu<0) then
    (BW (X:=(Int×Bool×A4×Int×List AJ×A2)×(Int×Int×Int×Int×Int×Int×Int×Int×Int×A4×A2)×(Int×Bool×A4×Int×List AJ×A2)×A2) (λj7=>
    (if Af (j7.1.2.2.2.2.1.length+([(AJ.mk j7.2.1.2.2.2.1 j7.2.1.2.2.2.2.1 j7.2.1.2.2.2.2.2.1 j7.2.1.2.2.2.2.2.2.1 j7.2.1.2.2.2.2.2.2.2.1 ([]:List AX))]:List AJ).length) then
    let v9:=(w64<|((j7.1.2.2.2.2.1++([(AJ.mk j7.2.1.2.2.2.1 j7.2.1.2.2.2.2.1 j7.2.1.2.2.2.2.2.1 j7.2.1.2.2.2.2.2.2.1 j7.2.1.2.2.2.2.2.2.2.1 ([]:List AX))]:List AJ)).length:Int) - 1)
    I (.inr ((j7.1.1,j7.1.2.1,j7.1.2.2.1,j7.1.2.2.2.1,(j7.1.2.2.2.2.1++([(AJ.mk j7.2.1.2.2.2.1 j7.2.1.2.2.2.2.1 j7.2.1.2.2.2.2.2.1 j7.2.1.2.2.2.2.2.2.1 j7.2.1.2.2.2.2.2.2.2.1 ([]:List AX))]:List AJ)),()),j7.2.1,j7.2.2.1,v9,()))
    else A0))
    ((if(A1<|3<=(hv.length:Int)) then
    (QW (hv,0,())).bind λr8=>
    I (.inr ((id,up,lg,fo,r8.1),tF f,(0,A3,noB,0,([]:List AJ),()),()))
    else
    I (.inr ((id,up,lg,fo,hv,()),tF f,(0,A3,noB,0,([]:List AJ),()),())))))
    else
    I (.inr ((id,up,lg,fo,hv,()),tF f,(0,A3,noB,0,([]:List AJ),()),(EP hv f.fr f.nu,())))))=F ((id,up,lg,fo,(Aw hv f).1,()),tF f,(0,A3,noB,0,[],()),((Aw hv f).2:Int),()):=by
  intro Ω F;unfold Aw;rcases Ta hv f.fr f.nu with h|⟨i,h1,h2,_⟩
  .rw[A8<|AZ h,A8 h];by_cases h4:3<=hv.length
   .have hd:=aB5 (hv:=hv) (i:=0) J hl;rw[A8<|AZ J,show QW (hv,0,())=_ from hd];simp only[A9,Bj,A8 h4];rw[show FU hv 0=hv.drop 1 from by simp[FU],A8<|GA (by simp;omega)<|by simp,Bj,Ac (by first|(simp;done)|(simp;omega)) (by first|(simp;done)|(simp;omega))];congr 1;simp
   .rw[AD (by rw[BI J];exact Ca)];simp only[Bj,AD h4];rw[A8<|GA J<|by simp,Bj,Ac (by first|(simp;done)|(simp;omega)) (by first|(simp;done)|(simp;omega))];congr 1;simp
  .rw[AD (by rw[BI J];exact Ca),AD<|show ¬EP hv f.fr f.nu<0 by omega,Bj];simp only;rw[h1,BZ]
 rw[sV];revert Ey Lp UX;generalize (Aw hv f).1=l;generalize (Aw hv f).2=i;intro Ey Lp UX;unfold Mg;have hff:((hA l i).got.filter<|Dv f.mix).length<=(hA l i).got.length:=J4 _ _;simp only[AU Ey,A5,Me,BZ];rcases tfp ((hA l i).to=f.to) with e1|e1<;>simp only[e1,Aa,Ag,AF,AK,A7,A5,AY,AS];rcases tfp ((hA l i).un=f.un) with e2|e2<;>simp only[e2,Aa,Ag,AF,AK,A7,A5,AY,AS];rcases tfp ((hA l i).sz=f.sz) with e3|e3<;>simp only[e3,Aa,Ag,AF,AK,A7,A5];have hgo:=aqd (k:=(id,up,lg,fo,l,())) (f:=f) (z:=(0,A3,noB,0,[],())) (i:=(i:Int)) (h:=hA l i) (hA l i).got [] rfl UX;rw[show fe ((id,up,lg,fo,l,()),tF f,(0,A3,noB,0,[],()),(i:Int),((hA l i).fr,(hA l i).nu,(hA l i).to,(hA l i).un,(hA l i).sz,(hA l i).got,()),[],0,())=_ from hgo];simp only[AP,A9];unfold DA D4;by_cases h:14<=((hA l i).got.filter<|Dv f.mix).length
 .rw[A8<|AZ J,A8 h,A8 (by simp;omega),A8<|GA (l:=([]:List AX)) (by simp) (by rw[ES];omega),Bj];simp only[En,show AR 1=1 from rfl];rw[A8<|GA (by rw[ES];omega)<|by simp,A8<|AU Ey];rfl
 .rw[AD (by rw[BI J];exact Ca),AD h,Bj];dsimp only;rw[A8<|GA J<|by simp,A8<|AU Ey];rfl
def Dp(kind:Int)(f:Frame):Frame:=⟨kind,f.dst,f.src,f.fr,f.nu,f.to,f.un,0,0,noB⟩
def JT(n:A6):A4:=B [116,97,107,101,32]++wr n
abbrev Gx(k:AA)(hv:List AJ):AA:=⟨k.id,k.up,k.log,k.fo,hv⟩
def JV(k:AA)(n:A6)(f:Frame):AA×List Frame:=
 if B1 n&&(wrR k (JT n) U).2 then((wrR k (JT n) U).1,[Dp 2 f]) else(k,[])
def Jc(k:AA)(f:Frame):AA×List Frame:=
 if Mg (hA (Aw k.AM f).1 (Aw k.AM f).2) f then
  (if(FQ f.sz<|D4 (hA (Aw k.AM f).1 (Aw k.AM f).2).got f.mix f.da).2 then
   JV (Gx k<|FU (DA (Aw k.AM f).1 (Aw k.AM f).2 f) (Aw k.AM f).2) ⟨f.fr,f.nu,f.to,f.un,(FQ f.sz<|D4 (hA (Aw k.AM f).1 (Aw k.AM f).2).got f.mix f.da).1⟩ f
  else(Gx k<|DA (Aw k.AM f).1 (Aw k.AM f).2 f,[]))
 else(Gx k (Aw k.AM f).1,[])
def ED(k:AA)(f:Frame):AA×List Frame:=
 if f.un<=(stT k).ti then(k,[Dp 3 f])
 else if 0<=Ab (stT k).held f.fr f.nu\/0<=Bt (stT k).marks f.fr f.nu then(foM k,[Dp 2 f])
 else if f.fr=k.id then(k,[])
 else Jc k f
def aHJ{s:Int}{l:List AX}:(FQ s l).1.size<=24:=by
 unfold FQ;split
 .rename_i h;have h1:=Ad.1 h;split
  .exact D7 _
  .rename_i c hc;split
   .have hb:inB (B5 (s+3) 4) 1 6=U:=by
     have hd:B5 (s+3) 4=(s+3) / 4:=Gj J;exact Ad.2 J
    have hk:=qI hb l;have hz:=ZT hk.all hc;have hz0:noB.size=0:=rfl;have hd:B5 (s+3) 4=(s+3) / 4:=Gj J;rw[hk.1,hz0]at hz;rw[G9 J];omega
   .exact D7 _
 .exact D7 _
def aGj(got:List AX)(mix:Int)(da:A4):(D4 got mix da).length<=got.length+1:=by
 have hf:(got.filter<|Dv mix).length<=got.length:=J4 _ _;unfold D4;simp only[B0,Jq];split
 .rw[ES];omega
 .omega
def aay{h:AJ}(ok:GD h=U):h.got.length<=14:=by
 unfold GD at ok;simp only[AG]at ok;have h1:=BX ok.2.2.2.2.2.1;omega
def aGt{hv:List AJ}{f:Frame}(hs:∀h∈hv,GD h=U):(hA (Aw hv f).1 (Aw hv f).2).got.length<=14:=by
 unfold Aw;rcases Ta hv f.fr f.nu with h|⟨i,h1,h2,_⟩
 .rw[A8 h];simp only;rw[hA,BC,Fo<|Az _];simp
 .rw[AD J];show(hA hv (EP hv f.fr f.nu).toNat).got.length<=14;rw[h1,BZ,IN h2];exact aay<|hs _<|CV h2
def aHQ{k:AA}{st:AH}(h:I5 k st)(hv:List AJ):I5 (Gx k hv) st:=⟨h.sh,h.st⟩
def aGh{k:AA}(h:Aj k=U):∀x∈k.AM,GD x=U:=by
 intro x hx;obtain⟨i,hi,rfl⟩:=PW hx;have:=(Ds h).hv i hi;unfold G2 at this;rw[AG]at this;exact this.1
def aqe{k:AA}(h:Aj k=U){f:Frame}(hf:C4 f=U)(h1:f.ki=1):X1 (tKp k,tF f,())=I ((tKp (ED k f).1,(ED k f).2,()),()):=by
 have hk:=Bu h;have hkf:=Bx hk.kok;have sm:=DG h;have kf:=Ds h;have hF:=vR (lg:=k.log) (fo:=k.fo)<|R8 h;rw[show KP k.log k.fo=(k.log,(k.log.size:Int)) from A8 kf.sh]at hF;have hl:=hkf.hl;have ml:=hkf.ml;have hfr:inB f.sz 1 24=U/\inB f.mix 0 999=U:=by
  unfold C4 JX at hf;simp only[AG]at hf;have:=hf.2.2.2.2.2.2;rw[A8<|AZ h1]at this;simp only[AG]at this;exact⟨this.1,this.2.1⟩
 have hsz:=Ad.1 hfr.1;have hmx:E0 (B5 (f.sz+3) 4) f.mix=U:=by
  have hd:B5 (f.sz+3) 4=(f.sz+3) / 4:=Gj J;unfold E0;rw[hfr.2,Lh];exact Ad.2 J
 unfold X1 ED;simp only[On h,A9];by_cases c1:f.un<=(stT k).ti
 .rw[A8<|AZ c1,A8 c1];rfl
 .rw[AD (by rw[BI c1];exact Ca),AD c1];simp only[K4 (l:=(stT k).held)<|show(stT k).held.length<=1048576 by omega,TC (l:=(stT k).marks)<|show(stT k).marks.length<=1048576 by omega,A9,D8,D0,Fa,A5];by_cases c2:0<=Ab (stT k).held f.fr f.nu\/0<=Bt (stT k).marks f.fr f.nu
  .rw[A8 (by rw[Br];exact c2.imp AZ AZ),A8 c2];simp only[hF,A9];rfl
  .rw[AD (by rw[Br];exact λh=>c2<|h.imp BX BX),AD c2];simp only[iF (n:=f.sz) J J,YT,hmx,D8,D0,Fa,A5,AF,Ep];by_cases c3:f.fr=k.id
   .rw[A8<|AZ c3,A8 c3]
   .rw[AD (by rw[BI c3];exact Ca),AD c3];have oV:=apK sm kf.hl f;rw[oV];simp only[A9];unfold Jc;rcases tf (Mg (hA (Aw k.AM f).1 (Aw k.AM f).2) f) with c4|c4
    .have Ey:=PB (hv:=k.AM) (f:=f);have Lp:=U3 (hv:=k.AM) (f:=f) kf.hl;have hal:(DA (Aw k.AM f).1 (Aw k.AM f).2 f).length=(Aw k.AM f).1.length:=by unfold DA;rw[Gi]
     have oO:=aGt (f:=f)<|aGh h;have hgl:=aGj (hA (Aw k.AM f).1 (Aw k.AM f).2).got f.mix f.da;have UX:(hA (DA (Aw k.AM f).1 (Aw k.AM f).2 f) (Aw k.AM f).2).got=D4 (hA (Aw k.AM f).1 (Aw k.AM f).2).got f.mix f.da:=by
      unfold DA;rw[aaf Ey]
     simp only[c4,A5];rw[AD (by rw[BI J];exact Ca),A8<|AU (by rw[hal];exact Ey)];simp only[Me,UX,amt f.sz _<|show(D4 (hA (Aw k.AM f).1 (Aw k.AM f).2).got f.mix f.da).length<=1048576 by omega,A9];rcases tf (FQ f.sz<|D4 (hA (Aw k.AM f).1 (Aw k.AM f).2).got f.mix f.da).2 with c5|c5
     .simp only[c5,AF,A7,A5];rw[aB5 (by rw[hal];exact Ey) (by rw[hal];omega)];simp only[A9];rw[Wm (by have:=aHJ (s:=f.sz) (l:=D4 (hA (Aw k.AM f).1 (Aw k.AM f).2).got f.mix f.da);omega)];simp only[A9];unfold JV;generalize hn:(⟨f.fr,f.nu,f.to,f.un,(FQ f.sz<|D4 (hA (Aw k.AM f).1 (Aw k.AM f).2).got f.mix f.da).1⟩:A6)=n;rcases tf (B1 n) with c6|c6
      .have hz:=c8 (w:=B [116,97,107,101,32]) (by rw[BU];decide) c6;have hw:=Wz (aHQ hk.Ls<|FU (DA (Aw k.AM f).1 (Aw k.AM f).2 f) (Aw k.AM f).2) (r:=JT n) hz U;simp only[c6,A5,AY];rw[AD (by rw[BI rU];exact Ca),A8<|AZ (by rw[C5]at hz;omega)];rw[show L9 ((k.id,k.up,k.log,k.fo,FU (DA (Aw k.AM f).1 (Aw k.AM f).2 f) (Aw k.AM f).2,()),B [116,97,107,101,32]++wr n,U,())=_ from hw];simp only[A9];rcases tf (wrR (Gx k<|FU (DA (Aw k.AM f).1 (Aw k.AM f).2 f) (Aw k.AM f).2) (JT n) U).2 with c7|c7
       .simp only[c7,AF,A7,A5];rfl
       .simp only[c7,AK,A7,A5,RF c7]
      .simp only[c6,A7,Aa,A5,AS]
     .simp only[c5,AK,A7,A5]
    .simp only[c4,A7];rfl
def ahZ{k:AA}(h:Aj k=U){f:Frame}:Wb (tKp k,tF f,())=I ((tKp (ED k f).1,(ED k f).2,()),()):=by
 have hk:=Bu h;have hkf:=Bx hk.kok;have sm:=DG h;have kf:=Ds h;have hl:=hkf.hl;have ml:=hkf.ml;have hl3:=kf.hl;have hlen:k.AM.length<=1048576:=J
 unfold Wb ED;simp only[Hj h,A9];by_cases c1:f.un<=(stT k).ti
 .rw[A8<|AZ c1,A8 c1];rfl
 .rw[AD (by rw[BI c1];exact Ca),AD c1];simp only[KA (l:=(stT k).held)<|show(stT k).held.length<=1048576 by omega,TH (l:=(stT k).marks)<|show(stT k).marks.length<=1048576 by omega,A9,D8,D0,Fa,A5];by_cases c2:0<=Ab (stT k).held f.fr f.nu\/0<=Bt (stT k).marks f.fr f.nu
  .rw[A8 (by rw[Br];exact c2.imp AZ AZ),A8 c2,jT kf.sh];rfl
  .rw[AD (by rw[Br];exact λh=>c2<|h.imp BX BX),AD c2];by_cases c3:f.fr=k.id
   .rw[A8<|AZ c3,A8 c3]
   .rw[AD (by rw[BI c3];exact Ca),AD c3];simp only[aDH hlen,A9];have Ey:=PB (hv:=k.AM) (f:=f);have Lp:=U3 (hv:=k.AM) (f:=f) kf.hl;have oO:=aGt (f:=f)<|aGh h;have sV:∀ {Ω:Type} (F:(Int×Bool×A4×Int×List AJ×A2)×(Int×Int×Int×Int×Int×Int×Int×Int×Int×A4×A2)×(Int×Bool×A4×Int×List AJ×A2)×Int×A2->Option Ω),
      BW F ((if(A1<|EP k.AM f.fr f.nu<0) then
      (if Af (k.AM.length+([(AJ.mk f.fr f.nu f.to f.un f.sz ([]:List AX))]:List AJ).length) then
      (if(A1<|3<((k.AM++([(AJ.mk f.fr f.nu f.to f.un f.sz ([]:List AX))]:List AJ)).length:Int)) then
      (if(A1 (0<=1)&&A1 (1<=((k.AM++([(AJ.mk f.fr f.nu f.to f.un f.sz ([]:List AX))]:List AJ)).length:Int))) then
      let v22:=(w64<|((Bv (AR 1)<|k.AM++([(AJ.mk f.fr f.nu f.to f.un f.sz ([]:List AX))]:List AJ)).length:Int) - 1)
      I (.inr ((k.id,k.up,k.log,k.fo,(Bv (AR 1)<|k.AM++([(AJ.mk f.fr f.nu f.to f.un f.sz ([]:List AX))]:List AJ)),()),tF f,(0,A3,noB,0,([]:List AJ),()),v22,()))
      else A0)
      else
      let v23:=(w64<|((k.AM++([(AJ.mk f.fr f.nu f.to f.un f.sz ([]:List AX))]:List AJ)).length:Int) - 1)
      I (.inr ((k.id,k.up,k.log,k.fo,(k.AM++([(AJ.mk f.fr f.nu f.to f.un f.sz ([]:List AX))]:List AJ)),()),tF f,(0,A3,noB,0,([]:List AJ),()),v23,())))
      else A0)
      else
      I (.inr (tKp k,tF f,(0,A3,noB,0,([]:List AJ),()),(EP k.AM f.fr f.nu,())))))=F ((k.id,k.up,k.log,k.fo,(Aw k.AM f).1,()),tF f,(0,A3,noB,0,[],()),((Aw k.AM f).2:Int),()):=by
     intro Ω F;unfold Aw;rcases Ta k.AM f.fr f.nu with h|⟨i,h1,h2,_⟩
     .rw[A8<|AZ h,A8 h,A8<|GA hlen<|by simp];by_cases h4:3<=k.AM.length
      .rw[A8<|AZ (by simp;omega),A8 (by simp;omega),A8 h4];have e1:Bv (AR 1) (k.AM++[(⟨f.fr,f.nu,f.to,f.un,f.sz,[]⟩:AJ)])=k.AM.drop 1++[⟨f.fr,f.nu,f.to,f.un,f.sz,[]⟩]:=by
        show Bv 1 _=_;rw[Uj J]
       simp only[e1];rw[Bj,Ac (by first|(simp;done)|(simp;omega)) (by first|(simp;done)|(simp;omega))];congr 1;simp
      .rw[AD (by simp;omega),AD h4];simp only;rw[Bj,Ac (by first|(simp;done)|(simp;omega)) (by first|(simp;done)|(simp;omega))];congr 1;simp
     .rw[AD (by rw[BI J];exact Ca),AD<|show ¬EP k.AM f.fr f.nu<0 by omega,Bj];simp only;rw[h1,BZ]
    rw[sV];have hgl:=aGj (hA (Aw k.AM f).1 (Aw k.AM f).2).got f.mix f.da;unfold Jc;have hLg:=λhv=>aHQ hk.Ls hv;revert Ey Lp oO hgl;generalize (Aw k.AM f).1=l;generalize (Aw k.AM f).2=i;intro Ey Lp oO hgl;have alw:l.set i ⟨(hA l i).fr,(hA l i).nu,(hA l i).to,(hA l i).un,(hA l i).sz,D4 (hA l i).got f.mix f.da⟩=DA l i f:=rfl;have hal:(DA l i f).length=l.length:=by unfold DA;rw[Gi]
    have hat:hA (DA l i f) i=⟨(hA l i).fr,(hA l i).nu,(hA l i).to,(hA l i).un,(hA l i).sz,D4 (hA l i).got f.mix f.da⟩:=aaf Ey _;simp only[AU Ey,A5,Me,BZ];unfold Mg;rcases tfp ((hA l i).to=f.to) with e1|e1<;>simp only[e1,Aa,Ag,AF,AK,A7,A5,AY,AS];rcases tfp ((hA l i).un=f.un) with e2|e2<;>simp only[e2,Aa,Ag,AF,AK,A7,A5,AY,AS];rcases tfp ((hA l i).sz=f.sz) with e3|e3<;>simp only[e3,Aa,Ag,AF,AK,A7,A5];have e3':(hA l i).sz=f.sz:=of_eq_true e3;rw[arQ<|show(hA l i).got.length<=1048576 by omega];simp only[A9,alw,hat];rw[e3'];rw[anw f.sz _<|show(D4 (hA l i).got f.mix f.da).length<=1048576 by omega];simp only[A9];rcases tf (FQ f.sz<|D4 (hA l i).got f.mix f.da).2 with c5|c5
    .simp only[c5,AF,A7,A5];rw[A8 (by simp;omega),A8<|GA (l:=([]:List AJ)) (by simp) (by simp;omega),Dk (n:=i) (m:=l.length) Ey J,A8 (by simp;omega),A8<|GA (by simp;omega) (by simp;omega)];rw[Wc (by have:=aHJ (s:=f.sz) (l:=D4 (hA l i).got f.mix f.da);omega)];simp only[A9,En,BZ];unfold JV;generalize hn:(⟨f.fr,f.nu,f.to,f.un,(FQ f.sz<|D4 (hA l i).got f.mix f.da).1⟩:A6)=n;have hL:=hLg<|FU (DA l i f) i;have hdr:BS i (DA l i f)++Bv (i+1) (DA l i f)=FU (DA l i f) i:=rfl;rw[hdr];rcases tf (B1 n) with c6|c6
     .have hz:=c8 (w:=B [116,97,107,101,32]) (by rw[BU];decide) c6;have hw:=YW hL (r:=JT n) hz;simp only[c6,A5,AY];rw[A8<|AZ (by rw[C5]at hz;omega)];rw[show Oj ((k.id,k.up,k.log,k.fo,FU (DA l i f) i,()),B [116,97,107,101,32]++wr n,())=_ from hw];simp only[A9];unfold wrR;rw[hL.stT];cases hc:BM (stT k) (JT n) with
      | none=>rfl
      | some o=>
       simp only[AF,A7,A5];rw[jT<|aaJ hL hc];rfl
     .have hb:BM (stT k) (B [116,97,107,101,32]++noB)=A0:=aFn hk.kok nK<|.inr rfl;have hz0:(B [116,97,107,101,32]++noB).size<=1048576:=by rw[C5,BU];show 5+0<=1048576;omega
      have hw:=YW hL (r:=B [116,97,107,101,32]++noB) hz0;rw[aHP (by rw[hL.stT];exact hb)]at hw;simp only[c6,A7,AS];rw[A8<|AZ (show(B [116,97,107,101,32]).size+noB.size<=4611686018427387904 by rw[BU];show 5+0<=4611686018427387904;omega)];rw[show Oj ((k.id,k.up,k.log,k.fo,FU (DA l i f) i,()),B [116,97,107,101,32]++noB,())=_ from hw];rfl
    .simp only[c5,AK,A7,A5]
def YE{α β:Type}[DecidableEq β]{l:List α}{f:α->β}:(l.map f).Nodup↔ ∀(i j:Nat) (hi:i<l.length) (hj:j<l.length),j<i->f l[j]≠f l[i]:=by
 unfold List.Nodup;rw[Jj];constructor
 .intro h i j hi hj hlt;have:=h j i (by simpa using hj) (by simpa using hi) hlt;simpa using this
 .intro h i j hi hj hlt;have:=h j i (by simpa using hj) (by simpa using hi) hlt;simpa using this
def cU{l:List AX}{i:Nat}(h:i<l.length):xA l i=l[i]:=by
 rw[xA,BC,Au h];rfl
def Iz(m:AX):Prop:=inB m.nu 0 999=U/\(m.da.size:Int)=4
structure SU (l:List AX):Prop where
 el:∀m∈l,Iz m
 nd:(l.map (·.nu)).Nodup
def aa7{l:List AX}:As l.length (IP l)=U↔SU l:=by
 rw[CE];constructor
 .intro h;refine⟨λm hm=> ?_,YE.2 λi j hi hj hlt=> ?_⟩
  .obtain⟨i,hi,rfl⟩:=aaP hm;have:=h i hi;unfold IP at this;simp only[AG]at this;exact⟨this.1.1,BX this.1.2⟩
  .have:=h i hi;unfold IP at this;simp only[AG]at this;have:=CE.1 this.2 j hlt;rw[cU hi,cU hj]at this;simpa using this
 .intro h i hi;unfold IP;simp only[AG];have h1:=h.el l[i] (CV hi);rw[cU hi];refine⟨⟨h1.1,AZ h1.2⟩,CE.2 λj hj=> ?_⟩;have:=YE.1 h.nd i j hi J hj;rw[cU<|show j<l.length by omega];simpa using this
def avl{l:List AX}(h:SU l)(hl:l.length<=14){mix:Int}{da:A4}(hm:Iz ⟨mix,da⟩):SU (D4 l mix da)/\(D4 l mix da).length<=14:=by
 have hf:(l.filter<|Dv mix).length<=l.length:=J4 _ _;have Lt:∀g:List AX,g.Sublist (l.filter<|Dv mix)->SU (g++[⟨mix,da⟩]):=by
  intro g hg;refine⟨λm hm'=> ?_, ?_⟩
  .rcases BN.1 hm' with h1|h1
   .exact h.el m (FW.1<|hg.subset h1).1
   .rw[CA.1 h1];exact hm
  .rw[Eo,Jo];refine⟨h.nd.sublist<|(hg.trans List.filter_sublist).map _,by simp,λa ha b hb=> ?_⟩;obtain⟨m,h1,rfl⟩:=C3.1 ha;have h2:=(FW.1<|hg.subset h1).2;have hb:b=mix:=by simpa using hb
   rw[hb];unfold Dv at h2;simpa using h2
 unfold D4;split
 .refine⟨Lt _<|Rs _ _, ?_⟩;simp only[B0,Jq,ES];omega
 .refine⟨Lt _<|Em _, ?_⟩;simp only[B0,Jq];omega
abbrev O9(h:AJ):Int×Int:=(h.fr,h.nu)
structure Jw (l:List AJ):Prop where
 el:∀h∈l,GD h=U
 nd:(l.map O9).Nodup
def rI{l:List AJ}:(∀i,i<l.length->G2 l i=U)↔Jw l:=by
 constructor
 .intro h;refine⟨λm hm=> ?_,YE.2 λi j hi hj hlt=> ?_⟩
  .obtain⟨i,hi,rfl⟩:=PW hm;have:=h i hi;unfold G2 at this;rw[AG]at this;exact this.1
  .have:=h i hi;unfold G2 at this;rw[AG]at this;have:=CE.1 this.2 j hlt;rw[IN hi,IN hj]at this;intro e;simp only[O9,CX]at e;simp[e.1,e.2]at this
 .intro h i hi;unfold G2;rw[AG];refine⟨by rw[IN hi];exact h.el _<|CV hi,CE.2 λj hj=> ?_⟩;have:=YE.1 h.nd i j hi J hj;rw[IN hi,IN<|show j<l.length by omega];simp only[O9,ne_eq,CX,not_and]at this;by_cases e:l[j].fr=l[i].fr
  .simp[e,this e]
  .simp[e]
def P5{f:Frame}(h:C4 f=U):isN f.src=U/\isN f.dst=U/\isN f.fr=U/\isN f.to=U/\inB f.nu 1 99=U/\inB f.un 1 999=U/\JX f=U:=by
 unfold C4 at h;simp only[AG]at h;exact h
def Yx{f:Frame}(h:C4 f=U)(h1:f.ki=1):inB f.sz 1 24=U/\Iz ⟨f.mix,f.da⟩/\f.dst=BT f.src f.to:=by
 have:=(P5 h).2.2.2.2.2.2;unfold JX at this;rw[A8<|AZ h1]at this;simp only[AG]at this;exact⟨this.1,⟨this.2.1,BX this.2.2.1⟩,BX this.2.2.2⟩
def Jw.sub{l g:List AJ}(h:Jw l)(hg:g.Sublist l):Jw g:=⟨λx hx=>h.el x<|hg.subset hx,h.nd.sublist<|hg.map _⟩
def aJh{l:List AJ}(h:Jw l){f:Frame}(hf:C4 f=U)(h1:f.ki=1):Jw (Aw l f).1:=by
 obtain⟨_,_,r3,r4,r5,r6,_⟩:=P5 hf;have hp:=Yx hf h1;unfold Aw;split
 .rename_i hi;have Vb:∀x∈l,O9 x≠(f.fr,f.nu):=by
   intro x hx e;obtain⟨i,hi',rfl⟩:=PW hx;simp only[O9,CX]at e;rcases GR l.length (λi=>A1 ((hA l i).fr=f.fr)&&A1 ((hA l i).nu=f.nu)) with h|⟨i,h,_⟩
   .have:=h.2 i hi';simp[e.1,e.2]at this
   .have:EP l f.fr f.nu=(i:Int):=h;omega
  have Lt:∀g:List AJ,g.Sublist l->Jw (g++[⟨f.fr,f.nu,f.to,f.un,f.sz,[]⟩]):=by
   intro g hg;refine⟨λx hx=> ?_, ?_⟩
   .rcases BN.1 hx with h2|h2
    .exact h.el x (hg.subset h2)
    .rw[CA.1 h2];unfold GD;simp only[r3,r4,r5,r6,hp.1,AY];rfl
   .rw[Eo,Jo];refine⟨h.nd.sublist<|hg.map _,by simp,λa ha b hb=> ?_⟩;obtain⟨m,h2,rfl⟩:=C3.1 ha;have hb:b=(f.fr,f.nu):=by simpa using hb
    rw[hb];exact Vb m<|hg.subset h2
  simp only;split
  .exact Lt _ (Rs _ _)
  .exact Lt _ (Em _)
 .exact h
def avh{h:AJ}(ok:GD h=U):SU h.got/\h.got.length<=14:=by
 have h1:=aay ok;unfold GD at ok;simp only[AG]at ok;exact⟨aa7.1 ok.2.2.2.2.2.2,h1⟩
def avg{h:AJ}(ok:GD h=U){g:List AX}(hg:SU g)(hl:g.length<=14):GD ⟨h.fr,h.nu,h.to,h.un,h.sz,g⟩=U:=by
 unfold GD at ok ⊢;simp only[AG]at ok ⊢;exact⟨ok.1,ok.2.1,ok.2.2.1,ok.2.2.2.1,ok.2.2.2.2.1,AZ J,aa7.2 hg⟩
def aJw{l:List AJ}(h:Jw l){i:Nat}(hi:i<l.length){f:Frame}(hm:Iz ⟨f.mix,f.da⟩):Jw (DA l i f):=by
 have hh:=h.el l[i] (CV hi);have hg:=avh hh;have hn:=avl hg.1 hg.2 hm;unfold DA;rw[IN hi];refine⟨λx hx=> ?_, ?_⟩
 .rcases Rj hx with h1|h1
  .exact h.el x h1
  .rw[h1];exact avg hh hn.1 hn.2
 .rw[List.map_set];have:(l.map O9).set i (O9 ⟨l[i].fr,l[i].nu,l[i].to,l[i].un,l[i].sz,D4 l[i].got f.mix f.da⟩)=l.map O9:=by
   apply List.ext_getElem (by simp);intro j h1 h2;rw[List.getElem_set];split
   .rename_i e;subst e;simp
   .rfl
  rw[this];exact h.nd
def aaD{l:List AJ}(h:Jw l)(i:Nat):Jw (FU l i):=by
 refine h.sub ?_;unfold FU;have:(l.take i++l.drop (i+1)).Sublist (l.take i++l.drop i):=pa (Em _) (by rw[← J5];exact Rs _ _);rw[JA]at this;exact this
def aN{k:AA}{st:AH}(h:DN k st)(hu:k.up=U){hv:List AJ}(hl:hv.length<=3)(hf:Jw hv):DN (Gx k hv) st:=by
 obtain⟨rs,ts,h1,h2⟩:=h.lg;have kf:=Ds h.ok;exact⟨Xz (k:=Gx k hv) kf.id h1 hl (.inl hu) (by rw[show(Gx k hv).id=k.id from rfl,h2];rfl)<|rI.2 hf,h.st⟩
def V6{k:AA}{st:AH}(h:DN k st)(r:A4)(b:Bool):∃o,DN (wrR k r b).1 o/\((wrR k r b).2=U->BM st r=I o)/\((wrR k r b).2=A3->o=st/\BM st r=A0):=by
 unfold wrR;rw[h.stT];cases hc:BM st r with
 | none=>exact⟨st,h,(λe=>absurd e Ca),λ_=>⟨rfl,rfl⟩⟩
 | some o=>
  refine⟨o, ?_,(λ_=>rfl),λe=>absurd e.symm Ca⟩;simp only;split
  .exact RS (PO h hc)
  .exact PO h hc
def nj{k:AA}(h:Aj k=U)(hu:k.up=U){f:Frame}(hf:C4 f=U)(h1:f.ki=1):Aj (ED k f).1=U:=by
 have hk:=Bu h;have kf:=Ds h;have hv:=rI.1 kf.hv;have hp:=Yx hf h1;have Ey:=PB (hv:=k.AM) (f:=f);have Lp:=U3 (hv:=k.AM) (f:=f) kf.hl;have hpf:=aJh hv hf h1;have haf:=aJw hpf Ey hp.2.1;have hal:(DA (Aw k.AM f).1 (Aw k.AM f).2 f).length=(Aw k.AM f).1.length:=by unfold DA;rw[Gi]
 unfold ED;split
 .exact h
 split
 .exact(RS hk).ok
 split
 .exact h
 unfold Jc;split
 .split
  .unfold JV;have hw:=aN hk hu (hv:=FU (DA (Aw k.AM f).1 (Aw k.AM f).2 f) (Aw k.AM f).2) (by unfold FU;simp;omega)<|aaD haf _;split
   .obtain⟨o,ho,_⟩:=V6 hw (JT ⟨f.fr,f.nu,f.to,f.un,(FQ f.sz<|D4 (hA (Aw k.AM f).1 (Aw k.AM f).2).got f.mix f.da).1⟩) U;exact ho.ok
   .exact hw.ok
  .exact(aN hk hu (by rw[hal];exact Lp) haf).ok
 .exact(aN hk hu Lp hpf).ok
def HS(k:AA)(f:Frame):AA×List Frame:=
 if k.up&&(C4 f&&A1 (f.dst=k.id)) then
  (if A1 (f.ki=1) then ED k f
   else if A1 (f.ki=2)&&(!decide (Ab (stT k).held f.fr f.nu<0)&&(A1 ((nA (stT k).held (Ab (stT k).held f.fr f.nu).toNat).to=f.to)&&A1 ((nA (stT k).held (Ab (stT k).held f.fr f.nu).toNat).un=f.un))) then
    ((wrR k (Cc C2 f.fr f.nu f.un) A3).1,[])
   else(k,[]))
 else(k,[])
def CH(k:AA)(f:Frame):AA×List Frame:=if Aj k then HS k f else(zKp,[])
def ZP{f:Frame}(h:C4 f=U):(0<=f.fr/\f.fr<=999)/\(0<=f.nu/\f.nu<=999)/\(0<=f.un/\f.un<=999):=by
 obtain⟨_,_,r3,_,r5,r6,_⟩:=P5 h;have a:=Ad.1 r3;have b:=Ad.1 r5;have c:=Ad.1 r6;exact⟨J,J,J⟩
def afp{k:AA}(sm:Fc k)(f:Frame):WE (tKp k,tF f,())=I ((tKp (CH k f).1,(CH k f).2,()),()):=by
 unfold WE CH;rw[M7 sm];rcases tf (Aj k) with h|h
 .have hk:=Bu h;have hkf:=Bx hk.kok;have hl:=hkf.hl;have hl':(stT k).held.length<=1048576:=J
  unfold HS;simp only[A9,h,AF,A7,A5,ND sm,aB1,On h,K4 hl'];rcases tf k.up with e|e<;>simp only[e,AF,AK,A7,A5,AY,AS];rcases tf (C4 f) with e2|e2<;>simp only[e2,AF,AK,A7,A5,AY,AS];rcases tfp (f.dst=k.id) with e3|e3<;>simp only[e3,Aa,Ag,AF,AK,A7,A5];obtain⟨r1,r2,r3⟩:=ZP e2;rcases tfp (f.ki=1) with e4|e4
  .have e4':=of_eq_true e4;simp only[e4,Aa,A5];rw[show X1 (tKp k,tF f,())=_ from aqe h e2 e4'];simp only[A9];rw[ND<|DG<|nj h e e2 e4'];rfl
  .simp only[e4,Ag,A7];rcases tfp (f.ki=2) with e5|e5<;>simp only[e5,Aa,Ag,AF,AK,A7,A5,AY,AS];by_cases hi:Ab (stT k).held f.fr f.nu<0
   .simp only[AZ hi,A5,AF,AS,A7]
   .have hi':0<=Ab (stT k).held f.fr f.nu:=J
    simp only[BI hi,A7,AK,AY,A5,NS hi',SC];rcases tfp ((nA (stT k).held (Ab (stT k).held f.fr f.nu).toNat).un=f.un) with e6|e6<;>simp only[e6,Aa,Ag,AF,AK,A7,A5,Lh,Bc];rcases tfp ((nA (stT k).held (Ab (stT k).held f.fr f.nu).toNat).to=f.to) with e7|e7<;>simp only[e7,Aa,Ag,AF,AK,A7,A5];have hz:=Yi (w:=C2) (by decide) r1 r2 r3;have hw:=Wz hk.Ls (r:=Cc C2 f.fr f.nu f.un) J A3;rw[aDW r1 r2 r3];simp only[A9];rw[A8<|AZ (by rw[← Yr [108,101,116]]at hz;rw[C5]at hz;rw[show(B [108,101,116,32]).size=(B<|[108,101,116]++[32]).size from rfl];omega)];rw[show(B [108,101,116,32])=B ([108,101,116]++[32]) from rfl,Yr [108,101,116],hw];rfl
 .simp only[A9,h,AK,A5,A7]
def yC{k:AA}(sm:Fc k)(f:Frame):Sc (tKp k,tF f,())=I ((tKp (CH k f).1,(CH k f).2,()),()):=by
 unfold Sc CH;rw[K0 sm];rcases tf (Aj k) with h|h
 .have hk:=Bu h;have hkf:=Bx hk.kok;have hl:=hkf.hl;have hl':(stT k).held.length<=1048576:=J
  unfold HS;simp only[A9,h,AF,A7,A5,LB sm,aCD,Hj h,KA hl'];rcases tf k.up with e|e<;>simp only[e,AF,AK,A7,A5,AY,AS];rcases tf (C4 f) with e2|e2<;>simp only[e2,AF,AK,A7,A5,AY,AS];rcases tfp (f.dst=k.id) with e3|e3<;>simp only[e3,Aa,Ag,AF,AK,A7,A5];obtain⟨r1,r2,r3⟩:=ZP e2;rcases tfp (f.ki=1) with e4|e4
  .have e4':=of_eq_true e4;simp only[e4,Aa,A5];rw[show Wb (tKp k,tF f,())=_ from ahZ h];simp only[A9];rw[LB<|DG<|nj h e e2 e4'];rfl
  .simp only[e4,Ag,A7];rcases tfp (f.ki=2) with e5|e5<;>simp only[e5,Aa,Ag,A7,A5,AY,AS];by_cases hi:Ab (stT k).held f.fr f.nu<0
   .rw[AD (show ¬A1 (0<=Ab (stT k).held f.fr f.nu)=U by simp;omega)];simp only[AZ hi,Hl,A5,Bj,AF,AS,A7]
   .have hi':0<=Ab (stT k).held f.fr f.nu:=J
    rw[A8<|AZ hi'];simp only[BI hi,AK,AY,A5,NS hi',SC,Fa,Bj];rcases tfp ((nA (stT k).held (Ab (stT k).held f.fr f.nu).toNat).to=f.to) with e7|e7<;>simp only[e7,Aa,Ag,A7,A5,AY,AS];rcases tfp ((nA (stT k).held (Ab (stT k).held f.fr f.nu).toNat).un=f.un) with e6|e6<;>simp only[e6,Aa,Ag,A7,A5];have hz:=Yi (w:=C2) (by decide) r1 r2 r3;have hw:=YW hk.Ls (r:=Cc C2 f.fr f.nu f.un) J;rw[show QP (B [108,101,116],f.fr,f.nu,f.un,())=_ from wP (w:=C2) (by decide) r1 r2 r3];simp only[A9];rw[hw];rfl
 .simp only[A9,h,AK,A5,A7]
def avd{k:AA}(h:Aj k=U)(f:Frame):Aj (CH k f).1=U:=by
 have hk:=Bu h;unfold CH HS;rw[A8 h];split
 .rename_i hc;simp only[AG]at hc;split
  .rename_i h1;exact nj h hc.1 hc.2.1 (BX h1)
  .split
   .obtain⟨o,ho,_⟩:=V6 hk (Cc C2 f.fr f.nu f.un) A3;exact ho.ok
   .exact h
 .exact h
def att{k:AA}(h:Aj k=U):Aj (Fl k).1=U:=by
 unfold Fl;split
 .obtain⟨o,ho,_⟩:=V6 (Bu h) (Fw<|(stT k).ti+1) U;exact ho.ok
 .exact h
def axW{k:AA}(h:Aj k=U)(tt un:Int)(tx:A4):Aj (Dz k tt un tx).1=U:=by
 unfold Dz;split
 .obtain⟨o,ho,_⟩:=V6 (Bu h) (LV ⟨k.id,(stT k).nx,tt,un,tx⟩) U;exact ho.ok
 .exact h
def axy{k:AA}(h:Aj k=U)(fr nu:Int):Aj (Dg k fr nu).1=U:=by
 unfold Dg;split
 .obtain⟨o,ho,_⟩:=V6 (Bu h) (Cc CQ fr nu (nA (stT k).inbox (Ab (stT k).inbox fr nu).toNat).un) U;exact ho.ok
 .exact h
def auu{k:AA}(h:Aj k=U):Aj (Fm k).1=U:=by
 unfold Fm;split
 .exact(rM<|Bu h).ok
 .exact h
def auS{k:AA}(h:Aj k=U):Aj (Dl k).1=U:=by
 unfold Dl;split
 .exact(RS<|Bu h).ok
 .exact h
def Za(l:List Int):(BK l).size=l.length:=by
 show(List.toArray _).size=_;simp
def at3(f:Frame):(Ck f).length<=17:=by
 unfold Ck;split
 .rename_i h;have:=ZB h;simp only[B0,Bh,CN];omega
 .simp
def frA(l:List Frame)(i:Nat):Frame:=l.getD i<|dfl .frame
def aI8(l:List Frame)(i:Nat): @rd Frame (dfl .frame) l (i:Int)=frA l i:=rfl
def pcF(f:Frame):AO:=⟨f.src,f.dst,BK<|Ck f,A3⟩
def C6(ra:List AO)(fs:List Frame):List AO:=ra++(fs.take<|30 - ra.length).map pcF
def aac{l:List Frame}{i:Nat}(h:i<l.length):frA l i=l[i]:=by
 rw[frA,BC,Au h];rfl
def aB2{ra:List AO}{fs:List Frame}(hf:fs.length<=1048576):TA (ra,fs,())=I ((C6 ra fs,()),()):=by
 have GL:uR (ra,fs,0,())=I (.inr (C6 ra fs,())):=by
  have h0:=CG (b:=Wy) (y:= .inr (C6 ra fs,())) (λi=>(ra++(fs.take i).map pcF,fs,(i:Int),())) (min fs.length<|30 - ra.length) (λi hi=>by
   have h1:i<fs.length:=J
   have h2:(ra++(fs.take i).map pcF).length=ra.length+i:=by simp;omega
   unfold Wy;simp only[B9 h1,AU h1,aI8,B4 h1 (by omega:fs.length<=9223372036854775807),h2];rw[A8 (by simp;omega)];simp only[A5];rw[show QO ((_,_,_,_,_,_,_,_,_,_,()),())=_ from zO<|frA fs i];simp only[A9];rw[A8<|BG (by simp;omega)];have h3:ra++(fs.take<|i+1).map pcF=(ra++(fs.take i).map pcF)++[pcF (frA fs i)]:=by
    rw[aac h1,C9,← List.map_singleton (f:=pcF),← Eo,List.take_append_getElem h1]
   rw[h3];rfl) (by
   unfold Wy;have h2:(ra++(fs.take<|min fs.length<|30 - ra.length).map pcF).length=ra.length+min fs.length (30 - ra.length):=by simp
   simp only[h2];rw[AD (by simp only[AG,decide_eq_true_eq];omega)];have h3:fs.take (min fs.length<|30 - ra.length)=fs.take (30 - ra.length):=by
    rw[Nat.min_comm,← bF,E8]
   rw[h3];rfl)
  simp only[List.take_zero,Jm,CW]at h0;exact h0
 unfold TA;simp only[GL,CB]
def Po(f:Frame):Prop:=isN f.src=U/\isN f.dst=U/\(f.src - f.dst=1\/f.dst - f.src=1)
def ayu{f:Frame}(h:Po f):Dy (pcF f)=U:=by
 have:=at3 f;unfold Dy pcF;simp only[h.1,h.2.1,AY,Za,AG,Br,decide_eq_true_eq];exact⟨h.2.2,J⟩
def aI1{ra:List AO}{fs:List Frame}(h:ra.length<=30):(C6 ra fs).length<=30:=by
 unfold C6;simp;omega
def aJc{ra:List AO}{fs:List Frame}(h:∀p∈ra,Dy p=U)(hf:∀f∈fs,Po f):∀p∈C6 ra fs,Dy p=U:=by
 intro p hp;rcases BN.1 hp with h1|h1
 .exact h p h1
 .obtain⟨f,h2,rfl⟩:=C3.1 h1;exact ayu<|hf f<|Hb h2
def nN{a t:Int}(h:isN (BT a t)=U):isN a=U/\(a - BT a t=1\/BT a t - a=1):=by
 have h0:=EB h;revert h0;unfold BT;split
 .omega
 .rename_i h1;intro _;simp only[Br,C1,not_or,Bool.not_eq_false]at h1;refine⟨h1.1, ?_⟩;split<;>omega
def avQ{f:Frame}(h:C4 f=U):Po f:=by
 obtain⟨r1,r2,_,_,_,_,r7⟩:=P5 h;refine⟨r1,r2, ?_⟩;unfold JX at r7;split at r7
 .simp only[AG,decide_eq_true_eq]at r7;have h1:=r7.2.2.2;have:=nN (a:=f.src) (t:=f.to) (by rw[← h1];exact r2);rw[← h1]at this;exact this.2
 .simp only[AG,decide_eq_true_eq]at r7;have h1:=r7.2.2.2.2;have:=nN (a:=f.dst) (t:=f.to) (by rw[← h1];exact r1);rw[← h1]at this;exact this.2.symm
def axo{f:Frame}(n:Int)(h:Po f):Po (Dp n f):=⟨h.2.1,h.1,h.2.2.symm⟩
def auM(k:AA)(f:Frame):(CH k f).2=[]\/(C4 f=U/\ ∃n,(CH k f).2=[Dp n f]):=by
 unfold CH;split
 .unfold HS;split
  .rename_i hc;simp only[AG]at hc;split
   .unfold ED;split
    .exact .inr ⟨hc.2.1,3,rfl⟩
    .split
     .exact .inr ⟨hc.2.1,2,rfl⟩
     .split
      .exact .inl rfl
      .unfold Jc;split
       .split
        .unfold JV;split
         .exact .inr ⟨hc.2.1,2,rfl⟩
         .exact .inl rfl
        .exact .inl rfl
       .exact .inl rfl
   .split<;>exact .inl rfl
  .exact .inl rfl
 .exact .inl rfl
def ZO(k:AA)(f:Frame):(CH k f).2.length<=1/\ ∀g∈(CH k f).2,Po g:=by
 rcases auM k f with h|⟨h,n,h1⟩
 .rw[h];exact⟨by simp,λg hg=>by cases hg⟩
 .rw[h1];exact⟨by simp,λg hg=>by rw[CA.1 hg];exact axo n<|avQ h⟩
def avt{k:AA}(h:Aj k=U){fr nu mix:Int}(hb:(EM k fr nu mix).2=U):Po (EM k fr nu mix).1:=by
 unfold EM at hb ⊢;split
 .rename_i hc;simp only[AG,C1,decide_eq_false_iff_not]at hc;have hk:=Bu h;have h0:=(FM<|Rz.1 hc.2.1).1;have:=nr hk.kok (n:=nA (stT k).held (Ab (stT k).held fr nu).toNat) (by rw[nA,BC,Au h0];exact CV h0);rw[hk.id]at this;have h2:=nN this;exact⟨h2.1,this,h2.2⟩
 .rename_i hc;rw[AD hc]at hb;cases hb
structure B7 (w:AE):Prop where
 kl:w.AB.length=4
 ll:w.Aq.length=3
 rl:w.AT.length<=30
 sl:w.AQ.length<=6
 gl:w.got.length<=6
 k:∀i,i<4->Aj (kA w.AB i)=U/\(kA w.AB i).id=(i:Int)
 p:∀p∈w.AT,Dy p=U
 s:∀n∈w.AQ,B1 n=U
 g:∀n∈w.got,B1 n=U
def EE(w:AE)(p:AO)(ra:List AO):AE:=
 if(D2<|BF p.data).2&&(A1 ((D2<|BF p.data).1.src=p.src)&&A1 ((D2<|BF p.data).1.dst=p.dst)) then
  ⟨w.ti,w.AB.set p.dst.toNat (CH (kA w.AB p.dst.toNat) (D2<|BF p.data).1).1,w.Aq,C6 ra (CH (kA w.AB p.dst.toNat) (D2<|BF p.data).1).2,w.AQ,w.got⟩
 else⟨w.ti,w.AB,w.Aq,ra,w.AQ,w.got⟩
def PS(p:AO)(mix kp:Int):AO:=⟨p.src,p.dst,BK<|Bw (BF p.data) mix.toNat<|E4 .u8 (@rd Int (dfl .u8) (BF p.data) mix)<|w8 kp,U⟩
def JY(ra:List AO)(i:Nat):List AO:=ra.take i++ra.drop (i+1)
def lnk(p:AO):Int:=if p.src<p.dst then p.src else p.dst
def EY(w:AE)(e:Event):AE×Bool:=
 if inB e.wo 0 ((w.AT.length:Int) - 1) then
  if e.ki=6 then
   if !(pA w.AT e.wo.toNat).sp&&(inB e.mix 0 (((pA w.AT e.wo.toNat).data.size:Int) - 1)&&inB e.kp 1 255) then
    (⟨w.ti,w.AB,w.Aq,w.AT.set e.wo.toNat<|PS (pA w.AT e.wo.toNat) e.mix e.kp,w.AQ,w.got⟩,U)
   else(w,A3)
  else if e.ki=5 then(⟨w.ti,w.AB,w.Aq,JY w.AT e.wo.toNat,w.AQ,w.got⟩,U)
  else if bA w.Aq (lnk<|pA w.AT e.wo.toNat).toNat then(EE w (pA w.AT e.wo.toNat)<|if e.kp=0 then JY w.AT e.wo.toNat else w.AT,U)
  else(w,A3)
 else(w,A3)
def GM(w:AE)(i:Nat)(k:AA):AE:=⟨w.ti,w.AB.set i k,w.Aq,w.AT,w.AQ,w.got⟩
def O1(w:AE)(e:Event)(k:AA):AE×Bool:=
 if 6<=w.AQ.length then(w,A3)
 else if(Dz k e.to e.un e.tx).2=0 then(w,A3)
 else(⟨w.ti,w.AB.set e.at_.toNat (Dz k e.to e.un e.tx).1,w.Aq,w.AT,w.AQ++[⟨e.at_,(Dz k e.to e.un e.tx).2,e.to,e.un,e.tx⟩],w.got⟩,U)
def OB(w:AE)(e:Event)(k:AA):AE×Bool:=
 if(Dg k e.fr e.nu).2.2&&A1 (w.got.length<6) then
  (⟨w.ti,w.AB.set e.at_.toNat (Dg k e.fr e.nu).1,w.Aq,w.AT,w.AQ,w.got++[(Dg k e.fr e.nu).2.1]⟩,U)
 else(w,A3)
def Gu(w:AE)(e:Event)(k:AA):AE×Bool:=
 if e.ki=1 then O1 w e k
 else if e.ki=2 then(GM w e.at_.toNat (Fl k).1,(Fl k).2)
 else if e.ki=3 then(if(EM k e.fr e.nu e.mix).2 then(⟨w.ti,w.AB,w.Aq,C6 w.AT [(EM k e.fr e.nu e.mix).1],w.AQ,w.got⟩,U) else(w,A3))
 else if e.ki=7 then(GM w e.at_.toNat<|faM k e.kp,k.up)
 else if e.ki=8 then(GM w e.at_.toNat<|riM k,!k.up)
 else if e.ki=11 then OB w e k
 else if e.ki=12 then(GM w e.at_.toNat (Fm k).1,(Fm k).2)
 else if e.ki=13 then(GM w e.at_.toNat (Dl k).1,(Dl k).2)
 else(w,A3)
def F7(w:AE)(e:Event):AE×Bool:=
 if inB e.at_ 0 ((w.Aq.length:Int) - 1)&& !decide (bA w.Aq e.at_.toNat=A1 (e.ki=9)) then
  (⟨w.ti,w.AB,w.Aq.set e.at_.toNat<|A1<|e.ki=9,w.AT,w.AQ,w.got⟩,U)
 else(w,A3)
def doM(w:AE)(e:Event):AE×Bool:=
 if e.ki=4\/e.ki=5\/e.ki=6 then EY w e
 else if e.ki=9\/e.ki=10 then F7 w e
 else if isN e.at_ then Gu w e (kA w.AB e.at_.toNat)
 else(w,A3)
abbrev tE(e:Event):Int×Int×Int×Int×Int×Int×Int×Int×Int×A4×A2:=(e.ki,e.at_,e.fr,e.nu,e.wo,e.mix,e.kp,e.to,e.un,e.tx,())
abbrev tS(w:AE)(ev:List Event):Int×List AA×List Bool×List AO×List A6×List A6×List Event×A2:=(w.ti,w.AB,w.Aq,w.AT,w.AQ,w.got,ev,())
def tick(w:AE)(b:Bool):AE:=if b then⟨w64<|w.ti+1,w.AB,w.Aq,w.AT,w.AQ,w.got⟩ else w
def CZ(w:AE)(e:Event):AE:=tick (doM w e).1 (doM w e).2
def KN(ev:List Event)(e:Event)(b:Bool):List Event:=if b then ev++[e] else ev
def aFW(l:List AO)(i:Int): @rd AO (dfl .Ak) l i=pA l i.toNat:=rfl
def Zv(l:List Bool)(i:Int): @rd Bool (dfl .bool) l i=bA l i.toNat:=rfl
def rV{l:List AO}{i:Nat}(h:i<l.length):pA l i=l[i]:=by
 rw[pA,BC,Au h];rfl
def FP{i:Int}{n:Nat}(h0:0<=i)(h1:i<n):inb i n=U:=by unfold inb;simp;omega
def MF{p:AO}(h:Dy p=U):(0<=p.src/\p.src<=3)/\(0<=p.dst/\p.dst<=3)/\p.data.size<=40/\0<=lnk p/\lnk p<3:=by
 unfold Dy at h;simp only[AG,Br,decide_eq_true_eq]at h;have a:=EB h.1;have b:=EB h.2.1;refine⟨a,b,J, ?_, ?_⟩<;>unfold lnk<;>split<;>omega
def amo(a b:Int):iS (a,b,())=I ((if a<b then a else b,()),()):=by
 unfold iS;rcases tfp (a<b) with e|e<;>simp only[e,Aa,Ag,A5,if_false,A7]
def R0{w:AE}(h:B7 w){i:Nat}(hi:i<w.AT.length):Dy (pA w.AT i)=U:=by
 rw[rV hi];exact h.p _<|CV hi
def VN{w:AE}(h:B7 w){i:Nat}(hi:i<4):Fc (kA w.AB i):=DG (h.k i hi).1
def Qu{n:Nat}(h:n<=1048576):w64 ((n:Int) - 1)=(n:Int) - 1:=Ac J J
def nd{p:Prop}[Decidable p](h:¬p):¬(A1 p=U):=by simpa using h
def aJb{α:Type}(l:List α)(i:Nat)(x y:α):(l.set i x).set i y=l.set i y:=by simp
def aaZ{l:List AO}{i:Nat}(h:i<l.length)(p:AO):pA (l.set i p) i=p:=by
 rw[pA,BC,bN h];rfl
def rS(s:A4):(BF s).length=s.size:=by rw[Tu,Dh,B2]
def VD{n:Int}(h:isN n=U):n.toNat<4:=by have:=EB h;omega
section
variable {Ω:Type} {K2:List AA->List AO->Option Ω} {F:Option Ω}
def aat{w:AE}(h:B7 w){e:Event}(hk:e.ki≠5){p:AO}(hp:Dy p=U)(ra:List AO):SO w.AB ra (tE e) p K2=K2 (EE w p ra).AB (EE w p ra).AT:=by
 obtain⟨p1,p2,p3,p4,p5⟩:=MF hp;have hin:inb p.dst w.AB.length=U:=FP p2.1 (by rw[h.kl];omega);unfold SO EE;rw[AD<|nd hk,A8<|BG J,aet<|BOk.str _];generalize D2 (BF p.data)=u;simp only[A9];rcases tf u.2 with e2|e2<;>simp only[e2,AF,AK,A7,A5,AY,AS];rcases tfp (u.1.src=p.src) with e3|e3<;>simp only[e3,Aa,Ag,AF,AK,A7,A5,AY,AS];rcases tfp (u.1.dst=p.dst) with e4|e4<;>simp only[e4,Aa,Ag,AF,AK,A7,A5];simp only[hin,A5,Tg];rw[show WE ((_,_,_,_,_,()),_,())=_ from afp (VN h (i:=p.dst.toNat) J) u.1];simp only[A9];rw[aB2 (by have:=(ZO (kA w.AB p.dst.toNat) u.1).1;omega)];rfl
def aau{a:List AA}{ra:List AO}{e:Event}(h0:0<=e.wo)(h1:e.wo<ra.length)(hl:ra.length<=1048576)(p:AO):dA a ra (tE e) p K2=SO a (JY ra e.wo.toNat) (tE e) p K2:=by
 have hw:w64 (e.wo+1)=e.wo+1:=Ac J J;have hn:(e.wo+1).toNat=e.wo.toNat+1:=J
 unfold dA;simp only[hw,hn];rw[A8 (by simp;omega),A8<|BG (by simp;omega),A8 (by simp;omega),A8<|BG (by simp;omega)];rfl
def ayB{w:AE}(h:B7 w){e:Event}(hk:e.ki=4\/e.ki=5\/e.ki=6):SP w.AB w.Aq w.AT (tE e) K2 F=if(EY w e).2 then K2 (EY w e).1.AB (EY w e).1.AT else F:=by
 have rl:=h.rl;unfold SP EY;simp only[IB,A9,Qu<|show w.AT.length<=1048576 by omega,aFW];rcases tf (inB e.wo 0<|(w.AT.length:Int) - 1) with e0|e0
 .have ha:=Ad.1 e0;have hb:inb e.wo w.AT.length=U:=FP ha.1 J;have hwl:e.wo.toNat<w.AT.length:=J
  have hp:=R0 h (i:=e.wo.toNat) hwl;obtain⟨p1,p2,p3,p4,p5⟩:=MF hp;rw[e0,hb];simp only[AF,A7,A5];rcases tfp (e.ki=6) with c6|c6
  .simp only[c6,Aa,A5,Qu<|show(pA w.AT e.wo.toNat).data.size<=1048576 by omega];rcases tf (pA w.AT e.wo.toNat).sp with e1|e1<;>simp only[e1,AF,AK,A7,A5,AY,AS];rcases tf (inB e.mix 0<|((pA w.AT e.wo.toNat).data.size:Int) - 1) with e2|e2<;>simp only[e2,AF,AK,A7,A5,AY,AS];rcases tf (inB e.kp 1 255) with e3|e3<;>simp only[e3,AF,AK,A7,A5];have hm:=Ad.1 e2;have hmb:inb e.mix (BF (pA w.AT e.wo.toNat).data).length=U:=FP hm.1 (by rw[rS];omega);simp only[Gi,aJb,aaZ hwl,hb,A5];rw[A8<|BG J,A8 hmb,A8 hmb];rfl
  .simp only[c6,Ag,A7,if_false];rcases tfp (e.ki=4) with c4|c4
   .have c5:¬e.ki=5:=by have:e.ki=4:=of_eq_true c4;omega
    have hl:inb (lnk<|pA w.AT e.wo.toNat) w.Aq.length=U:=by
     have:=h.ll;exact FP p4 (by rw[this];exact p5)
    have hlk:∀q:AO,(if q.src<q.dst then q.src else q.dst)=lnk q:=λ_=>rfl;simp only[c4,Aa,A5,amo,A9,hlk,hl,Zv,AD c5];rcases tf (bA w.Aq (lnk<|pA w.AT e.wo.toNat).toNat) with e1|e1<;>simp only[e1,AF,AK,A7,A5];unfold cy;rw[AD<|nd c5];by_cases e5:e.kp=0
    .rw[A8<|AZ e5,A8 e5,aau ha.1 J J,aat h c5 hp]
    .rw[AD<|nd e5,AD e5,aat h c5 hp]
   .have c5:e.ki=5:=by
     have:¬e.ki=4:=by simpa using c4
     have:¬e.ki=6:=by simpa using c6
     omega
    simp only[c4,Ag,A7,A8 c5];unfold cy;rw[A8<|AZ c5,aau ha.1 J J];unfold SO;rw[A8<|AZ c5];rfl
 .rw[e0];simp only[AK,A5,A7]
def ayC{w:AE}(h:B7 w){e:Event}{K1:List Bool->Option Ω}:VX w.Aq (tE e) K1 F=if(F7 w e).2 then K1 (F7 w e).1.Aq else F:=by
 have ll:=h.ll;unfold VX F7;simp only[IB,A9,Qu<|show w.Aq.length<=1048576 by omega,Zv];rcases tf (inB e.at_ 0<|(w.Aq.length:Int) - 1) with e0|e0
 .have ha:=Ad.1 e0;have hb:inb e.at_ w.Aq.length=U:=FP ha.1 J;rw[e0,hb];simp only[AF,A7,A5,AY];rcases tfp (bA w.Aq e.at_.toNat=A1 (e.ki=9)) with c|c<;>simp only[c,Aa,Ag,AF,AK,A5,A7]
 .rw[e0];simp only[AK,AS,A5,A7]
end
section
variable {Ω:Type} {K:List AA->List Bool->List AO->List A6->List A6->Option Ω} {F:Option Ω} {Kv:List AA->Bool->Option Ω} {Km:List AO->Bool->Option Ω} {Kz:Bool->Option Ω} {R:Option Ω}
def ayD{w:AE}(h:B7 w){e:Event}(hk:¬(e.ki=4\/e.ki=5\/e.ki=6))(hk':¬(e.ki=9\/e.ki=10))(ht:e.tx.size<=1048576){D:AE×Bool}
  (hK:D.2=U->K D.1.AB D.1.Aq D.1.AT D.1.AQ D.1.got=R)(hF:D.2=A3->D.1=w->F=R)(hKv:∀k' b,D=(GM w e.at_.toNat k',b)->Kv (w.AB.set e.at_.toNat k') b=R)
  (hKm:∀ra',D=(⟨w.ti,w.AB,w.Aq,ra',w.AQ,w.got⟩,U)->Km ra' U=R)(hKz:D=(w,A3)->Kz A3=R):
  ∀X,rr w.AB w.AT w.AQ w.got (tE e) (λx y z=>K x w.Aq w.AT y z) F Kv Km Kz=X->doM w e=D->X=R:=by
 intro X;obtain⟨ki,at_,fr,nu,wo,mix,kp,t',un,tx⟩:=e;simp only at hk hk' ht hKv;have hn:∀(l:List A6) (x:A6),l.length<=6->Af (l.length+[x].length)=U:=λl x hl=>BG (by simp;omega);unfold rr doM;rw[AD hk,AD hk'];simp only[K9,A9];rcases tf (isN at_) with e0|e0
 .have ha:=EB e0;have hal:=VD e0;have hb:inb at_ w.AB.length=U:=FP ha.1 (by rw[h.kl];omega);have hko:=(h.k _ hal).1;have hks:=VN h hal;simp only[e0,AF,A7,hb,A5,Tg];unfold Gu;rcases tfp (ki=1) with e1|e1
  .simp only[e1,Aa,A5];unfold O1;by_cases hs:6<=w.AQ.length
   .rw[A8<|AZ<|show 6<=(w.AQ.length:Int) by omega,A8 hs];intro hX hd;subst hd;rw[← hX];exact hF rfl rfl
   .rw[AD<|nd<|show ¬6<=(w.AQ.length:Int) by omega,AD hs];rw[show Wn ((_,_,_,_,_,()),_,_,_,())=_ from ah9 hko t' un ht];simp only[A9];rcases tfp ((Dz (kA w.AB at_.toNat) t' un tx).2=0) with e2|e2<;>simp only[e2,Aa,Ag,A7,A5,if_false]
    .intro hX hd;subst hd;rw[← hX];exact hF rfl rfl
    .rw[A8<|hn _ _ h.sl];intro hX hd;subst hd;rw[← hX];exact hK rfl
  .simp only[e1,Ag,A7,if_false];rcases tfp (ki=2) with e2|e2
   .simp only[e2,Aa,A5];rw[show WB ((_,_,_,_,_,()),())=_ from afm hko];simp only[A9];intro hX hd;subst hd;rw[← hX];exact hKv _ _ rfl
   .simp only[e2,Ag,A7,if_false];rcases tfp (ki=3) with e3|e3
    .simp only[e3,Aa,A5];rw[show Wo ((_,_,_,_,_,()),_,_,_,())=_ from ahA hks fr nu mix];simp only[A9];rw[A8 hko];rcases tf (EM (kA w.AB at_.toNat) fr nu mix).2 with e4|e4<;>simp only[e4,A5,A7]
     .rw[show TA (_,_,())=_ from aB2 (ra:=w.AT) (fs:=[(EM (kA w.AB at_.toNat) fr nu mix).1])<|by simp];simp only[A9];intro hX hd;subst hd;rw[← hX];exact hKm _ rfl
     .intro hX hd;subst hd;rw[← hX];exact hKz rfl
    .simp only[e3,Ag,A7,if_false];rcases tfp (ki=7) with e4|e4
     .simp only[e4,Aa,A5];rw[show WH ((_,_,_,_,_,()),_,())=_ from afq hks kp];simp only[A9];rw[A8 hko];intro hX hd;subst hd;rw[← hX];exact hKv _ _ rfl
     .simp only[e4,Ag,A7,if_false];rcases tfp (ki=8) with e5|e5
      .simp only[e5,Aa,A5];rw[show WC ((_,_,_,_,_,()),())=_ from afn hko];simp only[A9];intro hX hd;subst hd;rw[← hX];exact hKv _ _ rfl
      .simp only[e5,Ag,A7,if_false];rcases tfp (ki=11) with e6|e6
       .simp only[e6,Aa,A5];unfold OB;rw[show Wp ((_,_,_,_,_,()),_,_,())=_ from ahB hko fr nu];simp only[A9];rcases tf (Dg (kA w.AB at_.toNat) fr nu).2.2 with e7|e7<;>simp only[e7,A5,A7,AY,AS]
        .by_cases hs:w.got.length<6
         .rw[A8<|AZ<|show(w.got.length:Int)<6 by omega,A8<|AZ hs,A8<|hn _ _ h.gl];intro hX hd;subst hd;rw[← hX];exact hK rfl
         .rw[AD<|nd<|show ¬(w.got.length:Int)<6 by omega,AD<|nd hs];intro hX hd;subst hd;rw[← hX];exact hF rfl rfl
        .intro hX hd;subst hd;rw[← hX];exact hF rfl rfl
       .simp only[e6,Ag,A7,if_false];rcases tfp (ki=12) with e7|e7
        .simp only[e7,Aa,A5];rw[show WD ((_,_,_,_,_,()),())=_ from afo hko];simp only[A9];intro hX hd;subst hd;rw[← hX];exact hKv _ _ rfl
        .simp only[e7,Ag,A7,if_false];rcases tfp (ki=13) with e8|e8
         .simp only[e8,Aa,A5];rw[show W4 ((_,_,_,_,_,()),())=_ from aes hko];simp only[A9];intro hX hd;subst hd;rw[← hX];exact hKv _ _ rfl
         .simp only[e8,Ag,A7,if_false];intro hX hd;subst hd;rw[← hX];exact hF rfl rfl
 .simp only[e0,AK,A7,A5];intro hX hd;subst hd;rw[← hX];exact hF rfl rfl
def atn{w:AE}{e:Event}(h:(EY w e).2=A3):(EY w e).1=w:=by
 unfold EY at h ⊢;split
 .rename_i h2;rw[A8 h2]at h;split
  .rename_i h3;rw[A8 h3]at h;split
   .rename_i h4;rw[A8 h4]at h;cases h
   .rfl
  .rename_i h3;rw[AD h3]at h;split
   .rename_i h4;rw[A8 h4]at h;cases h
   .rename_i h4;rw[AD h4]at h;split
    .rename_i h5;rw[A8 h5]at h;cases h
    .rfl
 .rfl
def arc(w:AE)(e:Event):(EY w e).1.Aq=w.Aq/\(EY w e).1.AQ=w.AQ/\(EY w e).1.got=w.got:=by
 unfold EY;split
 .split
  .split<;>exact⟨rfl,rfl,rfl⟩
  .split
   .exact⟨rfl,rfl,rfl⟩
   .split
    .unfold EE;split<;>exact⟨rfl,rfl,rfl⟩
    .exact⟨rfl,rfl,rfl⟩
 .exact⟨rfl,rfl,rfl⟩
def aaz{w:AE}(h:B7 w){e:Event}(ht:e.tx.size<=1048576)
  (hK:(doM w e).2=U->K (doM w e).1.AB (doM w e).1.Aq (doM w e).1.AT (doM w e).1.AQ (doM w e).1.got=R)(hF:(doM w e).2=A3->(doM w e).1=w->F=R)(hKv:∀k' b,doM w e=(GM w e.at_.toNat k',b)->Kv (w.AB.set e.at_.toNat k') b=R)
  (hKm:∀ra',doM w e=(⟨w.ti,w.AB,w.Aq,ra',w.AQ,w.got⟩,U)->Km ra' U=R)(hKz:doM w e=(w,A3)->Kz A3=R):
  doK w.AB w.Aq w.AT w.AQ w.got (tE e) K F Kv Km Kz=R:=by
 have rad:(e.ki=4\/e.ki=5\/e.ki=6)->SP w.AB w.Aq w.AT (tE e) (λx y=>K x w.Aq y w.AQ w.got) F=R:=by
  intro hk;have hd:doM w e=EY w e:=by
   unfold doM;rw[A8 hk]
  rw[ayB h hk];rw[hd]at hK hF;obtain⟨r1,r2,r3⟩:=arc w e;rcases tf (EY w e).2 with c|c
  .have:=hK c;rw[r1,r2,r3]at this;rw[c,A8 rfl];exact this
  .rw[c,A7];exact hF c<|atn c
 have lk:(e.ki=9\/e.ki=10)->VX w.Aq (tE e) (λy=>K w.AB y w.AT w.AQ w.got) F=R:=by
  intro hk;have hd:doM w e=F7 w e:=by
   unfold doM;rw[AD J,A8 hk]
  rw[ayC h];rw[hd]at hK hF;rcases tf (F7 w e).2 with c|c
  .have:=hK c;rw[c,A8 rfl,← this];unfold F7;split<;>rfl
  .rw[c,A7];refine hF c ?_;unfold F7 at c ⊢;split
   .rename_i h3;rw[A8 h3]at c;cases c
   .rfl
 unfold doK;by_cases h4:e.ki=4
 .rw[A8<|AZ h4];exact rad J
 .rw[AD<|nd h4];by_cases h5:e.ki=5
  .rw[A8<|AZ h5];exact rad J
  .rw[AD<|nd h5];by_cases h6:e.ki=6
   .rw[A8<|AZ h6];exact rad J
   .rw[AD<|nd h6];by_cases h9:e.ki=9
    .rw[A8<|AZ h9];exact lk J
    .rw[AD<|nd h9];by_cases h10:e.ki=10
     .rw[A8<|AZ h10];exact lk J
     .rw[AD<|nd h10];exact ayD h J J ht hK hF hKv hKm hKz _ rfl rfl
end
def awM(w:AE)(p:AO)(ra:List AO):(EE w p ra).ti=w.ti:=by unfold EE;split<;>rfl
def cQ(w:AE)(e:Event):(doM w e).1.ti=w.ti:=by
 unfold doM;split
 .unfold EY;split
  .split
   .split<;>rfl
   .split
    .rfl
    .split
     .exact awM _ _ _
     .rfl
  .rfl
 .split
  .unfold F7;split<;>rfl
  .split
   .unfold Gu;split
    .unfold O1;split
     .rfl
     .split<;>rfl
    .split
     .rfl
     .split
      .split<;>rfl
      .split
       .rfl
       .split
        .rfl
        .split
         .unfold OB;split<;>rfl
         .split
          .rfl
          .split<;>rfl
   .rfl
def atc{w:AE}(h:B7 w){r:List Int×Int×A2}{ev:List Event}(hev:ev.length<=1048576){e:Event}(ht:e.tx.size<=1048576):
  G6 ((r,tS w ev),tE e,())=I (((doM w e).2,()),((r,tS (CZ w e)<|KN ev e (doM w e).2),())):=by
 have hr:∀x:Event,Af (ev.length+[x].length)=U:=λx=>BG (by simp;omega);have hti:=cQ w e;unfold G6;refine aaz (w:=w) h (e:=e) ht (λc=> ?_) (λc c2=> ?_) (λk b c=> ?_) (λra c=> ?_) (λc=> ?_)
 .unfold CZ tick KN;rw[c,A8<|hr _,A8 rfl,A8 rfl,hti]
 .unfold CZ tick KN;rw[c,A7,A7,c2]
 .unfold CZ tick KN;rw[c];cases b
  .rfl
  .show(if Af _ then _ else _)=_;rw[A8<|hr _];rfl
 .unfold CZ tick KN;rw[c,A8 rfl,A8<|hr _];rfl
 .unfold CZ tick KN;rw[c];rfl
end Go.VS
namespace Go.VS
open Go
def V7(k:AA)(r:A4)(f:Bool):(wrR k r f).1.id=k.id:=by
 unfold wrR;split
 .rfl
 .cases f<;>rfl
def ave{k:AA}(h:Aj k=U)(f:Frame):(CH k f).1.id=k.id:=by
 unfold CH;rw[A8 h];unfold HS;split
 .split
  .unfold ED;split
   .rfl
   .split
    .rfl
    .split
     .rfl
     .unfold Jc;split
      .split
       .unfold JV;split
        .exact V7 _ _ _
        .rfl
       .rfl
      .rfl
  .split
   .exact V7 _ _ _
   .rfl
 .rfl
def av1(k:AA):(Fl k).1.id=k.id:=by
 unfold Fl;split
 .exact V7 _ _ _
 .rfl
def axX(k:AA)(tt un:Int)(tx:A4):(Dz k tt un tx).1.id=k.id:=by
 unfold Dz;split
 .exact V7 _ _ _
 .rfl
def axz(k:AA)(fr nu:Int):(Dg k fr nu).1.id=k.id:=by
 unfold Dg;split
 .exact V7 _ _ _
 .rfl
def auv(k:AA):(Fm k).1.id=k.id:=by unfold Fm;split<;>rfl
def auT(k:AA):(Dl k).1.id=k.id:=by unfold Dl;split<;>rfl
def aaq(k:AA)(n:Int):(faM k n).id=k.id:=by unfold faM;rfl
def ayq(k:AA):(riM k).id=k.id:=rfl
def ayo{k:AA}(h:Aj k=U):Aj (riM k)=U:=(ayp<|Bu h).ok
def FO{l:List AA}{i j:Nat}(hi:i<l.length)(k:AA):kA (l.set i k) j=if j=i then k else kA l j:=by
 unfold kA;simp only[BC,Pa];by_cases h:j=i
 .subst h;simp[hi]
 .have h':¬i=j:=λe=>h e.symm;simp[h,h']
def B7.put{w:AE}(h:B7 w){i:Nat}(hi:i<4){k:AA}(hk:Aj k=U)(hid:k.id=(kA w.AB i).id)(ra:List AO)(se go:List A6)
  (rl:ra.length<=30)(sl:se.length<=6)(gl:go.length<=6)(p:∀p∈ra,Dy p=U)(s:∀n∈se,B1 n=U)(g:∀n∈go,B1 n=U):
  B7 ⟨w.ti,w.AB.set i k,w.Aq,ra,se,go⟩:=by
 refine⟨by rw[Gi];exact h.kl,h.ll,rl,sl,gl,λj hj=> ?_,p,s,g⟩;show Aj (kA (w.AB.set i k) j)=U/\(kA (w.AB.set i k) j).id=(j:Int);rw[FO (by rw[h.kl];exact hi)];split
 .rename_i e;rw[e,hid];exact⟨hk,(h.k i hi).2⟩
 .exact h.k j hj
def B7.GM{w:AE}(h:B7 w){i:Nat}(hi:i<4){k:AA}(hk:Aj k=U)(hid:k.id=(kA w.AB i).id):B7 (GM w i k):=
 h.put hi hk hid w.AT w.AQ w.got h.rl h.sl h.gl h.p h.s h.g
def B7.ra{w:AE}(h:B7 w){ra:List AO}(rl:ra.length<=30)(p:∀p∈ra,Dy p=U):B7 ⟨w.ti,w.AB,w.Aq,ra,w.AQ,w.got⟩:=
 ⟨h.kl,h.ll,rl,h.sl,h.gl,h.k,p,h.s,h.g⟩
def B7.ti{w:AE}(h:B7 w)(n:Int):B7 ⟨n,w.AB,w.Aq,w.AT,w.AQ,w.got⟩:=⟨h.kl,h.ll,h.rl,h.sl,h.gl,h.k,h.p,h.s,h.g⟩
def UD{w:AE}(h:B7 w)(i:Nat):(JY w.AT i).length<=30/\ ∀p∈JY w.AT i,Dy p=U:=by
 have:=h.rl;refine⟨by unfold JY;simp;omega,λp hp=>h.p p ?_⟩;rcases BN.1 hp with h1|h1
 .exact Hb h1
 .exact Jr h1
def au5{w:AE}(h:B7 w){p:AO}(hp:Dy p=U){ra:List AO}(rl:ra.length<=30)(hra:∀p∈ra,Dy p=U):B7 (EE w p ra):=by
 unfold EE;obtain⟨_,p2,_⟩:=MF hp;split
 .have hi:p.dst.toNat<4:=J
  exact h.put hi (avd (h.k _ hi).1 _) (ave (h.k _ hi).1 _) _ _ _ (aI1 rl) h.sl h.gl (aJc hra (ZO _ _).2) h.s h.g
 .exact h.ra rl hra
def atS{p:AO}(hp:Dy p=U)(mix kp:Int):Dy (PS p mix kp)=U:=by
 unfold Dy PS at *;simpa[Za,rS] using hp
def ato{w:AE}(h:B7 w)(e:Event):B7 (EY w e).1:=by
 unfold EY;split
 .rename_i h0;have h0:=Ad.1 h0;have hlt:e.wo.toNat<w.AT.length:=J
  have hp:=R0 h hlt;split
  .split
   .refine h.ra (by rw[Gi];exact h.rl) λp hp'=> ?_;rcases Rj hp' with h1|h1
    .exact h.p p h1
    .rw[h1];exact atS hp _ _
   .exact h
  .split
   .exact h.ra (UD h _).1 (UD h _).2
   .split
    .refine au5 h hp ?_ ?_<;>split
     .exact(UD h _).1
     .exact h.rl
     .exact(UD h _).2
     .exact h.p
    .exact h
 .exact h
def aw1{w:AE}(h:B7 w)(e:Event):B7 (F7 w e).1:=by
 unfold F7;split
 .exact⟨h.kl,by show(w.Aq.set _ _).length=3;rw[Gi];exact h.ll,h.rl,h.sl,h.gl,h.k,h.p,h.s,h.g⟩
 .exact h
def aH1{k:AA}{tt un:Int}{tx:A4}(h:(Dz k tt un tx).2≠0):B1 ⟨k.id,(Dz k tt un tx).2,tt,un,tx⟩=U:=by
 unfold Dz at h ⊢;split
 .rename_i hc;rw[A8 hc]at h;simp only[AG]at hc;simp only at h ⊢;split
  .exact hc.2
  .rename_i h1;rw[AD h1]at h;exact absurd rfl h
 .rename_i hc;rw[AD hc]at h;exact absurd rfl h
def aua{k:AA}(hk:Aj k=U){fr nu:Int}(h:(Dg k fr nu).2.2=U):B1 (Dg k fr nu).2.1=U:=by
 unfold Dg at h ⊢;split
 .rename_i hc;rw[A8 hc]at h;simp only at h ⊢;rw[A8 h];simp only[AG,C1,decide_eq_false_iff_not]at hc;exact HL (Bx (Bu hk).kok).i (FM<|Rz.1 hc.2).1
 .rename_i hc;rw[AD hc]at h;cases h
def qB{α:Type}{l:List α}{P:α->Prop}{a:α}(h:∀x∈l,P x)(ha:P a):∀x∈l++[a],P x:=by
 intro x hx;rcases BN.1 hx with h1|h1
 .exact h x h1
 .rw[CA.1 h1];exact ha
def arl{w:AE}(h:B7 w)(e:Event)(ha:isN e.at_=U):B7 (Gu w e<|kA w.AB e.at_.toNat).1:=by
 have hi:=VD ha;have hr:=EB ha;obtain⟨hk,hid⟩:=h.k _ hi;unfold Gu;split
 .unfold O1;split
  .exact h
  .split
   .exact h
   .rename_i h1 h2;refine h.put hi (axW hk _ _ _) (axX _ _ _ _) _ _ _ h.rl (by simp;omega) h.gl h.p (qB h.s ?_) h.g;have:=aH1 h2;rw[hid,Nq hr.1]at this;exact this
 .split
  .exact h.GM hi (att hk) (av1 _)
  .split
   .split
    .rename_i h1;exact h.ra (aI1 h.rl) (aJc h.p λf hf=>by rw[CA.1 hf];exact avt hk h1)
    .exact h
   .split
    .exact h.GM hi (rK hk _) (aaq _ _)
    .split
     .exact h.GM hi (ayo hk) (ayq _)
     .split
      .unfold OB;split
       .rename_i h1;simp only[AG,decide_eq_true_eq]at h1;exact h.put hi (axy hk _ _) (axz _ _ _) _ _ _ h.rl h.sl (by simp;omega) h.p h.s (qB h.g<|aua hk h1.1)
       .exact h
      .split
       .exact h.GM hi (auu hk) (auv _)
       .split
        .exact h.GM hi (auS hk) (auT _)
        .exact h
def rQ{w:AE}(h:B7 w)(e:Event):B7 (doM w e).1:=by
 unfold doM;split
 .exact ato h e
 .split
  .exact aw1 h e
  .split
   .rename_i h1;exact arl h e h1
   .exact h
def aIz{w:AE}(h:B7 w)(b:Bool):B7 (tick w b):=by
 unfold tick;split
 .exact h.ti _
 .exact h
def qx{w:AE}(h:B7 w)(e:Event):B7 (CZ w e):=aIz (rQ h e) _
def kp0(i:Int):AA:=⟨i,U,noB,0,[]⟩
def rv0:AE:=⟨0,[kp0 0,kp0 1,kp0 2,kp0 3],[U,U,U],[],[],[]⟩
def ayR{i:Int}(h:isN i=U):Aj (kp0 i)=U:=by
 refine Xz (k:=kp0 i) (rs:=[]) (ts:=[]) h ⟨?_,(show noB.size<=2400 by decide),by rfl,by rfl⟩ (show 0<=3 by decide) (.inl rfl) ?_ (λi hi=>absurd hi<|pH _)
 .intro r hr;cases hr
 .unfold Ci;rw[A8<|show isN (kp0 i).id=U from h];rfl
def cT{i:Nat}(hi:i<4):kA rv0.AB i=kp0 i:=by
 have:i=0\/i=1\/i=2\/i=3:=J
 obtain rfl|rfl|rfl|rfl:=this<;>rfl
def Fg{i:Nat}(hi:i<4):isN (i:Int)=U:=Ad.2 ⟨J,J⟩
def dE:B7 rv0:=by
 refine⟨rfl,rfl,by decide,by decide,by decide,λi hi=> ?_,(λp hp=>by cases hp),(λp hp=>by cases hp),(λp hp=>by cases hp)⟩;rw[cT hi];exact⟨ayR<|Fg hi,rfl⟩
def Q1(k:AA):Prop:=k.up=A3->k.fo=(k.log.size:Int)
def PN(k:AA)(r:A4)(f:Bool):(wrR k r f).1.up=k.up:=by
 unfold wrR;split
 .rfl
 .cases f<;>rfl
def aa5{k:AA}(h:Aj k=U)(f:Frame):(CH k f).1.up=k.up:=by
 unfold CH;rw[A8 h];unfold HS;split
 .split
  .unfold ED;split
   .rfl
   .split
    .rfl
    .split
     .rfl
     .unfold Jc;split
      .split
       .unfold JV;split
        .exact PN _ _ _
        .rfl
       .rfl
      .rfl
  .split
   .exact PN _ _ _
   .rfl
 .rfl
def auL{k:AA}(ok:Aj k=U)(h:k.up=A3)(f:Frame):CH k f=(k,[]):=by
 unfold CH;rw[A8 ok];unfold HS;rw[h,AS,A7]
def auw{k:AA}(h:k.up=A3)(tt un:Int)(tx:A4):Dz k tt un tx=(k,0):=by
 unfold Dz;rw[h,AS,A7]
def awb{k:AA}(h:k.up=A3)(a b:Int):Dg k a b=(k,zN,A3):=by
 unfold Dg;rw[h,AS,A7]
def asm{k:AA}(h:k.up=A3):Fl k=(k,A3):=by
 unfold Fl;rw[h,A7]
def at2{k:AA}(h:k.up=A3):Fm k=(k,A3):=by
 unfold Fm;rw[h,A7]
def arX{k:AA}(h:k.up=A3):Dl k=(k,A3):=by
 unfold Dl;rw[h,AS,A7]
def ayv(k:AA)(tt un:Int)(tx:A4):(Dz k tt un tx).1.up=k.up:=by
 unfold Dz;split
 .exact PN _ _ _
 .rfl
def ayZ(k:AA)(a b:Int):(Dg k a b).1.up=k.up:=by
 unfold Dg;split
 .exact PN _ _ _
 .rfl
def awE(k:AA):(Fl k).1.up=k.up:=by
 unfold Fl;split
 .exact PN _ _ _
 .rfl
def axU(k:AA):(Fm k).1.up=k.up:=by unfold Fm;split<;>rfl
def avR(k:AA):(Dl k).1.up=k.up:=by unfold Dl;split<;>rfl
def RE{k k':AA}(h:Q1 k)(hu:k'.up=k.up)(hd:k.up=A3->k'=k):Q1 k':=λe=>by
 rw[hu]at e;rw[hd e];exact h e
def axr(k:AA)(n:Int):Q1 (faM k n):=by
 intro _;unfold faM;simp only;have h:=(Qk<|k.log.extract 0 (k.fo+max 0 (min n<|(k.log.size:Int) - k.fo)).toNat).1;rw[@aFD];omega
def awW{k:AA}(ok:Aj k=U)(h:k.up=A3)(d:Q1 k)(n:Int):faM k n=k:=by
 obtain⟨_,h2,h3⟩:=aFw (Bu ok) (d h) n;have h4:=aIj ok h;have:faM k n=⟨(faM k n).id,(faM k n).up,(faM k n).log,(faM k n).fo,(faM k n).AM⟩:=rfl;rw[this,h2,h3,aaq,show(faM k n).up=k.up from by rw[h];rfl,show(faM k n).AM=k.AM from by rw[h4];rfl]
def aJe{k:AA}(h:k.up=U):riM k=k:=by
 unfold riM;rw[← h]
def LU{l:List AA}{i:Nat}:l.set i (kA l i)=l:=by
 apply pD;intro j;rw[Pa];by_cases h:i=j
 .subst h;by_cases h1:i<l.length
  .rw[A8 rfl,A8 h1,kA,BC,Au h1];rfl
  .rw[A8 rfl,AD h1,Hz J]
 .rw[AD h]
def Tr{w:AE}{i:Nat}{k:AA}(h:k=kA w.AB i):GM w i k=w:=by
 subst h;unfold GM;rw[LU]
structure Rh (w:AE):Prop where
 d:∀i,i<4->Q1 (kA w.AB i)
def ayA{w:AE}(h:B7 w)(hd:Rh w){e:Event}(ho:(doM w e).2=A3):(doM w e).1=w:=by
 unfold doM at ho ⊢;split
 .rename_i h1;rw[A8 h1]at ho;unfold EY at ho ⊢;split
  .rename_i h2;rw[A8 h2]at ho;split
   .rename_i h3;rw[A8 h3]at ho;split
    .rename_i h4;rw[A8 h4]at ho;cases ho
    .rfl
   .rename_i h3;rw[AD h3]at ho;split
    .rename_i h4;rw[A8 h4]at ho;cases ho
    .rename_i h4;rw[AD h4]at ho;split
     .rename_i h5;rw[A8 h5]at ho;cases ho
     .rfl
  .rfl
 .rename_i h1;rw[AD h1]at ho;split
  .rename_i h2;rw[A8 h2]at ho;unfold F7 at ho ⊢;split
   .rename_i h3;rw[A8 h3]at ho;cases ho
   .rfl
  .rename_i h2;rw[AD h2]at ho;split
   .rename_i h3;rw[A8 h3]at ho;have hi:=VD h3;obtain⟨ok,_⟩:=h.k _ hi;have hdk:=hd.d _ hi;unfold Gu at ho ⊢;split
    .rename_i c;rw[A8 c]at ho;unfold O1 at ho ⊢;split
     .rfl
     .rename_i c1;rw[AD c1]at ho;split
      .rfl
      .rename_i c2;rw[AD c2]at ho;cases ho
    .rename_i c;rw[AD c]at ho;split
     .rename_i c;rw[A8 c]at ho;refine Tr ?_;unfold Fl at ho ⊢;split
      .rename_i c1;rw[A8 c1]at ho;exact RF ho
      .rfl
     .rename_i c;rw[AD c]at ho;split
      .rename_i c;rw[A8 c]at ho;split
       .rename_i c1;rw[A8 c1]at ho;cases ho
       .rfl
      .rename_i c;rw[AD c]at ho;split
       .rename_i c;rw[A8 c]at ho;exact Tr (awW ok ho hdk _)
       .rename_i c;rw[AD c]at ho;split
        .rename_i c;rw[A8 c]at ho;exact Tr (aJe<|by simpa using ho)
        .rename_i c;rw[AD c]at ho;split
         .rename_i c;rw[A8 c]at ho;unfold OB at ho ⊢;split
          .rename_i c1;rw[A8 c1]at ho;cases ho
          .rfl
         .rename_i c;rw[AD c]at ho;split
          .rename_i c;rw[A8 c]at ho;refine Tr ?_;unfold Fm at ho ⊢;split
           .rename_i c1;rw[A8 c1]at ho;cases ho
           .rfl
          .rename_i c;rw[AD c]at ho;split
           .rename_i c;rw[A8 c]at ho;refine Tr ?_;unfold Dl at ho ⊢;split
            .rename_i c1;rw[A8 c1]at ho;cases ho
            .rfl
           .rfl
   .rfl
inductive KMv (k:AA):AA->Prop
 | aFA (f:Frame):KMv k (CH k f).1
 | own (tt un:Int) (tx:A4):KMv k (Dz k tt un tx).1
 | time:KMv k (Fl k).1
 | eat (a b:Int):KMv k (Dg k a b).1
 | UZ (n:Int):KMv k (faM k n)
 | ab:KMv k (riM k)
 | pack:KMv k (Fm k).1
 | force:KMv k (Dl k).1
def ayy{w:AE}(h:B7 w)(e:Event):(doM w e).1.AB=w.AB\/ ∃i k',i<4/\KMv (kA w.AB i) k'/\(doM w e).1.AB=w.AB.set i k':=by
 unfold doM;split
 .unfold EY;split
  .rename_i h2;split
   .split
    .exact .inl rfl
    .exact .inl rfl
   .split
    .exact .inl rfl
    .split
     .unfold EE;split
      .refine .inr ⟨_,_, ?_,.aFA _,rfl⟩;have:=Ad.1 h2;have:=MF<|R0 h (i:=e.wo.toNat) J;omega
      .exact .inl rfl
     .exact .inl rfl
  .exact .inl rfl
 .split
  .unfold F7;split
   .exact .inl rfl
   .exact .inl rfl
  .split
   .rename_i h3;have hi:=VD h3;unfold Gu;split
    .unfold O1;split
     .exact .inl rfl
     .split
      .exact .inl rfl
      .exact .inr ⟨_,_,hi,.own _ _ _,rfl⟩
    .split
     .exact .inr ⟨_,_,hi,.time,rfl⟩
     .split
      .split
       .exact .inl rfl
       .exact .inl rfl
      .split
       .exact .inr ⟨_,_,hi,.UZ _,rfl⟩
       .split
        .exact .inr ⟨_,_,hi,.ab,rfl⟩
        .split
         .unfold OB;split
          .exact .inr ⟨_,_,hi,.eat _ _,rfl⟩
          .exact .inl rfl
         .split
          .exact .inr ⟨_,_,hi,.pack,rfl⟩
          .split
           .exact .inr ⟨_,_,hi,.force,rfl⟩
           .exact .inl rfl
   .exact .inl rfl
def ayn{w:AE}(h:B7 w)(e:Event):(CZ w e).AB=w.AB\/ ∃i k',i<4/\KMv (kA w.AB i) k'/\(CZ w e).AB=w.AB.set i k':=by
 have:=ayy h e;unfold CZ tick;split<;>exact this
def axJ{P:AA->Prop}(hP:∀k k',Aj k=U->P k->KMv k k'->P k'){w:AE}(h:B7 w)(hw:∀i,i<4->P (kA w.AB i))(e:Event):∀i,i<4->P (kA (CZ w e).AB i):=by
 intro i hi;rcases ayn h e with e1|⟨j,k',hj,m,e1⟩
 .rw[e1];exact hw i hi
 .rw[e1,FO (by rw[h.kl];exact hj)];split
  .exact hP _ _ (h.k j hj).1 (hw j hj) m
  .exact hw i hi
def KMv.dur{k k':AA}(ok:Aj k=U)(h:Q1 k)(m:KMv k k'):Q1 k':=by
 cases m with
 | aFA f=>exact RE h (aa5 ok f) λe=>by rw[auL ok e]
 | own a b c=>exact RE h (ayv _ _ _ _) λe=>by rw[auw e]
 | time=>exact RE h (awE _) λe=>by rw[asm e]
 | eat a b=>exact RE h (ayZ _ _ _) λe=>by rw[awb e]
 | UZ n=>exact axr _ _
 | ab=>intro e;cases e
 | pack=>exact RE h (axU _) λe=>by rw[at2 e]
 | force=>exact RE h (avR _) λe=>by rw[arX e]
def Rh.sim{w:AE}(hd:Rh w)(h:B7 w)(e:Event):Rh (CZ w e):=⟨axJ (λ_ _ ok d m=>m.dur ok d) h hd.d e⟩
inductive Reach:List Event->AE->Prop
 | nil:Reach [] rv0
 | snoc {ev:List Event} {w:AE} {e:Event} :Reach ev w->(doM w e).2=U->e.tx.size<=1048576->Reach (ev++[e]) (CZ w e)
def Reach.both{ev:List Event}{w:AE}(h:Reach ev w):B7 w/\Rh w:=by
 induction h with
 | nil=>exact⟨dE,⟨λi hi e=>by rw[cT hi]at e;cases e⟩⟩
 | snoc _ _ _ ih=>exact⟨qx ih.1 _,ih.2.sim ih.1 _⟩
def Reach.ok{ev:List Event}{w:AE}(h:Reach ev w):B7 w:=h.both.1
def Reach.dur{ev:List Event}{w:AE}(h:Reach ev w):Rh w:=h.both.2
def Reach.step{ev:List Event}{w:AE}(h:Reach ev w){e:Event}(ht:e.tx.size<=1048576):Reach (KN ev e (doM w e).2) (CZ w e):=by
 unfold KN;rcases tf (doM w e).2 with c|c
 .rw[c,A8 rfl];exact h.snoc c ht
 .have:=ayA h.ok h.dur c;rw[c,A7];unfold CZ tick;rw[c,A7,this];exact h
def Ok{l:List Int}(h:BOk l):BF (BK l)=l:=by
 unfold BF BK;simp only[IV]
 conv=>rhs;rw[← bR l]
 refine H9 λn hn=> ?_;have:=h n hn;simp only[Function.comp,id];rw[UInt8.toNat_ofNat'];omega
def av7{a b:List Int}(ha:BOk a)(hb:BOk b)(h:BK a=BK b):a=b:=by
 rw[← Ok ha,h,Ok hb]
def Oy(f:Frame):BOk (Ck f):=by
 unfold Ck;split
 .exact BOk.app (aL f) (.cons _<|.cons _ .nil)
 .exact .nil
def IM{n:Int}(h0:0<=n)(h1:n<=255):w8 n=n:=by
 rw[Nb];omega
def V2{n:Int}(h0:0<=n)(h1:n<=65535):256 * w8 (w64<|B5 n 256)+w8 (BO n 256)=n:=by
 rw[Nb,Nb,Gj h0,Lg h0,Ac J J];omega
def awq{s:A4}(h:s.size=4):∃a b c d,s=B [a,b,c,d]:=by
 have h':(L s).length=4:=h;rcases hl:L s with _|⟨a,_|⟨b,_|⟨c,_|⟨d,_|⟨e,l⟩⟩⟩⟩⟩<;>rw[hl]at h'<;>simp at h';exact⟨a,b,c,d,GG (by rw[L_B,hl])⟩
def aIZ{a1 a2 a3 a4 a5 a6 a7 a8 a9 b1 b2 b3 b4 b5 b6 b7 b8 b9:Int}{s t:A4}(h1:a1=b1)(h2:a2=b2)(h3:a3=b3)(h4:a4=b4)(h5:a5=b5)(h6:a6=b6)(h7:a7=b7)(h8:a8=b8)(h9:a9=b9)(h:s=t):
  (⟨a1,a2,a3,a4,a5,a6,a7,a8,a9,s⟩:Frame)=⟨b1,b2,b3,b4,b5,b6,b7,b8,b9,t⟩:=by
 subst h1 h2 h3 h4 h5 h6 h7 h8 h9 h;rfl
def YY{f:Frame}(h:C4 f=U):D2 (Ck f)=(f,U):=by
 have hr:=P5 h;have r1:=Ad.1 hr.1;have r2:=Ad.1 hr.2.1;have r3:=Ad.1 hr.2.2.1;have r4:=Ad.1 hr.2.2.2.1;have r5:=Ad.1 hr.2.2.2.2.1;have r6:=Ad.1 hr.2.2.2.2.2.1;have r7:=hr.2.2.2.2.2.2;have aES:Fy (Ck f)=f/\((Ck f).length=10\/(Ck f).length=17):=by
  obtain⟨ki,src,dst,fr,nu,t',un,sz,mix,da⟩:=f;simp only at r1 r2 r3 r4 r5 r6 r7;unfold Ck;rw[A8 h];unfold JX at r7;by_cases hk:ki=1
  .subst hk;simp only[Aa,A5,AG,decide_eq_true_eq]at r7;obtain⟨q1,q2,q3,q4⟩:=r7;have q1:=Ad.1 q1;have q2:=Ad.1 q2;obtain⟨a,b,c,d,rfl⟩:=awq (s:=da) J;unfold F5;simp only[Aa,A5];have hb:BF (B [a,b,c,d])=[(a.toNat:Int),b.toNat,c.toNat,d.toNat]:=rfl;rw[hb];refine⟨?_,.inr rfl⟩;have e1:=V2 (n:=un) J J;have e2:=V2 (n:=mix) J J;unfold Fy;rw[A8<|by rfl];have g1:=IM (n:=src) J J;have g2:=IM (n:=dst) J J;have g3:=IM (n:=fr) J J;have g4:=IM (n:=nu) J J;have g5:=IM (n:=t') J J;have g6:=IM (n:=sz) J J;have g7:=U9 [a,b,c,d];exact aIZ rfl g1 g2 g3 g4 g5 e1 g6 e2 g7
  .rw[AD<|by simpa using hk]at r7;simp only[AG,Br,decide_eq_true_eq]at r7;obtain⟨q0,q1,q2,q3,q4⟩:=r7;unfold F5;simp only[BI hk,A7];refine⟨?_,.inl rfl⟩;have e1:=V2 (n:=un) J J;unfold Fy;rw[AD<|by simp];have g0:=IM (n:=ki) J J;have g1:=IM (n:=src) J J;have g2:=IM (n:=dst) J J;have g3:=IM (n:=fr) J J;have g4:=IM (n:=nu) J J;have g5:=IM (n:=t') J J;exact aIZ g0 g1 g2 g3 g4 g5 e1 q1.symm q2.symm q3.symm
 unfold D2;rw[aES.1,A8,A8<|AZ rfl];rw[Br,decide_eq_true_eq,decide_eq_true_eq];have:=aES.2;omega
def Nz:List Int->Nat->Int
 | [],_=>0
 | x::r,i=>x * ((i % 1000:Nat)+1)+Nz r (i+1)
def nq:∀ {l:List Int} {i:Nat} {n:Int},BOk l->0<=n->n<65521->FB l i n=(n+Nz l i) % 65521
 | [],i,n,_,h0,h1=>by
  unfold FB Nz;omega
 | x::r,i,n,hb,h0,h1=>by
  have hx:=hb x Av;have hp:0<=x * ((i % 1000:Nat)+1:Int):=Ur hx.1 J;unfold FB Nz;rw[Lg J,nq (λy hy=>hb y<|An x hy) J J];omega
def aHO:∀ {l:List Int} {j i:Nat} {x:Int} (h:j<l.length),Nz (l.set j x) i=Nz l i+(x - l[j]) * (((i+j) % 1000:Nat)+1)
 | y::r,0,i,x,h=>by
  rw[List.set_cons_zero];unfold Nz;simp only[List.getElem_cons_zero,I0];rw[Int.sub_mul];omega
 | y::r,j+1,i,x,h=>by
  rw[List.set_cons_succ];unfold Nz;rw[aHO (j:=j) (i:=i+1)<|by simpa using h,List.getElem_cons_succ,show i+1+j=i+(j+1) by omega];omega
structure dJ (b body:List Int):Prop where
 e:b=body++two (FB body 0 0)
 ok:BOk body
 len:body.length<=15
def awD{a b:Int}(h0:0<=a/\a<65521)(h1:0<=b/\b<65521)(h:two a=two b):a=b:=by
 have e1:=V2 (n:=a) J J;have e2:=V2 (n:=b) J J;unfold two at h;simp only[Mt,and_true]at h;rw[← e1,← e2,h.1,h.2]
def arE{b body Q5:List Int}{j:Nat}{x:Int}(h:dJ b body)(hj:j<b.length)(hx:x≠b[j])(hr:0<=x/\x<=255):¬dJ (b.set j x) Q5:=by
 intro h';have hlb:b.length=body.length+2:=by rw[h.e];simp
 have am9:(b.set j x).length=Q5.length+2:=by rw[h'.e];simp
 rw[Gi]at am9;have hs:=pv (i:=0) (n:=0) h.ok J J;have hs':=pv (i:=0) (n:=0) h'.ok J J;have e:=h'.e;have hbl:body.length=Q5.length:=J
 by_cases hlt:j<body.length
 .have e1:(body.set j x)++two (FB body 0 0)=Q5++two (FB Q5 0 0):=by
   rw[← e,h.e,List.set_append_left _ _ hlt]
  obtain⟨e2,e3⟩:=List.append_inj e1 (by rw[Gi];exact hbl);have e4:=awD hs hs' e3;have hbj:b[j]=body[j]:=by simp only[h.e,List.getElem_append_left hlt]
  rw[← e2]at e4 h';rw[nq h.ok J J,nq h'.ok J J,aHO hlt]at e4;have hb1:=h.ok body[j] (CV hlt);have hlen:=h.len;rw[hbj]at hx;have hm:((0+j) % 1000:Nat)=j:=J
  rw[hm]at e4;have hd:∃d:Int,d=(x - body[j]) * ((j:Int)+1):=⟨_,rfl⟩;obtain⟨d,hd⟩:=hd;rw[← hd]at e4;have h1:d≠0:=by
   rw[hd];exact Int.mul_ne_zero J J
  have h2:d<=255 * 15:=by
   rw[hd];have a1:(x - body[j]) * ((j:Int)+1)<=255 * ((j:Int)+1):=p7 J J;omega
  have h3: -(255 * 15)<=d:=by
   rw[hd];have a1:(-255) * ((j:Int)+1)<=(x - body[j]) * ((j:Int)+1):=p7 J J;omega
  omega
 .have e1:body++(two<|FB body 0 0).set (j - body.length) x=Q5++two (FB Q5 0 0):=by
   rw[← e,h.e,List.set_append_right _ _ J]
  obtain⟨e2,e3⟩:=List.append_inj e1 hbl;rw[← e2]at e3;have e4:b.set j x=b:=by
   rw[e,← e2];exact h.e.symm
  have:(b.set j x)[j]'(by rw[Gi];exact hj)=x:=List.getElem_set_self ..;rw[List.getElem_of_eq e4]at this;exact hx this.symm
def aH0{f:Frame}(h:C4 f=U):dJ (Ck f) (F5 f):=⟨by unfold Ck;rw[A8 h],aL f,ZB h⟩
def arB{b:List Int}(hb:BOk b)(h:(D2 b).2=U):dJ b (F5 (D2 b).1):=by
 have ok:=arC h;have:Ck (D2 b).1=b:=by
  unfold D2 at h ⊢;split
  .rename_i h1;rw[A8 h1]at h;split
   .rename_i h2;exact av7 (Oy _) hb (BX h2)
   .rename_i h2;rw[AD h2]at h;cases h
  .rename_i h1;rw[AD h1]at h;cases h
 have hs:=aH0 ok;rw[this]at hs;exact hs
def axd{x k:Int}(hx:0<=x/\x<=255)(hk:1<=k/\k<=255):E4 .u8 x (w8 k)≠x/\0<=E4 .u8 x (w8 k)/\E4 .u8 x (w8 k)<=255:=by
 rw[IM J J];have e:E4 .u8 x k=w8 ((FV 8 x ^^^ FV 8 k).toNat:Int):=rfl;have hlt:=(FV 8 x ^^^ FV 8 k).isLt;rw[e,IM J J];refine⟨λh=> ?_,J,J⟩;obtain⟨m,rfl⟩:=HZ hx.1;obtain⟨n,rfl⟩:=HZ (show 0<=k by omega);have e1:(FV 8 (m:Int) ^^^ FV 8 (n:Int))=FV 8 (m:Int):=by
  apply pR;rw[Rp];omega
 have e2:FV 8 (n:Int)=0#8:=by
  have:=congrArg (λz=>FV 8 (m:Int) ^^^ z) e1;simpa[← BitVec.xor_assoc] using this
 have e3:=congrArg BitVec.toNat e2;rw[Rp]at e3;simp at e3;omega
def as4{f:Frame}{p:AO}(hf:C4 f=U)(hd:p.data=BK (Ck f)){mix kp:Int}(hm:inB mix 0 ((p.data.size:Int) - 1)=U)(hk:inB kp 1 255=U):(D2<|BF (PS p mix kp).data).2=A3:=by
 have hm:=Ad.1 hm;have hk:=Ad.1 hk;rw[hd,Za]at hm;rcases tf (D2<|BF (PS p mix kp).data).2 with h|h
 .exfalso;have hs:=arB (BOk.str _) h;unfold PS at hs;simp only at hs;rw[hd,Ok<|Oy f]at hs;have hlt:mix.toNat<(Ck f).length:=J
  have hrd: @rd Int (dfl .u8) (Ck f) mix=(Ck f)[mix.toNat]:=by
   show(Ck f).getD mix.toNat 0=_;rw[BC,Au hlt];rfl
  rw[hrd]at hs;have hx:=Oy f _<|CV hlt;have hne:=axd hx hk;have hb:BOk ((Ck f).set mix.toNat<|E4 .u8 (Ck f)[mix.toNat] (w8 kp)):=by
   intro y hy;rcases Rj hy with h1|h1
   .exact Oy f y h1
   .rw[h1];exact hne.2
  rw[Ok hb]at hs;exact arE (aH0 hf) hlt hne.1 hne.2 hs
 .exact h
def aFu{α β:Type}{f g:α->β->α}:∀ {l:List β} {a:α},(∀a,∀b∈l,f a b=g a b)->l.foldl f a=l.foldl g a
 | [],_,_=>rfl
 | x::l,a,h=>by
  rw[E6,E6,h a x Av];exact aFu λa b hb=>h a b<|An x hb
def O2(b:Nat)(bl:Nat->List UInt8)(kn:List A4):Prop:=∀k,k<b->bsA kn k=noB\/bsA kn k=B (bl k)
def at7{b:Nat}{bl:Nat->List UInt8}{kn kn':List A4}{m:AX}(hb:∀k,(bl k).length=4)(hm:Iz m->m.da=B (E3 4 bl<|Bl (b:Int) m.nu))
  (h:Cg b kn)(ht:O2 b bl kn)(e:FR b kn m=I kn'):O2 b bl kn':=by
 unfold FR at e;split at e
 .rename_i hc;rw[AG]at hc;have hda:=hm ⟨hc.1,BX hc.2⟩;split at e
  .rename_i u hu;injection e with e;subst e;have Fs:u∈DR kn (Bl (b:Int) m.nu):=by rw[hu];exact Ml u
   obtain⟨h1,h2⟩:=FW.1 Fs;have h3:=MD h1;have hul:u<kn.length:=by rw[h.1];omega
   have hv:Ec kn (Bl (b:Int) m.nu) (L m.da)=bl u:=by
    have hp:=aut (n:=4) (bl:=bl) (p:=λk=> !unk kn k) (ks:=Bl (b:Int) m.nu) (u:=u) (λk _=>hb k) (by
     have:(Bl (b:Int) m.nu).filter (λk=> !(!unk kn k))=DR kn (Bl (b:Int) m.nu):=by
      unfold DR;congr 1;funext k;rw[Bool.not_not]
     rw[this,hu])
    rw[← hp,hda,L_B];unfold Ec;refine aFu λx k hk=> ?_;rcases tf (unk kn k) with c|c
    .rw[c];rfl
    .rw[c];have hkb:=MD hk;rcases ht k J with h4|h4
     .exact absurd h4 (J3 c)
     .rw[h4,L_B];rfl
   intro k hk;rw[UR _ hul];by_cases ek:k=u
   .rw[A8 ek,hv,ek];exact .inr rfl
   .rw[AD ek];exact ht k hk
  .cases e
 .cases e
def o5{b:Nat}{bl:Nat->List UInt8}(hb:∀k,(bl k).length=4):∀(list:List AX) (s:List A4×Bool),(∀m∈list,Iz m->m.da=B (E3 4 bl<|Bl (b:Int) m.nu))->Cg b s.1->O2 b bl s.1->O2 b bl (list.foldl (CP b) s).1
 | [],_,_,_,h=>h
 | m::list,s,hm,h,ht=>by
  rw[E6];cases e:FR b s.1 m with
  | none=>
   rw[show CP b s m=s by unfold CP;rw[e]];exact o5 hb list s (λx hx=>hm x<|An m hx) h ht
  | some kn=>
   rw[show CP b s m=(kn,U) by unfold CP;rw[e]];exact o5 hb list (kn,U) (λx hx=>hm x<|An m hx) (UG h e).1<|at7 hb (hm m Av) h ht e
def mv{b:Nat}{bl:Nat->List UInt8}(hb:∀k,(bl k).length=4){list:List AX}(hm:∀m∈list,Iz m->m.da=B (E3 4 bl<|Bl (b:Int) m.nu)):∀(n:Nat) (kn:List A4),Cg b kn->O2 b bl kn->O2 b bl (H4 b list n kn)
 | 0,_,_,h=>h
 | n+1,kn,h,ht=>by
  have h1:=(NP list (kn,A3) h).1;have h2:=o5 hb list (kn,A3) hm h ht;unfold H4;split
  .exact mv hb hm n _ h1 h2
  .exact h2
def aGN{u:Nat}:∀ {l:List A4} {a:A4},u<l.length->bsA l u=noB->GJ l a=A0
 | [],_,h,_=>absurd h (pH _)
 | x::l,a,h,e=>by
  unfold GJ;split
  .rfl
  .rename_i hx;cases u with
   | zero=>exact absurd e hx
   | succ u=>exact aGN (u:=u) (by simpa using h)<|by simpa[bsA] using e
def qc:∀ {l:List (List UInt8)} {a:A4},(∀x∈l,x.length=4)->GJ (l.map B) a=I (a++B l.flatten)
 | [],a,_=>by
  show I a=_;congr 1;apply GG;rw[Ge,L_B];simp
 | x::l,a,h=>by
  rw[Db];unfold GJ;have hx:=h x Av;rw[AD (λe=>by have:(B x).size=0:=(by rw[e];rfl);rw[BU]at this;omega),qc λy hy=>h y<|An x hy];congr 1;apply GG;simp only[Ge,L_B,List.flatten_cons,C9]
def aaj{b:Nat}{bl:Nat->List UInt8}{kn:List A4}(h:Cg b kn)(ht:O2 b bl kn)(hu:∀k,k<b->unk kn k=A3):kn=((BB b).map bl).map B:=by
 apply pD;intro i;by_cases hi:i<b
 .rw[IV,DK,H7 hi];have h1:=hu i hi;rcases ht i hi with h2|h2
  .exact absurd h2 (J3 h1)
  .have hl:i<kn.length:=by rw[h.1];exact hi
   rw[bsA,BC,Au hl]at h2;rw[Au hl];exact congrArg I h2
 .rw[Hz (by rw[h.1];omega),Hz (by simp;omega)]
def aIa(t:List UInt8):∀b:Nat,((BB b).map<|GK t).flatten=(BB<|4 * b).map λi=>t.getD i 0
 | 0=>rfl
 | b+1=>by
  rw[IU,Eo,List.flatten_append,aIa t b];have:BB (4 * (b+1))=BB (4 * b)++[4 * b,4 * b+1,4 * b+2,4 * b+3]:=by
   rw[show 4 * (b+1)=4 * b+1+1+1+1 by omega];simp only[IU,C9];rfl
  rw[this,Eo];rfl
def awO{s:Int}(h:inB s 1 24=U):B5 (s+3) 4=(((s.toNat+3) / 4:Nat):Int)/\inB (B5 (s+3) 4) 1 6=U:=by
 have h:=Ad.1 h;have:B5 (s+3) 4=(((s.toNat+3) / 4:Nat):Int):=by
  rw[Gj J];omega
 refine⟨this,Ad.2 ?_⟩;rw[this];omega
def aHK{s:Int}(h:inB s 1 24=U)(list:List AX):FQ s list=(match GJ (H4 ((s.toNat+3) / 4) list 7<|BV ((s.toNat+3) / 4) noB) noB with
  | none=>(noB,A3)
  | some c=>if Ng c s.toNat then(c.extract 0 s.toNat,U) else(noB,A3)):=by
 obtain⟨h1,h2⟩:=awO h;unfold FQ Hq;rw[A8 h,A8 h2,h1,BZ]<;>rfl
def aHI{tx:A4}(h:inB tx.size 1 24=U):(let c:=noB++B ((BB<|(tx.size+3) / 4).map<|GK<|L tx).flatten
  (if Ng c tx.size then(c.extract 0 tx.size,U) else(noB,A3)))=(tx,U):=by
 have h:=Ad.1 h;have hc:L (noB++B ((BB<|(tx.size+3) / 4).map<|GK<|L tx).flatten)=(BB<|4 * ((tx.size+3) / 4)).map λi=>(L tx).getD i 0:=by
  rw[Ge,L_B,aIa];rfl
 generalize noB++B ((BB<|(tx.size+3) / 4).map<|GK<|L tx).flatten=c at hc;have hsz:c.size=4 * ((tx.size+3) / 4):=by rw[← B2,hc];simp
 have hz:Ng c tx.size=U:=by
  unfold Ng;rw[CE];intro i hi;refine AZ ?_;unfold bt;show(((L c).getD (tx.size+i) 0).toNat:Int)=0;rw[hc,BC,DK,H7 J];simp only[Rv,D0];rw[BC,Hz (by rw[B2];omega)];rfl
 show(if Ng c tx.size then(c.extract 0 tx.size,U) else(noB,A3))=(tx,U);rw[A8 hz];congr 1;apply GG;rw[EK,J6,hc,Js];apply pD;intro i;rw[H8];split
 .rename_i hi;rw[DK,H7 J];simp only[Rv];rw[BC,Au (by rw[B2];exact hi)];rfl
 .rw[Hz (by rw[B2];omega)]
def Pw(tx:A4)(list:List AX):Prop:=∀m∈list,Iz m->m.da=Gb tx m.nu
def aaw{tx:A4}(h:inB tx.size 1 24=U):(DS tx).length=(tx.size+3) / 4:=by
 unfold DS;rw[A8 h];simp
def aGR{tx:A4}(h:inB tx.size 1 24=U):inB (((tx.size+3) / 4:Nat):Int) 1 6=U:=by
 have h:=Ad.1 h;exact Ad.2 J
def aGI{b:Nat}{f:Nat->Bool}:∀(n:Nat) (x:Int),0<b->(∃k,k<b/\f k=U)->∃k,k<b/\Jf b n f x k=U
 | 0,_,_,h=>h
 | n+1,x,hb,h=>by
  obtain⟨k,hk,e⟩:=h;exact aGI n _ hb ⟨k,hk,by unfold IQ;split;rfl;exact e⟩
def ats{b:Nat}{f:Nat->Bool}{n:Nat}{x:Int}(hb:0<b)(hn:0<n):∃k,k<b/\Jf b n f x k=U:=by
 obtain⟨n,rfl⟩:∃m,n=m+1:=⟨n - 1,J⟩;rw[Jf];refine aGI n _ hb ⟨_, ?_,by unfold IQ;rw[A8 rfl]⟩;refine UH _ _ ?_;have:BO (B5 (rnd x) 16) (b:Int)<b:=Rx _ J;have h0:0<=BO (B5 (rnd x) 16) (b:Int):=Rq _<|pI (UF x).1 J;omega
def aIJ{b r:Int}(hb:1<=b):∀(ws:List Int) (acc d:Int),1<=d->1<=N0 (Ln b r ws acc d)
 | [],_,_,_=>hb
 | w::ws,acc,d,h=>by
  unfold Ln;split
  .exact h
  .exact aIJ hb ws _ _ J
def awd{b n:Int}(h:E0 b n=U):1<=GI b n:=by
 have hb:1<=b:=by
  unfold E0 at h;rw[AG]at h;exact(Ad.1 h.1).1
 unfold GI;rw[A8 h];split
 .exact Ct _
 .exact aIJ hb _ _ _<|Ct _
def avs{b n:Int}(h:E0 b n=U):Bl b n≠[]:=by
 have hb:1<=b:=by
  unfold E0 at h;rw[AG]at h;exact(Ad.1 h.1).1
 unfold Bl;rw[A8 h];split
 .simp
 .obtain⟨k,hk,e⟩:=ats (b:=b.toNat) (f:=λ_=>A3) (n:=(GI b n).toNat) (x:=rnd<|7 * n+1) J (by have:=awd h;omega);intro hh;have:k∈Ho (Jf b.toNat (GI b n).toNat (λ_=>A3)<|rnd<|7 * n+1) b.toNat:=FW.2 ⟨D6.2 hk,e⟩;rw[hh]at this;cases this
def aHs{tx:A4}(h:inB tx.size 1 24=U){n:Int}(hn:inB n 0 999=U):Gb tx n=B (E3 4 (GK<|L tx)<|Bl (((tx.size+3) / 4:Nat):Int) n):=by
 unfold Gb;rw[aaw h];have:=avs (b:=(((tx.size+3) / 4:Nat):Int)) (n:=n) (by unfold E0;rw[aGR h,hn];rfl);rw[AD (by rw[List.isEmpty_iff];exact this)]
def aHg{tx:A4}(h:inB tx.size 1 24=U){list:List AX}(hl:Pw tx list):∀m∈list,Iz m->m.da=B (E3 4 (GK<|L tx)<|Bl (((tx.size+3) / 4:Nat):Int) m.nu):=by
 intro m hm hf;rw[hl m hm hf,aHs h hf.1]
def aai(b:Nat)(bl:Nat->List UInt8):O2 b bl (BV b noB):=by
 intro k hk;left;rw[bsA,BC,bM,A8 hk];rfl
def aHH{tx:A4}(h:inB tx.size 1 24=U){list:List AX}(hl:Pw tx list)(ht:(FQ tx.size list).2=U):FQ tx.size list=(tx,U):=by
 rw[aHK h,BZ]at ht ⊢;have h1:=Zy list 7 _<|Cg.new<|(tx.size+3) / 4;have h2:=mv (λk=>P9 (L tx) k) (aHg h hl) 7 _ (Cg.new<|(tx.size+3) / 4)<|aai _ _;generalize H4 ((tx.size+3) / 4) list 7 (BV ((tx.size+3) / 4) noB)=kn at *;have h3:∀k,k<(tx.size+3) / 4->unk kn k=A3:=by
  intro k hk;rcases tf (unk kn k) with c|c
  .rw[aGN (u:=k) (by rw[h1.1];exact hk)<|BX c]at ht;cases ht
  .exact c
 rw[aaj h1 h2 h3,qc (by
  intro x hx;obtain⟨k,_,rfl⟩:=C3.1 hx;exact P9 _ _)]
 exact aHI h
def O4(S:A6->Prop)(f:Frame):Prop:=f.ki=1->∃n,S n/\B1 n=U/\f.fr=n.fr/\f.nu=n.nu/\f.to=n.to/\f.un=n.un/\f.sz=n.tx.size/\f.da=Gb n.tx f.mix
structure PcI (S:A6->Prop) (p:AO):Prop where
 oG:p.sp=A3->∃f,p.data=BK (Ck f)/\p.src=f.src/\p.dst=f.dst/\(C4 f=U->O4 S f)
 bad:p.sp=U->(D2<|BF p.data).2=A3
def aFZ:(D2<|BF<|BK []).2=A3:=by rfl
def PcI.frame{S:A6->Prop}{p:AO}(h:PcI S p)(hu:(D2<|BF p.data).2=U):∃f,D2 (BF p.data)=(f,U)/\C4 f=U/\p.src=f.src/\p.dst=f.dst/\O4 S f/\p.data=BK (Ck f):=by
 rcases tf p.sp with c|c
 .rw[h.bad c]at hu;cases hu
 .obtain⟨f,h1,h2,h3,h4⟩:=h.oG c;rcases tf (C4 f) with e|e
  .refine⟨f, ?_,e,h2,h3,h4 e,h1⟩;rw[h1,Ok<|Oy f,YY e]
  .rw[h1]at hu;unfold Ck at hu;rw[e,A7,aFZ]at hu;cases hu
def PcI.al8{S:A6->Prop}{p:AO}(h:PcI S p)(hs:p.sp=A3){mix kp:Int}(hm:inB mix 0 ((p.data.size:Int) - 1)=U)(hk:inB kp 1 255=U):PcI S (PS p mix kp):=by
 obtain⟨f,h1,_,_,_⟩:=h.oG hs;refine⟨λe=>(by cases e),λ_=> ?_⟩;rcases tf (C4 f) with e|e
 .exact as4 e h1 hm hk
 .have h2:=Ad.1 hm;rw[h1]at h2;unfold Ck at h2;rw[e,A7,Za]at h2;simp at h2;omega
def PcI.send{S:A6->Prop}{f:Frame}(h:C4 f=U->O4 S f):PcI S (pcF f):=⟨λ_=>⟨f,rfl,rfl,rfl,h⟩,λe=>by cases e⟩
def PcI.mono{S T:A6->Prop}{p:AO}(h:PcI S p)(hS:∀n,S n->T n):PcI T p:=by
 refine⟨λe=> ?_,h.bad⟩;obtain⟨f,h1,h2,h3,h4⟩:=h.oG e;refine⟨f,h1,h2,h3,λhf hk=> ?_⟩;obtain⟨n,h5,h6⟩:=h4 hf hk;exact⟨n,hS n h5,h6⟩
def aI0{ra:List AO}{fs:List Frame}{p:AO}(h:p∈C6 ra fs):p∈ra\/ ∃f∈fs,p=pcF f:=by
 unfold C6 at h;rcases BN.1 h with h|h
 .exact .inl h
 .obtain⟨f,hf,rfl⟩:=C3.1 h;exact .inr ⟨f,Hb hf,rfl⟩
def aHt{ra:List AO}{i:Nat}{p:AO}(h:p∈JY ra i):p∈ra:=by
 unfold JY at h;rcases BN.1 h with h|h
 .exact Hb h
 .exact Jr h
def aws{l:List A6}{i:Int}(h0:0<=i)(h1:i.toNat<l.length):nA l i.toNat∈l:=by
 rw[nA,BC,Au h1];exact CV h1
def auK{st:AH}(h:Ay st=U){n:A6}(hn:n∈st.held):B1 n=U:=by
 unfold Ay at h;simp only[AG]at h;have hh:=h.2.2.2.1.2;obtain⟨j,hj,rfl⟩:=Cy hn;have:=CE.1 hh j hj;rw[AG,nA,BC,Au hj]at this;exact this.1
def awx{S:A6->Prop}{k:AA}(h:Aj k=U)(hS:∀n∈(stT k).held,S n){fr nu mix:Int}(hb:(EM k fr nu mix).2=U):O4 S (EM k fr nu mix).1:=by
 intro _;unfold EM at hb ⊢;split at hb
 .rename_i hc;rw[A8 hc];simp only[AG,C1,decide_eq_false_iff_not]at hc;have h0:=FM<|Rz.1 hc.2.1;have hm:=aws (Rz.1 hc.2.1) h0.1;exact⟨_,hS _ hm,auK (Bu h).kok hm,rfl,rfl,rfl,rfl,rfl,rfl⟩
 .cases hb
def MQ{n:A6}(h:B1 n=U):inB n.tx.size 1 24=U:=by
 unfold B1 Lk at h;simp only[AG]at h;exact h.2.2.2.2.1
def nc(hv:List AJ)(f:Frame):(∃i,Aw hv f=(hv,i)/\i<hv.length/\(hA hv i).fr=f.fr/\(hA hv i).nu=f.nu/\EP hv f.fr f.nu=(i:Int))\/
  (EP hv f.fr f.nu<0/\ ∃l:List AJ,l.Sublist hv/\Aw hv f=(l++[⟨f.fr,f.nu,f.to,f.un,f.sz,[]⟩],l.length)):=by
 unfold Aw;rcases Ta hv f.fr f.nu with h|⟨i,h1,h2,h3,h4⟩
 .rw[A8 h];refine .inr ⟨h,_, ?_,rfl⟩;split
  .exact Rs _ _
  .exact Em _
 .rw[AD J];exact .inl ⟨i,by rw[h1];rfl,h2,h3,h4,h1⟩
def bk(l:List AJ)(h:AJ):hA (l++[h]) l.length=h:=by
 unfold hA;rw[BC,Fo<|Az _];simp
def V8(k:AA)(r:A4)(f:Bool):(wrR k r f).1.AM=k.AM:=by
 unfold wrR;split
 .rfl
 .cases f<;>rfl
def abL(k:AA):Prop:=∀h∈k.AM,5<=h.sz
def ay0{l:List AJ}{i:Nat}{x:AJ}(h:x∈FU l i):x∈l:=by
 unfold FU at h;rcases BN.1 h with h|h
 .exact Hb h
 .exact Jr h
structure aJF (S:A6->Prop) (w:AE):Prop where
 p:∀p∈w.AT,PcI S p
 b:∀i,i<4->abL (kA w.AB i)
def ayw(k:AA)(tt un:Int)(tx:A4):(Dz k tt un tx).1.AM=k.AM:=by
 unfold Dz;split
 .exact V8 _ _ _
 .rfl
def aya(k:AA)(a b:Int):(Dg k a b).1.AM=k.AM:=by
 unfold Dg;split
 .exact V8 _ _ _
 .rfl
def awF(k:AA):(Fl k).1.AM=k.AM:=by
 unfold Fl;split
 .exact V8 _ _ _
 .rfl
def axV(k:AA):(Fm k).1.AM=k.AM:=by unfold Fm;split<;>rfl
def avS(k:AA):(Dl k).1.AM=k.AM:=by unfold Dl;split<;>rfl
def rN{l:List AO}{i:Nat}(h:i<l.length):pA l i∈l:=by
 rw[rV h];exact CV h
def aE{k:AA}(h:Aj k=U)(f:Frame):CH k f=HS k f:=A8 h
def aHj:Cd [108,101,116]:=by unfold Cd;decide
def aHE(n:A6):L (JT n)=[116,97,107,101]++32::L (wr n):=by unfold JT;simp only[Ge,L_B];rfl
def aHY{k:AH}{r:A4}(hk:Ay k=U):BM k r=(GY k r).filter Ay:=by
 unfold BM Fj;rw[A8 hk];cases (GY k r).filter Ay<;>rfl
def as0{k:AH}{n:A6}(hn:B1 n=U):Bd k Ea (wr n)=if n.fr=k.id then A0 else Ej k n:=by
 unfold Bd GW;by_cases h:n.fr=k.id
 .simp[kP,kQ,lK,kR,kF,Qm hn,h]
 .simp[kP,kQ,lK,kR,kF,Qm hn,h]
def n8{k:AH}{n:A6}(hk:Ay k=U)(hn:B1 n=U):BM k (JT n)=(if n.fr=k.id then A0 else Ej k n).filter Ay:=by
 rw[aHY hk,IH nK<|aHE n,B_L];rw[show Bd k (B [116,97,107,101]) (wr n)=_ from as0 hn]
def qD{l:List Mark}{f n:Int}{x:Mark}(h:x∈l)(h1:x.mf=f)(h2:x.mn=n):0<=Bt l f n:=by
 rcases ark l f n with h3|h3
 .exact absurd ⟨h1,h2⟩ (qC J x h)
 .exact h3
structure amm (k o:AH) (n:A6):Prop where
 id:o.id=k.id
 ti:o.ti=k.ti
 nx:o.nx=k.nx
 at_:(n.to=k.id/\o.held=k.held/\o.marks=EN k.marks ⟨n.fr,n.nu,n.un⟩/\o.inbox=E5 k.inbox n)\/(n.to≠k.id/\o.held=E5 k.held n/\o.marks=k.marks/\o.inbox=k.inbox)
structure Safe (k:AA) (st:AH):Prop where
 is:DN k st
 fo:k.fo=(k.log.size:Int)
def q8{k:AA}{st o:AH}{r:A4}(h:DN k st)(hr:BM st r=I o):Safe (wrR k r U).1 o/\(wrR k r U).2=U:=by
 unfold wrR;rw[h.stT,hr];exact⟨⟨RS<|PO h hr,rfl⟩,rfl⟩
def q7{k:AA}{st:AH}{r:A4}{f:Bool}(h:DN k st)(hr:(wrR k r f).2=U):∃o,BM st r=I o:=by
 unfold wrR at hr;rw[h.stT]at hr;cases hc:BM st r with
 | none=>rw[hc]at hr;cases hr
 | some o=>exact⟨o,rfl⟩
def cP{k:AA}(h:Aj k=U)(hu:k.up=U){f:Frame}(hf:C4 f=U)(h1:f.ki=1):DN (Gx k<|FU (DA (Aw k.AM f).1 (Aw k.AM f).2 f) (Aw k.AM f).2) (stT k):=by
 have kf:=Ds h;have hv:=rI.1 kf.hv;have hp:=Yx hf h1;have Ey:=PB (hv:=k.AM) (f:=f);have Lp:=U3 (hv:=k.AM) (f:=f) kf.hl;have hpf:=aJh hv hf h1;have haf:=aJw hpf Ey hp.2.1;have hal:(DA (Aw k.AM f).1 (Aw k.AM f).2 f).length=(Aw k.AM f).1.length:=by unfold DA;rw[Gi]
 exact aN (Bu h) hu (by unfold FU;simp;omega)<|aaD haf _
def ase{k:AH}{m:Mark}{r:A4}(ht:HN r=I m):Bd k C2 r=if EO k.held m then I ⟨k.id,k.ti,k.nx,Eh k.held (Ab k.held m.mf m.mn).toNat,EN k.marks m,k.inbox⟩ else A0:=by
 unfold Bd F3;cases h:EO k.held m<;>simp[lQ,lS,lz,lR,lU,km,mB,lT,ht,h]
def aGX{k:AH}{a b c:Int}(hk:Ay k=U)(ha:0<=a/\a<=999)(hb:0<=b/\b<=999)(hc:0<=c/\c<=999):
  BM k (Cc C2 a b c)=(if EO k.held ⟨a,b,c⟩ then I ⟨k.id,k.ti,k.nx,Eh k.held (Ab k.held a b).toNat,EN k.marks ⟨a,b,c⟩,k.inbox⟩ else A0).filter Ay:=by
 have h3:=aS (r:=B<|BA a++32::(BA b++32::BA c)) (a:=a) (b:=b) (c:=c) J J J J J J<|L_B _;rw[aHY hk,IH aHj<|Qt C2 a b c];rw[show Bd k (B [108,101,116]) _=_ from ase h3]
structure aks (a b:A6):Prop where
 fr:a.fr=b.fr
 nu:a.nu=b.nu
 to':a.to=b.to
 un:a.un=b.un
 ok:B1 a=B1 b
structure azu (l m:List A6):Prop where
 len:l.length=m.length
 nA:∀i,aks (nA l i)<|nA m i
def FK(tx:A4)(i:Nat):List AX:=(BB i).map λj:Nat=>⟨(j:Int),Gb tx (j:Int)⟩
structure aJG (x:AA) (d t:Int) (hv:List AJ):Prop where
 ok:Aj x=U
 up:x.up=U
 id:x.id=d
 st:stT x=⟨d,t,1,[],[],[]⟩
 hv:x.AM=hv
variable {E:List Event}
def Tot{α:Type}(o:Option α)(P:α->Prop):Prop:=∃a,o=I a/\P a
def Rn{α β:Type}(A:α->Prop)(B:β->Prop):α ⊕ β->Prop
 | .inl a=>A a
 | .inr b=>B b
def Tot.ret{α:Type}{a:α}{P:α->Prop}(h:P a):Tot (I a) P:=⟨a,rfl,h⟩
def Tot.eq{α:Type}{o:Option α}{a:α}(h:o=I a):Tot o (λx=>x=a):=⟨a,h,rfl⟩
def Tot.bind{α β:Type}{o:Option α}{f:α->Option β}{P:α->Prop}{Q:β->Prop}(h:Tot o P)(hf:∀a,P a->Tot (f a) Q):Tot (o.bind f) Q:=by
 obtain⟨a,rfl,p⟩:=h;exact hf a p
def Tot.ite{α:Type}{c:Bool}{a b:Option α}{P:α->Prop}(ha:c=U->Tot a P)(hb:c=A3->Tot b P):Tot (if c=U then a else b) P:=by
 cases c
 .rw[A7];exact hb rfl
 .rw[A8 rfl];exact ha rfl
def Tot.pos{α:Type}{c:Bool}{a b:Option α}{P:α->Prop}(hc:c=U)(ha:Tot a P):Tot (if c=U then a else b) P:=by
 rw[A8 hc];exact ha
def Tot.neg{α:Type}{c:Bool}{a b:Option α}{P:α->Prop}(hc:c=A3)(hb:Tot b P):Tot (if c=U then a else b) P:=by
 rw[hc,A7];exact hb
def Tot.join{Ω X:Type}{f:X->Option Ω}{m:Option (Ω ⊕ X)}{A:X->Prop}{Q:Ω->Prop}(h:Tot m (Rn Q A))(hf:∀x,A x->Tot (f x) Q):Tot (BW f m) Q:=by
 obtain⟨r,rfl,p⟩:=h;cases r with
 | inl o=>exact⟨o,rfl,p⟩
 | inr x=>exact hf x p
def Tot.sum{A D Ω:Type}{m:Option (A ⊕ D)}{f:A->Option Ω}{g:D->Option Ω}{P:A->Prop}{Q:D->Prop}{R:Ω->Prop}(h:Tot m (Rn P Q))
  (hf:∀a,P a->Tot (f a) R)(hg:∀d,Q d->Tot (g d) R):Tot (AP m f g) R:=by
 obtain⟨r,rfl,p⟩:=h;cases r with
 | inl o=>exact hf o p
 | inr x=>exact hg x p
def Tot.loop{σ ρ:Type}{b:σ->Option (σ ⊕ ρ)}(Inv:Nat->σ->Prop)(OK:ρ->Prop)(n:Nat)
  (h:∀i s,i<=n->Inv i s->Tot (b s) (Rn (λs'=>i<n/\Inv (i+1) s') OK)){s0:σ}(h0:Inv 0 s0):Tot (AW b s0) OK:=by
 refine axA Inv OK n (λi s hi hs=> ?_) (λs hs=> ?_) h0
 .obtain⟨r,e,p⟩:=h i s J hs;cases r with
  | inl s'=>exact .inl ⟨s',e,p.2⟩
  | inr y=>exact .inr ⟨y,e,p⟩
 .obtain⟨r,e,p⟩:=h n s (Az _) hs;cases r with
  | inl s'=>exact absurd p.1<|Nat.lt_irrefl _
  | inr y=>exact⟨y,e,p⟩
structure I4 (N:Nat) (r:List Int×Int×A2):Prop where
 l:r.1.length<=2000
 b:BOk r.1
 p0:0<=r.2.1
 p1:r.2.1<=(N:Int)
def I4.up{N M:Nat}{r:List Int×Int×A2}(h:I4 N r)(hM:N<=M):I4 M r:=⟨h.l,h.b,h.p0,by have:=h.p1;omega⟩
def ax9{a b:Int}(ha:0<=a)(ha':a<9223372036854775808)(hb:0<=b)(hb':b<9223372036854775808):0<=E4 .i64 a b:=by
 obtain⟨m,rfl⟩:=HZ ha;obtain⟨n,rfl⟩:=HZ hb;have hm:m<2 ^ 63:=J
 have hn:n<2 ^ 63:=J
 have hx:=Nat.xor_lt_two_pow hm hn;have e:(FV 64 (m:Int) ^^^ FV 64 (n:Int)).toNat=m ^^^ n:=by
  rw[BitVec.toNat_xor,Rp,Rp];congr 1<;>omega
 show 0<=w64 (((FV 64 (m:Int) ^^^ FV 64 (n:Int)).toNat:Int));rw[e,Ac J J];omega
def D3{N:Nat}{x:(List Int×Int×A2)×Int×A2}(h:I4 N x.1)(hN:N<=1000000):
  Tot (Co x) λa=>I4 (N+1) a.2.1/\0<=a.1.1/\(1<=x.2.1->a.1.1<x.2.1):=by
 obtain⟨⟨l,p,_⟩,n,_⟩:=x;obtain⟨hl,hb,p0,p1⟩:=h;simp only at hl hb p0 p1;have e1:w64 (p+1)=p+1:=Ac J J;have e2:w64 (p+1 - 1)=p:=by rw[Ac J J];omega
 have hq:I4 (N+1) (l,p+1,()):=⟨hl,hb,by show 0<=p+1;omega,by show p+1<=((N+1:Nat):Int);omega⟩;unfold Co;simp only[e1,e2];refine Tot.ite (λhc=> ?_) (λhc=> ?_)
 .refine Tot.ret ⟨hq,Ct _,λh=>by show(0:Int)<n;omega⟩
 .simp only[Mk,decide_eq_false_iff_not]at hc;have hn:1<=n:=J
  have hln:0<l.length:=J
  have hl0:¬((l.length:Int)=0):=hc.2;have hn0:(!decide (n=0))=U:=by simp;omega
  have oM:(!decide ((l.length:Int)=0))=U:=by simpa using hl0
  refine Tot.ite (λhc1=> ?_) (λhc1=> ?_)
  .have hc1:=BX hc1;refine Tot.pos (FP p0 hc1) (Tot.pos hn0<|Tot.ret ⟨hq, ?_,λ_=> ?_⟩)
   .have:=hb.rd p;exact Rq _ (by rw[Ac J J];exact this.1)
   .exact Rx _ J
  .have hp:0<=BO p l.length/\BO p l.length<l.length:=⟨Rq _ p0,Rx _ J⟩;have e3:w64 (w64 (p * 7)+3)=p * 7+3:=by rw[Ac (n:=p * 7) J J,Ac J J]
   have hp2:0<=BO (p * 7+3) l.length/\BO (p * 7+3) l.length<l.length:=⟨Rq _ J,Rx _ J⟩;simp only[e3];refine Tot.pos oM (Tot.pos (FP hp.1 hp.2)<|Tot.pos oM<|Tot.pos (FP hp2.1 hp2.2)<|Tot.pos oM<|Tot.pos hn0<|Tot.ret ⟨hq, ?_,λ_=> ?_⟩)
   .have b1:=hb.rd<|BO p l.length;have b2:=hb.rd<|BO (p * 7+3) l.length;have hd:0<=B5 p l.length/\B5 p l.length<=p:=⟨pI p0 J,Int.tdiv_le_self _ p0⟩;generalize @rd Int (dfl .u8) l (BO p l.length)=u1 at b1 ⊢;generalize @rd Int (dfl .u8) l (BO (p * 7+3) l.length)=u2 at b2 ⊢;generalize B5 p l.length=d at hd ⊢;have w1:w64 u1=u1:=Ac J J;have w2:w64 u2=u2:=Ac J J;have w3:w64 (u1 * 131)=u1 * 131:=Ac J J;have w4:w64 (u2 * 1117)=u2 * 1117:=Ac J J;have w5:w64 (p * 29)=p * 29:=Ac J J;have w6:w64 d=d:=Ac J J;have w7:w64 (d * 53)=d * 53:=Ac J J;simp only[w1,w2,w3,w4,w5,w6,w7];have w8:w64 (u1 * 131+u2 * 1117)=u1 * 131+u2 * 1117:=Ac J J;rw[w8];have w9:w64 (u1 * 131+u2 * 1117+p * 29)=u1 * 131+u2 * 1117+p * 29:=Ac J J;rw[w9];have w10:w64 (u1 * 131+u2 * 1117+p * 29+d * 53)=u1 * 131+u2 * 1117+p * 29+d * 53:=Ac J J;rw[w10];have hv:0<=u1 * 131+u2 * 1117+p * 29+d * 53/\u1 * 131+u2 * 1117+p * 29+d * 53<=1000000000:=J
    generalize u1 * 131+u2 * 1117+p * 29+d * 53=v at hv ⊢;have hdv:0<=B5 v 64/\B5 v 64<=v:=⟨pI hv.1 J,Int.tdiv_le_self _ hv.1⟩;have w11:w64 (B5 v 64)=B5 v 64:=Ac J J;rw[w11];exact Rq _ (ax9 hv.1 J hdv.1 J)
   .exact Rx _ J
def arb(l:List A4){i:Int}(h0:0<=i)(h1:i<l.length): @rd A4 (dfl .str) l i∈l:=by
 unfold rd;rw[BC,Au (by omega:i.toNat<l.length)];exact CV _
def az5{N:Nat}{r:List Int×Int×A2}{l:List A4}(h:I4 N r)(hN:N<=1000000)(hl:1<=l.length):
  Tot (iR (r,l,())) λa=>I4 (N+1) a.2.1/\a.1.1∈l:=by
 unfold iR;refine Tot.bind (D3 h hN) λa ha=> ?_;have h1:=ha.2.2 (by show(1:Int)<=(l.length:Int);omega);exact Tot.pos (FP ha.2.1 h1)<|Tot.ret ⟨ha.1,arb l ha.2.1 h1⟩
def OJ(E ev:List Event)(w:AE):Prop:=∃l,Reach l w/\(E=[]->l=ev)
def OJ.ok{ev:List Event}{w:AE}(h:OJ E ev w):B7 w:=by
 obtain⟨_,h,_⟩:=h;exact h.ok
def OJ.reach{ev:List Event}{w:AE}(h:OJ [] ev w):Reach ev w:=by
 obtain⟨_,h,e⟩:=h;rw[← e rfl];exact h
def OJ.step{ev:List Event}{w:AE}(h:OJ E ev w){e:Event}(ht:e.tx.size<=1048576):OJ E (KN ev e (doM w e).2) (CZ w e):=by
 obtain⟨l,h,g⟩:=h;exact⟨_,h.step ht,λc=>by rw[g c]⟩
def WOk(E:List Event)(N:Nat)(t:Int×List AA×List Bool×List AO×List A6×List A6×List Event×A2):Prop:=∃w ev,t=tS w ev/\OJ E ev w/\ev.length<=N
structure SOk (E:List Event) (N:Nat) (s:(List Int×Int×A2)×Int×List AA×List Bool×List AO×List A6×List A6×List Event×A2):Prop where
 r:I4 N s.1
 w:WOk E N s.2
def WOk.up{N M:Nat}{t:_}(h:WOk E N t)(hM:N<=M):WOk E M t:=by
 obtain⟨w,ev,e,h1,h2⟩:=h;exact⟨w,ev,e,h1,J⟩
def SOk.up{N M:Nat}{s:_}(h:SOk E N s)(hM:N<=M):SOk E M s:=⟨h.r.up hM,h.w.up hM⟩
def SOk.rd{N M:Nat}{s:_}(h:SOk E N s){r:List Int×Int×A2}(hr:I4 M r)(hM:N<=M):SOk E M (r,s.2):=⟨hr,h.w.up hM⟩
abbrev zTx(y:Int×Int×Int×Int×Int×Int×Int×Int×Int×A4×A2):A4:=y.2.2.2.2.2.2.2.2.2.1
def HX{N:Nat}{s:_}{y:Int×Int×Int×Int×Int×Int×Int×Int×Int×A4×A2}(h:SOk E N s)(hN:N<=1000000)(hy:(zTx y).size<=1048576):
  Tot (G6 (s,y,())) λa=>SOk E (N+1) a.2.1:=by
 obtain⟨hr,w,ev,e,hw,hev⟩:=h;obtain⟨r,t⟩:=s;obtain⟨a,b,c,d,f,g,i,j,k,tx,_⟩:=y;simp only at e hr;subst e;have:=atc hw.ok (r:=r) (ev:=ev) J (e:=⟨a,b,c,d,f,g,i,j,k,tx⟩) hy;refine⟨_,this,hr.up J,⟨_,KN ev ⟨a,b,c,d,f,g,i,j,k,tx⟩ (doM w ⟨a,b,c,d,f,g,i,j,k,tx⟩).2,rfl, ?_, ?_⟩⟩
 .exact hw.step (e:=⟨a,b,c,d,f,g,i,j,k,tx⟩) hy
 unfold KN;split
 .simp;omega
 .omega
def WOk.has{N:Nat}{t:_}(h:WOk E N t){i:Int}(h0:0<=i)(h1:i<4):Aj (kA t.2.1 i.toNat)=U/\(kA t.2.1 i.toNat).id=i/\inb i t.2.1.length=U:=by
 obtain⟨w,ev,rfl,hw,_⟩:=h;have:=hw.ok.k i.toNat J;refine⟨this.1, ?_,FP h0 (by show i<(w.AB.length:Int);rw[hw.ok.kl];exact h1)⟩;rw[this.2];omega
def rY{l:List AA}{i:Int}(h:Aj (kA l i.toNat)=U):
  Tot (GQ (((@rd AA (dfl .AN) l i).id,(@rd AA (dfl .AN) l i).up,(@rd AA (dfl .AN) l i).log,(@rd AA (dfl .AN) l i).fo,(@rd AA (dfl .AN) l i).AM,()),()))
   λa=>a=((tK<|stT<|kA l i.toNat,U,()),()):=Tot.eq<|On h
end Go.VS
namespace Go.VS
open Go
variable {E:List Event}
def ayM{l:List A4}{s:A4}(h:s∈l)(hl:(l.all λx=>A1<|x.size<=1000)=U):s.size<=1000:=by
 have:=Cb.1 hl s h;exact BX this
def abC{N:Nat}{s:_}(h:SOk E N s)(hN:N<=900000):Tot (W9 (s,())) λa=>SOk E (N+10) a.2.1:=by
 unfold W9;refine Tot.bind (D3 h.r J) λr1 h1=>Tot.bind (az5 h1.1 J<|by decide) λr2 h2=>Tot.join (A:=λj=>SOk E (N+2) j.1/\0<=j.2.1/\j.2.1<4/\j.2.2.1.size<=1000) ?_ (λj hj=> ?_)
 .have hz:=ayM h2.2 (by decide);have hat:r1.1.1<4:=h1.2.2 (show(1:Int)<=4 by decide);refine Tot.ite (λhc=>Tot.pos ?_<|Tot.ret ⟨h.rd h2.1 J,h1.2.1,hat, ?_⟩) (λhc=>Tot.ret ⟨h.rd h2.1 J,h1.2.1,hat,hz⟩)
  .have:=BX hc;simp;omega
  .show(r2.1.1.extract 0 24).size<=1000;rw[aFD];omega
 .obtain⟨hs,a0,a1,hz⟩:=hj;have hk:=hs.w.has a0 a1;refine Tot.pos hk.2.2 (Tot.bind (rY hk.1) λr6 h6=>Tot.bind (D3 hs.r J) λr7 h7=>Tot.bind (D3 h7.1 J) λr8 h8=>
   Tot.bind (HX (hs.rd h8.1 J) J ?_) λr9 h9=>Tot.ret<|h9.up J)
  show j.2.2.1.size<=1048576;omega
def az7{a:Int}(h0:0<=a)(h1:a<4):0<=BO (w64<|a+1) 4/\BO (w64<|a+1) 4<4:=by
 rw[Ac J J];exact⟨Rq _ J,Rx _ J⟩
def aym{N:Nat}{s:_}(h:SOk E N s)(hN:N<=900000):Tot (ey (s,())) λa=>SOk E (N+2) a.2.1/\a.2.1.2=s.2/\(a.1.2.2.1=U->0<=a.1.1/\a.1.1<4/\isN (BT a.1.1 a.1.2.1.2.2.1)=U):=by
 unfold ey;refine Tot.bind (D3 h.r J) λr1 h1=>Tot.sum (P:=λy=>SOk E (N+2) y.1/\y.1.2=s.2/\(0<=y.2.1/\y.2.1<4/\isN (BT y.2.1 y.2.2.1.2.2.1)=U)) (Q:=λy=>SOk E (N+2) y.1/\y.1.2=s.2) ?_ (λy hy=>Tot.ret ⟨hy.1,hy.2.1,λ_=>hy.2.2⟩) (λy hy=>Tot.ret ⟨hy.1,hy.2,λh=>by cases h⟩);refine Tot.loop (λi x=>SOk E (N+1) x.1/\x.1.2=s.2/\0<=x.2.2.1/\x.2.2.1<4/\x.2.2.2.1=(i:Int)) _ 4 (λi x hi hx=> ?_) ⟨h.rd h1.1 J,rfl,h1.2.1,h1.2.2<|show(1:Int)<=4 by decide,rfl⟩;obtain⟨hs,hw,a0,a1,hx⟩:=hx;have hk:=hs.w.has a0 a1;unfold uF;refine Tot.ite (λhc=> ?_) (λhc=>Tot.ret ⟨hs.up J,hw⟩);have hc:=BX hc;refine Tot.pos hk.2.2 (Tot.bind (rY hk.1) λr6 h6=> ?_);subst h6;refine Tot.ite (λhl=> ?_) (λhl=> ?_)
 .have hl:(0:Int)<((stT<|kA x.1.2.2.1 x.2.2.1.toNat).held.length:Int):=BX hl;refine Tot.bind (D3 hs.r J) λr7 h7=> ?_;have hlt:=h7.2.2 hl;refine Tot.pos (FP h7.2.1 hlt)<|Tot.ret ⟨hs.rd h7.1 J,hw,a0,a1, ?_⟩;have hkk:=Bu hk.1;have hid:=hkk.id;have h9:r7.1.1.toNat<(stT<|kA x.1.2.2.1 x.2.2.1.toNat).held.length:=by
   have:r7.1.1<((stT<|kA x.1.2.2.1 x.2.2.1.toNat).held.length:Int):=hlt;have:=h7.2.1;omega
  have:=nr hkk.kok (n:=nA (stT<|kA x.1.2.2.1 x.2.2.1.toNat).held r7.1.1.toNat) (by rw[nA,BC,Au h9];exact CV h9);rw[hid,hk.2.1]at this;exact this
 .have hm:=az7 a0 a1;refine Tot.ret ⟨?_,hs,hw,hm.1,hm.2, ?_⟩
  .omega
  .show w64 (x.2.2.2.1+1)=_;rw[hx,Ac J J];rfl
def US{N:Nat}{s:_}(h:SOk E N s){EA odd:Int}(hm:EA<=64)(hN:N<=900000):Tot (OO (s,EA,odd,())) λa=>SOk E (N+1000) a.2.1:=by
 unfold OO;refine Tot.sum (P:=λ_=>False) (Q:=λy=>SOk E (N+1000) y.1) ?_ (λ_ h=>h.elim) (λy hy=>Tot.ret hy);refine Tot.loop (λi x=>SOk E (N+12 * i) x.1/\x.2.1=EA/\x.2.2.2.1=(i:Int)) _ EA.toNat (λi x hi hx=> ?_) ⟨h,rfl,rfl⟩;obtain⟨hs,hx1,hx⟩:=hx;unfold tr;refine Tot.ite (λhc=> ?_) (λhc=>Tot.ret<|show SOk E (N+1000) _ from hs.up J);rw[AG,hx1,hx]at hc;have hlt:(i:Int)<EA:=BX hc.1;have hN1:N+12 * i<=950000:=J
 generalize hM:N+12 * i=M at hs hN1;refine Tot.join (A:=λj=>SOk E (M+5) j.1/\j.2.1=EA/\j.2.2.2.1=(i:Int)/\(zTx j.2.2.2.2.1).size<=1000) ?_ (λj hj=> ?_)
 .refine Tot.join (A:=λj=>SOk E (M+1) j.1/\j.2.1=EA/\j.2.2.2.1=(i:Int)/\(zTx j.2.2.2.2.1).size<=1000) ?_ (λj hj=> ?_)
  .refine Tot.ite (λhc=>Tot.bind (D3 hs.r J) λr1 h1=>Tot.ret ?_) (λhc=>Tot.ret ?_)
   .exact⟨hs.rd h1.1 J,hx1,hx,show noB.size<=1000 by decide⟩
   .exact⟨hs.up J,hx1,hx,show noB.size<=1000 by decide⟩
  .obtain⟨hs,hj1,hj2,hj3⟩:=hj;refine Tot.ite (λhc=> ?_) (λhc=>Tot.ret ⟨hs.up J,hj1,hj2,hj3⟩);refine Tot.bind (D3 hs.r J) λr1 h1=> ?_;refine Tot.ite (λhc=>Tot.ret ⟨hs.rd (h1.1.up J) J,hj1,hj2,hj3⟩) (λhc=> ?_);refine Tot.ite (λhc=>Tot.ret ⟨hs.rd (h1.1.up J) J,hj1,hj2,hj3⟩) (λhc=> ?_);refine Tot.ite (λhc=> ?_) (λhc=> ?_)
   .exact Tot.bind (D3 h1.1 J) λr2 h2=>Tot.bind (D3 h2.1 J) λr3 h3=>Tot.bind (D3 h3.1 J) λr4 h4=>
     Tot.ret ⟨hs.rd (h4.1.up J) J,hj1,hj2,hj3⟩
   .exact Tot.bind (D3 h1.1 J) λr2 h2=>Tot.ret ⟨hs.rd (h2.1.up J) J,hj1,hj2,hj3⟩
 .obtain⟨hs,hj1,hj2,hj3⟩:=hj;have hw:w64 (j.2.2.2.1+1)=((i+1:Nat):Int):=by rw[hj2,Ac J J];rfl
  refine Tot.join (A:=λj=>SOk E (M+7) j.1/\j.2.1=EA/\j.2.2.2.1=(i:Int)/\(zTx j.2.2.2.2.1).size<=1000) ?_ (λj hj=> ?_)
  .refine Tot.bind (HX hs J<|Ce hj3<|by decide) λr1 h1=>Tot.ite (λhc=> ?_) (λhc=>Tot.ret ⟨h1.up J,hj1,hj2,hj3⟩);exact Tot.bind (HX h1 J<|show noB.size<=1048576 by decide) λr2 h2=>Tot.ret ⟨h2.up J,hj1,hj2,hj3⟩
  .obtain⟨hs,hj1,hj2,hj3⟩:=hj;refine Tot.join (A:=λj=>SOk E (M+8) j.1/\j.2.1=EA/\j.2.2.2.1=(i:Int)/\(zTx j.2.2.2.2.1).size<=1000) ?_ (λj hj=> ?_)
   .refine Tot.ite (λhc=>Tot.bind (D3 hs.r J) λr1 h1=>Tot.ret ⟨hs.rd h1.1 J,hj1,hj2,hj3⟩) (λhc=>Tot.ret ⟨hs.up J,hj1,hj2,hj3⟩)
   .obtain⟨hs,hj1,hj2,hj3⟩:=hj;have hw:w64 (j.2.2.2.1+1)=((i+1:Nat):Int):=by rw[hj2,Ac J J];rfl
    refine Tot.ite (λhc=> ?_) (λhc=>Tot.ret ⟨J, ?_,hj1,hw⟩)
    .refine Tot.bind (D3 hs.r J) λr1 h1=>Tot.bind (D3 h1.1 J) λr2 h2=>Tot.bind (HX (hs.rd h2.1 J) J ?_) λr3 h3=>Tot.ret ⟨J, ?_,hj1,hw⟩
     .show(zTx j.2.2.2.2.1).size<=1048576;omega
     .exact h3.up J
    .exact hs.up J
end Go.VS
namespace Go.VS
open Go
variable {E:List Event}
def nz:noB.size<=1048576:=by decide
def WOk.rl{N:Nat}{t:_}(h:WOk E N t):t.2.2.2.1.length<=30:=by
 obtain⟨w,ev,rfl,hw,_⟩:=h;exact hw.ok.rl
def LY{n:Int}{i:Nat}(h:n=(i:Int))(hi:i<=1000000):w64 (n+1)=((i+1:Nat):Int):=by
 rw[h,Ac J J];rfl
def bY{N:Nat}{s:_}(h:SOk E N s){EA odd:Int}(h0:0<=EA)(hm:EA<=8)(hN:N<=800000):Tot (QB (s,EA,odd,())) λa=>SOk E (N+1100) a.2.1:=by
 unfold QB;refine Tot.bind (aym h J) λr1 h1=>Tot.ite (λhc=>Tot.ret<|h1.1.up J) (λhc=> ?_);refine Tot.bind (D3 h1.1.r J) λr2 h2=>Tot.bind (D3 h2.1 J) λr3 h3=> ?_;refine Tot.sum (P:=λ_=>False) (Q:=λy=>SOk E (N+20) y.1/\y.2.1=EA) ?_ (λ_ h=>h.elim) (λy hy=> ?_)
 .refine Tot.loop (λi x=>SOk E (N+4+i) x.1/\x.2.1=EA/\x.2.2.2.2.2.2.1=(i:Int)) _ EA.toNat (λi x hi hx=> ?_) ⟨h1.1.rd h3.1 J,rfl,rfl⟩;obtain⟨hs,hx1,hx⟩:=hx;unfold tO;refine Tot.ite (λhc=> ?_) (λhc=>Tot.ret ⟨hs.up J,hx1⟩);have hc:=BX hc;exact Tot.bind (HX hs J nz) λr4 h4=>Tot.ret ⟨J,h4.up J,hx1,LY hx J⟩
 .have hy2:=hy.2;refine Tot.bind (D3 hy.1.r J) λr4 h4=> ?_;have h5:r4.1.1<=64:=by
   have:w64 (y.2.1+4)=EA+4:=by rw[hy.2,Ac J J]
   have:=h4.2.2 (by show 1<=w64 (y.2.1+4);omega);have:r4.1.1<w64 (y.2.1+4):=this;omega
  exact Tot.bind (US (hy.1.rd h4.1 J) h5 J) λr5 h6=>Tot.ret<|h6.up J
def ayY{N:Nat}{s:_}(h:SOk E N s)(hN:N<=700000):Tot (ez (s,())) λa=>SOk E (N+4500) a.2.1:=by
 unfold ez;refine Tot.bind (US h (by decide) J) λr1 h1=>Tot.bind (bY h1 (by decide) (by decide) J) λr2 h2=> ?_;refine Tot.sum (P:=λ_=>False) (Q:=λy=>SOk E (N+2220) y.1) ?_ (λ_ h=>h.elim) (λy hy=> ?_)
 .refine Tot.loop (λi x=>SOk E (N+2100+40 * i) x.1/\x.2.1=(i:Int)) _ 2 (λi x hi hx=> ?_) ⟨h2.up J,rfl⟩;obtain⟨hs,hx⟩:=hx;unfold uB;refine Tot.bind (D3 hs.r J) λr3 h3=>Tot.ite (λhc=> ?_) (λhc=>Tot.ret<|show SOk E (N+2220) _ from hs.rd (h3.1.up J) J);have hc:=BX hc;have hv:=h3.2.2 (show(1:Int)<=2 by decide);have hv:r3.1.1<2:=hv;have hv0:=h3.2.1;rw[Ac J J]at hc;have hrl:=hs.w.rl;refine Tot.sum (P:=λ_=>False) (Q:=λy=>SOk E (N+2100+40 * (i+1)) y.1/\y.2.1=(i:Int)) ?_ (λ_ h=>h.elim) (λy hy=>Tot.ret ⟨J,hy.1,LY hy.2 J⟩);refine Tot.loop (λk y=>SOk E (N+2100+40 * i+1+k) y.1/\y.2.1=(i:Int)/\y.2.2.1=(x.1.2.2.2.2.1.length:Int)/\y.2.2.2.1=(k:Int)) _ x.1.2.2.2.2.1.length (λk y hk hy=> ?_) ⟨hs.rd h3.1 J,hx,rfl,rfl⟩;obtain⟨hs,y1,y2,y3⟩:=hy;unfold uA;refine Tot.ite (λhc=> ?_) (λhc=>Tot.ret ⟨hs.up J,y1⟩);have hc:=BX hc;exact Tot.bind (HX hs J nz) λr4 h4=>Tot.ret ⟨J,h4.up J,y1,y2,LY y3 J⟩
 .refine Tot.bind (D3 (SOk.r hy) J) λr3 h3=>Tot.join (A:=λj=>SOk E (N+2240) j.1) ?_ (λj hj=> ?_)
  .refine Tot.bind (D3 h3.1 J) λr4 h4=>Tot.ite (λhc=> ?_) (λhc=>Tot.ite (λhc=> ?_) λhc=> ?_)
   .exact Tot.bind (D3 h4.1 J) λr5 h5=>Tot.bind (HX (SOk.rd hy h5.1 J) J nz) λr6 h6=>Tot.bind (HX h6 J nz) λr7 h7=>Tot.ret (show SOk E (N+2240) _ from h7.up J)
   .refine Tot.bind (D3 h4.1 J) λr5 h5=>Tot.sum (P:=λ_=>False) (Q:=λy=>SOk E (N+2240) y.1) ?_ (λ_ h=>h.elim) (λy hy=>Tot.ret<|show SOk E (N+2240) y.1 from hy);have hv:r5.1.1<9:=h5.2.2 (show(1:Int)<=9 by decide);have hv0:=h5.2.1;refine Tot.loop (λk y=>SOk E (N+2224+k) y.1/\y.2.2.1=r5.1.1 - (k:Int)) _ r5.1.1.toNat (λk y hk hy=> ?_) ⟨SOk.rd hy (h5.1.up J) J,by show r5.1.1=r5.1.1 - 0;omega⟩;obtain⟨hs,y1⟩:=hy;unfold u9;refine Tot.ite (λhc=> ?_) (λhc=>Tot.ret<|show SOk E (N+2240) _ from hs.up J);have hc:=BX hc;refine Tot.bind (HX hs J nz) λr6 h6=>Tot.ret ⟨J,h6.up J, ?_⟩;show w64 (y.2.2.1 - 1)=r5.1.1 - ((k+1:Nat):Int);rw[Ac J J];omega
   .exact Tot.ret (show SOk E (N+2240) _ from SOk.rd hy (h4.1.up J) J)
  .have hj:SOk E (N+2240) j.1:=hj;refine Tot.bind (bY hj (by decide) (by decide) J) λr4 h4=>Tot.sum (P:=λ_=>False) (Q:=λy=>SOk E (N+3400) y.1) ?_ (λ_ h=>h.elim) (λy hy=> ?_)
   .refine Tot.loop (λk y=>SOk E (N+3340+k) y.1/\y.2.2.1=(k:Int)) _ 12 (λk y hk hy=> ?_) ⟨h4.up J,rfl⟩;obtain⟨hs,y1⟩:=hy;unfold uG;refine Tot.ite (λhc=> ?_) (λhc=>Tot.ret<|show SOk E (N+3400) _ from hs.up J);rw[AG]at hc;have hc:=BX hc.1;exact Tot.bind (HX hs J nz) λr6 h6=>Tot.ret ⟨J,h6.up J,LY y1 J⟩
   .exact Tot.bind (US (SOk.up hy<|Az _) (by decide) J) λr5 h5=>Tot.ret<|h5.up J
def ayi{N:Nat}{s:_}(h:SOk E N s)(odd:Int)(hN:N<=690000):Tot (eu (s,odd,())) λa=>SOk E (N+25000) a.2.1:=by
 unfold eu;refine Tot.bind (D3 h.r J) λr1 h1=>Tot.bind (D3 h1.1 J) λr2 h2=> ?_;have a0:=h1.2.1;have a1:r1.1.1<4:=h1.2.2 (show(1:Int)<=4 by decide);have hs:SOk E (N+2) (r2.2.1,s.2):=h.rd h2.1 J;refine Tot.join (A:=λj=>SOk E (N+2) j.1/\0<=j.2.2.1/\j.2.2.1<4) ?_ (λj hj=> ?_)
 .exact Tot.ite (λ_=>Tot.ret ⟨hs,a0,a1⟩) λ_=>Tot.ite (λ_=>Tot.ret ⟨hs,a0,a1⟩) λ_=>Tot.ret ⟨hs,a0,a1⟩
 clear hs a0 a1;refine Tot.ite (λ_=>Tot.bind (abC hj.1 J) λr4 h4=>Tot.ret<|h4.up J) (λ_=> ?_);refine Tot.join (A:=λj=>SOk E (N+2) j.1/\0<=j.2.2.1/\j.2.2.1<4) ?_ (λj hj=> ?_)
 .exact Tot.ite (λ_=>Tot.ret hj) λ_=>Tot.ite (λ_=>Tot.ret hj) λ_=>Tot.ite (λ_=>Tot.ret hj) λ_=>Tot.ite (λ_=>Tot.ret hj) λ_=>Tot.ite (λ_=>Tot.ret hj) λ_=>Tot.ret hj
 refine Tot.ite (λ_=> ?_) (λ_=> ?_)
 .refine Tot.bind (D3 hj.1.r J) λr3 h3=> ?_;have hv:r3.1.1<7:=h3.2.2 (show(1:Int)<=7 by decide);have hv0:=h3.2.1;have hw:w64 (1+r3.1.1)=1+r3.1.1:=Ac J J;exact Tot.bind (bY (hj.1.rd h3.1 J) (by rw[hw];omega) (by rw[hw];omega) J) λr4 h4=>Tot.ret<|h4.up J
 refine Tot.join (A:=λj=>SOk E (N+2) j.1/\0<=j.2.2.1/\j.2.2.1<4) ?_ (λj hj=> ?_)
 .exact Tot.ite (λ_=>Tot.ret hj) λ_=>Tot.ret hj
 refine Tot.ite (λ_=> ?_) (λ_=> ?_)
 .refine Tot.bind (D3 hj.1.r J) λr3 h3=> ?_;have hv:r3.1.1<20:=h3.2.2 (show(1:Int)<=20 by decide);have hv0:=h3.2.1;have hw:w64 (1+r3.1.1)=1+r3.1.1:=Ac J J;exact Tot.bind (US (hj.1.rd h3.1 J) (by rw[hw];omega) J) λr4 h4=>Tot.ret<|h4.up J
 refine Tot.join (A:=λj=>SOk E (N+2) j.1/\0<=j.2.1/\j.2.1<4) ?_ (λj hj=> ?_)
 .exact Tot.ite (λ_=>Tot.ret hj) λ_=>Tot.ret hj
 refine Tot.ite (λ_=>Tot.bind (HX hj.1 J nz) λr4 h4=>Tot.ret<|h4.up J) (λ_=> ?_);refine Tot.ite (λ_=>Tot.bind (D3 hj.1.r J) λr3 h3=>Tot.bind (HX (hj.1.rd h3.1 J) J nz) λr4 h4=>Tot.ret<|h4.up J) (λ_=> ?_);refine Tot.join (A:=λj=>SOk E (N+2) j.1/\0<=j.2.1/\j.2.1<4) ?_ (λj hj=> ?_)
 .exact Tot.ite (λ_=>Tot.ret hj) λ_=>Tot.ret hj
 refine Tot.ite (λ_=>Tot.bind (HX hj.1 J nz) λr4 h4=>Tot.ret<|h4.up J) (λ_=> ?_);refine Tot.ite (λ_=>Tot.bind (D3 hj.1.r J) λr3 h3=>Tot.bind (D3 h3.1 J) λr4 h4=>Tot.bind (HX (hj.1.rd h4.1 J) J nz) λr5 h5=>Tot.ret<|h5.up J) (λ_=> ?_);refine Tot.join (A:=λj=>SOk E (N+2) j.1/\0<=j.2.1/\j.2.1<4) ?_ (λj hj=> ?_)
 .exact Tot.ite (λ_=>Tot.ret hj) λ_=>Tot.ret hj
 refine Tot.ite (λ_=> ?_) (λ_=> ?_)
 .have hk:=hj.1.w.has hj.2.1 hj.2.2;refine Tot.pos hk.2.2 (Tot.bind (rY hk.1) λr6 h6=> ?_);subst h6;refine Tot.ite (λhl=> ?_) (λhl=>Tot.ret<|hj.1.up J);have hl:(0:Int)<((stT<|kA j.1.2.2.1 j.2.1.toNat).inbox.length:Int):=BX hl;refine Tot.bind (D3 hj.1.r J) λr7 h7=>Tot.pos (FP h7.2.1<|h7.2.2 hl)<|Tot.bind (HX (hj.1.rd h7.1 J) J nz) λr8 h8=>Tot.ret<|h8.up J
 refine Tot.ite (λ_=>Tot.bind (D3 hj.1.r J) λr3 h3=>Tot.bind (HX (hj.1.rd h3.1 J) J nz) λr4 h4=>Tot.ret<|h4.up J) (λ_=> ?_);refine Tot.join (A:=λj=>SOk E (N+2) j.1) ?_ (λj hj=> ?_)
 .exact Tot.ite (λ_=>Tot.ret hj.1) λ_=>Tot.ite (λ_=>Tot.ret hj.1) λ_=>Tot.ret hj.1
 have hj:SOk E (N+2) j.1:=hj;refine Tot.ite (λ_=>Tot.bind (ayY hj J) λr4 h4=>Tot.ret<|h4.up J) (λ_=> ?_);refine Tot.sum (P:=λ_=>False) (Q:=λy=>SOk E (N+25000) y.1) ?_ (λ_ h=>h.elim) (λy hy=>Tot.ret hy);refine Tot.loop (λk y=>SOk E (N+2+2200 * k) y.1/\y.2.1=(k:Int)) _ 4 (λk y hk hy=> ?_) ⟨hj,rfl⟩;unfold uE;refine Tot.ite (λhc=> ?_) (λhc=>Tot.ret<|show SOk E (N+25000) _ from hy.1.up J);have hc:=BX hc;have hy2:=hy.2;exact Tot.bind (bY hy.1 (by decide) (by decide) J) λr5 h5=>Tot.bind (US h5 (by decide) J) λr6 h6=>Tot.ret ⟨J,h6.up J,LY hy.2 J⟩
end Go.VS
namespace Go.VS
open Go
variable {E:List Event}
def awI{i:Int}(h:isN i=U):W3 (i,())=I (((i,U,noB,0,[],()),()),()):=by
 unfold W3;simp only[K9,A9,h,AF,A7]
def aJa:Si ()=I (((rv0.ti,rv0.AB,rv0.Aq,rv0.AT,rv0.AQ,rv0.got,()),()),()):=by
 have h0:tD ((0,([]:List AA),([]:List Bool),([]:List AO),([]:List A6),([]:List A6),()),(0,([]:List AA),([]:List Bool),([]:List AO),([]:List A6),([]:List A6),()),0,())
   =I (.inr ((0,[],[],[],[],[],()),(0,[kp0 0,kp0 1,kp0 2,kp0 3],[],[],[],[],()),())):=by
  have st:∀(n:Nat) (l:List AA),n<4->l.length<=4->eJ ((0,[],[],[],[],[],()),(0,l,[],[],[],[],()),(n:Int),())=I (.inl ((0,[],[],[],[],[],()),(0,l++[kp0 n],[],[],[],[],()),((n+1:Nat):Int),())):=by
   intro n l hn hl;unfold eJ;have hi:isN (n:Int)=U:=Ad.2 ⟨J,J⟩;rw[A8<|AZ<|show(n:Int)<4 by omega];rw[show W3 (_,())=_ from awI hi];simp only[A9];rw[A8<|BG (by simp;omega),Ac J J];rfl
  exact Ap (st 0 [] (by decide)<|by decide)<|Ap (st 1 _ (by decide)<|by decide)<|Ap (st 2 _ (by decide)<|by decide)<|Ap (st 3 _ (by decide)<|by decide)<|BE<|by rfl
 have h1:tM ((0,([]:List AA),([]:List Bool),([]:List AO),([]:List A6),([]:List A6),()),(0,[kp0 0,kp0 1,kp0 2,kp0 3],[],[],[],[],()),0,())
   =I (.inr ((0,[],[],[],[],[],()),(0,[kp0 0,kp0 1,kp0 2,kp0 3],[U,U,U],[],[],[],()),())):=by
  have st:∀(n:Nat) (l:List Bool),n<3->l.length<=4->W1 ((0,[],[],[],[],[],()),(0,[kp0 0,kp0 1,kp0 2,kp0 3],l,[],[],[],()),(n:Int),())=I (.inl ((0,[],[],[],[],[],()),(0,[kp0 0,kp0 1,kp0 2,kp0 3],l++[U],[],[],[],()),((n+1:Nat):Int),())):=by
   intro n l hn hl;unfold W1;have hw:w64 ((n:Int)+1)=((n+1:Nat):Int):=by rw[Ac J J];rfl
   simp only[hw];rw[A8<|AZ<|show((n+1:Nat):Int)<4 by omega,A8<|BG (by simp;omega)]
  refine Ap (st 0 [] (by decide)<|by decide) (Ap (st 1 _ (by decide)<|by decide)<|Ap (st 2 _ (by decide)<|by decide)<|BE ?_);unfold W1;have hw:w64 (((2+1:Nat):Int)+1)=4:=by rw[Ac J J];rfl
  simp only[hw];rfl
 unfold Si;rw[h0];simp only[CB];rw[h1];rfl
def ayt{N M:Nat}{r:List Int×Int×A2}(h:I4 N r){EA:Int}(hm0:1<=EA)(hm:EA<=(M:Int))(hN:N+25000 * M<=710000):
  Tot (iQ (r,EA,())) λa=>I4 (N+12+25000 * M) a.2.1/\WOk [] (N+12+25000 * M) a.1.1.2:=by
 unfold iQ;rw[aJa];simp only[A9];refine Tot.bind (D3 h J) λr2 h2=>Tot.pos (FP h2.2.1<|h2.2.2<|show(1:Int)<=5 by decide) ?_;have hs:SOk [] (N+1) (r2.2.1,rv0.ti,rv0.AB,rv0.Aq,rv0.AT,rv0.AQ,rv0.got,([]:List Event),()):=⟨h2.1,rv0,[],rfl,⟨[],.nil,λ_=>rfl⟩,D7 _⟩;refine Tot.bind (abC hs J) λr4 h4=>Tot.bind (D3 h4.r J) λr9 h9=> ?_;refine Tot.sum (P:=λ_=>False) (Q:=λy=>I4 (N+12+25000 * M) y.1/\WOk [] (N+12+25000 * M) y.2.1.2) ?_ (λ_ h=>h.elim) (λy hy=>Tot.ret hy);have hn0:=h9.2.1;have hn:r9.1.1<(M:Int):=by
  have:r9.1.1<EA:=h9.2.2 hm0;omega
 refine Tot.loop (λi y=>I4 (N+12+25000 * i) y.1/\WOk [] (N+12+25000 * i) y.2.1.2/\y.2.2.2.1=r9.1.1 - (i:Int)) _ r9.1.1.toNat (λi y hi hy=> ?_) ⟨h9.1.up J,h4.w.up J,by show r9.1.1=r9.1.1 - 0;omega⟩;obtain⟨hr,hw,hy⟩:=hy;unfold k9;refine Tot.ite (λhc=> ?_) (λhc=>Tot.ret ⟨hr.up J,hw.up J⟩);have hc:=BX hc;refine Tot.bind (ayi (s:=(y.1,y.2.1.2)) ⟨hr,hw⟩ _ J) λr5 h5=>Tot.ret ⟨J,h5.r.up J,h5.w.up J, ?_⟩;show w64 (y.2.2.2.1 - 1)=r9.1.1 - ((i+1:Nat):Int);rw[Ac J J];omega
end Go.VS
namespace Go.VS
open Go
def ayG{l:List Int}(hb:BOk l):Tot (jU (l,())) λa=>I4 0 a.1.1:=by
 unfold jU;refine Tot.ite (λhc=> ?_) (λhc=>Tot.ret ⟨?_,hb,Ct _,Ct _⟩)
 .have hc:(2000:Int)<(l.length:Int):=BX hc;refine Tot.pos (by simp;omega) (Tot.ret ⟨?_,λx hx=>hb x<|Hb hx,Ct _,Ct _⟩);show(BS (AR 2000) l).length<=2000;rw[DU];omega
 .have:¬(2000:Int)<(l.length:Int):=J3 hc;show l.length<=2000;omega
abbrev tR(w:AE):YR:=(w.ti,w.AB,w.Aq,w.AT,w.AQ,w.got,())
abbrev zR:AE:=⟨0,[],[],[],[],[]⟩
abbrev SmR(w:AE):Prop:=HF w.AB w.Aq w.AT w.AQ w.got
def B7.sm{w:AE}(h:B7 w):SmR w:=by
 have h1:=h.kl;have h2:=h.ll;have h3:=h.rl;have h4:=h.sl;have h5:=h.gl;refine⟨J,λk hk=> ?_,J,J,λp hp=> ?_,J,λn hn=> ?_,J,λn hn=> ?_⟩
 .obtain⟨i,hi,rfl⟩:=Cy hk;have:=(h.k i J).1;rw[kA,BC,Au hi]at this;exact DG this
 .have:=(MF<|h.p p hp).2.2.1;unfold aHy;omega
 .have:=Ad.1<|MQ<|h.s n hn;unfold GX;omega
 .have:=Ad.1<|MQ<|h.g n hn;unfold GX;omega
def adD{l:List AA}(hl:l.length<=1048576):dV (l,())=I ((l,()),()):=MM hl
def aeU{l:List Bool}(hl:l.length<=1048576):eU (l,())=I ((l,()),()):=MM hl
def adC{l:List AO}(hl:l.length<=1048576):df (l,())=I ((l,()),()):=MM hl
def So{w:AE}(sm:SmR w):K6 (tR w,())=I ((tR w,()),()):=by
 obtain⟨ti,ks,ls,ra,se,go⟩:=w;have kl:=sm.kl;unfold K6;rw[show dV ((tR ⟨ti,ks,ls,ra,se,go⟩).2.1,())=_ from adD sm.kl,show eU ((tR ⟨ti,ks,ls,ra,se,go⟩).2.2.1,())=_ from aeU sm.l,show df ((tR ⟨ti,ks,ls,ra,se,go⟩).2.2.2.1,())=_ from adC sm.rl,
  show OS ((tR ⟨ti,ks,ls,ra,se,go⟩).2.2.2.2.1,())=_ from eV sm.sl,show OS (tR ⟨ti,ks,ls,ra,se,go⟩).2.2.2.2.2=_ from eV sm.gl]
 simp only[A9];have h:de (tR zR,tR ⟨ti,ks,ls,ra,se,go⟩,(ks.length:Int),0,())=I (.inr (tR zR,tR ⟨ti,ks,ls,ra,se,go⟩,())):=by
  refine CG (λi=>(tR zR,tR ⟨ti,ks,ls,ra,se,go⟩,(ks.length:Int),(i:Int),())) ks.length ?_ ?_
  .intro i hi;unfold fK;have hc:=LB<|Nc sm.k i;simp only[Ir hi,A5,AU hi,Ox,hc,A9,BZ];rw[Dk hi kl,show(⟨(kA ks i).id,(kA ks i).up,(kA ks i).log,(kA ks i).fo,(kA ks i).AM⟩:AA)=kA ks i from rfl,LU]
  .unfold fK;simp only[HM,A7]
 rw[show de _=_ from h];rfl
def mY{w:AE}{fs:List Frame}(hr:w.AT.length<=1048000)(hf:fs.length<=40):Oi (tR w,fs,())=I ((),(tR ⟨w.ti,w.AB,w.Aq,C6 w.AT fs,w.AQ,w.got⟩,())):=by
 obtain⟨ti,ks,ls,ra,se,go⟩:=w;unfold Oi;have h0:C6 ra (fs.take 0)=ra:=by
  unfold C6;simp
 have h:gq (tR ⟨ti,ks,ls,C6 ra<|fs.take 0,se,go⟩,fs,(fs.length:Int),((0:Nat):Int),())=I (.inr (tR ⟨ti,ks,ls,C6 ra fs,se,go⟩,())):=by
  refine CG (λi=>(tR ⟨ti,ks,ls,C6 ra<|fs.take i,se,go⟩,fs,(fs.length:Int),(i:Int),())) fs.length ?_ ?_
  .intro i hi;unfold YH;simp only[Ir hi,A5,AU hi,aI8];have hz:(C6 ra<|fs.take i).length<=1048100:=by
    unfold C6;simp;have:min (30 - ra.length) (min i fs.length)<=40:=J
    simp only at hr;omega
   have hw:w64 ((i:Int)+1)=((i+1:Nat):Int):=Dk hi J;have hrm:∀p:AO,Af ((C6 ra<|fs.take i).length+[p].length)=U:=λp=>BG (by simp;omega);have ht:fs.take (i+1)=fs.take i++[frA fs i]:=by rw[JC,Au hi,aac hi];rfl
   have hl:(fs.take i).length=i:=by rw[DU];omega
   have hlen:(C6 ra<|fs.take i).length=ra.length+min (30 - ra.length) i:=by
    unfold C6;simp;omega
   by_cases h30:(C6 ra<|fs.take i).length<30
   .rw[A8<|AZ<|show((C6 ra<|fs.take i).length:Int)<30 by omega];rw[show QI ((_,_,_,_,_,_,_,_,_,_,()),())=_ from zk<|frA fs i];simp only[A9,hrm,A5];have e:C6 ra (fs.take<|i+1)=C6 ra (fs.take i)++[pcF (frA fs i)]:=by
     rw[hlen]at h30;have a1:BS (30 - ra.length) (fs.take i++[frA fs i])=fs.take i++[frA fs i]:=KY (by rw[B0,hl];simp;omega);have a2:BS (30 - ra.length) (fs.take i)=fs.take i:=KY (by rw[hl];omega);unfold C6;rw[ht,a1,a2,Eo,← C9];rfl
    rw[e,hw];rfl
   .rw[AD<|nd<|show ¬((C6 ra<|fs.take i).length:Int)<30 by omega];have e:C6 ra (fs.take<|i+1)=C6 ra (fs.take i):=by
     rw[hlen]at h30;unfold C6;rw[ht,List.take_append_of_le_length (by rw[hl];omega)]
    rw[e,hw]
  .unfold YH;simp only[HM,A7,E8]
 rw[h0]at h;have h':gq (tR ⟨ti,ks,ls,ra,se,go⟩,fs,(fs.length:Int),0,())=I (.inr (tR ⟨ti,ks,ls,C6 ra fs,se,go⟩,())):=h;simp only[h'];rfl
def ai6{l:List AO}{i:Int}(h0:0<=i)(h1:i<l.length)(hl:l.length<=1048576):Wa (l,i,())=I ((JY l i.toNat,()),()):=by
 unfold Wa;have hw:w64 (i+1)=i+1:=Ac J J;have hn:(i+1).toNat=i.toNat+1:=J
 simp only[hw,hn];rw[A8 (by simp;omega),A8<|BG (by simp;omega),A8 (by simp;omega),A8<|BG (by simp;omega)];rfl
def aol{w:AE}(h:B7 w)(e:Event):((e.ki=9\/e.ki=10)->jh (tR w,tE e,())=I (((F7 w e).2,()),(tR (F7 w e).1,()))):=by
 intro _;have ll:=h.ll;unfold jh F7;simp only[EW,A9,Qu<|show w.Aq.length<=1048576 by omega,Zv];rcases tf (inB e.at_ 0<|(w.Aq.length:Int) - 1) with e0|e0
 .have ha:=Ad.1 e0;have hb:inb e.at_ w.Aq.length=U:=FP ha.1 J;rw[e0,hb];simp only[AF,AK,Fa,A5,Bn,AY];rcases tfp (bA w.Aq e.at_.toNat=A1 (e.ki=9)) with c|c<;>simp only[c,Aa,Ag,AF,AK,A5,A7]
 .rw[e0];simp only[AF,AK,Hl,A5,C0,AS,A7]
def ayO(l:List AO)(i:Int){inst:Decidable ((@rd AO (dfl .Ak) l i).dst<(@rd AO (dfl .Ak) l i).src)}:(@ite Int ((@rd AO (dfl .Ak) l i).dst<(@rd AO (dfl .Ak) l i).src) inst (@rd AO (dfl .Ak) l i).dst (@rd AO (dfl .Ak) l i).src)=lnk (pA l i.toNat):=by
 show _=lnk (@rd AO (dfl .Ak) l i);unfold lnk;split<;>split<;>omega
def ajy{w:AE}(h:B7 w)(e:Event):((e.ki=4\/e.ki=5\/e.ki=6)->Su (tR w,tE e,())=I (((EY w e).2,()),(tR (EY w e).1,()))):=by
 intro hk;have rl:=h.rl;unfold Su EY;simp only[↓ayO,EW,A9,Qu<|show w.AT.length<=1048576 by omega,aFW];rcases tf (inB e.wo 0<|(w.AT.length:Int) - 1) with e0|e0
 .have ha:=Ad.1 e0;have hb:inb e.wo w.AT.length=U:=FP ha.1 J;have hwl:e.wo.toNat<w.AT.length:=J
  have hp:=R0 h (i:=e.wo.toNat) hwl;obtain⟨p1,p2,p3,p4,p5⟩:=MF hp;have FJ:=ai6 (l:=w.AT) ha.1 J J;rw[e0,hb];simp only[AF,A7,A5];rcases tfp (e.ki=5) with c5|c5
  .have c6:¬e.ki=6:=by have:e.ki=5:=of_eq_true c5;omega
   simp only[c5,Aa,A5,FJ,A9,c6,if_false]
  .rcases tfp (e.ki=6) with c6|c6
   .simp only[c5,c6,Aa,Ag,A5,A7,Qu<|show(pA w.AT e.wo.toNat).data.size<=1048576 by omega];rcases tf (inB e.mix 0<|((pA w.AT e.wo.toNat).data.size:Int) - 1) with e2|e2<;>simp only[e2,AF,AK,A7,A5,AY,AS,Bc];rcases tf (pA w.AT e.wo.toNat).sp with e1|e1<;>simp only[e1,AF,AK,A7,A5,AY,AS];rcases tf (inB e.kp 1 255) with e3|e3<;>simp only[e3,AF,AK,A7,A5];have hm:=Ad.1 e2;have hmb:inb e.mix (BF (pA w.AT e.wo.toNat).data).length=U:=FP hm.1 (by rw[rS];omega);simp only[Gi,aJb,aaZ hwl,hb,A5];rw[A8<|BG J,A8 hmb,A8 hmb];rfl
   .have c4:e.ki=4:=by
     have:¬e.ki=5:=by simpa using c5
     have:¬e.ki=6:=by simpa using c6
     omega
    have hl:inb (lnk<|pA w.AT e.wo.toNat) w.Aq.length=U:=by
     have:=h.ll;exact FP p4 (by rw[this];exact p5)
    have hin:inb (pA w.AT e.wo.toNat).dst w.AB.length=U:=FP p2.1 (by rw[h.kl];omega);have c4':(e.ki=4)=True:=eq_true c4;simp only[c5,c6,c4',Aa,Ag,A5,A7,hl,Zv,if_false];rcases tf (bA w.Aq (lnk<|pA w.AT e.wo.toNat).toNat) with e1|e1<;>simp only[e1,AF,AK,A7,A5];have hlo:=(UD h e.wo.toNat).1;rcases tfp (e.kp=0) with e5|e5
    .simp only[e5,Aa,A5,FJ,A9,Bj];simp only[BG<|show(pA w.AT e.wo.toNat).data.size<=4294967296 by omega,A5,xe<|BOk.str _,A9];unfold EE;generalize D2 (BF (pA w.AT e.wo.toNat).data)=u;rcases tf u.2 with e2|e2<;>simp only[e2,A7,A5,AY,AS,Bj];rcases tf (A1 (u.1.src=(pA w.AT e.wo.toNat).src)&&A1 (u.1.dst=(pA w.AT e.wo.toNat).dst)) with e3|e3<;>simp only[e3,A7,A5,hin,Tg];rw[show Sc ((_,_,_,_,_,()),_,())=_ from yC (VN h (i:=(pA w.AT e.wo.toNat).dst.toNat) J) u.1];simp only[A9];have hs:=mY (w:=⟨w.ti,w.AB.set (pA w.AT e.wo.toNat).dst.toNat (CH (kA w.AB (pA w.AT e.wo.toNat).dst.toNat) u.1).1,w.Aq,JY w.AT e.wo.toNat,w.AQ,w.got⟩) (fs:=(CH (kA w.AB (pA w.AT e.wo.toNat).dst.toNat) u.1).2) (by show(JY w.AT e.wo.toNat).length<=1048000;omega) (by have:=(ZO (kA w.AB (pA w.AT e.wo.toNat).dst.toNat) u.1).1;omega);rw[show Oi _=_ from hs];rfl
    .simp only[e5,Ag,A7,Bj,if_false];simp only[BG<|show(pA w.AT e.wo.toNat).data.size<=4294967296 by omega,A5,xe<|BOk.str _,A9];unfold EE;generalize D2 (BF (pA w.AT e.wo.toNat).data)=u;rcases tf u.2 with e2|e2<;>simp only[e2,A7,A5,AY,AS,Bj];rcases tf (A1 (u.1.src=(pA w.AT e.wo.toNat).src)&&A1 (u.1.dst=(pA w.AT e.wo.toNat).dst)) with e3|e3<;>simp only[e3,A7,A5,hin,Tg];rw[show Sc ((_,_,_,_,_,()),_,())=_ from yC (VN h (i:=(pA w.AT e.wo.toNat).dst.toNat) J) u.1];simp only[A9];have hs:=mY (w:=⟨w.ti,w.AB.set (pA w.AT e.wo.toNat).dst.toNat (CH (kA w.AB (pA w.AT e.wo.toNat).dst.toNat) u.1).1,w.Aq,w.AT,w.AQ,w.got⟩) (fs:=(CH (kA w.AB (pA w.AT e.wo.toNat).dst.toNat) u.1).2) (by show(w.AT).length<=1048000;omega) (by have:=(ZO (kA w.AB (pA w.AT e.wo.toNat).dst.toNat) u.1).1;omega);rw[show Oi _=_ from hs];rfl
 .rw[e0];simp only[AK,A5,A7]
def aok{w:AE}(h:B7 w){e:Event}(hk:¬(e.ki=4\/e.ki=5\/e.ki=6))(hk':¬(e.ki=9\/e.ki=10))(ht:e.tx.size<=1048576):
  TL (tR w,tE e,())=I (((doM w e).2,()),(tR (doM w e).1,())):=by
 obtain⟨ki,at_,fr,nu,wo,mix,kp,t',un,tx⟩:=e;simp only at hk hk' ht;have hn:∀(l:List A6) (x:A6),l.length<=6->Af (l.length+[x].length)=U:=λl x hl=>BG (by simp;omega);have rl:=h.rl;unfold TL doM;rw[AD hk,AD hk'];simp only[K7,A9];rcases tf (isN at_) with e0|e0
 .have ha:=EB e0;have hal:=VD e0;have hb:inb at_ w.AB.length=U:=FP ha.1 (by rw[h.kl];omega);have hko:=(h.k _ hal).1;have hks:=VN h hal;simp only[e0,AF,A7,hb,A5,Tg];unfold Gu;rcases tfp (ki=1) with e1|e1
  .simp only[e1,Aa,A5];unfold O1;by_cases hs:6<=w.AQ.length
   .rw[A8<|AZ<|show 6<=(w.AQ.length:Int) by omega,A8 hs];rfl
   .rw[AD<|nd<|show ¬6<=(w.AQ.length:Int) by omega,AD hs];rw[show Wd ((_,_,_,_,_,()),_,_,_,())=_ from ahh hko t' un ht];simp only[A9];rcases tfp ((Dz (kA w.AB at_.toNat) t' un tx).2=0) with e2|e2<;>simp only[e2,Aa,Ag,A7,A5,if_false]
    .rfl
    .rw[A8<|hn _ _ h.sl,Bj];simp only[hb,A5]
  .simp only[e1,Ag,A7,if_false];rcases tfp (ki=2) with e2|e2
   .simp only[e2,Aa,A5];rw[show WT ((_,_,_,_,_,()),())=_ from ag5 hko];simp only[A9,Bj,hb,A5];rfl
   .simp only[e2,Ag,A7,if_false];rcases tfp (ki=3) with e3|e3
    .simp only[e3,Aa,A5];rw[show We ((_,_,_,_,_,()),_,_,_,())=_ from ahi hks fr nu mix];simp only[A9];rw[A8 hko];rcases tf (EM (kA w.AB at_.toNat) fr nu mix).2 with e4|e4<;>simp only[e4,A5,A7]
     .have hs:=mY (w:=w) (fs:=[(EM (kA w.AB at_.toNat) fr nu mix).1]) J (by simp);rw[show Oi (_,_,())=_ from hs];simp only[A9,Bj,hb,A5];rw[show(⟨(kA w.AB at_.toNat).id,(kA w.AB at_.toNat).up,(kA w.AB at_.toNat).log,(kA w.AB at_.toNat).fo,(kA w.AB at_.toNat).AM⟩:AA)=kA w.AB at_.toNat from rfl,LU]
     .simp only[Bj,hb,A5];rw[show(⟨(kA w.AB at_.toNat).id,(kA w.AB at_.toNat).up,(kA w.AB at_.toNat).log,(kA w.AB at_.toNat).fo,(kA w.AB at_.toNat).AM⟩:AA)=kA w.AB at_.toNat from rfl,LU]
    .simp only[e3,Ag,A7,if_false];rcases tfp (ki=7) with e4|e4
     .simp only[e4,Aa,A5];rw[show WW ((_,_,_,_,_,()),_,())=_ from ag8 hks kp];rw[A8 hko];simp only[A9,Bj,hb,A5];rfl
     .simp only[e4,Ag,A7,if_false];rcases tfp (ki=8) with e5|e5
      .simp only[e5,Aa,A5];rw[show WU ((_,_,_,_,_,()),())=_ from ag6 hko];simp only[A9,Bj,hb,A5];rfl
      .simp only[e5,Ag,A7,if_false];rcases tfp (ki=11) with e6|e6
       .simp only[e6,Aa,A5];unfold OB;by_cases hs:w.got.length<6
        .rw[AD<|nd<|show ¬6<=(w.got.length:Int) by omega];rw[show Wf ((_,_,_,_,_,()),_,_,())=_ from ahj hko fr nu];simp only[A9];rcases tf (Dg (kA w.AB at_.toNat) fr nu).2.2 with e7|e7<;>simp only[e7,AF,AK,A5,A7,AY,AS]
         .rw[A8<|AZ hs,A8<|hn _ _ h.gl,Bj];simp only[hb,A5]
         .rfl
        .rw[A8<|AZ<|show 6<=(w.got.length:Int) by omega,BI hs,Bc,A7];rfl
       .simp only[e6,Ag,A7,if_false];rcases tfp (ki=12) with e7|e7
        .simp only[e7,Aa,A5];rw[show WV ((_,_,_,_,_,()),())=_ from ag7 hko];simp only[A9,Bj,hb,A5];rfl
        .simp only[e7,Ag,A7,if_false];rcases tfp (ki=13) with e8|e8
         .simp only[e8,Aa,A5];rw[show WM ((_,_,_,_,_,()),())=_ from afJ hko];simp only[A9,Bj,hb,A5];rfl
         .simp only[e8,Ag,A7,if_false,Bj,hb,A5];rw[show(⟨(kA w.AB at_.toNat).id,(kA w.AB at_.toNat).up,(kA w.AB at_.toNat).log,(kA w.AB at_.toNat).fo,(kA w.AB at_.toNat).AM⟩:AA)=kA w.AB at_.toNat from rfl,LU]
 .simp only[e0,AK,A7,A5]
noncomputable abbrev At(w:AE):Bool:=GU w.ti w.AB w.Aq w.AT w.AQ w.got
def aIS{l:List A6}(h:HW l=U):∀n∈l,B1 n=U:=by
 intro n hn;obtain⟨i,hi,rfl⟩:=Cy hn;have:=CE.1 h i hi;rw[nA,BC,Au hi]at this;exact this
def Cz{w:AE}(h:At w=U):B7 w/\0<=w.ti/\w.ti<=99999:=by
 unfold At GU at h;simp only[AG,Ad,decide_eq_true_eq,CE]at h;obtain⟨ht,hk,hl,hr,⟨hs,hs6⟩,⟨hg,hg6⟩,hks,hps⟩:=h;refine⟨⟨J,J,J,J,J,λi hi=> ?_,λp hp=> ?_,aIS hs,aIS hg⟩,ht.1,ht.2⟩
 .have:=hks i J;unfold Je at this;simp only[AG,decide_eq_true_eq]at this;exact⟨this.2,this.1⟩
 .obtain⟨i,hi,rfl⟩:=Cy hp;have:=hps i hi;rw[rV hi]at this;exact this
def qi{w:AE}(h:B7 w)(h0:0<=w.ti)(h1:w.ti<=99999):At w=U:=by
 have k1:=h.kl;have k2:=h.ll;have k3:=h.rl;have k4:=h.sl;have k5:=h.gl;unfold At GU;simp only[AG,Ad,decide_eq_true_eq,CE];refine⟨⟨h0,h1⟩,J,J,J,⟨?_,J⟩,⟨?_,J⟩,λi hi=> ?_,λi hi=> ?_⟩
 .unfold HW;exact CE.2 λi hi=>h.s _ (by rw[nA,BC,Au hi];exact CV hi)
 .unfold HW;exact CE.2 λi hi=>h.g _ (by rw[nA,BC,Au hi];exact CV hi)
 .unfold Je;have:=h.k i J;rw[this.1,this.2];simp
 .exact R0 h hi
def Ek(w:AE)(e:Event):AE×Bool:=
 if At w then(if A1 (99999<=w.ti) then(w,A3) else if(doM w e).2 then(CZ w e,U) else(w,A3)) else(zR,A3)
def kr{w:AE}(h:B7 w)(ht0:0<=w.ti)(ht1:w.ti<=99999){e:Event}(ht:e.tx.size<=1048576):
  I8 (tR w,tE e,())=I ((tR (if A1 (99999<=w.ti) then(w,A3) else if(doM w e).2 then(CZ w e,U) else(w,A3)).1,(if A1 (99999<=w.ti) then(w,A3) else if(doM w e).2 then(CZ w e,U) else(w,A3)).2,()),()):=by
 have hti:=cQ w e;have am7:∀b:Bool,b=A1 (e.ki=9\/e.ki=10)->(BW (X:=YR×YR×YR×Bool×A2) (λj16=>
   (if((!j16.2.2.2.1)||(A1<|j16.1.1=99999)) then
   (K6 (j16.1,())).bind λr29=>
   I ((r29.1.1,A3,()),())
   else
   (K6 (((w64<|j16.2.2.1.1+1),j16.2.2.1.2),())).bind λr30=>
   I ((r30.1.1,U,()),()))) (I<|.inr (tR w,tR zR,tR (doM w e).1,(doM w e).2,())):Option ((YR×Bool×A2)×A2))=I ((tR (if A1 (99999<=w.ti) then(w,A3) else if(doM w e).2 then(CZ w e,U) else(w,A3)).1,(if A1 (99999<=w.ti) then(w,A3) else if(doM w e).2 then(CZ w e,U) else(w,A3)).2,()),()):=by
  intro b hb;rw[Bj];have alk:A1 (w.ti=99999)=A1 (99999<=w.ti):=decide_eq_decide.2 J;simp only[alk];rcases tf (A1<|99999<=w.ti) with c|c
  .simp only[c,Da,A5,So h.sm,A9]
  .rcases tf (doM w e).2 with c2|c2
   .simp only[c,c2,AF,Ep,A7,A5];have hs:=So (qx h e).sm;have e1:tR (CZ w e)=(w64<|(doM w e).1.ti+1,(doM w e).1.AB,(doM w e).1.Aq,(doM w e).1.AT,(doM w e).1.AQ,(doM w e).1.got,()):=by
     unfold CZ tick;rw[c2,A8 rfl]
    rw[e1]at hs ⊢;rw[show K6 ((w64<|(doM w e).1.ti+1,(doM w e).1.AB,(doM w e).1.Aq,(doM w e).1.AT,(doM w e).1.AQ,(doM w e).1.got,()),())=_ from hs];rfl
   .simp only[c,c2,AK,C0,A7,A5,So h.sm,A9]
 unfold I8;rw[So h.sm];simp only[A9];have Ie:=am7 _ rfl;by_cases h9:e.ki=9\/e.ki=10
 .have hdo:doM w e=F7 w e:=by
   unfold doM;rw[AD J,A8 h9]
  have hL:=aol h e h9;rw[← hdo]at hL;rw[← Ie];congr 1;rcases tfp (e.ki=9) with c|c
  .simp only[c,Aa,A5,Bj,hL,A9]
  .have c10:(e.ki=10)=True:=eq_true (by have:¬e.ki=9:=(by simpa using c);omega);simp only[c,c10,Aa,Ag,A7,Bj,A5,hL,A9]
 .have n9:(e.ki=9)=False:=by simp;omega
  have n10:(e.ki=10)=False:=by simp;omega
  simp only[n9,n10,Ag,A7,Bj];rw[← Ie];congr 1;by_cases h4:e.ki=4\/e.ki=5\/e.ki=6
  .have hdo:doM w e=EY w e:=by
    unfold doM;rw[A8 h4]
   have hP:=ajy h e h4;rw[← hdo]at hP;rcases tfp (e.ki=4) with c|c
   .simp only[c,Aa,A5,hP,A9]
   .rcases tfp (e.ki=5) with c1|c1
    .simp only[c,c1,Aa,Ag,A7,A5,hP,A9]
    .have c6:(e.ki=6)=True:=eq_true (by have h4:¬e.ki=4:=(by simpa using c);have h5:¬e.ki=5:=(by simpa using c1);omega);simp only[c,c1,c6,Aa,Ag,A7,A5,hP,A9]
  .have n4:(e.ki=4)=False:=by simp;omega
   have n5:(e.ki=5)=False:=by simp;omega
   have n6:(e.ki=6)=False:=by simp;omega
   have hN:=aok h h4 h9 ht;simp only[n4,n5,n6,Ag,A7,hN,A9]
def kS{w:AE}(sm:SmR w):QV (tR w,())=I ((tR w,()),()):=by
 obtain⟨ti,ks,ls,ra,se,go⟩:=w;have k1:=sm.kl;have k2:=sm.l;have k3:=sm.rl;have k4:=sm.sl;have k5:=sm.gl;unfold QV;simp only at k1 k2 k3 k4 k5;simp only[En,CN,DT];rw[A8<|BG J,A8<|BG J,A8<|BG J,A8<|BG J];have h:fA (tR ⟨ti,ks,ls,ra,se,go⟩,tR zR,tR ⟨ti,ks.take 0,ls,ra,se,go⟩,((0:Nat):Int),())=I (.inr (tR zR,tR ⟨ti,ks,ls,ra,se,go⟩,())):=by
  refine CG (λi=>(tR ⟨ti,ks,ls,ra,se,go⟩,tR zR,tR ⟨ti,ks.take i,ls,ra,se,go⟩,(i:Int),())) ks.length ?_ ?_
  .intro i hi;unfold iE;have hc:=ND<|Nc sm.k i;simp only[Ir hi,A5,AU hi,Ox,hc,A9];rw[A8<|BG (by simp;omega),Dk hi k1];have:ks.take i++[kA ks i]=ks.take (i+1):=by rw[JC,Au hi,kA,BC,Au hi];rfl
   rw[← this]
  .unfold iE;simp only[HM,A7,E8]
 have h':fA (tR ⟨ti,ks,ls,ra,se,go⟩,tR zR,tR ⟨ti,[],ls,ra,se,go⟩,0,())=I (.inr (tR zR,tR ⟨ti,ks,ls,ra,se,go⟩,())):=h;simp only[h'];rfl
def aqc{w:AE}(h:B7 w){e:Event}(ht:e.tx.size<=1048576):
  Xk (tR w,tE e,())=I ((tR<|tick (doM w e).1 U,(doM w e).2,()),()):=by
 have hti:=cQ w e;unfold Xk;refine aaz (w:=w) h (e:=e) ht (λc=> ?_) (λc c2=> ?_) (λk b c=> ?_) (λra c=> ?_) (λc=> ?_)
 .rw[c,tick,A8 rfl,hti]<;>rfl
 .rw[c,c2];rfl
 .rw[c];rfl
 .rw[c];rfl
 .rw[c];rfl
def as9{w:AE}(h:B7 w)(hlt:¬99999<=w.ti)(hrv:At w=U){e:Event}(ht:e.tx.size<=1048576):
  OW (tR w,tE e,())=I ((tR (if(doM w e).2 then(CZ w e,U) else(w,A3)).1,(if(doM w e).2 then(CZ w e,U) else(w,A3)).2,()),()):=by
 have hcw:=kS h.sm;have hd:=aqc h ht;have hc2:=kS (aIz (rQ h e) U).sm;unfold OW;rw[show QX ((tR w,tE e,()).1,())=_ from kV h.sm];simp only[A9,show GU w.ti w.AB w.Aq w.AT w.AQ w.got=U from hrv,AF,A7,BI hlt,hcw];rw[show Xk (tR w,(tE e,()))=_ from hd];unfold CZ;rcases tf (doM w e).2 with c|c
 .simp only[A9,c,AF,A7,hc2,A5]
 .simp only[A9,c,AK,A5,A7]
def ams{w:AE}(sm:SmR w){e:Event}(ht:e.tx.size<=1048576):OW (tR w,tE e,())=I ((tR (Ek w e).1,(Ek w e).2,()),()):=by
 unfold Ek;rcases tf (At w) with c|c
 .have hw:=Cz c;rw[A8 c];by_cases hlt:99999<=w.ti
  .unfold OW;rw[show QX (tR w,())=_ from kV sm];simp only[A9,show GU w.ti w.AB w.Aq w.AT w.AQ w.got=U from c,AF,A7,AZ hlt,A5,kS sm]
  .rw[AD<|nd hlt];exact as9 hw.1 hlt c ht
 .rw[AD (by rw[c];exact Ca)];unfold OW;rw[show QX (tR w,())=_ from kV sm];simp only[A9,show GU w.ti w.AB w.Aq w.AT w.AQ w.got=A3 from c,AK,A5]
def ar7{l:List AJ}{i:Nat}(hi:i<l.length)(hl:(hA l i).got.length<=1048576):uI (l,l,(i:Int),0,())=I (.inr (l,l,(i:Int),())):=
 CG (b:=WX) (λk=>(l,l,(i:Int),(k:Int),())) (hA l i).got.length (λk hk=>by
  unfold WX;simp only[AU hi,Me,AU hk,A5,Aa,Dq,AF,A7,B4 hk (by omega:(hA l i).got.length<=9223372036854775807)];rw[A8<|by simpa using hk]) (by
  unfold WX;simp only[AU hi,Me,A5];rw[AD<|by simp])
def aow{l:List AJ}(hl:l.length<=1048576)(hs:∀h∈l,PT h):QT (l,l,())=I ((U,()),()):=by
 have h0:uJ (l,l,0,())=I (.inr ()):=
  CG (b:=WZ) (λk=>(l,l,(k:Int),())) l.length (λk hk=>by
   have hg:(hA l k).got.length<=1048576:=by rw[IN hk];exact(hs _<|CV hk).1
   unfold WZ;simp only[AU hk,Me,B9 hk,A5,Aa,AF,A7,ar7 hk hg,CB,B4 hk (by omega:l.length<=9223372036854775807)]) (by
   unfold WZ;rw[AD<|by simp])
 unfold QT;simp only[Aa,AF,A7,h0,CB]
def aov{k:AA}(sm:Fc k):gn (tKp k,tKp k,())=I ((U,()),()):=by
 unfold gn;simp only[Aa,A5,aow sm.2.1 sm.2.2];rfl
def Xl{l:List A6}(hl:l.length<=1048576):GP (l,l,())=I ((U,()),()):=by
 have h0:uX (l,l,0,())=I (.inr ()):=
  CG (b:=X8) (λk=>(l,l,(k:Int),())) l.length (λk hk=>by
   unfold X8;simp only[AU hk,B9 hk,A5,Mz,Aa,Dq,AF,A7,B4 hk (by omega:l.length<=9223372036854775807)]) (by
   unfold X8;rw[AD<|by simp])
 unfold GP;simp only[Aa,AF,A7,h0,CB]
def TO{w:AE}(sm:SmR w):M5 (tR w,tR w,())=I ((U,()),()):=by
 obtain⟨ti,ks,ls,ra,se,go⟩:=w;have k1:ks.length<=1048576:=sm.kl;have k2:ls.length<=1048576:=sm.l;have k3:ra.length<=1048576:=sm.rl;have h0:uV (tR ⟨ti,ks,ls,ra,se,go⟩,tR ⟨ti,ks,ls,ra,se,go⟩,0,())=I (.inr (tR ⟨ti,ks,ls,ra,se,go⟩,tR ⟨ti,ks,ls,ra,se,go⟩,())):=
  CG (b:=X7) (λk=>(tR ⟨ti,ks,ls,ra,se,go⟩,tR ⟨ti,ks,ls,ra,se,go⟩,(k:Int),())) ks.length (λk hk=>by
   unfold X7;have hc:=aov<|Nc sm.k k;simp only[AU hk,B9 hk,A5,Ox,hc,A9,AF,A7,B4 hk (by omega:ks.length<=9223372036854775807)]) (by
   unfold X7;simp only[HM,A7])
 have h1:uU (tR ⟨ti,ks,ls,ra,se,go⟩,tR ⟨ti,ks,ls,ra,se,go⟩,0,())=I (.inr (tR ⟨ti,ks,ls,ra,se,go⟩,tR ⟨ti,ks,ls,ra,se,go⟩,())):=
  CG (b:=X6) (λk=>(tR ⟨ti,ks,ls,ra,se,go⟩,tR ⟨ti,ks,ls,ra,se,go⟩,(k:Int),())) ls.length (λk hk=>by
   unfold X6;simp only[AU hk,B9 hk,A5,Aa,AF,A7,B4 hk (by omega:ls.length<=9223372036854775807)]) (by
   unfold X6;simp only[HM,A7])
 have h2:uT (tR ⟨ti,ks,ls,ra,se,go⟩,tR ⟨ti,ks,ls,ra,se,go⟩,0,())=I (.inr ()):=
  CG (b:=X5) (λk=>(tR ⟨ti,ks,ls,ra,se,go⟩,tR ⟨ti,ks,ls,ra,se,go⟩,(k:Int),())) ra.length (λk hk=>by
   unfold X5;simp only[AU hk,B9 hk,A5,Aa,Dq,AF,A7,B4 hk (by omega:ra.length<=9223372036854775807)]) (by
   unfold X5;simp only[HM,A7])
 unfold M5;rw[show GP ((tR ⟨ti,ks,ls,ra,se,go⟩,tR ⟨ti,ks,ls,ra,se,go⟩,()).1.2.2.2.2.2.1,(tR ⟨ti,ks,ls,ra,se,go⟩,tR ⟨ti,ks,ls,ra,se,go⟩,()).2.1.2.2.2.2.2)=_ from Xl sm.gl];simp only[Aa,AF,A7,Xl sm.sl,A9,h0,h1,h2,CB]
def Tf(w:AE)(e:Event):(At w=A3/\Ek w e=(zR,A3))\/(At w=U/\Ek w e=(w,A3))\/(At w=U/\w.ti<99999/\(doM w e).2=U/\Ek w e=(CZ w e,U)):=by
 unfold Ek;rcases tf (At w) with c|c
 .rw[c,A8 rfl];by_cases h:99999<=w.ti
  .rw[A8<|AZ h];exact .inr (.inl ⟨rfl,rfl⟩)
  .rw[AD<|nd h];rcases tf (doM w e).2 with d|d
   .rw[A8 d];exact .inr (.inr ⟨rfl,J,d,rfl⟩)
   .rw[AD (by rw[d];exact Ca)];exact .inr (.inl ⟨rfl,rfl⟩)
 .rw[c,A7];exact .inl ⟨rfl,rfl⟩
def V5{w:AE}{e:Event}(h:(doM w e).2=U):CZ w e=⟨w64<|w.ti+1,(doM w e).1.AB,(doM w e).1.Aq,(doM w e).1.AT,(doM w e).1.AQ,(doM w e).1.got⟩:=by
 unfold CZ tick;rw[h,A8 rfl,cQ]
def qw{w:AE}{e:Event}(h:(doM w e).2=U):(CZ w e).ti=w64 (w.ti+1):=by rw[V5 h]
def aHz{w:AE}{e:Event}(h:At w=U)(ht:w.ti<99999)(hd:(doM w e).2=U):At (CZ w e)=U:=by
 obtain⟨h1,h2,h3⟩:=Cz h;have e1:w64 (w.ti+1)=w.ti+1:=Ac J J;exact qi (qx h1 e) (by rw[qw hd,e1];omega) (by rw[qw hd,e1];omega)
def Tot.val{α:Type}{o:Option α}{a:α}(h:Tot o (λx=>x=a)):o=I a:=by
 obtain⟨b,h1,h2⟩:=h;rw[h1,h2]
def aH4:Cd [101,97,116]:=by unfold Cd;decide
def atQ{k:AH}{m:Mark}{r:A4}(ht:HN r=I m):Bd k CQ r=if EO k.inbox m then I ⟨k.id,k.ti,k.nx,k.held,k.marks,Eh k.inbox (Ab k.inbox m.mf m.mn).toNat⟩ else A0:=by
 unfold Bd F3;cases h:EO k.inbox m<;>simp[lV,lX,mC,lW,lZ,ko,mD,lY,ht,h]
def aJj{l:List A6}(h:DX l=U){i:Nat}(hi:i<l.length):nA l i ∉ Eh l i:=by
 have irr:∀a b:Int,bef a b a b=A3:=λa b=>by unfold bef;simp
 have at_:∀j (hj:j<l.length),l[j]=nA l j:=λj hj=>by rw[nA,BC,Au hj];rfl
 have dif:∀j,j<l.length->j≠i->nA l j≠nA l i:=λj hj hne e=>by
  rcases Uh hne with h1|h1
  .have:=TU h i j h1 hi;rw[e,irr]at this;cases this
  .have:=TU h j i h1 hj;rw[e,irr]at this;cases this
 intro hm;unfold Eh at hm;rcases BN.1 hm with hm|hm
 .obtain⟨j,hj,e⟩:=Cy hm;rw[DU]at hj;rw[List.getElem_take,at_ j J]at e;exact dif j J J e
 .obtain⟨j,hj,e⟩:=Cy hm;rw[ES]at hj;rw[List.getElem_drop,at_ (i+1+j) J]at e;exact dif _ J J e
structure LtF (d t:AH):Prop where
 id:t.id=d.id
 ti:t.ti=d.ti
 nx:t.nx=d.nx
 box:t.inbox=d.inbox
 held:∀n∈t.held,n∈d.held
 mrk:∀m∈d.marks,m∈t.marks
def LtF.rfl(d:AH):LtF d d:=⟨HD _,HD _,HD _,HD _,λ_ h=>h,λ_ h=>h⟩
def LtF.trans{a b c:AH}(h:LtF a b)(g:LtF b c):LtF a c:=⟨g.id.trans h.id,g.ti.trans h.ti,g.nx.trans h.nx,g.box.trans h.box,λn hn=>h.held n<|g.held n hn,λm hm=>g.mrk m<|h.mrk m hm⟩
def cW(r:A4):Prop:=∃a b c:Int,(0<=a/\a<=999)/\(0<=b/\b<=999)/\(0<=c/\c<=999)/\r=Cc C2 a b c
def bh{k o:AH}{a b c:Int}(hk:Ay k=U)(ha:0<=a/\a<=999)(hb:0<=b/\b<=999)(hc:0<=c/\c<=999)(h:BM k (Cc C2 a b c)=I o):
  EO k.held ⟨a,b,c⟩=U/\o=⟨k.id,k.ti,k.nx,Eh k.held (Ab k.held a b).toNat,EN k.marks ⟨a,b,c⟩,k.inbox⟩:=by
 rw[aGX hk ha hb hc]at h;have h:=(Jk.1 h).1;split at h
 .rename_i h1;exact⟨h1,(Cn h).symm⟩
 .cases h
def ayP{k o:AH}{r:A4}(hk:Ay k=U)(hr:cW r)(h:BM k r=I o):LtF k o:=by
 obtain⟨a,b,c,ha,hb,hc,rfl⟩:=hr;obtain⟨_,rfl⟩:=bh hk ha hb hc h;exact⟨rfl,rfl,rfl,rfl,λn hn=>Oz hn,λm hm=>Is _<|.inr hm⟩
def ast{k o:AH}{r:A4}(hk:Ay k=U)(h:BM k r=I o):Ay o=U:=((IC hk).1 h).2
def bg:∀ {ts:List A4} {d t:AH},Ay d=U->(∀r∈ts,cW r)->F2 d ts=I t->LtF d t
 | [],d,t,_,_,h=>by
  cases h;exact LtF.rfl _
 | r::ts,d,t,hk,hl,h=>by
  have h:(BM d r).bind (λk=>F2 k ts)=I t:=h;obtain⟨m,h1,h2⟩:=Am.1 h;exact(ayP hk (hl r<|.head _) h1).trans<|bg (ast hk h1) (λx hx=>hl x<|.tail _ hx) h2
def LO(k:AA):Prop:=∃rs ts,CF k.log k.fo rs ts/\ ∀r∈ts,cW r
def cI{k:AA}{rs ts:List A4}(l:CF k.log k.fo rs ts):stD k=(Ci k.id rs).getD zK:=by unfold stD;rw[l.abS]
def LO.two{k:AA}(h:Aj k=U){rs ts:List A4}(l:CF k.log k.fo rs ts):Ci k.id rs=I (stD k)/\Ay (stD k)=U/\F2 (stD k) ts=I (stT k):=by
 have hs:=(Ds h).st;rw[l.state,YV]at hs;obtain⟨d,h1,h2⟩:=Am.1 hs;have e:stD k=d:=by rw[cI l,h1];rfl
 rw[e];exact⟨h1,Qr h1,h2⟩
def LO.lf{k:AA}(h:Aj k=U)(hl:LO k):LtF (stD k) (stT k):=by
 obtain⟨rs,ts,l,g⟩:=hl;obtain⟨_,h2,h3⟩:=LO.two h l;exact bg h2 g h3
def awK{ts:List A4}(h:(cat ts).length=0):ts=[]:=by
 cases ts with
 | nil=>rfl
 | cons r ts=>
  rw[ID,B0,B2]at h;have:=Ys r;omega
def awp{k:AA}(h:Aj k=U)(hf:k.fo=(k.log.size:Int)):∃rs,CF k.log k.fo rs []:=by
 obtain⟨rs,ts,l,_⟩:=(Bu h).lg;have h1:=l.fo;have h2:=l.size_eq;have:ts=[]:=awK J;subst this;exact⟨rs,l⟩
def UI{k:AA}(h:Aj k=U)(hf:k.fo=(k.log.size:Int)):LO k/\stD k=stT k:=by
 obtain⟨rs,l⟩:=awp h hf;refine⟨⟨rs,[],l,λr hr=>by cases hr⟩, ?_⟩;have:=(LO.two h l).2.2;exact Cn this
def aaQ{k:AA}(h:Aj k=U)(hl:LO k){r:A4}(hr:cW r)(h2:(wrR k r A3).2=U):
  LO (wrR k r A3).1/\Aj (wrR k r A3).1=U/\BM (stT k) r=I (stT (wrR k r A3).1)/\(stD (wrR k r A3).1=stD k\/stD (wrR k r A3).1=stT k):=by
 have hk:=Bu h;obtain⟨o,ho⟩:=q7 hk h2;have hi:=PO hk ho;have e:(wrR k r A3).1=wrM k r:=by unfold wrR;rw[ho];rfl
 rw[e,hi.stT];refine⟨?_,hi.ok,ho, ?_⟩
 all_goals
  obtain⟨rs,ts,l,g⟩:=hl;have hz:=qF hk.kok ho
 .by_cases hc:k.log.size+(D9 r).size<=2400
  .refine⟨rs,ts++[r], ?_,λx hx=> ?_⟩
   .show CF (DC (stT k) k.log k.fo r).1 (DC (stT k) k.log k.fo r).2 _ _;unfold DC;rw[A8 hc];exact l.add hz.1 hz.2 hc
   .rcases BN.1 hx with hx|hx
    .exact g x hx
    .rw[CA.1 hx];exact hr
  .refine⟨CJ<|stT k,[]++[r], ?_,λx hx=> ?_⟩
   .show CF (DC (stT k) k.log k.fo r).1 (DC (stT k) k.log k.fo r).2 _ _;unfold DC;rw[AD hc];refine(R9 hk.kok).add hz.1 hz.2 ?_;have h1:=R4 hk.kok;have h2:=NN hz.2;omega
   .rw[En]at hx;rw[CA.1 hx];exact hr
 .by_cases hc:k.log.size+(D9 r).size<=2400
  .left;have l2:CF (wrM k r).log (wrM k r).fo rs (ts++[r]):=by
    show CF (DC (stT k) k.log k.fo r).1 (DC (stT k) k.log k.fo r).2 _ _;unfold DC;rw[A8 hc];exact l.add hz.1 hz.2 hc
   rw[cI l2,cI l];rfl
  .right;have l2:CF (wrM k r).log (wrM k r).fo (CJ<|stT k) ([]++[r]):=by
    show CF (DC (stT k) k.log k.fo r).1 (DC (stT k) k.log k.fo r).2 _ _;unfold DC;rw[AD hc];refine(R9 hk.kok).add hz.1 hz.2 ?_;have h1:=R4 hk.kok;have h2:=NN hz.2;omega
   have l3:CF (pkM k).log (pkM k).fo (CJ<|stT k) []:=R9 hk.kok;have p:=rM hk;have:=(LO.two p.ok l3);rw[cI l2];have e1:Ci k.id (CJ<|stT k)=I (stT k):=by
    have t:=this.2.2;have t1:stD (pkM k)=stT (pkM k):=Cn t;have t0:=this.1;rw[t1,p.stT]at t0;exact t0
   show(Ci k.id<|CJ<|stT k).getD zK=_;rw[e1];rfl
def awV{k:AA}(h:Aj k=U){r:A4}(h2:(wrR k r U).2=U):
  Aj (wrR k r U).1=U/\LO (wrR k r U).1/\stD (wrR k r U).1=stT (wrR k r U).1/\BM (stT k) r=I (stT (wrR k r U).1):=by
 have hk:=Bu h;obtain⟨o,ho⟩:=q7 hk h2;have hs:=(q8 hk ho).1;have:=UI hs.is.ok hs.fo;refine⟨hs.is.ok,this.1,this.2, ?_⟩;rw[hs.is.stT];exact ho
def UJ{k:AA}(h:Aj k=U):Aj (foM k)=U/\LO (foM k)/\stD (foM k)=stT k/\stT (foM k)=stT k:=by
 have hk:=RS<|Bu h;have:=UI (k:=foM k) hk.ok rfl;exact⟨hk.ok,this.1,this.2.trans hk.stT,hk.stT⟩
def axT{k:AA}(h:Aj k=U):Aj (pkM k)=U/\LO (pkM k)/\stD (pkM k)=stT k/\stT (pkM k)=stT k:=by
 have hk:=rM<|Bu h;have:=UI (k:=pkM k) hk.ok rfl;exact⟨hk.ok,this.1,this.2.trans hk.stT,hk.stT⟩
def axq{k:AA}(h:Aj k=U)(hl:LO k)(keep:Int):
  Aj (faM k keep)=U/\LO (faM k keep)/\stD (faM k keep)=stT (faM k keep)/\LtF (stD k) (stT<|faM k keep)/\LtF (stT<|faM k keep) (stT k):=by
 have ok:=rK h keep;obtain⟨rs,ts,l,g⟩:=hl;have hfo:=l.fo;obtain⟨us,vs,e,l2⟩:=l.UZ (k.fo+max 0 (min keep<|(k.log.size:Int) - k.fo)).toNat J;have lf:(faM k keep).fo=((faM k keep).log.size:Int):=by
  have a:(faM k keep).fo=_:=l2.fo;have b:(faM k keep).log.size=_:=l2.size_eq;rw[a,b];simp[KE]
 have hf:=UI ok lf;obtain⟨d0,d1,d2⟩:=LO.two h l;have l2:CF (faM k keep).log (faM k keep).fo (rs++us) []:=l2;obtain⟨f0,f1,f2⟩:=LO.two ok l2;rw[hf.2]at f0 f1;have f0:Ci k.id (rs++us)=I (stT<|faM k keep):=f0;rw[YV,d0]at f0;rw[e,NG,show F2 (stD k) us=_ from f0]at d2;subst e;exact⟨ok,hf.1,hf.2,bg d1 (λr hr=>g r<|By _ hr) f0,bg f1 (λr hr=>g r<|CU _ hr) d2⟩
inductive Act|non|own (n:A6)|take (n:A6)|eat (n:A6)|lets (m:Mark)
def Act.new(a:Act)(n:A6):Prop:=a= .own n\/a= .take n
structure KF (k o:AH) (a:Act):Prop where
 id:o.id=k.id
 ti:k.ti<=o.ti
 nx:(o.nx=k.nx/\ ∀n,a≠ .own n)\/ ∃n,a= .own n/\n.nu=k.nx/\n.fr=k.id/\o.nx=k.nx+1
 hold:∀n∈k.held,n∈o.held\/n.un<=o.ti\/a= .lets ⟨n.fr,n.nu,n.un⟩
 held:∀n∈o.held,n∈k.held\/a.new n
 box:∀n∈k.inbox,n∈o.inbox\/a= .eat n
 OE:∀n∈o.inbox,(n∈k.inbox/\a≠ .eat n)\/(a.new n/\n.to=k.id)
 mrk:∀m∈o.marks,m∈k.marks\/a= .lets m\/ ∃n,a.new n/\n.to=k.id/\m=⟨n.fr,n.nu,n.un⟩
 mks:∀m∈k.marks,m∈o.marks\/m.mu<=o.ti
 new:∀n,a.new n->k.ti<n.un/\(∀m∈k.marks,¬(m.mf=n.fr/\m.mn=n.nu))/\(if n.to=k.id then n∈o.inbox else n∈o.held)
 eat:∀n,a= .eat n->n∈k.inbox
 lets:∀m,a= .lets m->∃n∈k.held,m=⟨n.fr,n.nu,n.un⟩
def aHm{l:List A6}{i:Nat}{x:A6}(h:x∈l)(hne:x≠nA l i):x∈Eh l i:=by
 obtain⟨j,hj,e⟩:=Cy h;have at_:nA l j=x:=by rw[nA,BC,Au hj];exact e
 have hji:j≠i:=λc=>hne (by rw[← c];exact at_.symm);unfold Eh;rw[BN];by_cases h1:j<i
 .left;rw[List.mem_take_iff_getElem];exact⟨j,J,e⟩
 .right;rw[List.mem_drop_iff_getElem];exact⟨j - (i+1),J,by rw[← e];congr 1;omega⟩
def awz{l:List Mark}{f n:Int}(h:¬0<=Bt l f n):∀m∈l,¬(m.mf=f/\m.mn=n):=λm hm e=>h<|qD hm e.1 e.2
def aap{k o:AH}{n:A6}{a:Act}(ha:a.new n)(hu:∀x,a.new x->x=n)(hnx:(o.nx=k.nx/\ ∀n,a≠ .own n)\/ ∃n,a= .own n/\n.nu=k.nx/\n.fr=k.id/\o.nx=k.nx+1)
  {c:Int}(h:Ej ⟨k.id,k.ti,c,k.held,k.marks,k.inbox⟩ n=I o):KF k o a:=by
 have ne:∀x,a≠ .eat x:=λx e=>by obtain h|h:=ha<;>rw[h]at e<;>cases e
 have nl:∀x,a≠ .lets x:=λx e=>by obtain h|h:=ha<;>rw[h]at e<;>cases e
 unfold Ej at h;split at h
 .cases h
 split at h
 .cases h
 split at h
 .cases h
 split at h
 .cases h
 split at h
 .cases h
 split at h
 .cases h
 rename_i _ h1 _ _ h2 _;have h1:k.ti<n.un:=by simpa using h1
 have h2:=awz (l:=k.marks) (f:=n.fr) (n:=n.nu) (by simpa using h2);split at h
 .rename_i ht;have ht:n.to=k.id:=BX ht;cases h;refine⟨rfl,Ct _,hnx,λ_ h=> .inl h,λ_ h=> .inl h,λx h=> .inl<|Is _<|.inr h,λx h=> ?_,λm h=> ?_,λm h=> .inl<|Is _<|.inr h,λx h=> ?_,λx e=>absurd e<|ne x,λx e=>absurd e<|nl x⟩
  .rcases Gv _ h with rfl|h
   .exact .inr ⟨ha,ht⟩
   .exact .inl ⟨h,ne x⟩
  .rcases Gv _ h with rfl|h
   .exact .inr (.inr ⟨n,ha,ht,rfl⟩)
   .exact .inl h
  .rw[hu x h,A8 ht];exact⟨h1,h2,Is _<|.inl rfl⟩
 .rename_i ht;have ht:¬n.to=k.id:=by simpa using ht
  cases h;refine⟨rfl,Ct _,hnx,λx h=> .inl<|Is _<|.inr h,λx h=> ?_,λ_ h=> .inl h,λ_ h=> .inl ⟨h,ne _⟩,λ_ h=> .inl h,λ_ h=> .inl h,λx h=> ?_,λx e=>absurd e<|ne x,λx e=>absurd e<|nl x⟩
  .rcases Gv _ h with rfl|h
   .exact .inr ha
   .exact .inl h
  .rw[hu x h,AD ht];exact⟨h1,h2,Is _<|.inl rfl⟩
def auC(n:A6):L (LV n)=[111,119,110]++32::L (wr n):=by unfold LV;simp only[Ge,L_B];rfl
def asd{k:AH}{n:A6}(hn:B1 n=U):Bd k Dm (wr n)=if n.fr=k.id/\n.nu=k.nx then Ej ⟨k.id,k.ti,k.nx+1,k.held,k.marks,k.inbox⟩ n else(if 0<=Ab k.held n.fr n.nu\/0<=Ab k.inbox n.fr n.nu then A0 else A0):=by
 unfold Bd;rw[AD<|by decide,A8<|by decide,Qm hn];unfold GW;by_cases h:n.fr=k.id/\n.nu=k.nx
 .simp[h.1,h.2]
 .rw[AD h];have:(A1 (n.fr=k.id)&&A1 (n.nu=k.nx))=A3:=by
   rw[← Gk,AG,decide_eq_true_eq,decide_eq_true_eq];exact h
  simp[aDA,aDB,aBm,this]
def ayx{k o:AH}{n:A6}(hk:Ay k=U)(hn:B1 n=U)(h:BM k (LV n)=I o):KF k o (.own n):=by
 have h:=((IC hk).1 h).1;rw[IH aHi<|auC n,show Bd k (B [111,119,110]) (B<|L<|wr n)=Bd k Dm (wr n) by rw[B_L]]at h;rw[asd hn]at h;split at h
 .rename_i hc;have hx:o.nx=k.nx+1:=by
   unfold Ej at h
   (repeat' split at h)<;>first|(cases h;done)|(cases h;rfl)
  exact aap (.inl rfl) (λx h=>by obtain h|h:=h<;>cases h;rfl) (.inr ⟨n,rfl,hc.2,hc.1,hx⟩) h
 .split at h<;>cases h
def aJD{k o:AH}{n:A6}(hk:Ay k=U)(hn:B1 n=U)(h:BM k (JT n)=I o):KF k o (.take n)/\n.fr≠k.id:=by
 rw[n8 hk hn]at h;have h:=(Jk.1 h).1;split at h
 .cases h
 rename_i hne;have hx:o.nx=k.nx:=by
  unfold Ej at h
  (repeat' split at h)<;>first|(cases h;done)|(cases h;rfl)
 exact⟨aap (.inr rfl) (λx h=>by obtain h|h:=h<;>cases h;rfl) (.inl ⟨hx,λn e=>by cases e⟩) h,hne⟩
def awG{k o:AH}(hk:Ay k=U)(h:BM k (Fw<|k.ti+1)=I o):KF k o .non:=by
 have hf:=Bx hk;have t0:=hf.t0;have t1:=hf.t1;have h:=((IC hk).1 h).1;rw[IH np<|ZC _,nC J J J]at h;cases h;refine⟨rfl,by show k.ti<=k.ti+1;omega,.inl ⟨rfl,λ_ h=>by cases h⟩,λn h=> ?_,λn h=> .inl (FW.1 h).1,λ_ h=> .inl h,λ_ h=> .inl ⟨h,λe=>by cases e⟩,λm h=> .inl (FW.1 h).1,λm h=> ?_,
  λ_ h=>(by obtain h|h:=h<;>cases h),λ_ h=>(by cases h),λ_ h=>(by cases h)⟩
 .by_cases hc:k.ti+1<n.un
  .exact .inl (FW.2 ⟨h,AZ hc⟩)
  .exact .inr (.inl (by show n.un<=k.ti+1;omega))
 .by_cases hc:k.ti+1<m.mu
  .exact .inl (FW.2 ⟨h,AZ hc⟩)
  .exact .inr (by show m.mu<=k.ti+1;omega)
def aah{k o:AH}{a b c:Int}(hk:Ay k=U)(ha:0<=a/\a<=999)(hb:0<=b/\b<=999)(hc:0<=c/\c<=999)(h:BM k (Cc C2 a b c)=I o):KF k o (.lets ⟨a,b,c⟩):=by
 obtain⟨h1,rfl⟩:=bh hk ha hb hc h;unfold EO at h1;rw[AG,decide_eq_true_eq,decide_eq_true_eq]at h1;obtain⟨i0,i1⟩:=h1;obtain⟨j0,j1,j2,j3⟩:=FM i0;have e:(⟨a,b,c⟩:Mark)=⟨(nA k.held (Ab k.held a b).toNat).fr,(nA k.held (Ab k.held a b).toNat).nu,(nA k.held (Ab k.held a b).toNat).un⟩:=by rw[j2,j3,i1]
 refine⟨rfl,Ct _,.inl ⟨rfl,λ_ h=>by cases h⟩,λn h=> ?_,λn h=> .inl<|Oz h,λ_ h=> .inl h,λ_ h=> .inl ⟨h,λe=>by cases e⟩,λm h=> ?_,λm h=> .inl<|Is _<|.inr h,
  λ_ h=>(by obtain h|h:=h<;>cases h),λ_ h=>(by cases h),λm h=> ?_⟩
 .by_cases hx:n=nA k.held (Ab k.held a b).toNat
  .right;right;rw[e,hx]
  .exact .inl (aHm h hx)
 .rcases Gv _ h with rfl|h
  .exact .inr (.inl rfl)
  .exact .inl h
 .cases h;exact⟨_,EZ j0,e⟩
def ayb{k o:AH}{n:A6}(hk:Ay k=U)(hn:n=nA k.inbox (Ab k.inbox n.fr n.nu).toNat)(h0:0<=Ab k.inbox n.fr n.nu)(h:BM k (Cc CQ n.fr n.nu n.un)=I o):KF k o (.eat n):=by
 have hf:=Bx hk;obtain⟨hlt,dP,hfr,hnu⟩:=FM h0;have hm:n∈k.inbox:=by rw[hn];exact EZ hlt
 obtain⟨⟨a0,a1⟩,⟨b0,b1⟩,⟨c0,c1⟩,_⟩:=TY<|Qi hf.i hm;have h3:=aS (r:=B<|BA n.fr++32::(BA n.nu++32::BA n.un)) (a:=n.fr) (b:=n.nu) (c:=n.un) J J J J J J<|L_B _;have h2:=((IC hk).1 h).1;rw[IH aH4<|Qt CQ _ _ _,show Bd k (B [101,97,116]) _=_ from atQ h3]at h2;split at h2
 .cases h2;refine⟨rfl,Ct _,.inl ⟨rfl,λ_ h=>by cases h⟩,λ_ h=> .inl h,λ_ h=> .inl h,λx h=> ?_,λx h=> .inl ⟨Oz h,λe=> ?_⟩,λ_ h=> .inl h,λ_ h=> .inl h,
   λ_ h=>(by obtain h|h:=h<;>cases h),λx e=> ?_,λ_ h=>(by cases h)⟩
  .by_cases hx:x=n
   .exact .inr (by rw[hx])
   .exact .inl (aHm h λe=>hx<|e.trans hn.symm)
  .cases e;rw[hn]at h;exact aJj hf.i hlt (by rw[← hn]at h ⊢; exact h)
  .cases e;exact hm
 .cases h2
structure Mvd (k k':AA) (a:Act):Prop where
 lo:LO k'
 id:(stT k').id=(stT k).id
 ti:(stT k).ti<=(stT k').ti
 nx:((stT k').nx=(stT k).nx/\ ∀n,a≠ .own n)\/ ∃n,a= .own n/\n.nu=(stT k).nx/\n.fr=(stT k).id/\(stT k').nx=(stT k).nx+1
 hold:∀n,n∈(stT k).held->n∈(stD k).held->(n∈(stT k').held/\n∈(stD k').held)\/n.un<=(stT k').ti\/a= .lets ⟨n.fr,n.nu,n.un⟩
 held:∀n∈(stD k').held,n∈(stD k).held\/a.new n
 box:∀n∈(stT k).inbox,n∈(stT k').inbox\/a= .eat n
 OE:∀n∈(stT k').inbox,(n∈(stT k).inbox/\a≠ .eat n)\/(a.new n/\n.to=(stT k).id)
 mrk:∀m∈(stT k').marks,m∈(stT k).marks\/a= .lets m\/ ∃n,a.new n/\n.to=(stT k).id/\m=⟨n.fr,n.nu,n.un⟩
 mks:∀m∈(stD k).marks,m∈(stD k').marks\/m.mu<=(stT k').ti
 new:∀n,a.new n->(stT k).ti<n.un/\(∀m∈(stT k).marks,¬(m.mf=n.fr/\m.mn=n.nu))/\(if n.to=(stT k).id then n∈(stT k').inbox else n∈(stT k').held/\n∈(stD k').held)
 eat:∀n,a= .eat n->n∈(stT k).inbox/\ ∀m∈(stT k).marks,m∈(stD k').marks
 lets:∀m,a= .lets m->∃n∈(stT k).held,m=⟨n.fr,n.nu,n.un⟩
def auj{k k':AA}{a:Act}(h:Aj k=U)(hl:LO k)(lo:LO k')(e:stD k'=stT k')(f:KF (stT k) (stT k') a)(he:∀n,a= .eat n->∀m∈(stT k).marks,m∈(stT k').marks):Mvd k k' a where
 lo:=lo
 id:=f.id
 ti:=f.ti
 nx:=f.nx
 hold:=λn h1 _=>by
  rcases f.hold n h1 with h|h|h
  .exact .inl ⟨h,by rw[e];exact h⟩
  .exact .inr (.inl h)
  .exact .inr (.inr h)
 held:=λn hn=>by
  rw[e]at hn;rcases f.held n hn with h1|h1
  .exact .inl ((hl.lf h).held n h1)
  .exact .inr h1
 box:=f.box
 OE:=f.OE
 mrk:=f.mrk
 mks:=λm hm=>by
  rw[e];exact f.mks m ((hl.lf h).mrk m hm)
 new:=λn hn=>by
  obtain⟨a1,a2,a3⟩:=f.new n hn;refine⟨a1,a2, ?_⟩;rw[e];split at a3
  .rename_i hc;rw[A8 hc];exact a3
  .rename_i hc;rw[AD hc];exact⟨a3,a3⟩
 eat:=λn hn=>⟨f.eat n hn,by rw[e];exact he n hn⟩
 lets:=f.lets
def Qx{k k':AA}(h:Aj k=U)(hl:LO k)(lo:LO k')(et:stT k'=stT k)(ed:stD k'=stD k\/stD k'=stT k):Mvd k k' .non where
 lo:=lo
 id:=by rw[et]
 ti:=by rw[et];exact Ct _
 nx:= .inl ⟨by rw[et],λ_ e=>by cases e⟩
 hold:=λn h1 h2=> .inl (by rw[et];exact⟨h1,by obtain e|e:=ed<;>rw[e]<;>assumption⟩)
 held:=λn hn=> .inl (by
  obtain e|e:=ed<;>rw[e]at hn
  .exact hn
  .exact(hl.lf h).held n hn)
 box:=λn hn=> .inl (by rw[et];exact hn)
 OE:=λn hn=> .inl ⟨by rw[← et];exact hn,λe=>by cases e⟩
 mrk:=λm hm=> .inl (by rw[← et];exact hm)
 mks:=λm hm=> .inl (by
  obtain e|e:=ed<;>rw[e]
  .exact hm
  .exact(hl.lf h).mrk m hm)
 new:=λn hn=>by obtain e|e:=hn<;>cases e
 eat:=λn e=>by cases e
 lets:=λm e=>by cases e
def PK{k:AA}(h:Aj k=U)(hl:LO k):Mvd k k .non:=Qx h hl hl rfl (.inl rfl)
def avp{k:AA}(h:Aj k=U)(hl:LO k)(n:Int):Aj (faM k n)=U/\Mvd k (faM k n) .non:=by
 obtain⟨a0,a1,a2,a3,a4⟩:=axq h hl n;refine⟨a0,⟨a1,a4.id.symm,by rw[a4.ti];exact Ct _,.inl ⟨a4.nx.symm,λ_ e=>by cases e⟩,λn h1 h2=> .inl ⟨a4.held n h1,by rw[a2];exact a4.held n h1⟩,λn hn=> .inl (by rw[a2]at hn;exact a3.held n hn),λn hn=> .inl (by rw[← a4.box];exact hn),
  λn hn=> .inl ⟨by rw[a4.box];exact hn,λe=>(by cases e)⟩,λm hm=> .inl<|a4.mrk m hm,λm hm=> .inl (by rw[a2];exact a3.mrk m hm),λn hn=>(by obtain e|e:=hn<;>cases e),λn e=>(by cases e),λm e=>(by cases e)⟩⟩
def cD{k:AA}{a:Act}(h:Aj k=U)(hl:LO k){r:A4}(h2:(wrR k r U).2=U)(hf:∀o,BM (stT k) r=I o->KF (stT k) o a)(he:∀n,a= .eat n->∀o,BM (stT k) r=I o->∀m∈(stT k).marks,m∈o.marks):
  Aj (wrR k r U).1=U/\Mvd k (wrR k r U).1 a:=by
 obtain⟨a0,a1,a2,a3⟩:=awV h h2;exact⟨a0,auj h hl a1 a2 (hf _ a3) λn e=>he n e _ a3⟩
def awt{k:AA}{a:Act}(h:Aj k=U)(hl:LO k){r:A4}(hf:∀o,BM (stT k) r=I o->KF (stT k) o a)(he:∀n,a= .eat n->∀o,BM (stT k) r=I o->∀m∈(stT k).marks,m∈o.marks):
  ((wrR k r U).2=U/\Aj (wrR k r U).1=U/\Mvd k (wrR k r U).1 a)\/((wrR k r U).2=A3/\(wrR k r U).1=k):=by
 rcases tf (wrR k r U).2 with e|e
 .exact .inl ⟨e,cD h hl e hf he⟩
 .exact .inr ⟨e,RF e⟩
def aug{k:AA}(h:Aj k=U)(hl:LO k):Mvd k (Fl k).1 .non:=by
 unfold Fl;split
 .rcases awt h hl (r:=Fw<|(stT k).ti+1) (a:= .non) (λo ho=>awG (Bu h).kok ho) (λn e=>by cases e) with⟨_,_,m⟩|⟨_,e⟩
  .exact m
  .rw[e];exact PK h hl
 .exact PK h hl
def awu{k:AA}(h:Aj k=U)(hl:LO k){tt un:Int}{tx:A4}(h0:(Dz k tt un tx).2≠0):Mvd k (Dz k tt un tx).1 (.own ⟨k.id,(Dz k tt un tx).2,tt,un,tx⟩):=by
 unfold Dz at h0 ⊢;split at h0
 .rename_i hc;rw[AG]at hc;rw[A8 (by rw[AG];exact hc)];simp only at h0 ⊢;split at h0
  .rename_i h2;rw[A8 h2];exact(cD h hl h2 (λo ho=>ayx (Bu h).kok hc.2 ho) λn e=>by cases e).2
  .exact absurd rfl h0
 .exact absurd rfl h0
def auZ{k o:AH}{a b c:Int}(hk:Ay k=U)(h:BM k (Cc CQ a b c)=I o):∀m∈k.marks,m∈o.marks:=by
 have h2:=((IC hk).1 h).1;rw[IH aH4<|Qt CQ _ _ _]at h2;unfold Bd at h2;rw[AD<|by decide,AD<|by decide,A8<|by decide]at h2;split at h2
 .unfold F3 at h2;rw[show A1 (B [101,97,116]=C2)=A3 by decide,AS,A7,show A1 (B [101,97,116]=DD)=A3 by decide,AS,A7]at h2;split at h2
  .cases h2;exact λm hm=>hm
  .cases h2
 .cases h2
def aww{k:AA}(h:Aj k=U)(hl:LO k){fr nu:Int}(ok:(Dg k fr nu).2.2=U):Mvd k (Dg k fr nu).1 (.eat (Dg k fr nu).2.1):=by
 have hk:=Bu h;unfold Dg at ok ⊢;split at ok
 .rename_i hc;rw[A8 hc];simp only[AG,C1,decide_eq_false_iff_not]at hc;have h0:0<=Ab (stT k).inbox fr nu:=by have:=hc.2;omega
  obtain⟨_,_,j2,j3⟩:=FM h0;simp only at ok ⊢;rw[A8 ok];refine(cD h hl ok (λo ho=> ?_) λn _ o ho=>auZ hk.kok ho).2;refine ayb hk.kok ?_ ?_ ?_
  .rw[j2,j3]
  .rw[j2,j3];exact h0
  .rw[j2,j3];exact ho
 .cases ok
def aui{k:AA}(h:Aj k=U)(hl:LO k):Mvd k (Fm k).1 .non:=by
 unfold Fm;split
 .obtain⟨_,a1,a2,a3⟩:=axT h;exact Qx h hl a1 a3 (.inr a2)
 .exact PK h hl
def atH{k:AA}(h:Aj k=U)(hl:LO k):Mvd k (Dl k).1 .non:=by
 unfold Dl;split
 .obtain⟨_,a1,a2,a3⟩:=UJ h;exact Qx h hl a1 a3 (.inr a2)
 .exact PK h hl
def LO.ab{k:AA}(hl:LO k):LO (riM k):=hl
def auh{k:AA}(h:Aj k=U)(hl:LO k):Mvd k (riM k) .non:=Qx h hl hl.ab rfl (.inl rfl)
def awv{k:AA}(h:Aj k=U)(hl:LO k){a b c:Int}(ha:0<=a/\a<=999)(hb:0<=b/\b<=999)(hc:0<=c/\c<=999)(h2:(wrR k (Cc C2 a b c) A3).2=U):
  Mvd k (wrR k (Cc C2 a b c) A3).1 (.lets ⟨a,b,c⟩):=by
 obtain⟨a0,a1,a2,a3⟩:=aaQ h hl ⟨a,b,c,ha,hb,hc,rfl⟩ h2;have f:=aah (Bu h).kok ha hb hc a2;have lf:=hl.lf h;have sub:∀n∈(stD (wrR k (Cc C2 a b c) A3).1).held,n∈(stD k).held:=λn hn=>by
  obtain e|e:=a3<;>rw[e]at hn
  .exact hn
  .exact lf.held n hn
 refine⟨a0,f.id,f.ti,f.nx,λn h1 h2=> ?_,λn hn=> .inl<|sub n hn,f.box,f.OE,f.mrk,λm hm=> .inl ?_,λn hn=>(by obtain e|e:=hn<;>cases e),λn e=>(by cases e),f.lets⟩
 .rcases f.hold n h1 with h|h|h
  .refine .inl ⟨h, ?_⟩;obtain e|e:=a3<;>rw[e]<;>assumption
  .exact .inr (.inl h)
  .exact .inr (.inr h)
 .rcases a3 with e|e<;>rw[e]
  .exact hm
  .exact lf.mrk m hm
def Dif(a b:A6):Prop:=¬(a.fr=b.fr/\a.nu=b.nu)
def dsN(n:A6)(i:Int):Nat:=(n.to - i).natAbs
def onW(n:A6)(i:Int):Prop:=(n.fr<=i/\i<=n.to)\/(n.to<=i/\i<=n.fr)
noncomputable abbrev sT(w:AE)(i:Nat):AH:=stT<|kA w.AB i
noncomputable abbrev sD(w:AE)(i:Nat):AH:=stD<|kA w.AB i
def Ew(w:AE)(n:A6):Prop:=n∈w.got\/n∈(sT w n.to.toNat).inbox
def FA(w:AE)(n:A6):Prop:=∃i:Nat,i<4/\onW n i/\n.un<=(sT w i).ti
def JW(w:AE)(n:A6)(i:Nat):Prop:=i<4/\n∈(sT w i).held/\n∈(sD w i).held
def Bey(w:AE)(i:Int)(n:A6):Prop:=Ew w n\/FA w n\/ ∃j:Nat,JW w n j/\dsN n j<dsN n i
def HvF(w:AE)(f:Frame):Prop:=f.ki=2->∃n∈w.AQ,n.fr=f.fr/\n.nu=f.nu/\Bey w f.dst n
def HfG(se:List A6)(h:AJ):Prop:=∃n∈se,h.fr=n.fr/\h.nu=n.nu/\h.to=n.to/\h.un=n.un/\h.sz=n.tx.size/\Pw n.tx h.got
structure Inv (w:AE):Prop where
 lo:∀i,i<4->LO (kA w.AB i)
 hs:∀i,i<4->∀n∈(sD w i).held,n∈w.AQ
 bx:∀i,i<4->∀n∈(sT w i).inbox,n∈w.AQ/\ ∀g∈w.got,Dif g n
 nx:∀n∈w.AQ,n.nu<(sT w n.fr.toNat).nx
 sp:w.AQ.Pairwise Dif
 gp:w.got.Pairwise Dif
 gs:∀g∈w.got,g∈w.AQ/\(g.un<=(sT w g.to.toNat).ti\/ ∃m∈(sD w g.to.toNat).marks,m.mf=g.fr/\m.mn=g.nu/\m.mu=g.un)
 cu:∀n∈w.AQ,Ew w n\/FA w n\/ ∃j,JW w n j
 mrk:∀i,i<4->∀m∈(sT w i).marks,∃n∈w.AQ,m=⟨n.fr,n.nu,n.un⟩/\Bey w i n
 ra:∀p∈w.AT,PcI (λn=>n∈w.AQ) p
 hv:∀p∈w.AT,∀f,D2 (BF p.data)=(f,U)->HvF w f
 hf:∀i,i<4->∀h∈(kA w.AB i).AM,HfG w.AQ h
def Ix{l:List A6}(h:l.Pairwise Dif):∀ {a b:A6},a∈l->b∈l->a.fr=b.fr->a.nu=b.nu->a=b:=by
 intro a b ha hb h1 h2;obtain⟨i,hi,ei⟩:=Cy ha;obtain⟨j,hj,ej⟩:=Cy hb;rcases IX i j with c|c|c
 .have:=Jj.1 h i j hi hj c;rw[ei,ej]at this;exact absurd ⟨h1,h2⟩ this
 .subst c;rw[← ei,← ej]
 .have:=Jj.1 h j i hj hi c;rw[ei,ej]at this;exact absurd ⟨h1.symm,h2.symm⟩ this
def aJg{l:List A6}{n:A6}(h:l.Pairwise Dif)(hn:∀a∈l,Dif a n):(l++[n]).Pairwise Dif:=by
 rw[Nj];exact⟨h,pG _ _,λa ha b hb=>by rw[CA.1 hb];exact hn a ha⟩
def cE{l:List A6}{x:A6}(h:x∈l):∃i,i<l.length/\nA l i=x:=by
 obtain⟨i,hi,e⟩:=Cy h;exact⟨i,hi,by rw[nA,BC,Au hi];exact e⟩
def aIW{k:AH}(h:Ay k=U){n:A6}(hn:n∈k.held):k.ti<n.un/\onW n k.id/\n.to≠k.id:=by
 obtain⟨i,hi,e⟩:=cE hn;have:=(Bx h).ho i hi;unfold HP Ee at this;rw[e]at this;simp only[AG,Br,decide_eq_true_eq,Ad,C1,decide_eq_false_iff_not]at this;obtain⟨_,h1,⟨h2,h3⟩,_⟩:=this;unfold onW;exact⟨h1,J,λe=>h2 e.symm⟩
def bu{k:AH}(h:Ay k=U){n:A6}(hn:n∈k.inbox):n.to=k.id/\(n.un<=k.ti\/ ∃m∈k.marks,m.mf=n.fr/\m.mn=n.nu):=by
 obtain⟨i,hi,e⟩:=cE hn;have:=(Bx h).io i hi;unfold It at this;rw[e]at this;simp only[AG,Br,decide_eq_true_eq,C1,decide_eq_false_iff_not]at this;obtain⟨h1,_,h2⟩:=this;refine⟨h1, ?_⟩;obtain h2|h2:=h2
 .exact .inl J
 .obtain⟨j0,_,j2,j3⟩:=bf h2;refine .inr ⟨mA k.marks (Bt k.marks n.fr n.nu).toNat, ?_,j2,j3⟩;rw[mA,BC,Au j0];exact CV j0
def Gz{w:AE}(ok:B7 w){i:Nat}(hi:i<4):(sT w i).id=(i:Int):=(Bu (ok.k i hi).1).id.trans (ok.k i hi).2
def FN{w:AE}(ok:B7 w){i:Nat}(hi:i<4):Ay (sT w i)=U:=(Bu (ok.k i hi).1).kok
def Qv{n:A6}(h:B1 n=U):(0<=n.fr/\n.fr<=3)/\(0<=n.to/\n.to<=3):=by
 unfold B1 at h;simp only[AG]at h;exact⟨Ad.1 h.1,Ad.1 h.2.1⟩
def awQ{w w':AE}{i:Nat}{a:Act}{k':AA}(ok:B7 w)(hi:i<4)(m:Mvd (kA w.AB i) k' a)(ek:w'.AB=w.AB.set i k')
  (eg:∀n,n∈w.got\/a= .eat n->n∈w'.got){n:A6}(nok:B1 n=U)(lets:a= .lets ⟨n.fr,n.nu,n.un⟩->Bey w i n){d:Nat}
  (h:Ew w n\/FA w n\/ ∃j:Nat,JW w n j/\dsN n j<d):Ew w' n\/FA w' n\/ ∃j:Nat,JW w' n j/\dsN n j<d:=by
 have kl:=ok.kl;have kA':∀j,kA w'.AB j=if j=i then k' else kA w.AB j:=λj=>by rw[ek,FO J]
 have up:∀j:Nat,(sT w j).ti<=(sT w' j).ti:=λj=>by
  unfold sT;rw[kA' j];split
  .rename_i e;rw[e];exact m.ti
  .exact Ct _
 have cam:Ew w n->Ew w' n:=λh=>by
  obtain h|h:=h
  .exact .inl (eg n<|.inl h)
  .by_cases e:n.to.toNat=i
   .rw[e]at h;rcases m.box n h with h1|h1
    .right;unfold sT;rw[kA' n.to.toNat,A8 e];exact h1
    .exact .inl (eg n<|.inr h1)
   .right;unfold sT;rw[kA' n.to.toNat,AD e];exact h
 have ove:FA w n->FA w' n:=fun⟨j,h1,h2,h3⟩=>⟨j,h1,h2,J7 h3<|up j⟩;have oth:∀j:Nat,j≠i->JW w n j->JW w' n j:=λj hj h=>by
  unfold JW sT sD;rw[kA' j,AD hj];exact h
 obtain h|h|⟨j,h,hd⟩:=h
 .exact .inl (cam h)
 .exact .inr (.inl<|ove h)
 .by_cases e:j=i
  .subst e;obtain⟨_,h1,h2⟩:=h;rcases m.hold n h1 h2 with c|c|c
   .exact .inr (.inr ⟨j,by unfold JW sT sD;rw[kA' j,A8 rfl];exact⟨hi,c⟩,hd⟩)
   .have hw:=(aIW (FN ok hi) h1).2.1;rw[Gz ok hi]at hw;exact .inr (.inl ⟨j,hi,hw,by unfold sT;rw[kA' j,A8 rfl];exact c⟩)
   .rcases lets c with h|h|⟨x,hx,hx2⟩
    .exact .inl (cam h)
    .exact .inr (.inl<|ove h)
    .exact .inr (.inr ⟨x,oth x (λe=>by subst e;omega) hx,J⟩)
  .exact .inr<|.inr ⟨j,oth j e h,hd⟩
def HvF.up{w w':AE}{f:Frame}(hs:∀n∈w.AQ,n∈w'.AQ)(hb:∀n∈w.AQ,∀i,Bey w i n->Bey w' i n)(h:HvF w f):HvF w' f:=λe=>by
 obtain⟨n,h1,h2,h3,h4⟩:=h e;exact⟨n,hs n h1,h2,h3,hb n h1 _ h4⟩
def HfG.up{se se':List A6}{h:AJ}(hs:∀n∈se,n∈se')(g:HfG se h):HfG se' h:=by
 obtain⟨n,h1,h2⟩:=g;exact⟨n,hs n h1,h2⟩
def RaN(w w':AE)(p:AO):Prop:=p∈w.AT\/(PcI (λn=>n∈w'.AQ) p/\ ∀f,D2 (BF p.data)=(f,U)->HvF w' f)
structure OH (w w':AE) (i:Nat) (k':AA) (a:Act):Prop where
 hi:i<4
 m:Mvd (kA w.AB i) k' a
 ek:w'.AB=w.AB.set i k'
 se:(w'.AQ=w.AQ/\ ∀n,a≠ .own n)\/ ∃n,a= .own n/\w'.AQ=w.AQ++[n]/\B1 n=U
 go:(w'.got=w.got/\ ∀n,a≠ .eat n)\/ ∃n,a= .eat n/\w'.got=w.got++[n]
 tk:∀n,a= .take n->n∈w.AQ
 lt:∀m,a= .lets m->∃n∈w.AQ,n.fr=m.mf/\n.nu=m.mn/\Bey w i n
 ra:∀p∈w'.AT,RaN w w' p
 hf:∀h∈k'.AM,HfG w'.AQ h
def OH.bey{w w':AE}{i:Nat}{k':AA}{a:Act}(s:OH w w' i k' a)(v:Inv w)(ok:B7 w){n:A6}(hn:n∈w.AQ){d:Nat}
  (h:Ew w n\/FA w n\/ ∃j:Nat,JW w n j/\dsN n j<d):Ew w' n\/FA w' n\/ ∃j:Nat,JW w' n j/\dsN n j<d:=by
 refine awQ ok s.hi s.m s.ek (λx hx=> ?_) (ok.s n hn) (λe=> ?_) h
 .rcases s.go with⟨e,h1⟩|⟨y,e1,e2⟩
  .rw[e];obtain hx|hx:=hx
   .exact hx
   .exact absurd hx (h1 x)
  .rw[e2,BN,CA];obtain hx|hx:=hx
   .exact .inl hx
   .rw[e1]at hx;cases hx;exact .inr rfl
 .obtain⟨x,h1,h2,h3,h4⟩:=s.lt _ e;have:=Ix v.sp h1 hn h2 h3;rw[← this];exact h4
def Inv.step{w w':AE}{i:Nat}{k':AA}{a:Act}(v:Inv w)(ok:B7 w)(s:OH w w' i k' a):Inv w':=by
 have kl:=ok.kl;have hi:=s.hi;have m:=s.m;have kA':∀j,kA w'.AB j=if j=i then k' else kA w.AB j:=λj=>by rw[s.ek,FO J]
 have eT:sT w' i=stT k':=by unfold sT;rw[kA' i,A8 rfl]
 have eD:sD w' i=stD k':=by unfold sD;rw[kA' i,A8 rfl]
 have oT:∀j,j≠i->sT w' j=sT w j:=λj hj=>by unfold sT;rw[kA' j,AD hj]
 have oD:∀j,j≠i->sD w' j=sD w j:=λj hj=>by unfold sD;rw[kA' j,AD hj]
 have id':(stT<|kA w.AB i).id=(i:Int):=Gz ok hi;have ses:∀n∈w.AQ,n∈w'.AQ:=λn hn=>by
  obtain⟨e,_⟩|⟨x,_,e,_⟩:=s.se<;>rw[e]
  .exact hn
  .exact By _ hn
 have sen:∀n,n∈w'.AQ->n∈w.AQ\/a= .own n:=λn hn=>by
  obtain⟨e,_⟩|⟨x,e1,e,_⟩:=s.se<;>rw[e]at hn
  .exact .inl hn
  .rcases BN.1 hn with hn|hn
   .exact .inl hn
   .rw[CA.1 hn];exact .inr e1
 have amc:∀n,a= .own n->n∈w'.AQ:=λn hn=>by
  obtain⟨_,e⟩|⟨x,e1,e,_⟩:=s.se
  .exact absurd hn (e n)
  .rw[e1]at hn;cases hn;rw[e];exact CU _<|Ml _
 have af:∀n,a.new n->n∈w'.AQ:=λn hn=>by
  obtain hn|hn:=hn
  .exact amc n hn
  .exact ses n<|s.tk n hn
 have gos:∀n∈w.got,n∈w'.got:=λn hn=>by
  obtain⟨e,_⟩|⟨x,_,e⟩:=s.go<;>rw[e]
  .exact hn
  .exact By _ hn
 have aEw:∀n,a= .own n->n.fr=(i:Int)/\n.nu=(sT w i).nx/\(stT k').nx=(sT w i).nx+1:=λn hn=>by
  obtain⟨_,h⟩|⟨x,h1,h2,h3,h4⟩:=m.nx
  .exact absurd hn (h n)
  .rw[h1]at hn;cases hn;exact⟨h3.trans id',h2,h4⟩
 have nxu:∀j,(sT w j).nx<=(sT w' j).nx:=λj=>by
  by_cases e:j=i
  .subst e;rw[eT];obtain⟨h,_⟩|⟨_,_,_,_,h⟩:=m.nx<;>unfold sT<;>omega
  .rw[oT j e];exact Ct _
 have tiu:∀j,(sT w j).ti<=(sT w' j).ti:=λj=>by
  by_cases e:j=i
  .subst e;rw[eT];exact m.ti
  .rw[oT j e];exact Ct _
 have b0:∀n∈w.AQ,∀j,Bey w j n->Bey w' j n:=λn hn j h=>s.bey v ok hn h;have ame:∀n,a= .own n->∀x∈w.AQ,Dif x n:=λn hn x hx c=>by
  obtain⟨h1,h2,_⟩:=aEw n hn;have:=v.nx x hx;rw[c.1,h1,BZ]at this;have:=c.2;omega
 have sp':w'.AQ.Pairwise Dif:=by
  obtain⟨e,_⟩|⟨x,e1,e,_⟩:=s.se<;>rw[e]
  .exact v.sp
  .exact aJg v.sp<|ame x e1
 have amk:∀n,a.new n->n.to=(i:Int)->∀g∈w.got,Dif g n:=λn hn ht g hg c=>by
  obtain⟨g1,g2⟩:=v.gs g hg;have e:g=n:=Ix sp' (ses g g1) (af n hn) c.1 c.2;obtain⟨h1,h2,_⟩:=m.new n hn;subst e;rw[ht,BZ]at g2;obtain g2|⟨y,y1,y2,y3,_⟩:=g2
  .unfold sT at g2;omega
  .exact h2 y (((v.lo i hi).lf (ok.k i hi).1).mrk y y1) ⟨y2,y3⟩
 have aEz:∀n,a.new n->Ew w' n\/FA w' n\/ ∃j:Nat,JW w' n j/\(n.to≠(i:Int)/\j=i):=λn hn=>by
  obtain⟨_,_,h⟩:=m.new n hn;rw[id']at h;split at h
  .rename_i ht;refine .inl<|.inr ?_;rw[ht,BZ,eT];exact h
  .rename_i ht;exact .inr<|.inr ⟨i,by unfold JW;rw[eT,eD];exact⟨hi,h⟩,ht,rfl⟩
 have azs:∀n∈w'.AQ,B1 n=U:=λn hn=>by
  obtain⟨e,_⟩|⟨x,_,e,h⟩:=s.se<;>rw[e]at hn
  .exact ok.s n hn
  .rcases BN.1 hn with hn|hn
   .exact ok.s n hn
   .rw[CA.1 hn];exact h
 refine⟨λj hj=> ?_,λj hj n hn=> ?_,λj hj n hn=> ?_,λn hn=> ?_,sp', ?_,λg hg=> ?_,λn hn=> ?_,λj hj y hy=> ?_,λp hp=> ?_,λp hp f hu=> ?_,λj hj h hh=> ?_⟩
 .rw[kA' j];split
  .exact m.lo
  .exact v.lo j hj
 .by_cases e:j=i
  .subst e;rw[eD]at hn;rcases m.held n hn with h|h
   .exact ses n (v.hs j hj n h)
   .exact af n h
  .rw[oD j e]at hn;exact ses n (v.hs j hj n hn)
 .by_cases e:j=i
  .subst e;rw[eT]at hn;rcases m.OE n hn with⟨h,ne⟩|⟨h,ht⟩
   .obtain⟨h1,h2⟩:=v.bx j hj n h;refine⟨ses n h1,λg hg=> ?_⟩;obtain⟨e,_⟩|⟨x,e1,e⟩:=s.go<;>rw[e]at hg
    .exact h2 g hg
    .rcases BN.1 hg with hg|hg
     .exact h2 g hg
     .rw[CA.1 hg];intro c;have:=Ix v.sp ((v.bx j hj x (m.eat x e1).1).1) h1 c.1 c.2;rw[this]at e1;exact ne e1
   .rw[id']at ht;refine⟨af n h,λg hg=> ?_⟩;obtain⟨e,_⟩|⟨x,e1,e⟩:=s.go
    .rw[e]at hg;exact amk n h ht g hg
    .rcases h with h|h<;>rw[h]at e1<;>cases e1
  .rw[oT j e]at hn;obtain⟨h1,h2⟩:=v.bx j hj n hn;refine⟨ses n h1,λg hg=> ?_⟩;obtain⟨e,_⟩|⟨x,e1,e2⟩:=s.go
   .rw[e]at hg;exact h2 g hg
   .rw[e2]at hg;rcases BN.1 hg with hg|hg
    .exact h2 g hg
    .rw[CA.1 hg];intro c;have hx:=(m.eat x e1).1;have:=Ix v.sp ((v.bx i hi x hx).1) h1 c.1 c.2;subst this;have a1:=(bu (FN ok hi) hx).1;have a2:=(bu (FN ok hj) hn).1;rw[Gz ok hi]at a1;rw[Gz ok hj]at a2;omega
 .rcases sen n hn with h|h
  .exact Int.lt_of_lt_of_le (v.nx n h) (nxu _)
  .obtain⟨h1,h2,h3⟩:=aEw n h;rw[h1,BZ,eT];omega
 .rcases s.go with⟨e,_⟩|⟨x,e1,e⟩<;>rw[e]
  .exact v.gp
  .exact aJg v.gp (λg hg=>(v.bx i hi x (m.eat x e1).1).2 g hg)
 .have old:g∈w.got->g∈w'.AQ/\(g.un<=(sT w' g.to.toNat).ti\/ ∃m∈(sD w' g.to.toNat).marks,m.mf=g.fr/\m.mn=g.nu/\m.mu=g.un):=λhg=>by
   obtain⟨h1,h2⟩:=v.gs g hg;refine⟨ses g h1, ?_⟩;obtain h2|⟨y,y1,y2,y3,y4⟩:=h2
   .exact .inl (J7 h2<|tiu _)
   .by_cases e:g.to.toNat=i
    .rw[e]at y1 ⊢;rw[eT,eD];rcases m.mks y y1 with c|c
     .exact .inr ⟨y,c,y2,y3,y4⟩
     .exact .inl J
    .rw[oD _ e];exact .inr ⟨y,y1,y2,y3,y4⟩
  obtain⟨e,_⟩|⟨x,e1,e⟩:=s.go<;>rw[e]at hg
  .exact old hg
  .rcases BN.1 hg with hg|hg
   .exact old hg
   .rw[CA.1 hg];obtain⟨hx,hm⟩:=m.eat x e1;obtain⟨b1,b2⟩:=bu (FN ok hi) hx;rw[Gz ok hi]at b1;refine⟨ses x (v.bx i hi x hx).1, ?_⟩;rw[b1,BZ,eT,eD];obtain b2|⟨y,y1,y2,y3⟩:=b2
    .exact .inl (J7 b2 m.ti)
    .obtain⟨z,z1,z2,_⟩:=v.mrk i hi y y1;have:z=x:=Ix v.sp z1 (v.bx i hi x hx).1 (by rw[← y2,z2]) (by rw[← y3,z2]);exact .inr ⟨y,hm y y1,y2,y3,by rw[z2,this]⟩
 .rcases sen n hn with h|h
  .rcases v.cu n h with c|c|⟨j,c⟩
   .rcases s.bey v ok h (d:=0) (.inl c) with c|c|⟨j,c,_⟩
    .exact .inl c
    .exact .inr (.inl c)
    .exact .inr (.inr ⟨j,c⟩)
   .rcases s.bey v ok h (d:=0) (.inr<|.inl c) with c|c|⟨j,c,_⟩
    .exact .inl c
    .exact .inr (.inl c)
    .exact .inr (.inr ⟨j,c⟩)
   .rcases s.bey v ok h (.inr<|.inr ⟨j,c,Pf _⟩) with c|c|⟨j,c,_⟩
    .exact .inl c
    .exact .inr (.inl c)
    .exact .inr (.inr ⟨j,c⟩)
  .rcases aEz n (.inl h) with c|c|⟨j,c,_⟩
   .exact .inl c
   .exact .inr (.inl c)
   .exact .inr (.inr ⟨j,c⟩)
 .have old:∀j,j<4->y∈(sT w j).marks->∃n∈w'.AQ,y=⟨n.fr,n.nu,n.un⟩/\Bey w' j n:=λj hj hy=>by
   obtain⟨n,h1,h2,h3⟩:=v.mrk j hj y hy;exact⟨n,ses n h1,h2,b0 n h1 _ h3⟩
  by_cases e:j=i
  .subst e;rw[eT]at hy;rcases m.mrk y hy with h|h|⟨n,h,ht,rfl⟩
   .exact old j hj h
   .obtain⟨n,h1,h2,h3,h4⟩:=s.lt y h;obtain⟨x,x1,x2⟩:=m.lets y h;have:x=n:=Ix v.sp (v.hs j hj x<|((v.lo j hj).lf (ok.k j hj).1).held x x1) h1 (by rw[h2,x2]) (by rw[h3,x2]);subst this;exact⟨x,ses x h1,x2,b0 x h1 _ h4⟩
   .refine⟨n,af n h,rfl, ?_⟩;rw[id']at ht;rcases aEz n h with c|c|⟨_,_,c,_⟩
    .exact .inl c
    .exact .inr (.inl c)
    .exact absurd ht c
  .rw[oT j e]at hy;exact old j hj hy
 .rcases s.ra p hp with h|h
  .exact(v.ra p h).mono ses
  .exact h.1
 .rcases s.ra p hp with h|h
  .exact(v.hv p h f hu).up ses b0
  .exact h.2 f hu
 .rw[kA' j]at hh;split at hh
  .exact s.hf h hh
  .exact(v.hf j hj h hh).up ses
end Go.VS
end
