/- Part 20. -/
import Derived.Test.YtplahhbealfpcaaGreatDoorQAS
open BitVec renaming eq_of_toNat_eq->lQ,ofInt->F1,toNat_ofInt->QY
open Bool renaming and_eq_true->AE,and_false->Bc,and_self->Du,and_true->M6,eq_iff_iff->M5,false->A3,false_and->AO,false_ne_true->Cg,false_or->Bi,not_eq_true'->CL,not_eq_true->GD,not_false->AI,not_true->AB,or_eq_false_iff->NC,or_eq_true->CB,or_false->EK,or_self->FU,or_true->Cv,true->A0,true_and->AW,true_or->Bo
open ByteArray renaming size_extract->aBT
open Decidable renaming decide->A1
open Eq renaming trans->Jw
open Go.Lib renaming itoa->B6
open Int renaming eq_ofNat_of_zero_le->Gy,le_refl->E7,le_trans->P7,mul_comm->Qe,mul_le_mul_of_nonneg_right->ku,mul_nonneg->Qf,not_lt->NM,tdiv->Ax,tdiv_eq_ediv_of_nonneg->Fv,tdiv_nonneg->ky,tmod->BG,tmod_eq_emod_of_nonneg->Kr,tmod_lt_of_pos->Qc,tmod_nonneg->QZ,toNat->AL,toNat_natCast->Bb,toNat_of_nonneg->NI
open List renaming all_cons->Ox,all_eq_true->C0,append_assoc->Bw,append_nil->CM,drop->Bm,drop_append_of_le_length->l6,drop_drop->Jx,drop_sublist->Yi,drop_zero->Ib,eq_nil_of_length_eq_zero->E6,ext_getElem?->lC,filter_append->Yd,filter_cons->Kq,foldl_cons->EL,getD_eq_getElem?_getD->B9,getElem?_append_right->FG,getElem?_eq_getElem->Av,getElem?_eq_none->HV,getElem?_map->D2,getElem?_range->GY,getElem?_replicate->Yh,getElem?_set->NB,getElem?_set_self->Yj,getElem?_take->GZ,getElem_mem->CJ,getElem_of_mem->DG,length_append->Ar,length_cons->Bt,length_drop->E4,length_filter_le->Ic,length_map->E5,length_nil->CA,length_set->GA,length_singleton->JK,length_take->Cw,map_append->Es,map_congr_left->GS,map_cons->DP,map_id->Yo,map_map->I7,map_nil->JM,mem_append->BM,mem_append_left->Bq,mem_append_right->CK,mem_cons->Bj,mem_cons_of_mem->Am,mem_cons_self->Ap,mem_filter->FF,mem_iff_getElem->l5,mem_map->DE,mem_of_getElem?->Cb,mem_of_mem_drop->Kl,mem_of_mem_take->Gx,mem_or_eq_of_mem_set->TN,mem_range->DD,mem_singleton->C9,mem_singleton_self->N9,nil_append->EM,nodup_append->Kw,pairwise_append->NH,pairwise_iff_getElem->Ou,range->BJ,range_succ->Ku,replicate->BT,set->Bn,take->BH,take_add_one->JI,take_append_drop->JH,take_length->Dw,take_of_length_le->Ie,take_take->Yp
open List.Sublist renaming refl->Er
open List.cons renaming injEq->M3
open Nat renaming add_zero->HP,le_refl->As,le_trans->Ca,lt_or_gt_of_ne->Ta,lt_succ_self->P0,lt_trans->Ym,lt_trichotomy->Jv,min_eq_left->Qh,not_lt_zero->kv,sub_zero->JN,zero_add->DF,zero_le->Cu
open Option renaming bind_eq_some_iff->Aj,bind_some->A9,filter_eq_some_iff->Ow,getD_some->DO,isSome_some->DY,map_some->QT,none->U,some->I
open Option.some renaming inj->C8
open Or renaming inl->NQ,inr->NP
open Prod.mk renaming injEq->CG
set_option linter.all false
noncomputable section
namespace Go.VS
open Go
def Ft:List A4->A4->Option A4
 | [],a=>I a
 | x::r,a=>if x=noB then U else Ft r (a++x)
def XD:∀ {l:List A4} {a c:A4},(∀x∈l,x=noB\/x.size=4)->Ft l a=I c->c.size=a.size+4 * l.length
 | [],a,c,_,h=>by
  injection h with h;rw[h];rfl
 | x::r,a,c,hx,h=>by
  unfold Ft at h;split at h
  .cases h
  .rename_i hne;rw[XD (λy hy=>hx y<|Am x hy) h,Bu,Bt];rcases hx x Ap with h1|h1
   .exact absurd h1 hne
   .omega
def N5(pre:List A4)(x:A4)(post:List A4): @rd A4 (dfl .str) (pre++x::post) (pre.length:Int)=x:=by
 rw[Oh,B9,FG<|As _];simp
abbrev Zd(s:Int)(o:Option A4):(A4×Bool×A2) ⊕ (Int×A4×A2):=match o with|none=> .inl (noB,A3,())|some c=> .inr (s,c,())
def au1(s:Int)(post:List A4):∀(pre:List A4) (a:A4),(pre++post).length<=1048576->(∀x∈post,x.size<=4)->a.size<=4 * pre.length->
  bO (s,a,pre++post,((pre++post).length:Int),(pre.length:Int),())=I (Zd s<|Ft post a):=by
 induction post with
 | nil=>
  intro pre a _ _ _;refine BP ?_;unfold VT;simp only[CM,show A1 ((pre.length:Int)<(pre.length:Int))=A3 from BR J,A7];rfl
 | cons x post ih=>
  intro pre a hl hx ha;have hlen:pre.length<(pre++x::post).length:=by simp
  have hw:=DZ hlen hl;have hx4:=hx x Ap;by_cases e:x=noB
  .refine BP ?_;unfold VT Ft;simp only[show A1 ((pre.length:Int)<((pre++x::post).length:Int))=A0 from Aa J,A5,AP hlen,N5];rw[A8<|Aa e,A8 e]
  .refine B0 (x':=(s,a++x,pre++x::post,((pre++x::post).length:Int),((pre++[x]).length:Int),())) ?_ ?_
   .unfold VT;simp only[show A1 ((pre.length:Int)<((pre++x::post).length:Int))=A0 from Aa J,A5,AP hlen,N5];rw[AD (by rw[BR e];exact Cg),A8<|Aa (by simp at hl;omega),hw,@Ar _ pre [x]];rfl
   .have:=ih (pre++[x]) (a++x) (by rw[← snoc];exact hl) (λy hy=>hx y<|Am x hy) (by rw[Bu,Ar,JK];omega);rw[← snoc]at this;rw[show Ft (x::post) a=Ft post (a++x) from AD e];exact this
def atH(s:Int)(post:List A4):∀(pre:List A4) (a:A4),(pre++post).length<=1048576->(∀x∈post,x.size<=4)->a.size<=4 * pre.length->
  bD (s,pre++post,a,(pre.length:Int),())=I (Zd s<|Ft post a):=by
 induction post with
 | nil=>
  intro pre a _ _ _;refine BP ?_;unfold VI;simp only[CM,show A1 ((pre.length:Int)<(pre.length:Int))=A3 from BR J,A7];rfl
 | cons x post ih=>
  intro pre a hl hx ha;have hlen:pre.length<(pre++x::post).length:=by simp
  have hw:=DZ hlen hl;have hx4:=hx x Ap;by_cases e:x=noB
  .refine BP ?_;unfold VI Ft;simp only[show A1 ((pre.length:Int)<((pre++x::post).length:Int))=A0 from Aa J,A5,AP hlen,N5];rw[A8<|Aa e,A8 e]
  .refine B0 (x':=(s,pre++x::post,a++x,((pre++[x]).length:Int),())) ?_ ?_
   .unfold VI;simp only[show A1 ((pre.length:Int)<((pre++x::post).length:Int))=A0 from Aa J,A5,AP hlen,N5];rw[AD (by rw[BR e];exact Cg),A8<|Aa (by simp at hl;omega),hw,@Ar _ pre [x]];rfl
   .have:=ih (pre++[x]) (a++x) (by rw[← snoc];exact hl) (λy hy=>hx y<|Am x hy) (by rw[Bu,Ar,JK];omega);rw[← snoc]at this;rw[show Ft (x::post) a=Ft post (a++x) from AD e];exact this
def N3(c:A4)(s:Nat):Bool:=At (c.size - s) λi=>A1<|bt c ((s+i:Nat):Int)=0
def ass{c:A4}{s:Nat}(h:s<=c.size)(hc:c.size<=1048576):q9 ((s:Int),c,(s:Int),())=I (if N3 c s then .inr ((s:Int),c,()) else .inl (noB,A3,())):=by
 refine Cm (λi=>((s:Int),c,((s+i:Nat):Int),())) (c.size - s) _ _ _ ?_ ?_
 .intro i hi;unfold dM;simp only[show A1 (((s+i:Nat):Int)<(c.size:Int))=A0 from Aa J,A5,AP<|show s+i<c.size by omega];rw[AZ J J];rcases tf (A1<|bt c ((s+i:Nat):Int)=0) with e|e
  .simp only[e,AB,A7,A5];rfl
  .simp only[e,AI,A7,A5]
 .unfold dM;simp only[show A1 (((s+(c.size - s):Nat):Int)<(c.size:Int))=A3 from BR J,A7]
def arO{c:A4}{s:Nat}(h:s<=c.size)(hc:c.size<=1048576):qM ((s:Int),c,(s:Int),())=I (if N3 c s then .inr ((s:Int),c,()) else .inl (noB,A3,())):=by
 refine Cm (λi=>((s:Int),c,((s+i:Nat):Int),())) (c.size - s) _ _ _ ?_ ?_
 .intro i hi;unfold dA;simp only[show A1 (((s+i:Nat):Int)<(c.size:Int))=A0 from Aa J,A5,AP<|show s+i<c.size by omega];rw[AZ J J];rcases tf (A1<|bt c ((s+i:Nat):Int)=0) with e|e
  .simp only[e,AB,A7,A5];rfl
  .simp only[e,AI,A7,A5]
 .unfold dA;simp only[show A1 (((s+(c.size - s):Nat):Int)<(c.size:Int))=A3 from BR J,A7]
def ka{b:Nat}(list:List AT):∀(n:Nat) (kn:List A4),D8 b kn->D8 b (J4 b list n kn)
 | 0,_,h=>h
 | n+1,kn,h=>by
  have:=(SG list (kn,A3) h).1;unfold J4;split
  .exact ka list n _ this
  .exact this
def D8.all{b:Nat}{kn:List A4}(h:D8 b kn):∀x∈kn,x=noB\/x.size=4:=by
 intro x hx;obtain⟨k,hk,rfl⟩:=l5.1 hx;have:=h.2 k (by rw[← h.1];exact hk);rw[bsA,B9,Av hk]at this;exact this
def kL{b:Int}(hb:inB b 1 6=A0)(list:List AT):D8 b.toNat (HL b list):=by
 unfold HL;rw[A8 hb];exact ka list 7 _<|D8.new _
def D8.le{b:Nat}{kn:List A4}(h:D8 b kn):∀x∈kn,x.size<=4:=by
 intro x hx;rcases h.all x hx with h1|h1
 .rw[h1];exact Cu _
 .omega
def Fm(s:Int)(list:List AT):A4×Bool:=
 if inB s 1 24 then(match Ft (HL (Ax (s+3) 4) list) noB with
  | none=>(noB,A3)
  | some c=>if N3 c s.toNat then(c.extract 0 s.toNat,A0) else(noB,A3)) else(noB,A3)
def aAd(s:Int)(hs:0<=s)(c:A4)(hc:s<=c.size)(b:Bool):
  AM (I<|if b then(.inr (s,c,()):(A4×Bool×A2) ⊕ (Int×A4×A2)) else .inl (noB,A3,())) (λy=>I (y,()))
   (λy=>if(A1 (0<=y.1)&&A1 (y.1<=(y.2.1.size:Int))) then I ((y.2.1.extract 0<|AL y.1,A0,()),()) else U)=
   I (((if b then(c.extract 0 s.toNat,A0) else(noB,A3)).1,(if b then(c.extract 0 s.toNat,A0) else(noB,A3)).2,()),()):=by
 cases b
 .rfl
 .show(if(A1 (0<=s)&&A1 (s<=(c.size:Int))) then _ else _)=_;rw[A8 (by simp;omega)];rfl
def amg(s:Int)(list:List AT)(hl:list.length<=1048576):eL (s,list,())=I (((Fm s list).1,(Fm s list).2,()),()):=by
 unfold eL Fm;simp only[ED,A9];rcases tf (inB s 1 24) with e|e
 .have h1:=Af.1 e;have hd:Ax (s+3) 4=(s+3) / 4:=Fv J;simp only[e,AB,A7,A5];rw[AZ (n:=s+4) J J,AZ (n:=s+4 - 1) J J,show s+4 - 1=s+3 by omega,AZ J J,amh _ _ hl];simp only[A9];have hb:inB (Ax (s+3) 4) 1 6=A0:=Af.2 J;have hk:=kL hb list;have oN:=au1 s (HL (Ax (s+3) 4) list) [] noB (by rw[EM,hk.1];omega) (D8.le hk)<|As _;have nZ:bO (s,noB,HL (Ax (s+3) 4) list,((HL (Ax (s+3) 4) list).length:Int),0,())=_:=oN;rw[nZ];cases hc:Ft (HL (Ax (s+3) 4) list) noB with
  | none=>rfl
  | some c=>
   have hz:=XD hk.all hc;have hz0:noB.size=0:=rfl;rw[hk.1,hz0]at hz;have hzero:=ass (c:=c) (s:=s.toNat) J J;rw[show((s.toNat:Nat):Int)=s by omega]at hzero;simp only[AM,A9,Zd];rw[hzero];exact aAd s J c J _
 .simp only[e,AI,A5,A7]
def alm(s:Int)(list:List AT)(hl:list.length<=1048576):dx (s,list,())=I (((Fm s list).1,(Fm s list).2,()),()):=by
 unfold dx Fm;simp only[Hl,A9];rcases tf (inB s 1 24) with e|e
 .have h1:=Af.1 e;have hd:Ax (s+3) 4=(s+3) / 4:=Fv J;simp only[e,AB,A7,A5,dS (n:=s) J J,A9];rw[aln _ _ hl];simp only[A9];have hb:inB (Ax (s+3) 4) 1 6=A0:=Af.2 J;have hk:=kL hb list;have oN:=atH s (HL (Ax (s+3) 4) list) [] noB (by rw[EM,hk.1];omega) (D8.le hk)<|As _;have nZ:bD (s,HL (Ax (s+3) 4) list,noB,0,())=_:=oN;rw[nZ];cases hc:Ft (HL (Ax (s+3) 4) list) noB with
  | none=>rfl
  | some c=>
   have hz:=XD hk.all hc;have hz0:noB.size=0:=rfl;rw[hk.1,hz0]at hz;have hzero:=arO (c:=c) (s:=s.toNat) J J;rw[show((s.toNat:Nat):Int)=s by omega]at hzero;simp only[AM,A9,Zd];rw[hzero];exact aAd s J c J _
 .simp only[e,AI,A5,A7]
abbrev tF(f:Frame):Int×Int×Int×Int×Int×Int×Int×Int×Int×A4×A2:=(f.ki,f.src,f.dst,f.fr,f.nu,f.to,f.un,f.sz,f.mix,f.da,())
def Kd(f:Frame):Bool:=
 if A1 (f.ki=1) then inB f.sz 1 24&&(inB f.mix 0 999&&(A1 ((f.da.size:Int)=4)&&A1 (f.dst=Co f.src f.to)))
 else(A1 (f.ki=2)||decide (f.ki=3))&&(A1 (f.sz=0)&&(A1 (f.mix=0)&&(A1 (f.da=noB)&&A1 (f.src=Co f.dst f.to))))
def Cj(f:Frame):Bool:=isN f.src&&(isN f.dst&&(isN f.fr&&(isN f.to&&(inB f.nu 1 99&&(inB f.un 1 999&&Kd f)))))
def yK(f:Frame):Vh (tF f,())=I ((Cj f,()),()):=by
 obtain⟨ki,src,dst,fr,nu,t',un,sz,mix,da⟩:=f;unfold Vh Cj;simp only[Jb,ED,A9];rcases tf (isN src) with e|e<;>simp only[e,AB,AI,A5,A7,AW,AO];rcases tf (isN dst) with e|e<;>simp only[e,AB,AI,A5,A7,AW,AO];rcases tf (isN fr) with e|e<;>simp only[e,AB,AI,A5,A7,AW,AO];rcases tf (isN t') with e|e<;>simp only[e,AB,AI,A5,A7,AW,AO];rcases tf (inB nu 1 99) with e|e<;>simp only[e,AB,AI,A5,A7,AW,AO];rcases tf (inB un 1 999) with e|e<;>simp only[e,AB,AI,A5,A7,AW,AO];unfold Kd;simp only[sA,DY,DO,GK,A5];rcases tfp (ki=1) with e|e<;>simp only[e,AU,Ae,A5,A7]
 .rcases tf (inB sz 1 24) with e|e<;>simp only[e,A5,A7,AW,AO];rcases tf (inB mix 0 999) with e|e<;>simp only[e,A5,A7,AW,AO]
 .rcases tfp (ki=2) with e|e<;>simp only[e,AU,Ae,A5,A7,Be,Bo,Bi,AW]
  .rcases tfp (sz=0) with e|e<;>simp only[e,AU,Ae,A5,A7,AW,AO];rcases tfp (mix=0) with e|e<;>simp only[e,AU,Ae,A5,A7,AW,AO]
  .rcases tfp (ki=3) with e|e<;>simp only[e,AU,Ae,A5,A7,AW,AO];rcases tfp (sz=0) with e|e<;>simp only[e,AU,Ae,A5,A7,AW,AO];rcases tfp (mix=0) with e|e<;>simp only[e,AU,Ae,A5,A7,AW,AO]
def axS{ki:Int}(h1:(ki=1)=False):inB ki 1 3=(A1 (ki=2)||decide (ki=3)):=by
 have h1:ki≠1:=of_eq_false h1;rw[M5,Af,CB,decide_eq_true_iff,decide_eq_true_iff];omega
def xE(f:Frame):Ve (tF f,())=I ((Cj f,()),()):=by
 obtain⟨ki,src,dst,fr,nu,t',un,sz,mix,da⟩:=f;unfold Ve Cj;simp only[JZ,Hl,A9];have hk:inB ki 1 3=(A1 (ki=1)||(A1 (ki=2)||decide (ki=3))):=by
  rcases tfp (ki=1) with e|e
  .have:ki=1:=of_eq_true e;subst this;rfl
  .rw[axS e];simp only[e,Ae,Bi]
 rw[hk];unfold Kd;rcases tfp (ki=1) with e0|e0<;>simp only[e0,AU,Ae,Bo,Bi,AB,AI,A5,A7]
 .rcases tf (isN src) with e|e<;>simp only[e,AB,AI,A5,A7,AW,AO];rcases tf (isN dst) with e|e<;>simp only[e,AB,AI,A5,A7,AW,AO];rcases tf (isN fr) with e|e<;>simp only[e,AB,AI,A5,A7,AW,AO];rcases tf (isN t') with e|e<;>simp only[e,AB,AI,A5,A7,AW,AO];rcases tf (inB nu 1 99) with e|e<;>simp only[e,AB,AI,A5,A7,AW,AO];rcases tf (inB un 1 999) with e|e<;>simp only[e,AB,AI,A5,A7,AW,AO];simp only[rv,A9];rw[show A1 (Co src t'=dst)=A1 (dst=Co src t') from decide_eq_decide.2 eq_comm];rcases tf (inB sz 1 24) with e|e<;>rcases tf (inB mix 0 999) with e1|e1<;>rcases tf (A1<|(da.size:Int)=4) with e2|e2<;>rcases tfp (dst=Co src t') with e3|e3<;>simp only[e,e1,e2,e3,AU,Ae,A5,A7,AW,AO,Du,Bc]
 .rcases tf (A1 (ki=2)||decide (ki=3)) with e9|e9<;>simp only[e9,AB,AI,A5,A7,AW,AO,Bc];rcases tf (isN src) with e|e<;>simp only[e,AB,AI,A5,A7,AW,AO];rcases tf (isN dst) with e|e<;>simp only[e,AB,AI,A5,A7,AW,AO];rcases tf (isN fr) with e|e<;>simp only[e,AB,AI,A5,A7,AW,AO];rcases tf (isN t') with e|e<;>simp only[e,AB,AI,A5,A7,AW,AO];rcases tf (inB nu 1 99) with e|e<;>simp only[e,AB,AI,A5,A7,AW,AO];rcases tf (inB un 1 999) with e|e<;>simp only[e,AB,AI,A5,A7,AW,AO];simp only[rv,A9];rw[show A1 (Co dst t'=src)=A1 (src=Co dst t') from decide_eq_decide.2 eq_comm];rcases tfp (sz=0) with e|e<;>rcases tfp (mix=0) with e1|e1<;>rcases tfp (da=noB) with e2|e2<;>rcases tfp (src=Co dst t') with e3|e3<;>simp only[e,e1,e2,e3,AU,Ae,A5,A7,AW,AO,Du,Bc]
def BOk(l:List Int):Prop:=∀x∈l,0<=x/\x<=255
def BOk.rd{l:List Int}(h:BOk l)(i:Int):0<= @rd Int (dfl .u8) l i/\ @rd Int (dfl .u8) l i<=255:=by
 show 0<=l.getD i.toNat 0/\l.getD i.toNat 0<=255;rw[B9];cases e:l[i.toNat]? with
 | none=>exact⟨by decide,by decide⟩
 | some x=>exact h x<|Cb e
def BOk.str(s:A4):BOk (BE s):=by
 intro x hx;obtain⟨b,_,rfl⟩:=DE.1 hx;have:=b.toNat_lt;omega
def BOk.app{a b:List Int}(ha:BOk a)(hb:BOk b):BOk (a++b):=by
 intro x hx;rcases BM.1 hx with h|h
 .exact ha x h
 .exact hb x h
def awG(n:Int):0<=w8 n/\w8 n<=255:=by
 rw[N4];omega
def BOk.nil:BOk []:=λx hx=>by cases hx
def BOk.cons(n:Int){l:List Int}(h:BOk l):BOk (w8 n::l):=by
 intro x hx;rcases Bj.1 hx with h1|h1
 .rw[h1];exact awG n
 .exact h x h1
def Ex:List Int->Nat->Int->Int
 | [],_,n=>n
 | x::r,i,n=>Ex r (i+1) (BG (n+x * ((i % 1000:Nat)+1)) 65521)
def kP:∀ {l:List Int} {i:Nat} {n:Int},BOk l->0<=n->n<65521->0<=Ex l i n/\Ex l i n<65521
 | [],_,_,_,h0,h1=>⟨h0,h1⟩
 | x::r,i,n,hb,h0,h1=>by
  have hx:=hb x Ap;have hp:0<=x * ((i % 1000:Nat)+1:Int):=Qf hx.1 J;unfold Ex;rw[Kr J];exact kP (λy hy=>hb y<|Am x hy) J J
def aaR{x:Int}(i:Nat)(h:0<=x/\x<=255):0<=x * ((i % 1000:Nat)+1:Int)/\x * ((i % 1000:Nat)+1:Int)<=255000:=by
 refine⟨Qf h.1 J, ?_⟩;have h1:x * ((i % 1000:Nat)+1:Int)<=255 * ((i % 1000:Nat)+1:Int):=ku h.2 J;omega
def ab3(pre:List Int)(x:Int)(post:List Int): @rd Int (dfl .u8) (pre++x::post) (pre.length:Int)=x:=by
 rw[Oh,B9,FG<|As _];simp
def asE(post:List Int):∀(pre:List Int) (n:Int),BOk post->0<=n->n<65521->(pre++post).length<=1048576->
  ap (n,pre++post,((pre++post).length:Int),(pre.length:Int),())=I (.inr (Ex post pre.length n,())):=by
 induction post with
 | nil=>
  intro pre n _ _ _ _;refine BP ?_;unfold ch;simp only[CM,show A1 ((pre.length:Int)<(pre.length:Int))=A3 from BR J,A7];rfl
 | cons x post ih=>
  intro pre n hb h0 h1 hl;have hlen:pre.length<(pre++x::post).length:=by simp
  have hw:=DZ hlen hl;have hx:=hb x Ap;have hm:=aaR pre.length hx;have ht:BG (pre.length:Int) 1000=((pre.length % 1000:Nat):Int):=rfl;refine B0 (x':=(BG (n+x * ((pre.length % 1000:Nat)+1)) 65521,pre++x::post,((pre++x::post).length:Int),((pre++[x]).length:Int),())) ?_ ?_
  .unfold ch;simp only[show A1 ((pre.length:Int)<((pre++x::post).length:Int))=A0 from Aa J,A5,AP hlen,ab3,ht];rw[AZ (n:=x) J J,AZ (n:=((pre.length % 1000:Nat):Int)+1) J J,AZ (n:=x * _) J J,AZ (n:=n+_) J J,hw,@Ar _ pre [x]];rfl
  .have hr:0<=BG (n+x * ((pre.length % 1000:Nat)+1)) 65521/\BG (n+x * ((pre.length % 1000:Nat)+1)) 65521<65521:=by
    rw[Kr J];omega
   have:=ih (pre++[x]) _ (λy hy=>hb y<|Am x hy) hr.1 hr.2 (by rw[← snoc];exact hl);rw[← snoc]at this;rw[Ex];rw[show(pre++[x]).length=pre.length+1 by simp]at this ⊢;exact this
def arU(post:List Int):∀(pre:List Int) (n:Int),BOk post->0<=n->n<65521->(pre++post).length<=1048576->
  ah (pre++post,n,(pre.length:Int),())=I (.inr (Ex post pre.length n,())):=by
 induction post with
 | nil=>
  intro pre n _ _ _ _;refine BP ?_;unfold cH;simp only[CM,show A1 ((pre.length:Int)<(pre.length:Int))=A3 from BR J,A7];rfl
 | cons x post ih=>
  intro pre n hb h0 h1 hl;have hlen:pre.length<(pre++x::post).length:=by simp
  have hw:=DZ hlen hl;have hx:=hb x Ap;have hm:=aaR pre.length hx;have ht:BG (pre.length:Int) 1000=((pre.length % 1000:Nat):Int):=rfl;refine B0 (x':=(pre++x::post,BG (n+x * ((pre.length % 1000:Nat)+1)) 65521,((pre++[x]).length:Int),())) ?_ ?_
  .unfold cH;simp only[show A1 ((pre.length:Int)<((pre++x::post).length:Int))=A0 from Aa J,A5,AP hlen,ab3,ht];rw[AZ (n:=x) J J,AZ (n:=((pre.length % 1000:Nat):Int)+1) J J,Qe _ x,AZ (n:=x * _) J J,AZ (n:=n+_) J J,hw,@Ar _ pre [x]];rfl
  .have hr:0<=BG (n+x * ((pre.length % 1000:Nat)+1)) 65521/\BG (n+x * ((pre.length % 1000:Nat)+1)) 65521<65521:=by
    rw[Kr J];omega
   have:=ih (pre++[x]) _ (λy hy=>hb y<|Am x hy) hr.1 hr.2 (by rw[← snoc];exact hl);rw[← snoc]at this;rw[Ex];rw[show(pre++[x]).length=pre.length+1 by simp]at this ⊢;exact this
def akR{l:List Int}(h:BOk l)(hl:l.length<=1048576):VX (l,())=I ((Ex l 0 0,()),()):=by
 unfold VX;have h1:ap (0,l,(l.length:Int),0,())=I (.inr (Ex l 0 0,())):=asE l [] 0 h J J hl;rw[h1];rfl
def ajx{l:List Int}(h:BOk l)(hl:l.length<=1048576):Rc (l,())=I ((Ex l 0 0,()),()):=by
 unfold Rc;have h1:ah (l,0,0,())=I (.inr (Ex l 0 0,())):=arU l [] 0 h J J hl;rw[h1];rfl
abbrev two(n:Int):List Int:=[w8 (w64<|Ax n 256),w8<|BG n 256]
abbrev Qo(f:Frame):List Int:=[w8 f.ki,w8 f.src,w8 f.dst,w8 f.fr,w8 f.nu,w8 f.to,w8<|w64<|Ax f.un 256,w8<|BG f.un 256]
def Eh(f:Frame):List Int:=if A1 (f.ki=1) then(Qo f++[w8 f.sz,w8<|w64<|Ax f.mix 256,w8<|BG f.mix 256])++BE f.da else Qo f
def Ce(f:Frame):List Int:=if Cj f then Eh f++two (Ex (Eh f) 0 0) else []
def gY{l:List Int}(n:Int)(hl:l.length<=1048576):O6 (l,n,())=I ((l++two n,()),()):=by
 unfold O6;rw[A8<|B8 (by simp;omega)]
def Xt(f:Frame):BOk (Eh f):=by
 unfold Eh;split
 .exact BOk.app (.cons _<|.cons _<|.cons _<|.cons _<|.cons _<|.cons _<|.cons _<|.cons _<|.cons _<|.cons _<|.cons _ .nil) (BOk.str _)
 .exact .cons _<|.cons _<|.cons _<|.cons _<|.cons _<|.cons _<|.cons _<|.cons _ .nil
def ln{f:Frame}(h:Cj f=A0)(hk:A1 (f.ki=1)=A0):f.da.size=4:=by
 unfold Cj Kd at h;simp only[AE]at h;have h:=h.2.2.2.2.2.2;rw[A8 hk]at h;simp only[AE]at h;have:=BX h.2.2.1;omega
def XE{f:Frame}(h:Cj f=A0):(Eh f).length<=15:=by
 unfold Eh;split
 .rename_i hk;have:=ln h hk;simp[Sb,Ay];omega
 .simp
def vu(f:Frame):Pc (tF f,())=I ((Ce f,()),()):=by
 unfold Pc Ce;simp only[yK,A9];rcases tf (Cj f) with e|e
 .simp only[e,AB,A7,A5];have hl:=XE e;have hj:∀ {X Ω:Type} (g:X->Option Ω) (y:X),BS g (I<|.inr y)=g y:=λ_ _=>rfl;have hs:=akR (Xt f) J;have key:∀l,l=Eh f->((VX (l,())).bind λr4=>if Ac (l.length+(two r4.1.1).length) then(bL ((l++two r4.1.1),())).bind λr5=>I (r5.1,()) else U)=I ((Eh f++two (Ex (Eh f) 0 0),()),()):=by
   rintro l rfl;simp only[hs,A9];rw[A8<|B8 (by simp;omega),afx (by simp;omega)];rfl
  rcases tf (A1<|f.ki=1) with e1|e1
  .have hd:=ln e e1;have hb:Eh f=(Qo f++[w8 f.sz,w8<|w64<|Ax f.mix 256,w8<|BG f.mix 256])++BE f.da:=by unfold Eh;rw[A8 e1]
   rw[A8 e1,A8<|B8<|by simp,A8<|B8 (by simp[Sb,Ay];omega),hj];exact key _ hb.symm
  .have hb:Eh f=Qo f:=by unfold Eh;rw[e1,A7]
   rw[AD (by rw[e1];exact Cg),hj];exact key _ hb.symm
 .simp only[e,AI,A5,A7]
def vA(f:Frame):PZ (tF f,())=I ((Ce f,()),()):=by
 unfold PZ Ce;simp only[xE,A9];rcases tf (Cj f) with e|e
 .simp only[e,AB,A7,A5];have hl:=XE e;have hs:=ajx (Xt f) J;have key:∀l,l=Eh f->((Rc (l,())).bind λr6=>(O6 (l,r6.1)).bind λr7=>I (r7.1,()))=I ((Eh f++two (Ex (Eh f) 0 0),()),()):=by
   rintro l rfl;simp only[hs,A9];rw[gY _ J];rfl
  rw[A8<|by rfl,gY _<|by simp];simp only[A9];rcases tf (A1<|f.ki=1) with e1|e1
  .have hd:=ln e e1;have hb:Eh f=(Qo f++[w8 f.sz,w8<|w64<|Ax f.mix 256,w8<|BG f.mix 256])++BE f.da:=by unfold Eh;rw[A8 e1]
   rw[A8 e1,A8<|by rfl,gY _<|by simp];simp only[A9];rw[A8<|B8 J,A8<|B8 (by simp[Sb,Ay];omega)];exact key _ (by rw[hb];rfl)
  .have hb:Eh f=Qo f:=by unfold Eh;rw[e1,A7]
   rw[AD (by rw[e1];exact Cg)];exact key _ (by rw[hb];rfl)
 .simp only[e,AI,A5,A7]
abbrev zF:Frame:=⟨0,0,0,0,0,0,0,0,0,noB⟩
abbrev r8(b:List Int)(i:Int):Int:= @rd Int (dfl .u8) b i
def FQ(b:List Int):Frame:=
 if A1 ((b.length:Int)=17) then⟨r8 b 0,r8 b 1,r8 b 2,r8 b 3,r8 b 4,r8 b 5,256 * r8 b 6+r8 b 7,r8 b 8,256 * r8 b 9+r8 b 10,BF<|Bm 11<|BH 15 b⟩
 else⟨r8 b 0,r8 b 1,r8 b 2,r8 b 3,r8 b 4,r8 b 5,256 * r8 b 6+r8 b 7,0,0,noB⟩
def DJ(b:List Int):Frame×Bool:=
 if A1 ((b.length:Int)=10)||decide ((b.length:Int)=17) then(if A1 (BF (Ce<|FQ b)=BF b) then(FQ b,A0) else(zF,A3)) else(zF,A3)
def abN{b:List Int}(h:BOk b)(i:Int):w64 (r8 b i)=r8 b i:=by
 have:0<=r8 b i/\r8 b i<=255:=h.rd i;exact AZ J J
def aad{b:List Int}(h:BOk b)(i j:Int):w64 (w64 (256 * r8 b i)+r8 b j)=256 * r8 b i+r8 b j:=by
 have h1:0<=r8 b i/\r8 b i<=255:=h.rd i;have h2:0<=r8 b j/\r8 b j<=255:=h.rd j;rw[AZ (n:=256 * r8 b i) J J,AZ J J]
def si{b:List Int}(h:BOk b):bQ (b,())=I ((tF (DJ b).1,(DJ b).2,()),()):=by
 unfold bQ DJ;by_cases h1:b.length=10\/b.length=17
 .have hn:10<=b.length:=J
  have hI:∀i:Int,(0<=i/\i<10)->inb i b.length=A0:=λi hi=>by simp[inb];omega
  rw[AD (by simp;omega)];dsimp only;rw[A8<|hI 0 J,A8<|hI 1 J,A8<|hI 2 J,A8<|hI 3 J,A8<|hI 4 J,A8<|hI 5 J,A8<|hI 6 J,A8<|hI 7 J];rw[A8 (show(A1 ((b.length:Int)=10)||decide ((b.length:Int)=17))=A0 by simp;omega)];simp only[abN h,aad h];have fin:∀f:Frame,FQ b=f->((Pc (tF f,())).bind λr16=>if(!decide ((BF r16.1.1)=(BF b))) then I ((tF zF,A3,()),()) else I ((tF f,A0,()),()))=
    I ((tF (if A1 (BF (Ce<|FQ b)=BF b) then(FQ b,A0) else(zF,A3)).1,(if A1 (BF (Ce<|FQ b)=BF b) then(FQ b,A0) else(zF,A3)).2,()),()):=by
   rintro f rfl;simp only[vu,A9];rcases tf (A1<|BF (Ce<|FQ b)=BF b) with e|e<;>simp only[e,AB,AI,A5,A7]
  rcases tf (A1<|(b.length:Int)=17) with e|e
  .have e17:b.length=17:=by have:=BX e;omega
   have hJ:∀i:Int,(0<=i/\i<17)->inb i b.length=A0:=λi hi=>by simp[inb];omega
   rw[A8 e,A8<|hJ 8 J,A8<|hJ 9 J,A8<|hJ 10 J,A8 (by simp;omega),Be];refine fin ⟨r8 b 0,r8 b 1,r8 b 2,r8 b 3,r8 b 4,r8 b 5,256 * r8 b 6+r8 b 7,r8 b 8,256 * r8 b 9+r8 b 10,BF<|Bm 11<|BH 15 b⟩ ?_;unfold FQ;rw[A8 e]
  .rw[AD (by rw[e];exact Cg),Be];refine fin ⟨r8 b 0,r8 b 1,r8 b 2,r8 b 3,r8 b 4,r8 b 5,256 * r8 b 6+r8 b 7,0,0,noB⟩ ?_;unfold FQ;rw[AD (by rw[e];exact Cg)]
 .rw[A8 (by simp;omega),AD (by simp;omega)]
def agC{b:List Int}(h:BOk b):bF (b,())=I ((tF (DJ b).1,(DJ b).2,()),()):=by
 unfold bF DJ;by_cases h1:b.length=10\/b.length=17
 .have hn:10<=b.length:=J
  have hI:∀i:Int,(0<=i/\i<10)->inb i b.length=A0:=λi hi=>by simp[inb];omega
  rw[AD (by simp;omega)];dsimp only;rw[A8<|hI 0 J,A8<|hI 1 J,A8<|hI 2 J,A8<|hI 3 J,A8<|hI 4 J,A8<|hI 5 J,A8<|hI 6 J,A8<|hI 7 J];rw[A8 (show(A1 ((b.length:Int)=10)||decide ((b.length:Int)=17))=A0 by simp;omega)];simp only[abN h,Qe _ 256,aad h];have fin:∀f:Frame,FQ b=f->((PZ (tF f,())).bind λr16=>if(!decide ((BF r16.1.1)=(BF b))) then I ((tF zF,A3,()),()) else I ((tF f,A0,()),()))=
    I ((tF (if A1 (BF (Ce<|FQ b)=BF b) then(FQ b,A0) else(zF,A3)).1,(if A1 (BF (Ce<|FQ b)=BF b) then(FQ b,A0) else(zF,A3)).2,()),()):=by
   rintro f rfl;simp only[vA,A9];rcases tf (A1<|BF (Ce<|FQ b)=BF b) with e|e<;>simp only[e,AB,AI,A5,A7]
  rcases tf (A1<|(b.length:Int)=17) with e|e
  .have e17:b.length=17:=by have:=BX e;omega
   have hJ:∀i:Int,(0<=i/\i<17)->inb i b.length=A0:=λi hi=>by simp[inb];omega
   rw[A8<|Aa J,A8<|hJ 8 J,A8<|hJ 9 J,A8<|hJ 10 J,A8 (by simp;omega),Be];refine fin ⟨r8 b 0,r8 b 1,r8 b 2,r8 b 3,r8 b 4,r8 b 5,256 * r8 b 6+r8 b 7,r8 b 8,256 * r8 b 9+r8 b 10,BF<|Bm 11<|BH 15 b⟩ ?_;unfold FQ;rw[A8 e]
  .have e17:b.length≠17:=by have:=KC e;omega
   rw[AD (by simp;omega),Be];refine fin ⟨r8 b 0,r8 b 1,r8 b 2,r8 b 3,r8 b 4,r8 b 5,256 * r8 b 6+r8 b 7,0,0,noB⟩ ?_;unfold FQ;rw[AD (by rw[e];exact Cg)]
 .rw[A8 (by simp;omega),AD (by simp;omega)]
def aqB{b:List Int}(h:(DJ b).2=A0):Cj (DJ b).1=A0:=by
 unfold DJ at h ⊢;split
 .rename_i h1;rw[A8 h1]at h;split
  .rename_i h2;have h2:=BX h2;unfold Ce at h2;split at h2
   .assumption
   .have h3:(BF b).size=b.length:=by simp[BF,ByteArray.size]
    have h4:(BF ([]:List Int)).size=0:=rfl;rw[← h2,h4]at h3;rw[← h3]at h1;cases h1
  .rename_i h2;rw[AD h2]at h;cases h
 .rename_i h1;rw[AD h1]at h;cases h
def OX{n:Int}(h0:0<=n)(k:Nat)(hk:1<=k)(h:n<(10 ^ k:Nat)):(BW n).size<=k:=by
 show(B6 n).length<=k;exact LW h0 k hk h
def yg{r:A4}(hr:r.size<=1048576):Pq (r,())=I ((Cq r,()),()):=by
 have hd:=OX (n:=(r.size:Int)) J 7 J J;unfold Pq;simp only[J3 (n:=(r.size:Int)) J J,A9];rw[A8<|Aa (by rw[BQ];simp;omega),A8<|Aa (by rw[Bu,BQ];simp;omega),A8<|Aa (by rw[Bu,Bu,BQ,BQ];simp;omega)];rfl
def yo{r:A4}(hr:r.size<=1048576):Po (r,())=I ((Cq r,()),()):=by
 have hd:=OX (n:=(r.size:Int)) J 7 J J;unfold Po;simp only[FY (n:=(r.size:Int)) J J,A9];rw[A8<|Aa (by rw[BQ];simp;omega),A8<|Aa (by rw[Bu,BQ];simp;omega),A8<|Aa (by rw[Bu,Bu,BQ,BQ];simp;omega)];rfl
def X3{r:A4}(hr:r.size<=1048576):(Cq r).size<=r.size+9:=by
 have hd:=OX (n:=(r.size:Int)) J 7 J J;unfold Cq;simp only[Bu,BQ];simp;omega
def rOk(r:A4):Bool:=inB r.size 1 60
def iW(r:A4):fb (r,())=I ((rOk r,()),()):=rfl
def ia(r:A4):cq (r,())=I ((rOk r,()),()):=rfl
def JE(lg:A4)(fo:Int)(r:A4):(A4×Int)×Bool:=
 if D9 lg fo then(if rOk r&&A1 (lg.size+(Cq r).size<=2400) then((lg++Cq r,fo),A0) else((lg,fo),A3)) else((noB,0),A3)
def aaU{lg st:A4}{fo:Int}(b:Bool)(hl:lg.size<=1048576)(hs:st.size<=1048585):
  (if((!b)||(A1<|2400<(w64<|(lg.size:Int)+(st.size:Int)))) then I (((lg,fo,()),A3,()),()) else(if A1 (lg.size+st.size<=4611686018427387904) then I (((lg++st,fo,()),A0,()),()) else U))=
   I ((((if b&&A1 (lg.size+st.size<=2400) then((lg++st,fo),A0) else((lg,fo),A3)).1.1,(if b&&A1 (lg.size+st.size<=2400) then((lg++st,fo),A0) else((lg,fo),A3)).1.2,()),(if b&&A1 (lg.size+st.size<=2400) then((lg++st,fo),A0) else((lg,fo),A3)).2,()),()):=by
 rw[AZ J J];cases b
 .rfl
 .by_cases h:lg.size+st.size<=2400
  .rw[AD (by simp;omega),A8<|Aa J,A8 (by simp;omega)]
  .rw[A8 (by simp;omega),AD (by simp;omega)]
def wX{lg r:A4}{fo:Int}(hl:lg.size<=1048576)(hr:r.size<=1048576):
  Rh ((lg,fo,()),r,())=I ((((JE lg fo r).1.1,(JE lg fo r).1.2,()),(JE lg fo r).2,()),()):=by
 unfold Rh JE;simp only[Vo hl,A9];rcases tf (D9 lg fo) with e|e
 .simp only[e,AB,A7,A5,iW,yg hr,A9,DY,DO,GK];exact aaU (rOk r) hl (by have:=X3 hr;omega)
 .simp only[e,AI,A7,A5]
def wu{lg r:A4}{fo:Int}(hl:lg.size<=1048576)(hr:r.size<=1048576):
  Rj ((lg,fo,()),r,())=I ((((JE lg fo r).1.1,(JE lg fo r).1.2,()),(JE lg fo r).2,()),()):=by
 unfold Rj JE;simp only[Vc hl,A9];rcases tf (D9 lg fo) with e|e
 .simp only[e,AB,A7,A5,ia,yo hr,A9,DY,DO,GK];exact aaU (rOk r) hl (by have:=X3 hr;omega)
 .simp only[e,AI,A7,A5]
def Jr(lg:A4)(fo:Int):A4×Int:=if D9 lg fo then(lg,(lg.size:Int)) else(noB,0)
def ahn{lg:A4}{fo:Int}(hl:lg.size<=1048576):c8 ((lg,fo,()),())=I ((((Jr lg fo).1,(Jr lg fo).2,()),()),()):=by
 unfold c8 Jr;simp only[Vo hl,A9];rcases tf (D9 lg fo) with e|e<;>simp only[e,AB,AI,A7,A5]
def qa{lg:A4}{fo:Int}(hl:lg.size<=1048576):PW ((lg,fo,()),())=I ((((Jr lg fo).1,(Jr lg fo).2,()),()),()):=by
 unfold PW Jr;simp only[Vc hl,A9];rcases tf (D9 lg fo) with e|e<;>simp only[e,AB,AI,A7,A5]
def S9{lg:A4}{fo:Int}(h:D9 lg fo=A0):lg.size<=2400/\0<=fo/\fo<=lg.size:=by
 unfold D9 at h;simp only[AE]at h;have h1:=BX h.1;have h2:=Af.1 h.2.1;omega
def EV(lg:A4)(fo keep:Int):Nat:=(fo+max 0 (min keep<|(lg.size:Int) - fo)).toNat
def Lt(lg:A4)(fo keep:Int):A4×Int:=
 if D9 lg fo then((lg.extract 0<|EV lg fo keep).extract 0 (D1<|lg.extract 0<|EV lg fo keep).2,((D1<|lg.extract 0<|EV lg fo keep).2:Int)) else(noB,0)
def awP{lg:A4}{fo keep:Int}(h0:0<=fo)(h1:fo<=lg.size)(h2:lg.size<=2400):
  w64 (fo+(if 0<(if w64 ((lg.size:Int) - fo)<keep then w64 ((lg.size:Int) - fo) else keep) then(if w64 ((lg.size:Int) - fo)<keep then w64 ((lg.size:Int) - fo) else keep) else 0))=(EV lg fo keep:Int)/\EV lg fo keep<=lg.size:=by
 rw[AZ (n:=(lg.size:Int) - fo) J J];unfold EV;by_cases h3:(lg.size:Int) - fo<keep
 .rw[A8 h3];by_cases h4:(0:Int)<(lg.size:Int) - fo
  .rw[A8 h4,AZ J J];omega
  .rw[AD h4,AZ J J];omega
 .rw[AD h3];by_cases h4:(0:Int)<keep
  .rw[A8 h4,AZ J J];omega
  .rw[AD h4,AZ J J];omega
def aiV{lg:A4}{fo keep:Int}(hl:lg.size<=1048576):cY ((lg,fo,()),keep,())=I ((((Lt lg fo keep).1,(Lt lg fo keep).2,()),()),()):=by
 unfold cY Lt;simp only[Vo hl,A9];rcases tf (D9 lg fo) with e|e
 .have hr:=S9 e;obtain⟨c1,c2⟩:=awP (keep:=keep) hr.2.1 hr.2.2 hr.1;simp only[e,AB,A7,A5,c1,Bb];have hz:(lg.extract 0<|EV lg fo keep).size=EV lg fo keep:=by rw[FZ J];omega
  have hg:=Py<|lg.extract 0<|EV lg fo keep;rw[A8 (by simp;omega),cW J];simp only[A9,Bb];rw[A8 (by simp;omega)]
 .simp only[e,AI,A7,A5]
def avB{s:A4}{a b:Nat}(h:b<=a)(ha:a<=s.size):s.extract 0 b=(s.extract 0 a).extract 0 b:=by
 apply Fl;rw[Dz,Dz,Dz,JN,JN,Ib,Ib,Yp,Qh h]
def ahw{lg:A4}{fo keep:Int}(hl:lg.size<=1048576):cO ((lg,fo,()),keep,())=I ((((Lt lg fo keep).1,(Lt lg fo keep).2,()),()),()):=by
 unfold cO Lt;simp only[Vc hl,A9];rcases tf (D9 lg fo) with e|e
 .have hr:=S9 e;simp only[e,AB,A7,A5];rw[AZ (n:=(lg.size:Int) - fo) J J];have hz:(lg.extract 0<|EV lg fo keep).size=EV lg fo keep:=by rw[FZ (by unfold EV;omega)];omega
  have hg:=Py<|lg.extract 0<|EV lg fo keep;have fin:∀n:Int,n=(EV lg fo keep:Int)->(if(A1 (0<=n)&&A1 (n<=(lg.size:Int))) then(LJ ((lg.extract (0)<|AL n),())).bind λr9=>
    (if(A1 (0<=r9.1.2.1)&&A1 (r9.1.2.1<=(lg.size:Int))) then I (((lg.extract (0)<|AL r9.1.2.1,r9.1.2),()),()) else U) else U)=
    I ((((lg.extract 0<|EV lg fo keep).extract 0 (D1<|lg.extract 0<|EV lg fo keep).2,((D1<|lg.extract 0<|EV lg fo keep).2:Int),()),()),()):=by
   rintro n rfl;have hc:EV lg fo keep<=lg.size:=by unfold EV;omega
   rw[A8 (by simp;omega),Bb,VA J];simp only[A9,Bb];rw[A8 (by simp;omega),avB (a:=EV lg fo keep) J hc]
  rcases tf (A1<|(lg.size:Int) - fo<keep) with h3|h3<;>simp only[h3,A5,A7,Be]
  .have h3:=BX h3;rcases tf (A1<|(0:Int)<(lg.size:Int) - fo) with h4|h4<;>simp only[h4,A5,A7,Be]
   .have h4:=BX h4;rw[AZ (n:=fo+((lg.size:Int) - fo)) J J];exact fin _ (by unfold EV;omega)
   .have h4:=KC h4;exact fin _ (by unfold EV;omega)
  .have h3:=KC h3;rcases tf (A1<|0<keep) with h4|h4<;>simp only[h4,A5,A7,Be]
   .have h4:=BX h4;rw[AZ (n:=fo+keep) J J];exact fin _ (by unfold EV;omega)
   .have h4:=KC h4;exact fin _ (by unfold EV;omega)
 .simp only[e,AI,A7,A5]
def FR(rs:List A4):Bool:=rs.all rOk
def JC(lg:A4)(fo:Int)(rs:List A4):(A4×Int)×Bool:=
 if D9 lg fo then(if FR rs&&A1 ((Cy rs).size<=2400) then((Cy rs,((Cy rs).size:Int)),A0) else((lg,fo),A3)) else((noB,0),A3)
def aac{r:A4}(h:rOk r=A0):1<=r.size/\r.size<=60:=by
 have:=Af.1 h;omega
def aEF(pre:List A4)(r:A4):B (cat<|pre++[r])=B (cat pre)++Cq r:=by
 apply Fl;rw[G7,L_B,L_B,KQ,Hm,Jf,CM]
abbrev zS:A4×Int×A2:=(noB,0,())
def asu{sl:A4×Int×A2}(post:List A4):∀(pre:List A4),(pre++post).length<=1048576->(cat pre).length<=69 * pre.length->
  (RN (sl,zS,B<|cat pre,pre++post,((pre++post).length:Int),(pre.length:Int),())=I (.inl (sl,A3,()))/\(FR post=A3\/2400<(cat<|pre++post).length))\/
  (RN (sl,zS,B<|cat pre,pre++post,((pre++post).length:Int),(pre.length:Int),())=I (.inr (sl,zS,B<|cat<|pre++post,()))/\FR post=A0):=by
 induction post with
 | nil=>
  intro pre _ _;refine NP ⟨BP ?_,rfl⟩;unfold RP;simp only[CM,show A1 ((pre.length:Int)<(pre.length:Int))=A3 from BR J,A7]
 | cons r post ih=>
  intro pre hl hc;have hlen:pre.length<(pre++r::post).length:=by simp
  have hw:=DZ hlen hl;have hb:(A1<|(pre.length:Int)<((pre++r::post).length:Int))=A0:=Aa J;by_cases h:rOk r=A0/\(cat pre).length<=2400
  .have hz:=aac h.1;have hs:=X3 (r:=r) J;have MI:RP (sl,zS,B<|cat pre,pre++r::post,((pre++r::post).length:Int),(pre.length:Int),())=I (.inl (sl,zS,B<|cat<|pre++[r],(pre++[r])++post,(((pre++[r])++post).length:Int),((pre++[r]).length:Int),())):=by
    unfold RP;simp only[hb,A5,AP hlen,N5,iW,A9,h.1,AB,Bi];rw[AD (by rw[BQ];exact λg=>absurd (BX g) J),yg (r:=r) J];simp only[A9];rw[A8<|Aa (by rw[BQ];omega),hw,aEF,@Ar _ pre [r],← snoc];rfl
   have hc2:(cat<|pre++[r]).length<=69 * (pre++[r]).length:=by
    rw[KQ,Hm,Jf,CM,Ar,Ay,Ar,JK];omega
   have e:FR (r::post)=FR post:=by
    unfold FR;rw[Ox,h.1,AW]
   rw[e];rcases ih (pre++[r]) (by rw[← snoc];exact hl) hc2 with⟨h1,h2⟩|⟨h1,h2⟩
   .rw[← snoc]at h2;exact NQ ⟨B0 MI h1,h2⟩
   .refine NP ⟨?_,h2⟩;rw[snoc];rw[← snoc]at MI ⊢;rw[snoc pre r post]at MI ⊢;exact B0 MI h1
  .refine NQ ⟨BP ?_, ?_⟩
   .unfold RP;simp only[hb,A5,AP hlen,N5,iW,A9];rw[A8];rcases tf (rOk r) with e|e
    .rw[e,AB,Bi];refine Aa ?_;rw[BQ];have:¬(cat pre).length<=2400:=λg=>h ⟨e,g⟩;omega
    .rw[e];rfl
   .rcases tf (rOk r) with e|e
    .have:¬(cat pre).length<=2400:=λg=>h ⟨e,g⟩;refine NP ?_;rw[KQ,Ar];omega
    .refine NQ ?_;unfold FR;rw[Ox,e,AO]
def arQ{sl:A4×Int×A2}(post:List A4):∀(pre:List A4),(pre++post).length<=1048576->(cat pre).length<=69 * pre.length->
  aO (pre++post,sl,zS,B<|cat pre,(pre.length:Int),())=I (if FR post then .inr (sl,zS,B<|cat<|pre++post,()) else .inl (sl,A3,())):=by
 induction post with
 | nil=>
  intro pre _ _;refine BP ?_;unfold RV;simp only[CM,show A1 ((pre.length:Int)<(pre.length:Int))=A3 from BR J,A7];rfl
 | cons r post ih=>
  intro pre hl hc;have hlen:pre.length<(pre++r::post).length:=by simp
  have hw:=DZ hlen hl;have hb:(A1<|(pre.length:Int)<((pre++r::post).length:Int))=A0:=Aa J;rcases tf (rOk r) with h|h
  .have hz:=aac h;have hs:=X3 (r:=r) J;have MI:RV (pre++r::post,sl,zS,B<|cat pre,(pre.length:Int),())=I (.inl ((pre++[r])++post,sl,zS,B<|cat<|pre++[r],((pre++[r]).length:Int),())):=by
    unfold RV;simp only[hb,A5,AP hlen,N5,ia,A9,h,AB,A7];rw[yo (r:=r) J];simp only[A9];rw[A8<|Aa (by rw[BQ];simp at hl;omega),hw,aEF,@Ar _ pre [r],← snoc];rfl
   have hc2:(cat<|pre++[r]).length<=69 * (pre++[r]).length:=by
    rw[KQ,Hm,Jf,CM,Ar,Ay,Ar,JK];omega
   have e:FR (r::post)=FR post:=by
    unfold FR;rw[Ox,h,AW]
   rw[e];have:=ih (pre++[r]) (by rw[← snoc];exact hl) hc2;rw[snoc pre r post];rw[snoc pre r post]at MI;exact B0 MI this
  .refine BP ?_;unfold RV;simp only[hb,A5,AP hlen,N5,ia,A9,h,AI];rw[AD (by unfold FR;rw[Ox,h,AO];exact Cg)]
def kc{lg:A4}{fo:Int}(rs:List A4)(s:(((A4×Int×A2)×Bool×A2) ⊕ ((A4×Int×A2)×(A4×Int×A2)×A4×A2)))
  (h:(s= .inl ((lg,fo,()),A3,())/\(FR rs&&A1 ((Cy rs).size<=2400))=A3)\/(s= .inr ((lg,fo,()),zS,Cy rs,())/\FR rs=A0)):
  AM (I s) (λy28=>I (y28,())) (λy28=>(if(A1<|2400<(y28.2.2.1.size:Int)) then I ((y28.1,A3,()),()) else I (((y28.2.2.1,(y28.2.2.1.size:Int),()),A0,()),())))=
   I ((((if FR rs&&A1 ((Cy rs).size<=2400) then((Cy rs,((Cy rs).size:Int)),A0) else((lg,fo),A3)).1.1,(if FR rs&&A1 ((Cy rs).size<=2400) then((Cy rs,((Cy rs).size:Int)),A0) else((lg,fo),A3)).1.2,()),(if FR rs&&A1 ((Cy rs).size<=2400) then((Cy rs,((Cy rs).size:Int)),A0) else((lg,fo),A3)).2,()),()):=by
 obtain⟨rfl,h⟩|⟨rfl,h⟩:=h
 .rw[h];rfl
 .simp only[AM,A9];by_cases h2:(Cy rs).size<=2400
  .rw[AD (by simp;omega),h,Aa h2];rfl
  .rw[A8<|Aa J,h,BR h2];rfl
def vi{lg:A4}{fo:Int}{rs:List A4}(hl:lg.size<=1048576)(hr:rs.length<=1048576):
  RY ((lg,fo,()),rs,())=I ((((JC lg fo rs).1.1,(JC lg fo rs).1.2,()),(JC lg fo rs).2,()),()):=by
 unfold RY JC;simp only[Vo hl,A9];rcases tf (D9 lg fo) with e|e
 .simp only[e,AB,A7,A5];rcases asu (sl:=(lg,fo,())) rs [] hr (by simp[Jf]) with⟨h1,h2⟩|⟨h1,h2⟩
  .rw[show RN ((lg,fo,()),(noB,0,()),noB,rs,(rs.length:Int),0,())=_ from h1];refine kc rs _<|NQ ⟨rfl, ?_⟩;obtain h2|h2:=h2
   .rw[h2];rfl
   .rw[BR,Bc];show ¬(B<|cat rs).size<=2400;rw[BQ];exact Nat.not_le.2 h2
  .rw[show RN ((lg,fo,()),(noB,0,()),noB,rs,(rs.length:Int),0,())=_ from h1];exact kc rs _ (NP ⟨rfl,h2⟩)
 .simp only[e,AI,A7,A5]
def uk{lg:A4}{fo:Int}{rs:List A4}(hl:lg.size<=1048576)(hr:rs.length<=1048576):
  RZ ((lg,fo,()),rs,())=I ((((JC lg fo rs).1.1,(JC lg fo rs).1.2,()),(JC lg fo rs).2,()),()):=by
 unfold RZ JC;simp only[Vc hl,A9];rcases tf (D9 lg fo) with e|e
 .simp only[e,AB,A7,A5];have h1:=arQ (sl:=(lg,fo,())) rs [] hr (by simp[Jf]);rw[show aO (rs,(lg,fo,()),(noB,0,()),noB,0,())=_ from h1];refine kc rs _ ?_;rcases tf (FR rs) with h2|h2
  .exact NP ⟨A8 h2,h2⟩
  .exact NQ ⟨AD (by rw[h2];exact Cg),by rw[h2];rfl⟩
 .simp only[e,AI,A7,A5]
def YD{β:Type}(f:A6->β){l:List A6}{i:Nat}(h:i<l.length):(l.take<|i+1).map f=(l.take i).map f++[f (nA l i)]:=by
 rw[Mh h,Es,Dh<|Av h];rfl
def aaD{β:Type}(f:Mark->β){l:List Mark}{i:Nat}(h:i<l.length):(l.take<|i+1).map f=(l.take i).map f++[f (mA l i)]:=by
 rw[Mh h,Es,Gr<|Av h];rfl
def Fa{α:Type}{l m:List α}(hl:l.length<=1048576)(hm:m.length<=1048576):Ac (l.length+m.length)=A0:=B8 J
def ZO{n:A6}(h:B4 n=A0):(wr n).size<=4000:=by have:=Qk h;omega
def QJ{n:A6}(h:B4 n=A0):n.tx.size<=1048576:=by
 have h2:=Qk h;by_cases hs:n.tx.size<=1048576
 .exact hs
 .exfalso;unfold B4 at h;simp only[AE]at h;have hx:MD n.tx=A0:=by simp_all
  unfold MD at hx;rw[AE]at hx;have:=Af.1 hx.1;omega
def nw{n:A6}(h:B4 n=A0):(if B4 ⟨n.fr,n.nu,n.to,n.un,n.tx⟩ then wr ⟨n.fr,n.nu,n.to,n.un,n.tx⟩ else noB)=wr n:=by
 rw[show(⟨n.fr,n.nu,n.to,n.un,n.tx⟩:A6)=n from rfl,A8 h]
def Gv{n:Int}(h0:0<=n)(h1:n<=999):(BW n).size<=3:=OX h0 3 J J
def rD{w:A4}{a b c:Int}(hw:w.size<=1048576)(ha:0<=a/\a<=999)(hb:0<=b/\b<=999)(hc:0<=c/\c<=999):Pa (w,a,b,c,())=I ((Cl w a b c,()),()):=by
 have h1:=Gv ha.1 ha.2;have h2:=Gv hb.1 hb.2;have h3:=Gv hc.1 hc.2;unfold Pa;simp only[J3 (n:=a) J J,J3 (n:=b) J J,J3 (n:=c) J J,A9];rw[A8<|Aa (by simp[BQ];omega),A8<|Aa (by simp[Bu,BQ];omega),A8<|Aa (by simp[Bu,BQ];omega),A8<|Aa (by simp[Bu,BQ];omega),A8<|Aa (by simp[Bu,BQ];omega),A8<|Aa (by simp[Bu,BQ];omega)];rfl
def IJ{i n:Nat}(h:i<n):A1 ((i:Int)<(n:Int))=A0:=Aa J
def Gl(n:Nat):A1 ((n:Int)<(n:Int))=A3:=BR J
section
variable {k:AG} (hf:Eb k)
include hf
def aqe(o:List A4)(ho:o.length<=100):
  ao (tK k,o,k.marks,(k.marks.length:Int),0,())=I (.inr (tK k,o++k.marks.map λm=>Cl D0 m.mf m.mn m.mu,())):=by
 have ml:=hf.ml;refine Jw (congrArg _ ?_) (C2 (λi=>(tK k,o++(k.marks.take i).map (λm=>Cl D0 m.mf m.mn m.mu),k.marks,(k.marks.length:Int),(i:Int),())) k.marks.length ?_ ?_)
 .simp
 .intro i hi;have hm:=OW<|SN hf.m hi;unfold cg;simp only[IJ hi,A5,AP hi,F4,rD (w:=D0) (by decide) (show 0<=(mA k.marks i).mf/\(mA k.marks i).mf<=999 by omega) (show 0<=(mA k.marks i).mn/\(mA k.marks i).mn<=999 by omega)<|show 0<=(mA k.marks i).mu/\(mA k.marks i).mu<=999 by omega,A9];rw[A8<|Fa (by simp;omega)<|by simp,aaD _ hi,DZ hi J,Bw]
 .unfold cg;simp only[Gl,A7,Dw]
def arA(o:List A4)(ho:o.length<=200):
  an (tK k,o,k.held,(k.held.length:Int),0,())=I (.inr (tK k,o++k.held.map Mu,())):=by
 have hl:=hf.hl;refine Jw (congrArg _ ?_) (C2 (λi=>(tK k,o++(k.held.take i).map Mu,k.held,(k.held.length:Int),(i:Int),())) k.held.length ?_ ?_)
 .simp
 .intro i hi;have hm:=Gj hf.h hi;have hz:=ZO hm;unfold cf;simp only[IJ hi,A5,AP hi,Cc,V3<|QJ hm,nw hm,A9];rw[A8<|Aa (by rw[BQ];simp;omega),A8<|Fa (by simp;omega)<|by simp,YD _ hi,DZ hi J,Bw];rfl
 .unfold cf;simp only[Gl,A7,Dw]
def ar9(o:List A4)(ho:o.length<=200):
  al (o,k.inbox,(k.inbox.length:Int),0,())=I (.inr (o++k.inbox.map Mk,())):=by
 have il:=hf.il;refine Jw (congrArg _ ?_) (C2 (λi=>(o++(k.inbox.take i).map Mk,k.inbox,(k.inbox.length:Int),(i:Int),())) k.inbox.length ?_ ?_)
 .simp
 .intro i hi;have hm:=Gj hf.i hi;have hz:=ZO hm;unfold cd;simp only[IJ hi,A5,AP hi,Cc,V3<|QJ hm,nw hm,A9];rw[A8<|Aa (by rw[BQ];simp;omega),A8<|Fa (by simp;omega)<|by simp,YD _ hi,DZ hi J,Bw];rfl
 .unfold cd;simp only[Gl,A7,Dw]
def apz(o:List A4)(ho:o.length<=100):
  af (tK k,o,0,())=I (.inr (tK k,o++k.marks.map λm=>Cl D0 m.mf m.mn m.mu,())):=by
 have ml:=hf.ml;refine Jw (congrArg _ ?_) (C2 (λi=>(tK k,o++(k.marks.take i).map (λm=>Cl D0 m.mf m.mn m.mu),(i:Int),())) k.marks.length ?_ ?_)
 .simp
 .intro i hi;have hm:=OW<|SN hf.m hi;have h1:=Gv (n:=(mA k.marks i).mf) J J;have h2:=Gv (n:=(mA k.marks i).mn) J J;have h3:=Gv (n:=(mA k.marks i).mu) J J;unfold cG;simp only[IJ hi,A5,AP hi,F4,FY (n:=(mA k.marks i).mf) J J,FY (n:=(mA k.marks i).mn) J J,FY (n:=(mA k.marks i).mu) J J,A9];rw[A8<|Aa (by simp[Bu,BQ];omega),A8<|Aa (by simp[Bu,BQ];omega),A8<|Aa (by simp[Bu,BQ];omega),A8<|Aa (by simp[Bu,BQ];omega),A8<|Aa (by simp[Bu,BQ];omega)];rw[A8<|Fa (by simp;omega)<|by simp,aaD _ hi,DZ hi J,Bw];rfl
 .unfold cG;simp only[Gl,A7,Dw]
def apy(o:List A4)(ho:o.length<=200):
  ae (tK k,o,0,())=I (.inr (tK k,o++k.held.map Mu,())):=by
 have hl:=hf.hl;refine Jw (congrArg _ ?_) (C2 (λi=>(tK k,o++(k.held.take i).map Mu,(i:Int),())) k.held.length ?_ ?_)
 .simp
 .intro i hi;have hm:=Gj hf.h hi;have hz:=ZO hm;unfold cV;simp only[IJ hi,A5,AP hi,Cc,VB<|QJ hm,nw hm,A9];rw[A8<|Aa (by rw[BQ];simp;omega),A8<|Fa (by simp;omega)<|by simp,YD _ hi,DZ hi J,Bw];rfl
 .unfold cV;simp only[Gl,A7,Dw]
def aqP(o:List A4)(ho:o.length<=200):
  ab (tK k,o,0,())=I (.inr (o++k.inbox.map Mk,())):=by
 have il:=hf.il;refine Jw (congrArg _ ?_) (C2 (λi=>(tK k,o++(k.inbox.take i).map Mk,(i:Int),())) k.inbox.length ?_ ?_)
 .simp
 .intro i hi;have hm:=Gj hf.i hi;have hz:=ZO hm;unfold cU;simp only[IJ hi,A5,AP hi,Cc,VB<|QJ hm,nw hm,A9];rw[A8<|Aa (by rw[BQ];simp;omega),A8<|Fa (by simp;omega)<|by simp,YD _ hi,DZ hi J,Bw];rfl
 .unfold cU;simp only[Gl,A7,Dw]
def QE:DR k.held k.marks k.inbox:=by
 have hl:=hf.hl;have ml:=hf.ml;have il:=hf.il;refine⟨J,λx hx=> ?_,J,J,λx hx=> ?_⟩
 .obtain⟨i,hi,rfl⟩:=DG hx;have:=Gj hf.h hi;rw[Dh<|Av hi]at this;exact QJ this
 .obtain⟨i,hi,rfl⟩:=DG hx;have:=Gj hf.i hi;rw[Dh<|Av hi]at this;exact QJ this
def ao6:(AM (ao (tK k,(if 0<k.ti then [FO k.ti] else [])++(if 1<k.nx then [KX k.nx] else []),k.marks,(k.marks.length:Int),0,()))
  (λ_=>U)
  (λy34=>(AM (an (y34.1,y34.2.1,y34.1.2.2.2.1,(y34.1.2.2.2.1.length:Int),0,()))
  (λ_=>U)
  (λy72=>(AM (al (y72.2.1,y72.1.2.2.2.2.2.1,(y72.1.2.2.2.2.2.1.length:Int),0,()))
  (λ_=>U)
  (λnt=>(RM nt).bind λnp=>
  I (np.1,())))))))=I ((C4 k,()),()):=by
 have hl:=hf.hl;have ml:=hf.ml;have il:=hf.il;have ho:((if 0<k.ti then [FO k.ti] else [])++(if 1<k.nx then [KX k.nx] else [])).length<=2:=by
  rw[Ar];split<;>split<;>simp
 rw[aqe hf _ J];simp only[AM,A9];rw[arA hf _ (by rw[Ar,E5];omega)];simp only[A9];rw[ar9 hf _ (by rw[Ar,Ar,E5,E5];omega)];simp only[A9];rw[p8 (by rw[Ar,Ar,Ar,E5,E5,E5];omega)];rfl
def ao9:(AM (af (tK k,(if 0<k.ti then [FO k.ti] else [])++(if 1<k.nx then [KX k.nx] else []),0,()))
  (λ_=>U)
  (λy46=>(AM (ae (y46.1,y46.2.1,0,()))
  (λ_=>U)
  (λy54=>(AM (ab (y54.1,y54.2.1,0,()))
  (λ_=>U)
  (λy62=>I (y62,())))))))=I ((C4 k,()),()):=by
 have hl:=hf.hl;have ml:=hf.ml;have il:=hf.il;have ho:((if 0<k.ti then [FO k.ti] else [])++(if 1<k.nx then [KX k.nx] else [])).length<=2:=by
  rw[Ar];split<;>split<;>simp
 rw[apz hf _ J];simp only[AM,A9];rw[apy hf _ (by rw[Ar,E5];omega)];simp only[A9];rw[aqP hf _ (by rw[Ar,Ar,E5,E5];omega)];rfl
end
def wa{k:AG}(sm:DR k.held k.marks k.inbox):VW (tK k,())=I ((if Aw k then C4 k else [],()),()):=by
 unfold VW;rw[gx sm];simp only[A9];rcases tf (Aw k) with e|e
 .have hf:=CY e;have t0:=hf.t0;have t1:=hf.t1;have n0:=hf.n0;have n1:=hf.n1;have e2:Aw ⟨k.id,k.ti,k.nx,k.held,k.marks,k.inbox⟩=A0:=e;have d1:=Gv t0 J;have d2:=Gv (n:=k.nx) J J;have fin:=ao6 hf;simp only[e,e2,AB,A7,A5,J3 (n:=k.ti) J J,J3 (n:=k.nx) J J,A9];have h5:A1 ((B [116,105,109,101,32]).size+(BW k.ti).size<=4611686018427387904)=A0:=Aa (by rw[BQ];simp;omega);have h6:A1 ((B [110,101,120,116,32]).size+(BW k.nx).size<=4611686018427387904)=A0:=Aa (by rw[BQ];simp;omega);have q1:∀a:A4,Ac ([a]:List A4).length=A0:=λ_=>rfl;have q2:∀a b:A4,Ac (([a]:List A4).length+([b]:List A4).length)=A0:=λ_ _=>rfl;have q3:∀b:A4,Ac (([]:List A4).length+([b]:List A4).length)=A0:=λ_=>rfl;have q4:∀a b:A4,Ac ((([]:List A4)++[a]).length+([b]:List A4).length)=A0:=λ_ _=>rfl;by_cases h1:0<k.ti<;>by_cases h2:1<k.nx<;>simp only[h1,h2,AU,Ae,A5,A7,if_false]at fin ⊢ <;>simp only[Be,h2,AU,Ae,A5,A7,h5,h6,q1,q2,q3,q4,J3 (n:=k.nx) J J,FY (n:=k.nx) J J,A9]<;>exact fin
 .have e2:Aw ⟨k.id,k.ti,k.nx,k.held,k.marks,k.inbox⟩=A3:=e;simp only[e,e2,AI,A7,A5]
def wz{k:AG}(sm:DR k.held k.marks k.inbox):VJ (tK k,())=I ((if Aw k then C4 k else [],()),()):=by
 unfold VJ;rw[gb sm];simp only[A9];rcases tf (Aw k) with e|e
 .have hf:=CY e;have t0:=hf.t0;have t1:=hf.t1;have n0:=hf.n0;have n1:=hf.n1;have e2:Aw ⟨k.id,k.ti,k.nx,k.held,k.marks,k.inbox⟩=A0:=e;have d1:=Gv t0 J;have d2:=Gv (n:=k.nx) J J;have fin:=ao9 hf;simp only[e,e2,AB,A7,A5,FY (n:=k.ti) J J,FY (n:=k.nx) J J,A9];have h5:A1 ((B [116,105,109,101,32]).size+(BW k.ti).size<=4611686018427387904)=A0:=Aa (by rw[BQ];simp;omega);have h6:A1 ((B [110,101,120,116,32]).size+(BW k.nx).size<=4611686018427387904)=A0:=Aa (by rw[BQ];simp;omega);have q1:∀a:A4,Ac ([a]:List A4).length=A0:=λ_=>rfl;have q2:∀a b:A4,Ac (([a]:List A4).length+([b]:List A4).length)=A0:=λ_ _=>rfl;have q3:∀b:A4,Ac (([]:List A4).length+([b]:List A4).length)=A0:=λ_=>rfl;have q4:∀a b:A4,Ac ((([]:List A4)++[a]).length+([b]:List A4).length)=A0:=λ_ _=>rfl;by_cases h1:0<k.ti<;>by_cases h2:1<k.nx<;>simp only[h1,h2,AU,Ae,A5,A7,if_false]at fin ⊢ <;>simp only[Be,h2,AU,Ae,A5,A7,h5,h6,q1,q2,q3,q4,J3 (n:=k.nx) J J,FY (n:=k.nx) J J,A9]<;>exact fin
 .have e2:Aw ⟨k.id,k.ti,k.nx,k.held,k.marks,k.inbox⟩=A3:=e;simp only[e,e2,AI,A7,A5]
end Go.VS
namespace Go.VS
open Go
def aaf{l:List AT}{m:AT}(h:m∈l):∃i,i<l.length/\xA l i=m:=by
 obtain⟨i,hi,rfl⟩:=l5.1 h;exact⟨i,hi,by rw[xA,B9,Av hi];rfl⟩
def Ys{l:List AH}{m:AH}(h:m∈l):∃i,i<l.length/\hA l i=m:=by
 obtain⟨i,hi,rfl⟩:=l5.1 h;exact⟨i,hi,by rw[hA,B9,Av hi];rfl⟩
def avY{h:AH}(ok:Fh h=A0):Of h:=by
 unfold Fh at ok;simp only[AE]at ok;have h1:=BX ok.2.2.2.2.2.1;have h2:=CS.1 ok.2.2.2.2.2.2;refine⟨J,λm hm=> ?_⟩;obtain⟨i,hi,rfl⟩:=aaf hm;have:=h2 i hi;unfold I3 at this;simp only[AE]at this;have:=BX this.1.2;show(xA h.got i).da.size<=1048576;omega
def Cz{k:AA}(h:Ah k=A0):FN k:=by
 have hf:=EC h;have hr:=S9 hf.sh;have hl:=hf.hl;refine⟨J,J,λx hx=> ?_⟩;obtain⟨i,hi,rfl⟩:=Ys hx;have:=hf.hv i hi;unfold Fq at this;rw[AE]at this;exact avY this.1
def ag0{l:List AH}(hl:l.length<=1048576):pz (l,())=I ((l,()),()):=Lf hl
def afF{l:List AT}(hl:l.length<=1048576):pW (l,())=I ((l,()),()):=Lf hl
def Ls(l:List AH)(i:Nat): @rd AH (dfl .half) l (i:Int)=hA l i:=rfl
def I2{l:List AH}{i:Nat}(h:i<l.length):hA l i=l[i]:=by
 rw[hA,B9,Av h];rfl
def KI{k:AA}(sm:FN k):He (tKp k,())=I ((tKp k,()),()):=by
 obtain⟨id,up,lg,fo,hv⟩:=k;obtain⟨sl,hl,hs⟩:=sm;simp only at sl hl hs;unfold He;simp only[ag0 hl,A9];have h:oq ((0,A3,noB,0,[],()),(id,up,lg,fo,hv,()),(hv.length:Int),0,())=I (.inr ((0,A3,noB,0,[],()),(id,up,lg,fo,hv,()),())):=by
  refine C2 (λi=>((0,A3,noB,0,[],()),(id,up,lg,fo,hv,()),(hv.length:Int),(i:Int),())) hv.length ?_ ?_
  .intro i hi;unfold bK;have hg:(hA hv i).got.length<=1048576:=by rw[I2 hi];exact(hs _<|CJ hi).1
   simp only[IJ hi,A5,AP hi,Ls,afF hg,A9,Bb];rw[DZ hi hl,show(⟨(hA hv i).fr,(hA hv i).nu,(hA hv i).to,(hA hv i).un,(hA hv i).sz,(hA hv i).got⟩:AH)=hA hv i from rfl,I2 hi,List.set_getElem_self]
  .unfold bK;simp only[Gl,A7]
 rw[h];rfl
def MS{k:AA}(sm:FN k):Gh (tKp k,())=I ((tKp k,()),()):=by
 obtain⟨id,up,lg,fo,hv⟩:=k;obtain⟨sl,hl,hs⟩:=sm;simp only at sl hl hs;unfold Gh;have h:pf ((id,up,lg,fo,hv,()),(0,A3,noB,0,[],()),[],0,())=I (.inr ((id,up,lg,fo,hv,()),(0,A3,noB,0,[],()),hv,())):=by
  refine C2 (λi=>((id,up,lg,fo,hv,()),(0,A3,noB,0,[],()),hv.take i,(i:Int),())) hv.length ?_ ?_
  .intro i hi;unfold dU;have hg:(hA hv i).got.length<=1048576:=by rw[I2 hi];exact(hs _<|CJ hi).1
   have e1:Ac (([]:List AT).length+(hA hv i).got.length)=A0:=Fa (by simp) hg;have e2:∀h:AH,Ac ((hv.take i).length+([h]:List AH).length)=A0:=λh=>Fa (by simp;omega) (by simp);simp only[IJ hi,A5,AP hi,Ls,EM,e1,e2];rw[DZ hi hl,Mh hi,← I2 hi]
  .unfold dU;simp only[Gl,A7,Dw]
 rw[h];rfl
structure Hj (k:AA) (st:AG):Prop where
 sh:D9 k.log k.fo=A0
 st:DK k.id k.log=I st
def D7.LB{k:AA}{st:AG}(h:D7 k st):Hj k st:=⟨(EC h.ok).sh,h.st⟩
def Hj.kok{k:AA}{st:AG}(h:Hj k st):Aw st=A0:=SJ h.st
def Hj.sz{k:AA}{st:AG}(h:Hj k st):k.log.size<=1048576:=by have:=S9 h.sh;omega
def Hj.stT{k:AA}{st:AG}(h:Hj k st):Go.VS.stT k=st:=by
 unfold Go.VS.stT;rw[h.st];rfl
def Q3{k:AG}(hk:Aw k=A0):(Cy<|C4 k).size<=800:=by
 have:=(WI hk).2;unfold Cy;rw[BQ];exact this
def Xj{k:AG}(hk:Aw k=A0):(C4 k).length<=1048576:=by
 have hf:=CY hk;have h1:=hf.hl;have h2:=hf.ml;have h3:=hf.il;unfold C4;simp only[Ar,E5];have a2:(if 0<k.ti then [FO k.ti] else []).length<=1:=by split<;>simp
 have b2:(if 1<k.nx then [KX k.nx] else []).length<=1:=by split<;>simp
 omega
def Su{k:AA}{st o:AG}{r:A4}(h:Hj k st)(hr:BO st r=I o):
  D9 (Cs st k.log k.fo r).1 (Cs st k.log k.fo r).2=A0/\
  (JE k.log k.fo r=(Cs st k.log k.fo r,A0)\/
   (JE k.log k.fo r=((k.log,k.fo),A3)/\JC k.log k.fo (C4 st)=((Cy<|C4 st,((Cy<|C4 st).size:Int)),A0)/\
    JE (Cy<|C4 st) ((Cy<|C4 st).size:Int) r=(Cs st k.log k.fo r,A0))):=by
 have hz:=kZ h.kok hr;have hrk:rOk r=A0:=Af.2 J;have hrs:=WI h.kok;have hps:=Q3 h.kok;have hpo:=(QI h.kok).nf;have hst:=Mi hz.2;obtain⟨rs,ts,hl⟩:=abA h.sh;obtain⟨rs',ts',hl',_⟩:=aEp (id:=k.id) (k:=st) hl (by rw[← hl.state];exact h.st) hr;refine⟨hl'.nf, ?_⟩;unfold Cs JE;rw[A8 h.sh,hrk,AW];by_cases hc:k.log.size+(Cq r).size<=2400
 .rw[A8 hc,A8<|Aa hc];exact .inl rfl
 .rw[AD hc,AD (by rw[BR hc];exact Cg)];refine .inr ⟨rfl, ?_, ?_⟩
  .unfold JC;rw[A8 h.sh,A8];rw[AE];refine⟨?_,Aa J⟩;unfold FR;rw[C0];exact λx hx=>by
    have:=hrs.1 x hx;exact Af.2 J
  .rw[A8 hpo,AW,A8<|Aa J]
def wrR(k:AA)(r:A4)(f:Bool):AA×Bool:=
 match BO (stT k) r with
 | none=>(k,A3)
 | some _=>(if f then foM (wrM k r) else wrM k r,A0)
def aC8{k:AG}{r:A4}:(F8 k r).2=(BO k r).isSome:=by
 unfold BO;rcases tf (F8 k r).2 with e|e<;>rw[e]<;>rfl
def aoF{k:AG}(hk:Aw k=A0){r:A4}(hr:r.size<=1048576):Ry (tK k,r,())=I ((tK (F8 k r).1,(F8 k r).2,()),()):=yq (QE<|CY hk) hr
def ang{k:AG}(hk:Aw k=A0){r:A4}(hr:r.size<=1048576):S5 (tK k,r,())=I ((tK (F8 k r).1,(F8 k r).2,()),()):=ym (QE<|CY hk) hr
def awE{k:AA}{st o:AG}{r:A4}(h:Hj k st)(hr:BO st r=I o):Jr (Cs st k.log k.fo r).1 (Cs st k.log k.fo r).2=((Cs st k.log k.fo r).1,((Cs st k.log k.fo r).1.size:Int)):=by
 unfold Jr;rw[A8 (Su h hr).1]
def VL{k:AA}{st:AG}(h:Hj k st){r:A4}(hr:r.size<=1048576)(f:Bool):KE (tKp k,r,f,())=I ((tKp (wrR k r f).1,(wrR k r f).2,()),()):=by
 have hs:=h.sz;have hk:=h.kok;have hsm:=QE<|CY hk;have hrl:=Xj hk;have hpz:=Q3 hk;unfold KE wrR;rw[h.stT];rw[show G0 (tKp k,())=I ((tK<|(DK k.id k.log).getD zK,(DK k.id k.log).isSome,()),()) from jF hs];rw[h.st];simp only[A9,DO,aoF hk hr,aC8];cases hc:BO st r with
 | none=>rfl
 | some o=>
  have hL:=awE h hc;have hwr:wrM k r=⟨k.id,k.up,(Cs st k.log k.fo r).1,(Cs st k.log k.fo r).2,k.AN⟩:=by unfold wrM;rw[h.stT]
  have hsz:(Cs st k.log k.fo r).1.size<=1048576:=by have:=S9 (Su h hc).1;omega
  have hF:=qa (lg:=(Cs st k.log k.fo r).1) (fo:=(Cs st k.log k.fo r).2) hsz;rw[hL]at hF;simp only[DY,AB,A7,wu hs hr,A9];have fin:BS (X:=Bool×(Int×Bool×A4×Int×List AH×A2)×(Int×Bool×A4×Int×List AH×A2)×(A4×Int×A2)×Bool×A2) (λj7=>
    (if(!j7.2.2.2.2.1) then
    I ((j7.2.1,A3,()),())
    else
    (if j7.1 then
    (PW (j7.2.2.2.1,())).bind λr12=>
    I (((j7.2.1.1,j7.2.1.2.1,r12.1.1.1,r12.1.1.2.1,j7.2.1.2.2.2.2),A0,()),())
    else
    I (((j7.2.1.1,j7.2.1.2.1,j7.2.2.2.1.1,j7.2.2.2.1.2.1,j7.2.1.2.2.2.2),A0,()),())))) (I<|.inr (f,tKp k,(0,A3,noB,0,[],()),((Cs st k.log k.fo r).1,(Cs st k.log k.fo r).2,()),A0,()))=
    I ((tKp<|if f then foM (wrM k r) else wrM k r,A0,()),()):=by
   rw[Be,hwr];cases f
   .rfl
   .simp only[AB,A7,A5,hF,A9];rfl
  rcases(Su h hc).2 with ha|⟨ha,hb,hd⟩
  .rw[ha];simp only[AB,A7];exact fin
  .rw[ha];simp only[AI,A5,wz hsm,hk,A9];rw[show RZ ((k.log,k.fo,()),C4 st,())=_ from uk hs hrl,hb];simp only[A9];rw[show Rj ((Cy<|C4 st,((Cy<|C4 st).size:Int),()),r,())=_ from wu J hr,hd];simp only[A9];exact fin
def WT{k:AA}{st:AG}(h:Hj k st){r:A4}(hr:r.size<=1048576):OE (tKp k,r,())=I ((tKp (wrR k r A3).1,(wrR k r A3).2,()),()):=by
 have hs:=h.sz;have hk:=h.kok;have hsm:=QE<|CY hk;have hrl:=Xj hk;have hpz:=Q3 hk;unfold OE wrR;rw[h.stT];simp only[Rk hs,h.st,A9,DO,ang hk hr,aC8];cases hc:BO st r with
 | none=>rfl
 | some o=>
  have hwr:wrM k r=⟨k.id,k.up,(Cs st k.log k.fo r).1,(Cs st k.log k.fo r).2,k.AN⟩:=by unfold wrM;rw[h.stT]
  simp only[DY,AB,A7,wX hs hr,A9];rcases(Su h hc).2 with ha|⟨ha,hb,hd⟩
  .rw[ha];simp only[AB,A7,Be,hwr]
  .rw[ha];simp only[AI,A5,wa hsm,hk,A9];rw[show RY ((k.log,k.fo,()),C4 st,())=_ from vi hs hrl,hb];simp only[A9,AB,A7];rw[show Rh ((Cy<|C4 st,((Cy<|C4 st).size:Int),()),r,())=_ from wX J hr,hd];simp only[A9,Be,AB,A7,hwr]
def fI{k:AA}(h:D9 k.log k.fo=A0):O9 (tKp k,())=I ((tKp<|foM k,()),()):=by
 have hs:k.log.size<=1048576:=by have:=S9 h;omega
 unfold O9;simp only[ahn hs,A9];unfold Jr;rw[A8 h];rfl
def aag{k:AA}{st o:AG}{r:A4}(h:Hj k st)(hr:BO st r=I o):D9 (wrM k r).log (wrM k r).fo=A0:=by
 have:=(Su h hr).1;unfold wrM;rw[h.stT];exact this
def eG{k:AA}{st:AG}(h:D7 k st){r:A4}(hr:r.size<=1048576):O3 (tKp k,r,())=I ((tKp (wrR k r A0).1,(wrR k r A0).2,()),()):=by
 have hl:=h.LB;unfold O3;simp only[WT hl hr,A9];unfold wrR;rw[hl.stT];cases hc:BO st r with
 | none=>
  simp only[AI,A5,KI<|Cz h.ok,A9]
 | some o=>
  simp only[AB,A7,A5];rw[fI<|aag hl hc];simp only[A9];have hsm:FN (foM<|wrM k r):=Cz (QQ<|TI h hc).ok;rw[show He (tKp<|foM<|wrM k r,())=_ from KI hsm];rfl
abbrev zKp:AA:=⟨0,A3,noB,0,[]⟩
abbrev zN:A6:=⟨0,0,0,0,noB⟩
abbrev tN(n:A6):Int×Int×Int×Int×A4×A2:=(n.fr,n.nu,n.to,n.un,n.tx,())
def Q9{k:AA}(h:Ah k=A0):k.log.size<=1048576:=(Cz h).1
def OG{k:AA}(h:Ah k=A0):G0 (tKp k,())=I ((tK<|stT k,A0,()),()):=by
 have:=jF (id:=k.id) (fo:=k.fo) (up:=k.up) (hv:=k.AN)<|Q9 h;rw[(EC h).st]at this;exact this
def Il{k:AA}(h:Ah k=A0):H5 (tKp k,())=I ((tK<|stT k,()),()):=by
 unfold H5;rw[KG<|Cz h];simp only[A9,h,AB,A7];rw[show JX (k.id,k.log,())=_ from Rk<|Q9 h,(EC h).st];rfl
def ZD{w:A4}{n:A6}(hw:w.size<=10)(hn:B4 n=A0):(w++wr n).size<=1048576:=by
 have:=Qk hn;rw[Bu];omega
def FA(k:AA):AA×Bool:=if k.up then wrR k (FO<|(stT k).ti+1) A0 else(k,A3)
def arp{st:AG}(hk:Aw st=A0)(h:999<=st.ti):BO st (FO<|st.ti+1)=U:=by
 have hf:=CY hk;have h1:=hf.t1;cases hc:BO st (FO<|st.ti+1) with
 | none=>rfl
 | some o=>
  exfalso;obtain⟨a,b⟩:=(IK hk).1 hc;rw[IQ jn<|XF _]at a;have c:=jH (k:=st) (t:=st.ti+1) (by have:=hf.t0;omega) J J;rw[show B [116,105,109,101]=ES from rfl,c]at a;injection a with a;have:=(CY b).t1;rw[← a]at this;simp only at this;omega
def aAs{t:Int}(h0:0<=t)(h1:t<=1000):(FO t).size<=100:=by
 unfold FO;have:=OX h0 4 J J;rw[Bu,BQ];simp;omega
def ahF{k:AA}(h:Ah k=A0):Ul (tKp k,())=I ((tKp (FA k).1,(FA k).2,()),()):=by
 have hk:=CI h;have hf:=CY hk.kok;have t0:=hf.t0;have t1:=hf.t1;have hz:=aAs (t:=(stT k).ti+1) J J;have hd:=OX (n:=(stT k).ti+1) J 4 J J;unfold Ul FA;rw[LS<|Cz h];simp only[A9,h,AB,A7,OG h,MS<|Cz h];rcases tf k.up with e|e
 .simp only[e,AB,Bi,A5];rw[AZ J J,FY J J];simp only[A9];by_cases hc:999<=(stT k).ti
  .rw[A8<|Aa hc];unfold wrR;rw[arp hk.kok hc]
  .rw[AD (by rw[BR hc];exact Cg),A8<|Aa (by rw[BQ];simp;omega)];rw[show KE (tKp k,B [116,105,109,101,32]++BW ((stT k).ti+1),A0,())=_ from VL hk.LB (r:=FO<|(stT k).ti+1) J A0];rfl
 .simp only[e,AI,Bo,A5,A7]
def ahq{k:AA}(h:Ah k=A0):Uv (tKp k,())=I ((tKp (FA k).1,(FA k).2,()),()):=by
 have hk:=CI h;have hf:=CY hk.kok;have t0:=hf.t0;have t1:=hf.t1;have hz:=aAs (t:=(stT k).ti+1) J J;have hd:=OX (n:=(stT k).ti+1) J 4 J J;unfold Uv FA;rw[KG<|Cz h];simp only[A9,h,AB,A7,Il h,KI<|Cz h];rcases tf k.up with e|e
 .simp only[e,AB,A7,A5];rw[AZ J J,J3 J J];simp only[A9];rw[A8<|Aa (by rw[BQ];simp;omega)];rw[show O3 (tKp k,B [116,105,109,101,32]++BW ((stT k).ti+1),())=_ from eG hk (r:=FO<|(stT k).ti+1) J];rfl
 .simp only[e,AI,A5,A7]
def Kb(n:A6):A4:=B [111,119,110,32]++wr n
def Dl(k:AA)(tt un:Int)(tx:A4):AA×Int:=
 if k.up&&B4 ⟨k.id,(stT k).nx,tt,un,tx⟩ then
  ((wrR k (Kb ⟨k.id,(stT k).nx,tt,un,tx⟩) A0).1,if(wrR k (Kb ⟨k.id,(stT k).nx,tt,un,tx⟩) A0).2 then(stT k).nx else 0)
 else(k,0)
def mg{n:A6}:wr n≠noB:=by
 intro h;have h1:(wr n).size=0:=by rw[h];rfl
 unfold wr at h1;simp only[Bu,BQ,Bt,CA]at h1;omega
def aBB:DA (B [])=U:=by
 unfold DA;split
 .rename_i h;obtain⟨n,_,h⟩:=h;exact absurd h mg
 .rfl
def aDn:CZ [111,119,110]:=by unfold CZ;decide
def aCf:CZ [116,97,107,101]:=by unfold CZ;decide
def aB9{st:AG}{w:List UInt8}(hk:Aw st=A0)(hw:CZ w)(h:B w=Dd\/B w=EG):BO st (B (w++[32])++noB)=U:=by
 cases hc:BO st (B (w++[32])++noB) with
 | none=>rfl
 | some o=>
  exfalso;obtain⟨a,_⟩:=(IK hk).1 hc;rw[IQ (w:=w) (r:=[]) hw (by rw[G7,L_B];simp[L,noB])]at a;have h2:∀v,v=Dd\/v=EG->Bd st v (B [])=U:=by
   rintro v (rfl|rfl)
   .unfold Bd;rw[AD<|by decide,A8<|by decide,aBB]
   .unfold Bd;rw[AD<|by decide,A8<|by decide,aBB]
  rw[h2 _ h]at a;cases a
def aD1{k:AA}{r:A4}{f:Bool}(h:BO (stT k) r=U):wrR k r f=(k,A3):=by
 unfold wrR;rw[h]
def QC{k:AA}{r:A4}{f:Bool}(h:(wrR k r f).2=A3):(wrR k r f).1=k:=by
 unfold wrR at h ⊢;split at h
 .rfl
 .cases h
def aiu{k:AA}(h:Ah k=A0)(tt un:Int){tx:A4}(ht:tx.size<=1048576):VC (tKp k,tt,un,tx,())=I ((tKp (Dl k tt un tx).1,(Dl k tt un tx).2,()),()):=by
 have hk:=CI h;unfold VC Dl;rw[LS<|Cz h];simp only[A9,h,AB,A7,OG h,MS<|Cz h,VB ht];rcases tf k.up with e|e
 .rcases tf (B4 ⟨k.id,(stT k).nx,tt,un,tx⟩) with e2|e2
  .have hz:=ZD (w:=B [111,119,110,32]) (by rw[BQ];decide) e2;simp only[e,e2,AB,Bi,Du,A5];rw[AD (by rw[BR mg];exact Cg),A8<|Aa (by rw[Bu]at hz;omega)];rw[show KE (tKp k,B [111,119,110,32]++wr ⟨k.id,(stT k).nx,tt,un,tx⟩,A0,())=_ from VL hk.LB (r:=Kb ⟨k.id,(stT k).nx,tt,un,tx⟩) hz A0];simp only[A9];rcases tf (wrR k (Kb ⟨k.id,(stT k).nx,tt,un,tx⟩) A0).2 with e3|e3
   .simp only[e3,AB,A7,A5]
   .simp only[e3,AI,A7,A5,QC e3]
  .simp only[e,e2,AB,Bi,Bc,A7,AU,A5]
 .simp only[e,AI,Bo,AO,A5,A7]
def aiY{k:AA}(h:Ah k=A0)(tt un:Int){tx:A4}(ht:tx.size<=1048576):V4 (tKp k,tt,un,tx,())=I ((tKp (Dl k tt un tx).1,(Dl k tt un tx).2,()),()):=by
 have hk:=CI h;unfold V4 Dl;rw[KG<|Cz h];simp only[A9,h,AB,A7,Il h,KI<|Cz h,V3 ht];rcases tf k.up with e|e
 .rcases tf (B4 ⟨k.id,(stT k).nx,tt,un,tx⟩) with e2|e2
  .have hz:=ZD (w:=B [111,119,110,32]) (by rw[BQ];decide) e2;simp only[e,e2,AB,A7,Du,A5];rw[A8<|Aa (by rw[Bu]at hz;omega)];rw[show O3 (tKp k,B [111,119,110,32]++wr ⟨k.id,(stT k).nx,tt,un,tx⟩,())=_ from eG hk (r:=Kb ⟨k.id,(stT k).nx,tt,un,tx⟩) hz];simp only[A9];rcases tf (wrR k (Kb ⟨k.id,(stT k).nx,tt,un,tx⟩) A0).2 with e3|e3
   .simp only[e3,AB,A7,A5]
   .simp only[e3,AI,A7,A5]
  .simp only[e,e2,AB,A7,Bc];have hb:BO (stT k) (B [111,119,110,32]++noB)=U:=aB9 hk.kok aDn<|.inl rfl;have hz0:(B [111,119,110,32]++noB).size<=1048576:=by rw[Bu,BQ];show 4+0<=1048576;omega
   have hl:=eG hk (r:=B [111,119,110,32]++noB) hz0;rw[aD1 hb]at hl;rw[A8<|Aa (show(B [111,119,110,32]).size+noB.size<=4611686018427387904 by rw[BQ];show 4+0<=4611686018427387904;omega),hl];rfl
 .simp only[e,AI,AO,A5,A7]
def DV(k:AA)(fr nu:Int):AA×A6×Bool:=
 if k.up&& !decide (AY (stT k).inbox fr nu<0) then
  ((wrR k (Cl CF fr nu (nA (stT k).inbox (AY (stT k).inbox fr nu).toNat).un) A0).1,
   (if(wrR k (Cl CF fr nu (nA (stT k).inbox (AY (stT k).inbox fr nu).toNat).un) A0).2 then nA (stT k).inbox (AY (stT k).inbox fr nu).toNat else zN),
   (wrR k (Cl CF fr nu (nA (stT k).inbox (AY (stT k).inbox fr nu).toNat).un) A0).2)
 else(k,zN,A3)
def Qr(l:List A6)(i:Int): @rd A6 (dfl .note) l i=nA l i.toNat:=rfl
def jT{n:A6}(h:B4 n=A0):(0<=n.fr/\n.fr<=999)/\(0<=n.nu/\n.nu<=999)/\(0<=n.un/\n.un<=999)/\isN n.fr=A0/\isN n.to=A0/\inB n.nu 1 99=A0/\inB n.un 1 999=A0/\n.tx.size<=24/\1<=n.tx.size:=by
 unfold B4 at h;simp only[AE]at h;obtain⟨a,b,c,d,e⟩:=h;have a1:=Af.1 a;have c1:=Af.1 c;have d1:=Af.1 d;unfold MD at e;rw[AE]at e;have e1:=Af.1 e.1;exact⟨J,J,J,a,b,c,d,J,J⟩
def Ww{w:A4}{a b c:Int}(hw:w.size<=10)(ha:0<=a/\a<=999)(hb:0<=b/\b<=999)(hc:0<=c/\c<=999):(Cl w a b c).size<=100:=by
 have h1:=Gv ha.1 ha.2;have h2:=Gv hb.1 hb.2;have h3:=Gv hc.1 hc.2;unfold Cl;simp only[Bu,BQ,Bt,CA];omega
def zt{a b c:Int}(ha:0<=a/\a<=999)(hb:0<=b/\b<=999)(hc:0<=c/\c<=999):VM (a,b,c,())=I ((((((BW a++B [32])++BW b)++B [32])++BW c),()),()):=by
 have h1:=Gv ha.1 ha.2;have h2:=Gv hb.1 hb.2;have h3:=Gv hc.1 hc.2;unfold VM;simp only[FY (n:=a) J J,FY (n:=b) J J,FY (n:=c) J J,A9];rw[A8<|Aa (by simp only[Bu,BQ,Bt,CA];omega),A8<|Aa (by simp only[Bu,BQ,Bt,CA];omega),A8<|Aa (by simp only[Bu,BQ,Bt,CA];omega),A8<|Aa (by simp only[Bu,BQ,Bt,CA];omega)]
def Wj(w:List UInt8)(a b c:Int):B (w++[32])++((((BW a++B [32])++BW b)++B [32])++BW c)=Cl (B w) a b c:=by
 apply Fl;unfold Cl;simp only[G7,L_B,Bw]
def aiw{k:AA}(h:Ah k=A0)(fr nu:Int):VE (tKp k,fr,nu,())=I ((tKp (DV k fr nu).1,tN (DV k fr nu).2.1,(DV k fr nu).2.2,()),()):=by
 have hk:=CI h;have hf:=CY hk.kok;have il:=hf.il;unfold VE DV;rw[LS<|Cz h];simp only[A9,h,AB,A7,OG h,MS<|Cz h,JW (l:=(stT k).inbox)<|show(stT k).inbox.length<=1048576 by omega];rcases tf k.up with e|e
 .by_cases hi:AY (stT k).inbox fr nu<0
  .simp only[e,AB,Bi,Aa hi,A5,Bc,A7]
  .have hi':0<=AY (stT k).inbox fr nu:=J
   obtain⟨i1,i2,i3,i4⟩:=GM hi';have hn:=Gj hf.i i1;obtain⟨r1,r2,r3,_⟩:=jT hn;rw[i3]at r1;rw[i4]at r2;have hz:=Ww (w:=CF) (by decide) r1 r2 r3;have hl:=VL hk.LB (r:=Cl CF fr nu (nA (stT k).inbox (AY (stT k).inbox fr nu).toNat).un) J A0;simp only[e,AB,Bi,BR hi,A7,AI,Du,A5,Mo hi',Qr,zt r1 r2 r3,A9];rw[A8<|Aa (by rw[← Wj [101,97,116]]at hz;rw[Bu]at hz;rw[show(B [101,97,116,32]).size=(B<|[101,97,116]++[32]).size from rfl];omega)];rw[show(B [101,97,116,32])=B ([101,97,116]++[32]) from rfl,Wj [101,97,116],hl];simp only[A9];rcases tf (wrR k (Cl CF fr nu (nA (stT k).inbox (AY (stT k).inbox fr nu).toNat).un) A0).2 with e3|e3
   .simp only[e3,AB,A7,A5]
   .simp only[e3,AI,A7,A5,QC e3]
 .simp only[e,AI,Bo,AO,A5,A7]
def ajT{k:AA}(h:Ah k=A0)(fr nu:Int):V6 (tKp k,fr,nu,())=I ((tKp (DV k fr nu).1,tN (DV k fr nu).2.1,(DV k fr nu).2.2,()),()):=by
 have hk:=CI h;have hf:=CY hk.kok;have il:=hf.il;unfold V6 DV;rw[KG<|Cz h];simp only[A9,h,AB,A7,Il h,KI<|Cz h,Ja (l:=(stT k).inbox)<|show(stT k).inbox.length<=1048576 by omega];rcases tf k.up with e|e
 .by_cases hi:AY (stT k).inbox fr nu<0
  .simp only[e,AB,Bi,Aa hi,A5,Bc,A7]
  .have hi':0<=AY (stT k).inbox fr nu:=J
   obtain⟨i1,i2,i3,i4⟩:=GM hi';have hn:=Gj hf.i i1;obtain⟨r1,r2,r3,_⟩:=jT hn;rw[i3]at r1;rw[i4]at r2;have hz:=Ww (w:=CF) (by decide) r1 r2 r3;have hl:=eG hk (r:=Cl CF fr nu (nA (stT k).inbox (AY (stT k).inbox fr nu).toNat).un) J;simp only[e,AB,Bi,BR hi,A7,AI,Du,A5,Mo hi',Qr,rD (w:=CF) (by decide) r1 r2 r3,A9,hl];rcases tf (wrR k (Cl CF fr nu (nA (stT k).inbox (AY (stT k).inbox fr nu).toNat).un) A0).2 with e3|e3
   .simp only[e3,AB,A7,A5]
   .simp only[e3,AI,A7,A5]
 .simp only[e,AI,Bo,AO,A5,A7]
def Em(k:AA)(fr nu mix:Int):Frame×Bool:=
 if k.up&&(!decide (AY (stT k).held fr nu<0)&&inB mix 0 999) then
  let n:=nA (stT k).held (AY (stT k).held fr nu).toNat
  (⟨1,k.id,Co k.id n.to,n.fr,n.nu,n.to,n.un,n.tx.size,mix,Jo n.tx mix⟩,A0)
 else(zF,A3)
def aiv{k:AA}(sm:FN k)(fr nu mix:Int):VD (tKp k,fr,nu,mix,())=I ((tF (if Ah k then Em k fr nu mix else(zF,A3)).1,(if Ah k then Em k fr nu mix else(zF,A3)).2,()),()):=by
 unfold VD Em;rw[LS sm];rcases tf (Ah k) with h|h
 .have hk:=CI h;have hf:=CY hk.kok;have hl:=hf.hl;rcases tf k.up with e|e
  .simp only[A9,h,e,AB,FU,A7,A5,OG h,JW (l:=(stT k).held)<|show(stT k).held.length<=1048576 by omega,Hl,DY,DO,GK];by_cases hi:AY (stT k).held fr nu<0
   .simp only[Aa hi,Bo,A5,AB,AO,Bc,A7]
   .have hi':0<=AY (stT k).held fr nu:=J
    rcases tf (inB mix 0 999) with e2|e2
    .simp only[BR hi,e2,AB,FU,A7,AI,Du,A5,Mo hi',Qr,rv,alo,A9]
    .simp only[BR hi,e2,AI,Cv,A5,Bc,A7]
  .simp only[A9,h,e,AB,AI,Cv,A5,AO,A7]
 .simp only[A9,h,AI,Bo,A5,A7]
def ajS{k:AA}(sm:FN k)(fr nu mix:Int):V5 (tKp k,fr,nu,mix,())=I ((tF (if Ah k then Em k fr nu mix else(zF,A3)).1,(if Ah k then Em k fr nu mix else(zF,A3)).2,()),()):=by
 unfold V5 Em;rw[KG sm];rcases tf (Ah k) with h|h
 .have hk:=CI h;have hf:=CY hk.kok;have hl:=hf.hl;rcases tf k.up with e|e
  .simp only[A9,h,e,AB,A7,A5,ED];rcases tf (inB mix 0 999) with e2|e2
   .simp only[e2,AB,A7,Il h,Ja (l:=(stT k).held)<|show(stT k).held.length<=1048576 by omega,A9];by_cases hi:AY (stT k).held fr nu<0
    .simp only[Aa hi,A5,AB,AO,Bc,A7]
    .have hi':0<=AY (stT k).held fr nu:=J
     simp only[BR hi,A7,AI,Du,A5,Mo hi',Qr,sA,ami,A9]
   .simp only[e2,AI,A5,Bc,A7]
  .simp only[A9,h,e,AB,AI,A5,AO,A7]
 .simp only[A9,h,AI,A5,A7]
def FB(k:AA):AA×Bool:=if k.up then(pkM k,A0) else(k,A3)
def aaY{k:AA}{st:AG}(h:Hj k st):JC k.log k.fo (C4 st)=((Cy<|C4 st,((Cy<|C4 st).size:Int)),A0):=by
 have hrs:=WI h.kok;have hps:=Q3 h.kok;unfold JC;rw[A8 h.sh,A8];rw[AE];refine⟨?_,Aa J⟩;unfold FR;rw[C0];exact λx hx=>by
  have:=hrs.1 x hx;exact Af.2 J
def ahH{k:AA}(h:Ah k=A0):Un (tKp k,())=I ((tKp (FB k).1,(FB k).2,()),()):=by
 have hk:=CI h;have hsm:=QE<|CY hk.kok;have hP:=uk (lg:=k.log) (fo:=k.fo) (rs:=C4<|stT k) (Q9 h)<|Xj hk.kok;rw[aaY hk.LB]at hP;unfold Un FB;rw[LS<|Cz h];simp only[A9,h,AB,A7,OG h,MS<|Cz h,wz hsm,hk.kok,A5,hP];rcases tf k.up with e|e
 .simp only[e,AB,FU,A7,A5];unfold pkM;simp only[e]
 .simp only[e,AI,Bo,A5,A7]
def ahs{k:AA}(h:Ah k=A0):Ux (tKp k,())=I ((tKp (FB k).1,(FB k).2,()),()):=by
 have hk:=CI h;have hsm:=QE<|CY hk.kok;have hP:=vi (lg:=k.log) (fo:=k.fo) (rs:=C4<|stT k) (Q9 h)<|Xj hk.kok;rw[aaY hk.LB]at hP;unfold Ux FB;rw[KG<|Cz h];simp only[A9,h,AB,A7,KI<|Cz h];rcases tf k.up with e|e
 .simp only[e,AB,A7,A5,Il h,wa hsm,hk.kok,hP,A9];unfold pkM;simp only[e]
 .simp only[e,AI,A5,A7]
def F9(k:AA):AA×Bool:=if k.up&& !decide (k.fo=(k.log.size:Int)) then(foM k,A0) else(k,A3)
def agB{k:AA}(h:Ah k=A0):UY (tKp k,())=I ((tKp (F9 k).1,(F9 k).2,()),()):=by
 have hf:=EC h;have hF:=qa (lg:=k.log) (fo:=k.fo)<|Q9 h;rw[show Jr k.log k.fo=(k.log,(k.log.size:Int)) from A8 hf.sh]at hF;unfold UY F9;rw[LS<|Cz h];simp only[A9,h,AB,A7,MS<|Cz h];rcases tf k.up with e|e<;>rcases tfp (k.fo=(k.log.size:Int)) with e2|e2<;>simp only[e,e2,AU,Ae,AB,AI,Cv,Bo,FU,Du,Bc,AO,A5,A7,hF,A9];unfold foM;simp only[e]
def ag6{k:AA}(h:Ah k=A0):Uh (tKp k,())=I ((tKp (F9 k).1,(F9 k).2,()),()):=by
 have hf:=EC h;unfold Uh F9;rw[KG<|Cz h];simp only[A9,h,AB,A7,KI<|Cz h];rcases tf k.up with e|e<;>rcases tfp (k.fo=(k.log.size:Int)) with e2|e2<;>simp only[e,e2,AU,Ae,AB,AI,Cv,Bo,FU,Du,Bc,AO,A5,A7];rw[show O9 ((tKp k,()))=_ from fI hf.sh];rfl
def aDL{k:AA}(h:Ah k=A0)(keep:Int):(faM k keep)=⟨k.id,A3,(Lt k.log k.fo keep).1,(Lt k.log k.fo keep).2,[]⟩:=by
 unfold faM Lt EV;rw[A8 (EC h).sh]
def ahJ{k:AA}(sm:FN k)(keep:Int):Up (tKp k,keep,())=I ((tKp<|if Ah k then faM k keep else zKp,()),()):=by
 unfold Up;rw[LS sm];rcases tf (Ah k) with h|h
 .simp only[A9,h,AB,A7,A5,ahw sm.1,aDL h]
 .simp only[A9,h,AI,A5,A7]
def aht{k:AA}(sm:FN k)(keep:Int):Uy (tKp k,keep,())=I ((tKp<|if Ah k then faM k keep else zKp,()),()):=by
 unfold Uy;rw[KG sm];rcases tf (Ah k) with h|h
 .simp only[A9,h,AB,A7,A5,aiV sm.1,aDL h]
 .simp only[A9,h,AI,A5,A7]
def aDy{k:AA}(h:Ah k=A0)(hu:k.up=A3):k.AN=[]:=by
 rcases(EC h).up with h1|h1
 .rw[hu]at h1;cases h1
 .exact E6 h1
def ahG{k:AA}(h:Ah k=A0):Um (tKp k,())=I ((tKp<|riM k,()),()):=by
 unfold Um riM;rw[LS<|Cz h];simp only[A9,h,AB,A7];rcases tf k.up with e|e
 .simp only[e,A5,MS<|Cz h,A9];rw[← e]
 .simp only[e,A7,aDy h e]
def ahr{k:AA}(h:Ah k=A0):Uw (tKp k,())=I ((tKp<|riM k,()),()):=by
 unfold Uw riM;rw[KG<|Cz h];simp only[A9,h,AB,A7,KI<|Cz h]
def aap{hv:List AH}{i:Nat}(h:i<hv.length)(x:AH):hA (hv.set i x) i=x:=by
 rw[hA,B9,Yj h];rfl
def alh{l:List AH}{f n:Int}(hl:l.length<=1048576):dr (l,f,n,())=I ((EZ l f n,()),()):=by
 have h:pe (l,f,n,0,())=I (if EZ l f n<0 then .inr () else .inl (EZ l f n,())):=
  Q1 (λi=>(l,f,n,(i:Int),())) l.length (λi=>A1 ((hA l i).fr=f)&&A1 ((hA l i).nu=n)) (λi=>(i,())) () (λi hi=>by
   unfold dT;simp only[IJ hi,AP hi,A5,Ls,GK,DZ hi hl];rcases tfp ((hA l i).fr=f) with e|e<;>rcases tfp ((hA l i).nu=n) with e2|e2<;>simp only[e,e2,AU,Ae,Du,Bc,AO,A5,A7]) (by
   unfold dT;simp only[Gl,A7])
 unfold dr;rw[h];by_cases e':EZ l f n<0
 .have:EZ l f n= -1:=by
   rcases GL l.length (λi=>A1 ((hA l i).fr=f)&&A1 ((hA l i).nu=n)) with h|⟨i,h,_⟩
   .exact h.1
   .have:EZ l f n=(i:Int):=h;omega
  rw[A8 e',this];rfl
 .rw[AD e'];rfl
def SB(l:List AH)(f n:Int):EZ l f n<0\/ ∃i:Nat,EZ l f n=(i:Int)/\i<l.length/\(hA l i).fr=f/\(hA l i).nu=n:=by
 rcases GL l.length (λi=>A1 ((hA l i).fr=f)&&A1 ((hA l i).nu=n)) with h|⟨i,h,h2,h3,_⟩
 .left;have:EZ l f n= -1:=h.1;omega
 .right;rw[AE]at h3;exact⟨i,h,h2,BX h3.1,BX h3.2⟩
def Au(hv:List AH)(f:Frame):List AH×Nat:=
 if EZ hv f.fr f.nu<0 then((if 3<=hv.length then hv.drop 1 else hv)++[⟨f.fr,f.nu,f.to,f.un,f.sz,[]⟩],(if 3<=hv.length then hv.drop 1 else hv).length)
 else(hv,(EZ hv f.fr f.nu).toNat)
def QH{hv:List AH}{f:Frame}:(Au hv f).2<(Au hv f).1.length:=by
 unfold Au;rcases SB hv f.fr f.nu with h|⟨i,h1,h2,_⟩
 .rw[A8 h];simp
 .rw[AD J];show(EZ hv f.fr f.nu).toNat<hv.length;omega
def Si{hv:List AH}{f:Frame}(h:hv.length<=3):(Au hv f).1.length<=3:=by
 unfold Au;split
 .simp only[Ar,JK];split
  .rw[E4];omega
  .omega
 .exact h
def EU(mix:Int)(m:AT):Bool:= !decide (m.nu=mix)
def Dc(got:List AT)(mix:Int)(da:A4):List AT:=
 (if 14<=(got.filter<|EU mix).length then(got.filter<|EU mix).drop 1 else got.filter (EU mix))++[⟨mix,da⟩]
def aCO{p:AT->Bool}(pre:List AT)(m:AT):(pre++[m]).filter p=pre.filter p++if p m then [m] else []:=by
 rw[Yd];congr 1;simp only[Kq,List.filter_nil]
def apF{mix:Int}{da:A4}(post:List AT):∀(pre:List AT),(pre++post).length<=1048576->
  dH ((mix,da,()),pre.filter<|EU mix,pre++post,((pre++post).length:Int),(pre.length:Int),())=I (.inr ((mix,da,()),(pre++post).filter<|EU mix,())):=by
 induction post with
 | nil=>
  intro pre _;refine BP ?_;unfold fe;simp only[CM,Gl,A7]
 | cons m post ih=>
  intro pre hl;have hlen:pre.length<(pre++m::post).length:=by simp
  have hw:=DZ hlen hl;have hf:(pre.filter<|EU mix).length<=pre.length:=Ic _ _;have:=ih (pre++[m]) (by rw[← snoc];exact hl);rw[← snoc]at this;refine B0 ?_ this;unfold fe;simp only[IJ hlen,A5,AP hlen,Lr,hw,aCO,@Ar _ pre [m],JK];rcases tfp (m.nu=mix) with e|e
  .have:EU mix m=A3:=by unfold EU;simp only[e,AU,AB]
   simp only[e,this,AU,AB,A7,CM]
  .have:EU mix m=A0:=by unfold EU;simp only[e,Ae,AI]
   simp only[e,this,Ae,AI,A5];rw[A8<|B8 (by simp at hl ⊢; omega)]
def aps{got:List AT}{mix:Int}{da:A4}(hl:got.length<=1048576):Wb (got,(mix,da,()),())=I ((Dc got mix da,()),()):=by
 have hf:(got.filter<|EU mix).length<=got.length:=Ic _ _;unfold Wb Dc;rw[show dH ((mix,da,()),[],got,(got.length:Int),0,())=_ from apF got [] hl];simp only[AM,A9,EM];by_cases h:14<=(got.filter<|EU mix).length
 .rw[A8<|Aa J,A8 h,A8 (by simp;omega),A8<|Fa (by rw[E4];omega)<|by simp];rfl
 .rw[AD (by rw[BR J];exact Cg),AD h,A8<|Fa J<|by simp]
def apO{k:Int×Bool×A4×Int×List AH×A2}{f:Frame}{z:Int×Bool×A4×Int×List AH×A2}{i:Int}{h:AH}(post:List AT):∀(pre:List AT),h.got=pre++post->(pre++post).length<=1048576->
  bg (k,tF f,z,i,(h.fr,h.nu,h.to,h.un,h.sz,h.got,()),pre.filter<|EU f.mix,(pre.length:Int),())=I (.inr (k,tF f,z,i,(h.fr,h.nu,h.to,h.un,h.sz,h.got,()),h.got.filter<|EU f.mix,())):=by
 induction post with
 | nil=>
  intro pre hg _;rw[CM]at hg;refine BP ?_;unfold dt;simp only[hg,Gl,A7]
 | cons m post ih=>
  intro pre hg hl;have hlen:pre.length<(pre++m::post).length:=by simp
  have hw:=DZ hlen hl;have hf:(pre.filter<|EU f.mix).length<=pre.length:=Ic _ _;have:=ih (pre++[m]) (by rw[hg,snoc]) (by rw[← snoc];exact hl);refine B0 ?_ this;unfold dt;simp only[hg,IJ hlen,A5,AP hlen,Lr,hw,aCO,@Ar _ pre [m],JK];rcases tfp (m.nu=f.mix) with e|e
  .have:EU f.mix m=A3:=by unfold EU;simp only[e,AU,AB]
   simp only[e,this,AU,AB,A7,CM]
  .have:EU f.mix m=A0:=by unfold EU;simp only[e,Ae,AI]
   simp only[e,this,Ae,AI,A5];rw[A8<|B8 (by simp at hl ⊢; omega)]
def FD(hv:List AH)(i:Nat):List AH:=hv.take i++hv.drop (i+1)
def xI{hv:List AH}{i:Nat}(hi:i<hv.length)(hl:hv.length<=1048576):Pl (hv,(i:Int),())=I ((FD hv i,()),()):=by
 unfold Pl FD;simp only[Bb,EM];rw[DZ hi hl,A8 (by simp;omega),A8<|Fa (l:=([]:List AH)) (by simp) (by simp;omega),A8 (by simp;omega),A8<|Fa (by simp;omega) (by simp;omega),Bb]
def DN(hv:List AH)(i:Nat)(f:Frame):List AH:=hv.set i ⟨(hA hv i).fr,(hA hv i).nu,(hA hv i).to,(hA hv i).un,(hA hv i).sz,Dc (hA hv i).got f.mix f.da⟩
def Tq(h:AH)(f:Frame):Bool:=A1 (h.to=f.to)&&(A1 (h.un=f.un)&&A1 (h.sz=f.sz))
def aoC{k:AA}(sm:FN k)(h3:k.AN.length<=3)(f:Frame):
  ey (tKp k,tF f,())=I ((if Tq (hA (Au k.AN f).1 (Au k.AN f).2) f then((k.id,k.up,k.log,k.fo,DN (Au k.AN f).1 (Au k.AN f).2 f,()),((Au k.AN f).2:Int),()) else((k.id,k.up,k.log,k.fo,(Au k.AN f).1,()),-1,()),())):=by
 obtain⟨id,up,lg,fo,hv⟩:=k;obtain⟨sl,hl,hs⟩:=sm;simp only at sl hl hs h3;unfold ey;simp only[alh hl,A9];have Ec:=QH (hv:=hv) (f:=f);have LA:=Si (hv:=hv) (f:=f) h3;have UI:(hA (Au hv f).1 (Au hv f).2).got.length<=1048576:=by
  unfold Au;rcases SB hv f.fr f.nu with h|⟨i,h1,h2,_⟩
  .rw[A8 h];simp only;rw[hA,B9,FG<|As _];simp
  .rw[AD J];show(hA hv (EZ hv f.fr f.nu).toNat).got.length<=1048576;rw[h1,Bb,I2 h2];exact(hs _<|CJ h2).1
 have nY:∀ {Ω:Type} (F:(Int×Bool×A4×Int×List AH×A2)×(Int×Int×Int×Int×Int×Int×Int×Int×Int×A4×A2)×(Int×Bool×A4×Int×List AH×A2)×Int×A2->Option Ω),
   BS F ((if(A1<|EZ hv f.fr f.nu<0) then
    (BS (X:=(Int×Bool×A4×Int×List AH×A2)×(Int×Int×Int×Int×Int×Int×Int×Int×Int×A4×A2)×(Int×Bool×A4×Int×List AH×A2)×A2) (λj7=>
    (if Ac (j7.1.2.2.2.2.1.length+([(AH.mk j7.2.1.2.2.2.1 j7.2.1.2.2.2.2.1 j7.2.1.2.2.2.2.2.1 j7.2.1.2.2.2.2.2.2.1 j7.2.1.2.2.2.2.2.2.2.1 ([]:List AT))]:List AH).length) then
    let v9:=(w64<|((j7.1.2.2.2.2.1++([(AH.mk j7.2.1.2.2.2.1 j7.2.1.2.2.2.2.1 j7.2.1.2.2.2.2.2.1 j7.2.1.2.2.2.2.2.2.1 j7.2.1.2.2.2.2.2.2.2.1 ([]:List AT))]:List AH)).length:Int) - 1)
    I (.inr ((j7.1.1,j7.1.2.1,j7.1.2.2.1,j7.1.2.2.2.1,(j7.1.2.2.2.2.1++([(AH.mk j7.2.1.2.2.2.1 j7.2.1.2.2.2.2.1 j7.2.1.2.2.2.2.2.1 j7.2.1.2.2.2.2.2.2.1 j7.2.1.2.2.2.2.2.2.2.1 ([]:List AT))]:List AH)),()),j7.2.1,j7.2.2.1,v9,()))
    else U))
    ((if(A1<|3<=(hv.length:Int)) then
    (Pl (hv,0,())).bind λr8=>
    I (.inr ((id,up,lg,fo,r8.1),tF f,(0,A3,noB,0,([]:List AH),()),()))
    else
    I (.inr ((id,up,lg,fo,hv,()),tF f,(0,A3,noB,0,([]:List AH),()),())))))
    else
    I (.inr ((id,up,lg,fo,hv,()),tF f,(0,A3,noB,0,([]:List AH),()),(EZ hv f.fr f.nu,())))))=F ((id,up,lg,fo,(Au hv f).1,()),tF f,(0,A3,noB,0,[],()),((Au hv f).2:Int),()):=by
  intro Ω F;unfold Au;rcases SB hv f.fr f.nu with h|⟨i,h1,h2,_⟩
  .rw[A8<|Aa h,A8 h];by_cases h4:3<=hv.length
   .have hd:=xI (hv:=hv) (i:=0) J hl;rw[A8<|Aa J,show Pl (hv,0,())=_ from hd];simp only[A9,Be,A8 h4];rw[show FD hv 0=hv.drop 1 from by simp[FD],A8<|Fa (by simp;omega)<|by simp,Be,AZ (by first|(simp;done)|(simp;omega)) (by first|(simp;done)|(simp;omega))];congr 1;simp
   .rw[AD (by rw[BR J];exact Cg)];simp only[Be,AD h4];rw[A8<|Fa J<|by simp,Be,AZ (by first|(simp;done)|(simp;omega)) (by first|(simp;done)|(simp;omega))];congr 1;simp
  .rw[AD (by rw[BR J];exact Cg),AD<|show ¬EZ hv f.fr f.nu<0 by omega,Be];simp only;rw[h1,Bb]
 rw[nY];revert Ec LA UI;generalize (Au hv f).1=l;generalize (Au hv f).2=i;intro Ec LA UI;unfold Tq;have hff:((hA l i).got.filter<|EU f.mix).length<=(hA l i).got.length:=Ic _ _;simp only[AP Ec,A5,Ls,Bb];rcases tfp ((hA l i).to=f.to) with e1|e1<;>simp only[e1,AU,Ae,AB,AI,A7,A5,AW,AO];rcases tfp ((hA l i).un=f.un) with e2|e2<;>simp only[e2,AU,Ae,AB,AI,A7,A5,AW,AO];rcases tfp ((hA l i).sz=f.sz) with e3|e3<;>simp only[e3,AU,Ae,AB,AI,A7,A5];have hgo:=apO (k:=(id,up,lg,fo,l,())) (f:=f) (z:=(0,A3,noB,0,[],())) (i:=(i:Int)) (h:=hA l i) (hA l i).got [] rfl UI;rw[show bg ((id,up,lg,fo,l,()),tF f,(0,A3,noB,0,[],()),(i:Int),((hA l i).fr,(hA l i).nu,(hA l i).to,(hA l i).un,(hA l i).sz,(hA l i).got,()),[],0,())=_ from hgo];simp only[AM,A9];unfold DN Dc;by_cases h:14<=((hA l i).got.filter<|EU f.mix).length
 .rw[A8<|Aa J,A8 h,A8 (by simp;omega),A8<|Fa (l:=([]:List AT)) (by simp) (by rw[E4];omega),Be];simp only[EM,show AL 1=1 from rfl];rw[A8<|Fa (by rw[E4];omega)<|by simp,A8<|AP Ec];rfl
 .rw[AD (by rw[BR J];exact Cg),AD h,Be];dsimp only;rw[A8<|Fa J<|by simp,A8<|AP Ec];rfl
def R5(kind:Int)(f:Frame):Frame:=⟨kind,f.dst,f.src,f.fr,f.nu,f.to,f.un,0,0,noB⟩
def KW(n:A6):A4:=B [116,97,107,101,32]++wr n
abbrev J6(k:AA)(hv:List AH):AA:=⟨k.id,k.up,k.log,k.fo,hv⟩
def N0(k:AA)(n:A6)(f:Frame):AA×List Frame:=
 if B4 n&&(wrR k (KW n) A0).2 then((wrR k (KW n) A0).1,[R5 2 f]) else(k,[])
def NY(k:AA)(f:Frame):AA×List Frame:=
 if Tq (hA (Au k.AN f).1 (Au k.AN f).2) f then
  (if(Fm f.sz<|Dc (hA (Au k.AN f).1 (Au k.AN f).2).got f.mix f.da).2 then
   N0 (J6 k<|FD (DN (Au k.AN f).1 (Au k.AN f).2 f) (Au k.AN f).2) ⟨f.fr,f.nu,f.to,f.un,(Fm f.sz<|Dc (hA (Au k.AN f).1 (Au k.AN f).2).got f.mix f.da).1⟩ f
  else(J6 k<|DN (Au k.AN f).1 (Au k.AN f).2 f,[]))
 else(J6 k (Au k.AN f).1,[])
def J2(k:AA)(f:Frame):AA×List Frame:=
 if f.un<=(stT k).ti then(k,[R5 3 f])
 else if 0<=AY (stT k).held f.fr f.nu\/0<=Bs (stT k).marks f.fr f.nu then(foM k,[R5 2 f])
 else if f.fr=k.id then(k,[])
 else NY k f
def aD9{s:Int}{l:List AT}:(Fm s l).1.size<=24:=by
 unfold Fm;split
 .rename_i h;have h1:=Af.1 h;split
  .exact Cu _
  .rename_i c hc;split
   .have hb:inB (Ax (s+3) 4) 1 6=A0:=by
     have hd:Ax (s+3) 4=(s+3) / 4:=Fv J;exact Af.2 J
    have hk:=kL hb l;have hz:=XD hk.all hc;have hz0:noB.size=0:=rfl;have hd:Ax (s+3) 4=(s+3) / 4:=Fv J;rw[hk.1,hz0]at hz;rw[FZ J];omega
   .exact Cu _
 .exact Cu _
def aCK(got:List AT)(mix:Int)(da:A4):(Dc got mix da).length<=got.length+1:=by
 have hf:(got.filter<|EU mix).length<=got.length:=Ic _ _;unfold Dc;simp only[Ar,JK];split
 .rw[E4];omega
 .omega
def abC{h:AH}(ok:Fh h=A0):h.got.length<=14:=by
 unfold Fh at ok;simp only[AE]at ok;have h1:=BX ok.2.2.2.2.2.1;omega
def aCV{hv:List AH}{f:Frame}(hs:∀h∈hv,Fh h=A0):(hA (Au hv f).1 (Au hv f).2).got.length<=14:=by
 unfold Au;rcases SB hv f.fr f.nu with h|⟨i,h1,h2,_⟩
 .rw[A8 h];simp only;rw[hA,B9,FG<|As _];simp
 .rw[AD J];show(hA hv (EZ hv f.fr f.nu).toNat).got.length<=14;rw[h1,Bb,I2 h2];exact abC<|hs _<|CJ h2
def aD2{k:AA}{st:AG}(h:Hj k st)(hv:List AH):Hj (J6 k hv) st:=⟨h.sh,h.st⟩
def aCI{k:AA}(h:Ah k=A0):∀x∈k.AN,Fh x=A0:=by
 intro x hx;obtain⟨i,hi,rfl⟩:=Ys hx;have:=(EC h).hv i hi;unfold Fq at this;rw[AE]at this;exact this.1
def apP{k:AA}(h:Ah k=A0){f:Frame}(hf:Cj f=A0)(h1:f.ki=1):VG (tKp k,tF f,())=I ((tKp (J2 k f).1,(J2 k f).2,()),()):=by
 have hk:=CI h;have hkf:=CY hk.kok;have sm:=Cz h;have kf:=EC h;have hF:=qa (lg:=k.log) (fo:=k.fo)<|Q9 h;rw[show Jr k.log k.fo=(k.log,(k.log.size:Int)) from A8 kf.sh]at hF;have hl:=hkf.hl;have ml:=hkf.ml;have hfr:inB f.sz 1 24=A0/\inB f.mix 0 999=A0:=by
  unfold Cj Kd at hf;simp only[AE]at hf;have:=hf.2.2.2.2.2.2;rw[A8<|Aa h1]at this;simp only[AE]at this;exact⟨this.1,this.2.1⟩
 have hsz:=Af.1 hfr.1;have hmx:Ds (Ax (f.sz+3) 4) f.mix=A0:=by
  have hd:Ax (f.sz+3) 4=(f.sz+3) / 4:=Fv J;unfold Ds;rw[hfr.2,M6];exact Af.2 J
 unfold VG J2;simp only[OG h,A9];by_cases c1:f.un<=(stT k).ti
 .rw[A8<|Aa c1,A8 c1];rfl
 .rw[AD (by rw[BR c1];exact Cg),AD c1];simp only[JW (l:=(stT k).held)<|show(stT k).held.length<=1048576 by omega,Ru (l:=(stT k).marks)<|show(stT k).marks.length<=1048576 by omega,A9,DY,DO,GK,A5];by_cases c2:0<=AY (stT k).held f.fr f.nu\/0<=Bs (stT k).marks f.fr f.nu
  .rw[A8 (by rw[CB];exact c2.imp Aa Aa),A8 c2];simp only[hF,A9];rfl
  .rw[AD (by rw[CB];exact λh=>c2<|h.imp BX BX),AD c2];simp only[dS (n:=f.sz) J J,WX,hmx,DY,DO,GK,A5,AB,EK];by_cases c3:f.fr=k.id
   .rw[A8<|Aa c3,A8 c3]
   .rw[AD (by rw[BR c3];exact Cg),AD c3];have oP:=aoC sm kf.hl f;rw[oP];simp only[A9];unfold NY;rcases tf (Tq (hA (Au k.AN f).1 (Au k.AN f).2) f) with c4|c4
    .have Ec:=QH (hv:=k.AN) (f:=f);have LA:=Si (hv:=k.AN) (f:=f) kf.hl;have hal:(DN (Au k.AN f).1 (Au k.AN f).2 f).length=(Au k.AN f).1.length:=by unfold DN;rw[GA]
     have oJ:=aCV (f:=f)<|aCI h;have hgl:=aCK (hA (Au k.AN f).1 (Au k.AN f).2).got f.mix f.da;have UI:(hA (DN (Au k.AN f).1 (Au k.AN f).2 f) (Au k.AN f).2).got=Dc (hA (Au k.AN f).1 (Au k.AN f).2).got f.mix f.da:=by
      unfold DN;rw[aap Ec]
     simp only[c4,A5];rw[AD (by rw[BR J];exact Cg),A8<|AP (by rw[hal];exact Ec)];simp only[Ls,UI,alm f.sz _<|show(Dc (hA (Au k.AN f).1 (Au k.AN f).2).got f.mix f.da).length<=1048576 by omega,A9];rcases tf (Fm f.sz<|Dc (hA (Au k.AN f).1 (Au k.AN f).2).got f.mix f.da).2 with c5|c5
     .simp only[c5,AB,A7,A5];rw[xI (by rw[hal];exact Ec) (by rw[hal];omega)];simp only[A9];rw[VB (by have:=aD9 (s:=f.sz) (l:=Dc (hA (Au k.AN f).1 (Au k.AN f).2).got f.mix f.da);omega)];simp only[A9];unfold N0;generalize hn:(⟨f.fr,f.nu,f.to,f.un,(Fm f.sz<|Dc (hA (Au k.AN f).1 (Au k.AN f).2).got f.mix f.da).1⟩:A6)=n;rcases tf (B4 n) with c6|c6
      .have hz:=ZD (w:=B [116,97,107,101,32]) (by rw[BQ];decide) c6;have hw:=VL (aD2 hk.LB<|FD (DN (Au k.AN f).1 (Au k.AN f).2 f) (Au k.AN f).2) (r:=KW n) hz A0;simp only[c6,A5,AW];rw[AD (by rw[BR mg];exact Cg),A8<|Aa (by rw[Bu]at hz;omega)];rw[show KE ((k.id,k.up,k.log,k.fo,FD (DN (Au k.AN f).1 (Au k.AN f).2 f) (Au k.AN f).2,()),B [116,97,107,101,32]++wr n,A0,())=_ from hw];simp only[A9];rcases tf (wrR (J6 k<|FD (DN (Au k.AN f).1 (Au k.AN f).2 f) (Au k.AN f).2) (KW n) A0).2 with c7|c7
       .simp only[c7,AB,A7,A5];rfl
       .simp only[c7,AI,A7,A5,QC c7]
      .simp only[c6,A7,AU,A5,AO]
     .simp only[c5,AI,A7,A5]
    .simp only[c4,A7];rfl
def aiQ{k:AA}(h:Ah k=A0){f:Frame}:V2 (tKp k,tF f,())=I ((tKp (J2 k f).1,(J2 k f).2,()),()):=by
 have hk:=CI h;have hkf:=CY hk.kok;have sm:=Cz h;have kf:=EC h;have hl:=hkf.hl;have ml:=hkf.ml;have hl3:=kf.hl;have hlen:k.AN.length<=1048576:=J
 unfold V2 J2;simp only[Il h,A9];by_cases c1:f.un<=(stT k).ti
 .rw[A8<|Aa c1,A8 c1];rfl
 .rw[AD (by rw[BR c1];exact Cg),AD c1];simp only[Ja (l:=(stT k).held)<|show(stT k).held.length<=1048576 by omega,S1 (l:=(stT k).marks)<|show(stT k).marks.length<=1048576 by omega,A9,DY,DO,GK,A5];by_cases c2:0<=AY (stT k).held f.fr f.nu\/0<=Bs (stT k).marks f.fr f.nu
  .rw[A8 (by rw[CB];exact c2.imp Aa Aa),A8 c2,fI kf.sh];rfl
  .rw[AD (by rw[CB];exact λh=>c2<|h.imp BX BX),AD c2];by_cases c3:f.fr=k.id
   .rw[A8<|Aa c3,A8 c3]
   .rw[AD (by rw[BR c3];exact Cg),AD c3];simp only[yj hlen,A9];have Ec:=QH (hv:=k.AN) (f:=f);have LA:=Si (hv:=k.AN) (f:=f) kf.hl;have oJ:=aCV (f:=f)<|aCI h;have nY:∀ {Ω:Type} (F:(Int×Bool×A4×Int×List AH×A2)×(Int×Int×Int×Int×Int×Int×Int×Int×Int×A4×A2)×(Int×Bool×A4×Int×List AH×A2)×Int×A2->Option Ω),
      BS F ((if(A1<|EZ k.AN f.fr f.nu<0) then
      (if Ac (k.AN.length+([(AH.mk f.fr f.nu f.to f.un f.sz ([]:List AT))]:List AH).length) then
      (if(A1<|3<((k.AN++([(AH.mk f.fr f.nu f.to f.un f.sz ([]:List AT))]:List AH)).length:Int)) then
      (if(A1 (0<=1)&&A1 (1<=((k.AN++([(AH.mk f.fr f.nu f.to f.un f.sz ([]:List AT))]:List AH)).length:Int))) then
      let v22:=(w64<|((Bm (AL 1)<|k.AN++([(AH.mk f.fr f.nu f.to f.un f.sz ([]:List AT))]:List AH)).length:Int) - 1)
      I (.inr ((k.id,k.up,k.log,k.fo,(Bm (AL 1)<|k.AN++([(AH.mk f.fr f.nu f.to f.un f.sz ([]:List AT))]:List AH)),()),tF f,(0,A3,noB,0,([]:List AH),()),v22,()))
      else U)
      else
      let v23:=(w64<|((k.AN++([(AH.mk f.fr f.nu f.to f.un f.sz ([]:List AT))]:List AH)).length:Int) - 1)
      I (.inr ((k.id,k.up,k.log,k.fo,(k.AN++([(AH.mk f.fr f.nu f.to f.un f.sz ([]:List AT))]:List AH)),()),tF f,(0,A3,noB,0,([]:List AH),()),v23,())))
      else U)
      else
      I (.inr (tKp k,tF f,(0,A3,noB,0,([]:List AH),()),(EZ k.AN f.fr f.nu,())))))=F ((k.id,k.up,k.log,k.fo,(Au k.AN f).1,()),tF f,(0,A3,noB,0,[],()),((Au k.AN f).2:Int),()):=by
     intro Ω F;unfold Au;rcases SB k.AN f.fr f.nu with h|⟨i,h1,h2,_⟩
     .rw[A8<|Aa h,A8 h,A8<|Fa hlen<|by simp];by_cases h4:3<=k.AN.length
      .rw[A8<|Aa (by simp;omega),A8 (by simp;omega),A8 h4];have e1:Bm (AL 1) (k.AN++[(⟨f.fr,f.nu,f.to,f.un,f.sz,[]⟩:AH)])=k.AN.drop 1++[⟨f.fr,f.nu,f.to,f.un,f.sz,[]⟩]:=by
        show Bm 1 _=_;rw[l6 J]
       simp only[e1];rw[Be,AZ (by first|(simp;done)|(simp;omega)) (by first|(simp;done)|(simp;omega))];congr 1;simp
      .rw[AD (by simp;omega),AD h4];simp only;rw[Be,AZ (by first|(simp;done)|(simp;omega)) (by first|(simp;done)|(simp;omega))];congr 1;simp
     .rw[AD (by rw[BR J];exact Cg),AD<|show ¬EZ k.AN f.fr f.nu<0 by omega,Be];simp only;rw[h1,Bb]
    rw[nY];have hgl:=aCK (hA (Au k.AN f).1 (Au k.AN f).2).got f.mix f.da;unfold NY;have hLg:=λhv=>aD2 hk.LB hv;revert Ec LA oJ hgl;generalize (Au k.AN f).1=l;generalize (Au k.AN f).2=i;intro Ec LA oJ hgl;have az0:l.set i ⟨(hA l i).fr,(hA l i).nu,(hA l i).to,(hA l i).un,(hA l i).sz,Dc (hA l i).got f.mix f.da⟩=DN l i f:=rfl;have hal:(DN l i f).length=l.length:=by unfold DN;rw[GA]
    have hat:hA (DN l i f) i=⟨(hA l i).fr,(hA l i).nu,(hA l i).to,(hA l i).un,(hA l i).sz,Dc (hA l i).got f.mix f.da⟩:=aap Ec _;simp only[AP Ec,A5,Ls,Bb];unfold Tq;rcases tfp ((hA l i).to=f.to) with e1|e1<;>simp only[e1,AU,Ae,AB,AI,A7,A5,AW,AO];rcases tfp ((hA l i).un=f.un) with e2|e2<;>simp only[e2,AU,Ae,AB,AI,A7,A5,AW,AO];rcases tfp ((hA l i).sz=f.sz) with e3|e3<;>simp only[e3,AU,Ae,AB,AI,A7,A5];have e3':(hA l i).sz=f.sz:=of_eq_true e3;rw[aps<|show(hA l i).got.length<=1048576 by omega];simp only[A9,az0,hat];rw[e3'];rw[amg f.sz _<|show(Dc (hA l i).got f.mix f.da).length<=1048576 by omega];simp only[A9];rcases tf (Fm f.sz<|Dc (hA l i).got f.mix f.da).2 with c5|c5
    .simp only[c5,AB,A7,A5];rw[A8 (by simp;omega),A8<|Fa (l:=([]:List AH)) (by simp) (by simp;omega),DZ (n:=i) (m:=l.length) Ec J,A8 (by simp;omega),A8<|Fa (by simp;omega) (by simp;omega)];rw[V3 (by have:=aD9 (s:=f.sz) (l:=Dc (hA l i).got f.mix f.da);omega)];simp only[A9,EM,Bb];unfold N0;generalize hn:(⟨f.fr,f.nu,f.to,f.un,(Fm f.sz<|Dc (hA l i).got f.mix f.da).1⟩:A6)=n;have hL:=hLg<|FD (DN l i f) i;have hdr:BH i (DN l i f)++Bm (i+1) (DN l i f)=FD (DN l i f) i:=rfl;rw[hdr];rcases tf (B4 n) with c6|c6
     .have hz:=ZD (w:=B [116,97,107,101,32]) (by rw[BQ];decide) c6;have hw:=WT hL (r:=KW n) hz;simp only[c6,A5,AW];rw[A8<|Aa (by rw[Bu]at hz;omega)];rw[show OE ((k.id,k.up,k.log,k.fo,FD (DN l i f) i,()),B [116,97,107,101,32]++wr n,())=_ from hw];simp only[A9];unfold wrR;rw[hL.stT];cases hc:BO (stT k) (KW n) with
      | none=>rfl
      | some o=>
       simp only[AB,A7,A5];rw[fI<|aag hL hc];rfl
     .have hb:BO (stT k) (B [116,97,107,101,32]++noB)=U:=aB9 hk.kok aCf<|.inr rfl;have hz0:(B [116,97,107,101,32]++noB).size<=1048576:=by rw[Bu,BQ];show 5+0<=1048576;omega
      have hw:=WT hL (r:=B [116,97,107,101,32]++noB) hz0;rw[aD1 (by rw[hL.stT];exact hb)]at hw;simp only[c6,A7,AO];rw[A8<|Aa (show(B [116,97,107,101,32]).size+noB.size<=4611686018427387904 by rw[BQ];show 5+0<=4611686018427387904;omega)];rw[show OE ((k.id,k.up,k.log,k.fo,FD (DN l i f) i,()),B [116,97,107,101,32]++noB,())=_ from hw];rfl
    .simp only[c5,AI,A7,A5]
def fY{α β:Type}[DecidableEq β]{l:List α}{f:α->β}:(l.map f).Nodup↔ ∀(i j:Nat) (hi:i<l.length) (hj:j<l.length),j<i->f l[j]≠f l[i]:=by
 unfold List.Nodup;rw[Ou];constructor
 .intro h i j hi hj hlt;have:=h j i (by simpa using hj) (by simpa using hi) hlt;simpa using this
 .intro h i j hi hj hlt;have:=h j i (by simpa using hj) (by simpa using hi) hlt;simpa using this
def ZN{l:List AT}{i:Nat}(h:i<l.length):xA l i=l[i]:=by
 rw[xA,B9,Av h];rfl
def Ln(m:AT):Prop:=inB m.nu 0 999=A0/\(m.da.size:Int)=4
structure R7 (l:List AT):Prop where
 el:∀m∈l,Ln m
 nd:(l.map (·.nu)).Nodup
def aa0{l:List AT}:At l.length (I3 l)=A0↔R7 l:=by
 rw[CS];constructor
 .intro h;refine⟨λm hm=> ?_,fY.2 λi j hi hj hlt=> ?_⟩
  .obtain⟨i,hi,rfl⟩:=aaf hm;have:=h i hi;unfold I3 at this;simp only[AE]at this;exact⟨this.1.1,BX this.1.2⟩
  .have:=h i hi;unfold I3 at this;simp only[AE]at this;have:=CS.1 this.2 j hlt;rw[ZN hi,ZN hj]at this;simpa using this
 .intro h i hi;unfold I3;simp only[AE];have h1:=h.el l[i] (CJ hi);rw[ZN hi];refine⟨⟨h1.1,Aa h1.2⟩,CS.2 λj hj=> ?_⟩;have:=fY.1 h.nd i j hi J hj;rw[ZN<|show j<l.length by omega];simpa using this
def atk{l:List AT}(h:R7 l)(hl:l.length<=14){mix:Int}{da:A4}(hm:Ln ⟨mix,da⟩):R7 (Dc l mix da)/\(Dc l mix da).length<=14:=by
 have hf:(l.filter<|EU mix).length<=l.length:=Ic _ _;have LC:∀g:List AT,g.Sublist (l.filter<|EU mix)->R7 (g++[⟨mix,da⟩]):=by
  intro g hg;refine⟨λm hm'=> ?_, ?_⟩
  .rcases BM.1 hm' with h1|h1
   .exact h.el m (FF.1<|hg.subset h1).1
   .rw[C9.1 h1];exact hm
  .rw[Es,Kw];refine⟨h.nd.sublist<|(hg.trans List.filter_sublist).map _,by simp,λa ha b hb=> ?_⟩;obtain⟨m,h1,rfl⟩:=DE.1 ha;have h2:=(FF.1<|hg.subset h1).2;have hb:b=mix:=by simpa using hb
   rw[hb];unfold EU at h2;simpa using h2
 unfold Dc;split
 .refine⟨LC _<|Yi _ _, ?_⟩;simp only[Ar,JK,E4];omega
 .refine⟨LC _<|Er _, ?_⟩;simp only[Ar,JK];omega
abbrev NX(h:AH):Int×Int:=(h.fr,h.nu)
structure JQ (l:List AH):Prop where
 el:∀h∈l,Fh h=A0
 nd:(l.map NX).Nodup
def mU{l:List AH}:(∀i,i<l.length->Fq l i=A0)↔JQ l:=by
 constructor
 .intro h;refine⟨λm hm=> ?_,fY.2 λi j hi hj hlt=> ?_⟩
  .obtain⟨i,hi,rfl⟩:=Ys hm;have:=h i hi;unfold Fq at this;rw[AE]at this;exact this.1
  .have:=h i hi;unfold Fq at this;rw[AE]at this;have:=CS.1 this.2 j hlt;rw[I2 hi,I2 hj]at this;intro e;simp only[NX,CG]at e;simp[e.1,e.2]at this
 .intro h i hi;unfold Fq;rw[AE];refine⟨by rw[I2 hi];exact h.el _<|CJ hi,CS.2 λj hj=> ?_⟩;have:=fY.1 h.nd i j hi J hj;rw[I2 hi,I2<|show j<l.length by omega];simp only[NX,ne_eq,CG,not_and]at this;by_cases e:l[j].fr=l[i].fr
  .simp[e,this e]
  .simp[e]
def QA{f:Frame}(h:Cj f=A0):isN f.src=A0/\isN f.dst=A0/\isN f.fr=A0/\isN f.to=A0/\inB f.nu 1 99=A0/\inB f.un 1 999=A0/\Kd f=A0:=by
 unfold Cj at h;simp only[AE]at h;exact h
def jL{f:Frame}(h:Cj f=A0)(h1:f.ki=1):inB f.sz 1 24=A0/\Ln ⟨f.mix,f.da⟩/\f.dst=Co f.src f.to:=by
 have:=(QA h).2.2.2.2.2.2;unfold Kd at this;rw[A8<|Aa h1]at this;simp only[AE]at this;exact⟨this.1,⟨this.2.1,BX this.2.2.1⟩,BX this.2.2.2⟩
def JQ.sub{l g:List AH}(h:JQ l)(hg:g.Sublist l):JQ g:=⟨λx hx=>h.el x<|hg.subset hx,h.nd.sublist<|hg.map _⟩
def aaM{l:List AH}(h:JQ l){f:Frame}(hf:Cj f=A0)(h1:f.ki=1):JQ (Au l f).1:=by
 obtain⟨_,_,r3,r4,r5,r6,_⟩:=QA hf;have hp:=jL hf h1;unfold Au;split
 .rename_i hi;have U7:∀x∈l,NX x≠(f.fr,f.nu):=by
   intro x hx e;obtain⟨i,hi',rfl⟩:=Ys hx;simp only[NX,CG]at e;rcases GL l.length (λi=>A1 ((hA l i).fr=f.fr)&&A1 ((hA l i).nu=f.nu)) with h|⟨i,h,_⟩
   .have:=h.2 i hi';simp[e.1,e.2]at this
   .have:EZ l f.fr f.nu=(i:Int):=h;omega
  have LC:∀g:List AH,g.Sublist l->JQ (g++[⟨f.fr,f.nu,f.to,f.un,f.sz,[]⟩]):=by
   intro g hg;refine⟨λx hx=> ?_, ?_⟩
   .rcases BM.1 hx with h2|h2
    .exact h.el x (hg.subset h2)
    .rw[C9.1 h2];unfold Fh;simp only[r3,r4,r5,r6,hp.1,AW];rfl
   .rw[Es,Kw];refine⟨h.nd.sublist<|hg.map _,by simp,λa ha b hb=> ?_⟩;obtain⟨m,h2,rfl⟩:=DE.1 ha;have hb:b=(f.fr,f.nu):=by simpa using hb
    rw[hb];exact U7 m<|hg.subset h2
  simp only;split
  .exact LC _ (Yi _ _)
  .exact LC _ (Er _)
 .exact h
def au8{h:AH}(ok:Fh h=A0):R7 h.got/\h.got.length<=14:=by
 have h1:=abC ok;unfold Fh at ok;simp only[AE]at ok;exact⟨aa0.1 ok.2.2.2.2.2.2,h1⟩
def au7{h:AH}(ok:Fh h=A0){g:List AT}(hg:R7 g)(hl:g.length<=14):Fh ⟨h.fr,h.nu,h.to,h.un,h.sz,g⟩=A0:=by
 unfold Fh at ok ⊢;simp only[AE]at ok ⊢;exact⟨ok.1,ok.2.1,ok.2.2.1,ok.2.2.2.1,ok.2.2.2.2.1,Aa J,aa0.2 hg⟩
def aEk{l:List AH}(h:JQ l){i:Nat}(hi:i<l.length){f:Frame}(hm:Ln ⟨f.mix,f.da⟩):JQ (DN l i f):=by
 have hh:=h.el l[i] (CJ hi);have hg:=au8 hh;have hn:=atk hg.1 hg.2 hm;unfold DN;rw[I2 hi];refine⟨λx hx=> ?_, ?_⟩
 .rcases TN hx with h1|h1
  .exact h.el x h1
  .rw[h1];exact au7 hh hn.1 hn.2
 .rw[List.map_set];have:(l.map NX).set i (NX ⟨l[i].fr,l[i].nu,l[i].to,l[i].un,l[i].sz,Dc l[i].got f.mix f.da⟩)=l.map NX:=by
   apply List.ext_getElem (by simp);intro j h1 h2;rw[List.getElem_set];split
   .rename_i e;subst e;simp
   .rfl
  rw[this];exact h.nd
def aEc{l:List AH}(h:JQ l)(i:Nat):JQ (FD l i):=by
 refine h.sub ?_;unfold FD;have:(l.take i++l.drop (i+1)).Sublist (l.take i++l.drop i):=List.Sublist.append (Er _) (by rw[← Jx];exact Yi _ _);rw[JH]at this;exact this
def Xx{k:AA}{st:AG}(h:D7 k st)(hu:k.up=A0){hv:List AH}(hl:hv.length<=3)(hf:JQ hv):D7 (J6 k hv) st:=by
 obtain⟨rs,ts,h1,h2⟩:=h.lg;have kf:=EC h.ok;exact⟨WL (k:=J6 k hv) kf.id h1 hl (.inl hu) (by rw[show(J6 k hv).id=k.id from rfl,h2];rfl)<|mU.2 hf,h.st⟩
def TF{k:AA}{st:AG}(h:D7 k st)(r:A4)(b:Bool):∃o,D7 (wrR k r b).1 o/\((wrR k r b).2=A0->BO st r=I o)/\((wrR k r b).2=A3->o=st/\BO st r=U):=by
 unfold wrR;rw[h.stT];cases hc:BO st r with
 | none=>exact⟨st,h,(λe=>absurd e Cg),λ_=>⟨rfl,rfl⟩⟩
 | some o=>
  refine⟨o, ?_,(λ_=>rfl),λe=>absurd e.symm Cg⟩;simp only;split
  .exact QQ (TI h hc)
  .exact TI h hc
def jm{k:AA}(h:Ah k=A0)(hu:k.up=A0){f:Frame}(hf:Cj f=A0)(h1:f.ki=1):Ah (J2 k f).1=A0:=by
 have hk:=CI h;have kf:=EC h;have hv:=mU.1 kf.hv;have hp:=jL hf h1;have Ec:=QH (hv:=k.AN) (f:=f);have LA:=Si (hv:=k.AN) (f:=f) kf.hl;have hpf:=aaM hv hf h1;have haf:=aEk hpf Ec hp.2.1;have hal:(DN (Au k.AN f).1 (Au k.AN f).2 f).length=(Au k.AN f).1.length:=by unfold DN;rw[GA]
 unfold J2;split
 .exact h
 split
 .exact(QQ hk).ok
 split
 .exact h
 unfold NY;split
 .split
  .unfold N0;have hw:=Xx hk hu (hv:=FD (DN (Au k.AN f).1 (Au k.AN f).2 f) (Au k.AN f).2) (by unfold FD;simp;omega)<|aEc haf _;split
   .obtain⟨o,ho,_⟩:=TF hw (KW ⟨f.fr,f.nu,f.to,f.un,(Fm f.sz<|Dc (hA (Au k.AN f).1 (Au k.AN f).2).got f.mix f.da).1⟩) A0;exact ho.ok
   .exact hw.ok
  .exact(Xx hk hu (by rw[hal];exact LA) haf).ok
 .exact(Xx hk hu LA hpf).ok
def Kg(k:AA)(f:Frame):AA×List Frame:=
 if k.up&&(Cj f&&A1 (f.dst=k.id)) then
  (if A1 (f.ki=1) then J2 k f
   else if A1 (f.ki=2)&&(!decide (AY (stT k).held f.fr f.nu<0)&&(A1 ((nA (stT k).held (AY (stT k).held f.fr f.nu).toNat).to=f.to)&&A1 ((nA (stT k).held (AY (stT k).held f.fr f.nu).toNat).un=f.un))) then
    ((wrR k (Cl C3 f.fr f.nu f.un) A3).1,[])
   else(k,[]))
 else(k,[])
def Db(k:AA)(f:Frame):AA×List Frame:=if Ah k then Kg k f else(zKp,[])
def kB{f:Frame}(h:Cj f=A0):(0<=f.fr/\f.fr<=999)/\(0<=f.nu/\f.nu<=999)/\(0<=f.un/\f.un<=999):=by
 obtain⟨_,_,r3,_,r5,r6,_⟩:=QA h;have a:=Af.1 r3;have b:=Af.1 r5;have c:=Af.1 r6;exact⟨J,J,J⟩
def ahI{k:AA}(sm:FN k)(f:Frame):Uo (tKp k,tF f,())=I ((tKp (Db k f).1,(Db k f).2,()),()):=by
 unfold Uo Db;rw[LS sm];rcases tf (Ah k) with h|h
 .have hk:=CI h;have hkf:=CY hk.kok;have hl:=hkf.hl;have hl':(stT k).held.length<=1048576:=J
  unfold Kg;simp only[A9,h,AB,A7,A5,MS sm,xE,OG h,JW hl'];rcases tf k.up with e|e<;>simp only[e,AB,AI,A7,A5,AW,AO];rcases tf (Cj f) with e2|e2<;>simp only[e2,AB,AI,A7,A5,AW,AO];rcases tfp (f.dst=k.id) with e3|e3<;>simp only[e3,AU,Ae,AB,AI,A7,A5];obtain⟨r1,r2,r3⟩:=kB e2;rcases tfp (f.ki=1) with e4|e4
  .have e4':=of_eq_true e4;simp only[e4,AU,A5];rw[show VG (tKp k,tF f,())=_ from apP h e2 e4'];simp only[A9];rw[MS<|Cz<|jm h e e2 e4'];rfl
  .simp only[e4,Ae,A7];rcases tfp (f.ki=2) with e5|e5<;>simp only[e5,AU,Ae,AB,AI,A7,A5,AW,AO];by_cases hi:AY (stT k).held f.fr f.nu<0
   .simp only[Aa hi,A5,AB,AO,A7]
   .have hi':0<=AY (stT k).held f.fr f.nu:=J
    simp only[BR hi,A7,AI,AW,A5,Mo hi',Qr];rcases tfp ((nA (stT k).held (AY (stT k).held f.fr f.nu).toNat).un=f.un) with e6|e6<;>simp only[e6,AU,Ae,AB,AI,A7,A5,M6,Bc];rcases tfp ((nA (stT k).held (AY (stT k).held f.fr f.nu).toNat).to=f.to) with e7|e7<;>simp only[e7,AU,Ae,AB,AI,A7,A5];have hz:=Ww (w:=C3) (by decide) r1 r2 r3;have hw:=VL hk.LB (r:=Cl C3 f.fr f.nu f.un) J A3;rw[zt r1 r2 r3];simp only[A9];rw[A8<|Aa (by rw[← Wj [108,101,116]]at hz;rw[Bu]at hz;rw[show(B [108,101,116,32]).size=(B<|[108,101,116]++[32]).size from rfl];omega)];rw[show(B [108,101,116,32])=B ([108,101,116]++[32]) from rfl,Wj [108,101,116],hw];rfl
 .simp only[A9,h,AI,A5,A7]
def uF{k:AA}(sm:FN k)(f:Frame):RQ (tKp k,tF f,())=I ((tKp (Db k f).1,(Db k f).2,()),()):=by
 unfold RQ Db;rw[KG sm];rcases tf (Ah k) with h|h
 .have hk:=CI h;have hkf:=CY hk.kok;have hl:=hkf.hl;have hl':(stT k).held.length<=1048576:=J
  unfold Kg;simp only[A9,h,AB,A7,A5,KI sm,yK,Il h,Ja hl'];rcases tf k.up with e|e<;>simp only[e,AB,AI,A7,A5,AW,AO];rcases tf (Cj f) with e2|e2<;>simp only[e2,AB,AI,A7,A5,AW,AO];rcases tfp (f.dst=k.id) with e3|e3<;>simp only[e3,AU,Ae,AB,AI,A7,A5];obtain⟨r1,r2,r3⟩:=kB e2;rcases tfp (f.ki=1) with e4|e4
  .have e4':=of_eq_true e4;simp only[e4,AU,A5];rw[show V2 (tKp k,tF f,())=_ from aiQ h];simp only[A9];rw[KI<|Cz<|jm h e e2 e4'];rfl
  .simp only[e4,Ae,A7];rcases tfp (f.ki=2) with e5|e5<;>simp only[e5,AU,Ae,A7,A5,AW,AO];by_cases hi:AY (stT k).held f.fr f.nu<0
   .rw[AD (show ¬A1 (0<=AY (stT k).held f.fr f.nu)=A0 by simp;omega)];simp only[Aa hi,HB,A5,Be,AB,AO,A7]
   .have hi':0<=AY (stT k).held f.fr f.nu:=J
    rw[A8<|Aa hi'];simp only[BR hi,AI,AW,A5,Mo hi',Qr,GK,Be];rcases tfp ((nA (stT k).held (AY (stT k).held f.fr f.nu).toNat).to=f.to) with e7|e7<;>simp only[e7,AU,Ae,A7,A5,AW,AO];rcases tfp ((nA (stT k).held (AY (stT k).held f.fr f.nu).toNat).un=f.un) with e6|e6<;>simp only[e6,AU,Ae,A7,A5];have hz:=Ww (w:=C3) (by decide) r1 r2 r3;have hw:=WT hk.LB (r:=Cl C3 f.fr f.nu f.un) J;rw[show Pa (B [108,101,116],f.fr,f.nu,f.un,())=_ from rD (w:=C3) (by decide) r1 r2 r3];simp only[A9];rw[hw];rfl
 .simp only[A9,h,AI,A5,A7]
def au5{k:AA}(h:Ah k=A0)(f:Frame):Ah (Db k f).1=A0:=by
 have hk:=CI h;unfold Db Kg;rw[A8 h];split
 .rename_i hc;simp only[AE]at hc;split
  .rename_i h1;exact jm h hc.1 hc.2.1 (BX h1)
  .split
   .obtain⟨o,ho,_⟩:=TF hk (Cl C3 f.fr f.nu f.un) A3;exact ho.ok
   .exact h
 .exact h
def atd{k:AA}(h:Ah k=A0):Ah (FA k).1=A0:=by
 unfold FA;split
 .obtain⟨o,ho,_⟩:=TF (CI h) (FO<|(stT k).ti+1) A0;exact ho.ok
 .exact h
def avt{k:AA}(h:Ah k=A0)(tt un:Int)(tx:A4):Ah (Dl k tt un tx).1=A0:=by
 unfold Dl;split
 .obtain⟨o,ho,_⟩:=TF (CI h) (Kb ⟨k.id,(stT k).nx,tt,un,tx⟩) A0;exact ho.ok
 .exact h
def avH{k:AA}(h:Ah k=A0)(fr nu:Int):Ah (DV k fr nu).1=A0:=by
 unfold DV;split
 .obtain⟨o,ho,_⟩:=TF (CI h) (Cl CF fr nu (nA (stT k).inbox (AY (stT k).inbox fr nu).toNat).un) A0;exact ho.ok
 .exact h
def asz{k:AA}(h:Ah k=A0):Ah (FB k).1=A0:=by
 unfold FB;split
 .exact(mb<|CI h).ok
 .exact h
def asN{k:AA}(h:Ah k=A0):Ah (F9 k).1=A0:=by
 unfold F9;split
 .exact(QQ<|CI h).ok
 .exact h
def XH(l:List Int):(BF l).size=l.length:=by
 show(List.toArray _).size=_;simp
def arD(f:Frame):(Ce f).length<=17:=by
 unfold Ce;split
 .rename_i h;have:=XE h;simp only[Ar,Bt,CA];omega
 .simp
def frA(l:List Frame)(i:Nat):Frame:=l.getD i<|dfl .frame
def aDb(l:List Frame)(i:Nat): @rd Frame (dfl .frame) l (i:Int)=frA l i:=rfl
def pcF(f:Frame):AS:=⟨f.src,f.dst,BF<|Ce f,A3⟩
def Cd(ra:List AS)(fs:List Frame):List AS:=ra++(fs.take<|30 - ra.length).map pcF
def aan{l:List Frame}{i:Nat}(h:i<l.length):frA l i=l[i]:=by
 rw[frA,B9,Av h];rfl
def xF{ra:List AS}{fs:List Frame}(hf:fs.length<=1048576):Rs (ra,fs,())=I ((Cd ra fs,()),()):=by
 have Fz:pd (ra,fs,0,())=I (.inr (Cd ra fs,())):=by
  have h0:=C2 (b:=VK) (y:= .inr (Cd ra fs,())) (λi=>(ra++(fs.take i).map pcF,fs,(i:Int),())) (min fs.length<|30 - ra.length) (λi hi=>by
   have h1:i<fs.length:=J
   have h2:(ra++(fs.take i).map pcF).length=ra.length+i:=by simp;omega
   unfold VK;simp only[B7 h1,AP h1,aDb,B5 h1 (by omega:fs.length<=9223372036854775807),h2];rw[A8 (by simp;omega)];simp only[A5];rw[show PZ ((_,_,_,_,_,_,_,_,_,_,()),())=_ from vA<|frA fs i];simp only[A9];rw[A8<|B8 (by simp;omega)];have h3:ra++(fs.take<|i+1).map pcF=(ra++(fs.take i).map pcF)++[pcF (frA fs i)]:=by
    rw[aan h1,Bw,← List.map_singleton (f:=pcF),← Es,List.take_append_getElem h1]
   rw[h3];rfl) (by
   unfold VK;have h2:(ra++(fs.take<|min fs.length<|30 - ra.length).map pcF).length=ra.length+min fs.length (30 - ra.length):=by simp
   simp only[h2];rw[AD (by simp only[AE,decide_eq_true_eq];omega)];have h3:fs.take (min fs.length<|30 - ra.length)=fs.take (30 - ra.length):=by
    rw[Nat.min_comm,← Yp,Dw]
   rw[h3];rfl)
  simp only[List.take_zero,JM,CM]at h0;exact h0
 unfold Rs;simp only[Fz,CR]
def Oo(f:Frame):Prop:=isN f.src=A0/\isN f.dst=A0/\(f.src - f.dst=1\/f.dst - f.src=1)
def ax8{f:Frame}(h:Oo f):E3 (pcF f)=A0:=by
 have:=arD f;unfold E3 pcF;simp only[h.1,h.2.1,AW,XH,AE,CB,decide_eq_true_eq];exact⟨h.2.2,J⟩
def aCv{ra:List AS}{fs:List Frame}(h:ra.length<=30):(Cd ra fs).length<=30:=by
 unfold Cd;simp;omega
def aaH{ra:List AS}{fs:List Frame}(h:∀p∈ra,E3 p=A0)(hf:∀f∈fs,Oo f):∀p∈Cd ra fs,E3 p=A0:=by
 intro p hp;rcases BM.1 hp with h1|h1
 .exact h p h1
 .obtain⟨f,h2,rfl⟩:=DE.1 h1;exact ax8<|hf f<|Gx h2
def jr{a t:Int}(h:isN (Co a t)=A0):isN a=A0/\(a - Co a t=1\/Co a t - a=1):=by
 have h0:=Ff h;revert h0;unfold Co;split
 .omega
 .rename_i h1;intro _;simp only[CB,CL,not_or,Bool.not_eq_false]at h1;refine⟨h1.1, ?_⟩;split<;>omega
def ato{f:Frame}(h:Cj f=A0):Oo f:=by
 obtain⟨r1,r2,_,_,_,_,r7⟩:=QA h;refine⟨r1,r2, ?_⟩;unfold Kd at r7;split at r7
 .simp only[AE,decide_eq_true_eq]at r7;have h1:=r7.2.2.2;have:=jr (a:=f.src) (t:=f.to) (by rw[← h1];exact r2);rw[← h1]at this;exact this.2
 .simp only[AE,decide_eq_true_eq]at r7;have h1:=r7.2.2.2.2;have:=jr (a:=f.dst) (t:=f.to) (by rw[← h1];exact r1);rw[← h1]at this;exact this.2.symm
def awY{f:Frame}(n:Int)(h:Oo f):Oo (R5 n f):=⟨h.2.1,h.1,h.2.2.symm⟩
def asH(k:AA)(f:Frame):(Db k f).2=[]\/(Cj f=A0/\ ∃n,(Db k f).2=[R5 n f]):=by
 unfold Db;split
 .unfold Kg;split
  .rename_i hc;simp only[AE]at hc;split
   .unfold J2;split
    .exact .inr ⟨hc.2.1,3,rfl⟩
    .split
     .exact .inr ⟨hc.2.1,2,rfl⟩
     .split
      .exact .inl rfl
      .unfold NY;split
       .split
        .unfold N0;split
         .exact .inr ⟨hc.2.1,2,rfl⟩
         .exact .inl rfl
        .exact .inl rfl
       .exact .inl rfl
   .split<;>exact .inl rfl
  .exact .inl rfl
 .exact .inl rfl
def X9(k:AA)(f:Frame):(Db k f).2.length<=1/\ ∀g∈(Db k f).2,Oo g:=by
 rcases asH k f with h|⟨h,n,h1⟩
 .rw[h];exact⟨by simp,λg hg=>by cases hg⟩
 .rw[h1];exact⟨by simp,λg hg=>by rw[C9.1 hg];exact awY n<|ato h⟩
def auO{k:AA}(h:Ah k=A0){fr nu mix:Int}(hb:(Em k fr nu mix).2=A0):Oo (Em k fr nu mix).1:=by
 unfold Em at hb ⊢;split
 .rename_i hc;simp only[AE,CL,decide_eq_false_iff_not]at hc;have hk:=CI h;have h0:=(GM<|NM.1 hc.2.1).1;have:=aCH hk.kok (n:=nA (stT k).held (AY (stT k).held fr nu).toNat) (by rw[nA,B9,Av h0];exact CJ h0);rw[hk.id]at this;have h2:=jr this;exact⟨h2.1,this,h2.2⟩
 .rename_i hc;rw[AD hc]at hb;cases hb
structure BA (w:AX):Prop where
 kl:w.AK.length=4
 ll:w.B2.length=3
 rl:w.Ai.length<=30
 sl:w.Ab.length<=6
 gl:w.got.length<=6
 k:∀i,i<4->Ah (kA w.AK i)=A0/\(kA w.AK i).id=(i:Int)
 p:∀p∈w.Ai,E3 p=A0
 s:∀n∈w.Ab,B4 n=A0
 g:∀n∈w.got,B4 n=A0
def IU(w:AX)(p:AS)(ra:List AS):AX:=
 if(DJ<|BE p.data).2&&(A1 ((DJ<|BE p.data).1.src=p.src)&&A1 ((DJ<|BE p.data).1.dst=p.dst)) then
  ⟨w.ti,w.AK.set p.dst.toNat (Db (kA w.AK p.dst.toNat) (DJ<|BE p.data).1).1,w.B2,Cd ra (Db (kA w.AK p.dst.toNat) (DJ<|BE p.data).1).2,w.Ab,w.got⟩
 else⟨w.ti,w.AK,w.B2,ra,w.Ab,w.got⟩
def Oe(p:AS)(mix kp:Int):AS:=⟨p.src,p.dst,BF<|Bn (BE p.data) mix.toNat<|Dn .u8 (@rd Int (dfl .u8) (BE p.data) mix)<|w8 kp,A0⟩
def J5(ra:List AS)(i:Nat):List AS:=ra.take i++ra.drop (i+1)
def lnk(p:AS):Int:=if p.src<p.dst then p.src else p.dst
def Dy(w:AX)(e:Event):AX×Bool:=
 if inB e.wo 0 ((w.Ai.length:Int) - 1) then
  if e.ki=6 then
   if !(pA w.Ai e.wo.toNat).sp&&(inB e.mix 0 (((pA w.Ai e.wo.toNat).data.size:Int) - 1)&&inB e.kp 1 255) then
    (⟨w.ti,w.AK,w.B2,w.Ai.set e.wo.toNat<|Oe (pA w.Ai e.wo.toNat) e.mix e.kp,w.Ab,w.got⟩,A0)
   else(w,A3)
  else if e.ki=5 then(⟨w.ti,w.AK,w.B2,J5 w.Ai e.wo.toNat,w.Ab,w.got⟩,A0)
  else if bA w.B2 (lnk<|pA w.Ai e.wo.toNat).toNat then(IU w (pA w.Ai e.wo.toNat)<|if e.kp=0 then J5 w.Ai e.wo.toNat else w.Ai,A0)
  else(w,A3)
 else(w,A3)
def Ge(w:AX)(i:Nat)(k:AA):AX:=⟨w.ti,w.AK.set i k,w.B2,w.Ai,w.Ab,w.got⟩
def L4(w:AX)(e:Event)(k:AA):AX×Bool:=
 if 6<=w.Ab.length then(w,A3)
 else if(Dl k e.to e.un e.tx).2=0 then(w,A3)
 else(⟨w.ti,w.AK.set e.at_.toNat (Dl k e.to e.un e.tx).1,w.B2,w.Ai,w.Ab++[⟨e.at_,(Dl k e.to e.un e.tx).2,e.to,e.un,e.tx⟩],w.got⟩,A0)
def L0(w:AX)(e:Event)(k:AA):AX×Bool:=
 if(DV k e.fr e.nu).2.2&&A1 (w.got.length<6) then
  (⟨w.ti,w.AK.set e.at_.toNat (DV k e.fr e.nu).1,w.B2,w.Ai,w.Ab,w.got++[(DV k e.fr e.nu).2.1]⟩,A0)
 else(w,A3)
def KY(w:AX)(e:Event)(k:AA):AX×Bool:=
 if e.ki=1 then L4 w e k
 else if e.ki=2 then(Ge w e.at_.toNat (FA k).1,(FA k).2)
 else if e.ki=3 then(if(Em k e.fr e.nu e.mix).2 then(⟨w.ti,w.AK,w.B2,Cd w.Ai [(Em k e.fr e.nu e.mix).1],w.Ab,w.got⟩,A0) else(w,A3))
 else if e.ki=7 then(Ge w e.at_.toNat<|faM k e.kp,k.up)
 else if e.ki=8 then(Ge w e.at_.toNat<|riM k,!k.up)
 else if e.ki=11 then L0 w e k
 else if e.ki=12 then(Ge w e.at_.toNat (FB k).1,(FB k).2)
 else if e.ki=13 then(Ge w e.at_.toNat (F9 k).1,(F9 k).2)
 else(w,A3)
def ER(w:AX)(e:Event):AX×Bool:=
 if inB e.at_ 0 ((w.B2.length:Int) - 1)&& !decide (bA w.B2 e.at_.toNat=A1 (e.ki=9)) then
  (⟨w.ti,w.AK,w.B2.set e.at_.toNat<|A1<|e.ki=9,w.Ai,w.Ab,w.got⟩,A0)
 else(w,A3)
def doM(w:AX)(e:Event):AX×Bool:=
 if e.ki=4\/e.ki=5\/e.ki=6 then Dy w e
 else if e.ki=9\/e.ki=10 then ER w e
 else if isN e.at_ then KY w e (kA w.AK e.at_.toNat)
 else(w,A3)
abbrev tE(e:Event):Int×Int×Int×Int×Int×Int×Int×Int×Int×A4×A2:=(e.ki,e.at_,e.fr,e.nu,e.wo,e.mix,e.kp,e.to,e.un,e.tx,())
abbrev tS(w:AX)(ev:List Event):Int×List AA×List Bool×List AS×List A6×List A6×List Event×A2:=(w.ti,w.AK,w.B2,w.Ai,w.Ab,w.got,ev,())
def tick(w:AX)(b:Bool):AX:=if b then⟨w64<|w.ti+1,w.AK,w.B2,w.Ai,w.Ab,w.got⟩ else w
def CC(w:AX)(e:Event):AX:=tick (doM w e).1 (doM w e).2
def Jn(ev:List Event)(e:Event)(b:Bool):List Event:=if b then ev++[e] else ev
def aAu(l:List AS)(i:Int): @rd AS (dfl .An) l i=pA l i.toNat:=rfl
def Xl(l:List Bool)(i:Int): @rd Bool (dfl .bool) l i=bA l i.toNat:=rfl
def me{l:List AS}{i:Nat}(h:i<l.length):pA l i=l[i]:=by
 rw[pA,B9,Av h];rfl
def FP{i:Int}{n:Nat}(h0:0<=i)(h1:i<n):inb i n=A0:=by unfold inb;simp;omega
def OP{p:AS}(h:E3 p=A0):(0<=p.src/\p.src<=3)/\(0<=p.dst/\p.dst<=3)/\p.data.size<=40/\0<=lnk p/\lnk p<3:=by
 unfold E3 at h;simp only[AE,CB,decide_eq_true_eq]at h;have a:=Ff h.1;have b:=Ff h.2.1;refine⟨a,b,J, ?_, ?_⟩<;>unfold lnk<;>split<;>omega
def alg(a b:Int):dd (a,b,())=I ((if a<b then a else b,()),()):=by
 unfold dd;rcases tfp (a<b) with e|e<;>simp only[e,AU,Ae,A5,if_false,A7]
def OV{w:AX}(h:BA w){i:Nat}(hi:i<w.Ai.length):E3 (pA w.Ai i)=A0:=by
 rw[me hi];exact h.p _<|CJ hi
def Tn{w:AX}(h:BA w){i:Nat}(hi:i<4):FN (kA w.AK i):=Cz (h.k i hi).1
def SF{n:Nat}(h:n<=1048576):w64 ((n:Int) - 1)=(n:Int) - 1:=AZ J J
def nd{p:Prop}[Decidable p](h:¬p):¬(A1 p=A0):=by simpa using h
def aaG{α:Type}(l:List α)(i:Nat)(x y:α):(l.set i x).set i y=l.set i y:=by simp
def aaZ{l:List AS}{i:Nat}(h:i<l.length)(p:AS):pA (l.set i p) i=p:=by
 rw[pA,B9,Yj h];rfl
def mT(s:A4):(BE s).length=s.size:=by rw[Sb,E5,Ay]
def TM{n:Int}(h:isN n=A0):n.toNat<4:=by have:=Ff h;omega
section
variable {Ω:Type} {K2:List AA->List AS->Option Ω} {F:Option Ω}
def ab1{w:AX}(h:BA w){e:Event}(hk:e.ki≠5){p:AS}(hp:E3 p=A0)(ra:List AS):Qy w.AK ra (tE e) p K2=K2 (IU w p ra).AK (IU w p ra).Ai:=by
 obtain⟨p1,p2,p3,p4,p5⟩:=OP hp;have hin:inb p.dst w.AK.length=A0:=FP p2.1 (by rw[h.kl];omega);unfold Qy IU;rw[AD<|nd hk,A8<|B8 J,agC<|BOk.str _];generalize DJ (BE p.data)=u;simp only[A9];rcases tf u.2 with e2|e2<;>simp only[e2,AB,AI,A7,A5,AW,AO];rcases tfp (u.1.src=p.src) with e3|e3<;>simp only[e3,AU,Ae,AB,AI,A7,A5,AW,AO];rcases tfp (u.1.dst=p.dst) with e4|e4<;>simp only[e4,AU,Ae,AB,AI,A7,A5];simp only[hin,A5,SP];rw[show Uo ((_,_,_,_,_,()),_,())=_ from ahI (Tn h (i:=p.dst.toNat) J) u.1];simp only[A9];rw[xF (by have:=(X9 (kA w.AK p.dst.toNat) u.1).1;omega)];rfl
def ab2{a:List AA}{ra:List AS}{e:Event}(h0:0<=e.wo)(h1:e.wo<ra.length)(hl:ra.length<=1048576)(p:AS):ZZ a ra (tE e) p K2=Qy a (J5 ra e.wo.toNat) (tE e) p K2:=by
 have hw:w64 (e.wo+1)=e.wo+1:=AZ J J;have hn:(e.wo+1).toNat=e.wo.toNat+1:=J
 unfold ZZ;simp only[hw,hn];rw[A8 (by simp;omega),A8<|B8 (by simp;omega),A8 (by simp;omega),A8<|B8 (by simp;omega)];rfl
def awu{w:AX}(h:BA w){e:Event}(hk:e.ki=4\/e.ki=5\/e.ki=6):Qz w.AK w.B2 w.Ai (tE e) K2 F=if(Dy w e).2 then K2 (Dy w e).1.AK (Dy w e).1.Ai else F:=by
 have rl:=h.rl;unfold Qz Dy;simp only[Hl,A9,SF<|show w.Ai.length<=1048576 by omega,aAu];rcases tf (inB e.wo 0<|(w.Ai.length:Int) - 1) with e0|e0
 .have ha:=Af.1 e0;have hb:inb e.wo w.Ai.length=A0:=FP ha.1 J;have hwl:e.wo.toNat<w.Ai.length:=J
  have hp:=OV h (i:=e.wo.toNat) hwl;obtain⟨p1,p2,p3,p4,p5⟩:=OP hp;rw[e0,hb];simp only[AB,A7,A5];rcases tfp (e.ki=6) with c6|c6
  .simp only[c6,AU,A5,SF<|show(pA w.Ai e.wo.toNat).data.size<=1048576 by omega];rcases tf (pA w.Ai e.wo.toNat).sp with e1|e1<;>simp only[e1,AB,AI,A7,A5,AW,AO];rcases tf (inB e.mix 0<|((pA w.Ai e.wo.toNat).data.size:Int) - 1) with e2|e2<;>simp only[e2,AB,AI,A7,A5,AW,AO];rcases tf (inB e.kp 1 255) with e3|e3<;>simp only[e3,AB,AI,A7,A5];have hm:=Af.1 e2;have hmb:inb e.mix (BE (pA w.Ai e.wo.toNat).data).length=A0:=FP hm.1 (by rw[mT];omega);simp only[GA,aaG,aaZ hwl,hb,A5];rw[A8<|B8 J,A8 hmb,A8 hmb];rfl
  .simp only[c6,Ae,A7,if_false];rcases tfp (e.ki=4) with c4|c4
   .have c5:¬e.ki=5:=by have:e.ki=4:=of_eq_true c4;omega
    have hl:inb (lnk<|pA w.Ai e.wo.toNat) w.B2.length=A0:=by
     have:=h.ll;exact FP p4 (by rw[this];exact p5)
    have hlk:∀q:AS,(if q.src<q.dst then q.src else q.dst)=lnk q:=λ_=>rfl;simp only[c4,AU,A5,alg,A9,hlk,hl,Xl,AD c5];rcases tf (bA w.B2 (lnk<|pA w.Ai e.wo.toNat).toNat) with e1|e1<;>simp only[e1,AB,AI,A7,A5];unfold ZY;rw[AD<|nd c5];by_cases e5:e.kp=0
    .rw[A8<|Aa e5,A8 e5,ab2 ha.1 J J,ab1 h c5 hp]
    .rw[AD<|nd e5,AD e5,ab1 h c5 hp]
   .have c5:e.ki=5:=by
     have:¬e.ki=4:=by simpa using c4
     have:¬e.ki=6:=by simpa using c6
     omega
    simp only[c4,Ae,A7,A8 c5];unfold ZY;rw[A8<|Aa c5,ab2 ha.1 J J];unfold Qy;rw[A8<|Aa c5];rfl
 .rw[e0];simp only[AI,A5,A7]
def awv{w:AX}(h:BA w){e:Event}{K1:List Bool->Option Ω}:U0 w.B2 (tE e) K1 F=if(ER w e).2 then K1 (ER w e).1.B2 else F:=by
 have ll:=h.ll;unfold U0 ER;simp only[Hl,A9,SF<|show w.B2.length<=1048576 by omega,Xl];rcases tf (inB e.at_ 0<|(w.B2.length:Int) - 1) with e0|e0
 .have ha:=Af.1 e0;have hb:inb e.at_ w.B2.length=A0:=FP ha.1 J;rw[e0,hb];simp only[AB,A7,A5,AW];rcases tfp (bA w.B2 e.at_.toNat=A1 (e.ki=9)) with c|c<;>simp only[c,AU,Ae,AB,AI,A5,A7]
 .rw[e0];simp only[AI,AO,A5,A7]
end
section
variable {Ω:Type} {K:List AA->List Bool->List AS->List A6->List A6->Option Ω} {F:Option Ω} {Kv:List AA->Bool->Option Ω} {Km:List AS->Bool->Option Ω} {Kz:Bool->Option Ω} {R:Option Ω}
def aww{w:AX}(h:BA w){e:Event}(hk:¬(e.ki=4\/e.ki=5\/e.ki=6))(hk':¬(e.ki=9\/e.ki=10))(ht:e.tx.size<=1048576){D:AX×Bool}
  (hK:D.2=A0->K D.1.AK D.1.B2 D.1.Ai D.1.Ab D.1.got=R)(hF:D.2=A3->D.1=w->F=R)(hKv:∀k' b,D=(Ge w e.at_.toNat k',b)->Kv (w.AK.set e.at_.toNat k') b=R)
  (hKm:∀ra',D=(⟨w.ti,w.AK,w.B2,ra',w.Ab,w.got⟩,A0)->Km ra' A0=R)(hKz:D=(w,A3)->Kz A3=R):
  ∀X,nE w.AK w.Ai w.Ab w.got (tE e) (λx y z=>K x w.B2 w.Ai y z) F Kv Km Kz=X->doM w e=D->X=R:=by
 intro X;obtain⟨ki,at_,fr,nu,wo,mix,kp,t',un,tx⟩:=e;simp only at hk hk' ht hKv;have hn:∀(l:List A6) (x:A6),l.length<=6->Ac (l.length+[x].length)=A0:=λl x hl=>B8 (by simp;omega);unfold nE doM;rw[AD hk,AD hk'];simp only[JZ,A9];rcases tf (isN at_) with e0|e0
 .have ha:=Ff e0;have hal:=TM e0;have hb:inb at_ w.AK.length=A0:=FP ha.1 (by rw[h.kl];omega);have hko:=(h.k _ hal).1;have hks:=Tn h hal;simp only[e0,AB,A7,hb,A5,SP];unfold KY;rcases tfp (ki=1) with e1|e1
  .simp only[e1,AU,A5];unfold L4;by_cases hs:6<=w.Ab.length
   .rw[A8<|Aa<|show 6<=(w.Ab.length:Int) by omega,A8 hs];intro hX hd;subst hd;rw[← hX];exact hF rfl rfl
   .rw[AD<|nd<|show ¬6<=(w.Ab.length:Int) by omega,AD hs];rw[show VC ((_,_,_,_,_,()),_,_,_,())=_ from aiu hko t' un ht];simp only[A9];rcases tfp ((Dl (kA w.AK at_.toNat) t' un tx).2=0) with e2|e2<;>simp only[e2,AU,Ae,A7,A5,if_false]
    .intro hX hd;subst hd;rw[← hX];exact hF rfl rfl
    .rw[A8<|hn _ _ h.sl];intro hX hd;subst hd;rw[← hX];exact hK rfl
  .simp only[e1,Ae,A7,if_false];rcases tfp (ki=2) with e2|e2
   .simp only[e2,AU,A5];rw[show Ul ((_,_,_,_,_,()),())=_ from ahF hko];simp only[A9];intro hX hd;subst hd;rw[← hX];exact hKv _ _ rfl
   .simp only[e2,Ae,A7,if_false];rcases tfp (ki=3) with e3|e3
    .simp only[e3,AU,A5];rw[show VD ((_,_,_,_,_,()),_,_,_,())=_ from aiv hks fr nu mix];simp only[A9];rw[A8 hko];rcases tf (Em (kA w.AK at_.toNat) fr nu mix).2 with e4|e4<;>simp only[e4,A5,A7]
     .rw[show Rs (_,_,())=_ from xF (ra:=w.Ai) (fs:=[(Em (kA w.AK at_.toNat) fr nu mix).1])<|by simp];simp only[A9];intro hX hd;subst hd;rw[← hX];exact hKm _ rfl
     .intro hX hd;subst hd;rw[← hX];exact hKz rfl
    .simp only[e3,Ae,A7,if_false];rcases tfp (ki=7) with e4|e4
     .simp only[e4,AU,A5];rw[show Up ((_,_,_,_,_,()),_,())=_ from ahJ hks kp];simp only[A9];rw[A8 hko];intro hX hd;subst hd;rw[← hX];exact hKv _ _ rfl
     .simp only[e4,Ae,A7,if_false];rcases tfp (ki=8) with e5|e5
      .simp only[e5,AU,A5];rw[show Um ((_,_,_,_,_,()),())=_ from ahG hko];simp only[A9];intro hX hd;subst hd;rw[← hX];exact hKv _ _ rfl
      .simp only[e5,Ae,A7,if_false];rcases tfp (ki=11) with e6|e6
       .simp only[e6,AU,A5];unfold L0;rw[show VE ((_,_,_,_,_,()),_,_,())=_ from aiw hko fr nu];simp only[A9];rcases tf (DV (kA w.AK at_.toNat) fr nu).2.2 with e7|e7<;>simp only[e7,A5,A7,AW,AO]
        .by_cases hs:w.got.length<6
         .rw[A8<|Aa<|show(w.got.length:Int)<6 by omega,A8<|Aa hs,A8<|hn _ _ h.gl];intro hX hd;subst hd;rw[← hX];exact hK rfl
         .rw[AD<|nd<|show ¬(w.got.length:Int)<6 by omega,AD<|nd hs];intro hX hd;subst hd;rw[← hX];exact hF rfl rfl
        .intro hX hd;subst hd;rw[← hX];exact hF rfl rfl
       .simp only[e6,Ae,A7,if_false];rcases tfp (ki=12) with e7|e7
        .simp only[e7,AU,A5];rw[show Un ((_,_,_,_,_,()),())=_ from ahH hko];simp only[A9];intro hX hd;subst hd;rw[← hX];exact hKv _ _ rfl
        .simp only[e7,Ae,A7,if_false];rcases tfp (ki=13) with e8|e8
         .simp only[e8,AU,A5];rw[show UY ((_,_,_,_,_,()),())=_ from agB hko];simp only[A9];intro hX hd;subst hd;rw[← hX];exact hKv _ _ rfl
         .simp only[e8,Ae,A7,if_false];intro hX hd;subst hd;rw[← hX];exact hF rfl rfl
 .simp only[e0,AI,A7,A5];intro hX hd;subst hd;rw[← hX];exact hF rfl rfl
def ard{w:AX}{e:Event}(h:(Dy w e).2=A3):(Dy w e).1=w:=by
 unfold Dy at h ⊢;split
 .rename_i h2;rw[A8 h2]at h;split
  .rename_i h3;rw[A8 h3]at h;split
   .rename_i h4;rw[A8 h4]at h;cases h
   .rfl
  .rename_i h3;rw[AD h3]at h;split
   .rename_i h4;rw[A8 h4]at h;cases h
   .rename_i h4;rw[AD h4]at h;split
    .rename_i h5;rw[A8 h5]at h;cases h
    .rfl
 .rfl
def aqs(w:AX)(e:Event):(Dy w e).1.B2=w.B2/\(Dy w e).1.Ab=w.Ab/\(Dy w e).1.got=w.got:=by
 unfold Dy;split
 .split
  .split<;>exact⟨rfl,rfl,rfl⟩
  .split
   .exact⟨rfl,rfl,rfl⟩
   .split
    .unfold IU;split<;>exact⟨rfl,rfl,rfl⟩
    .exact⟨rfl,rfl,rfl⟩
 .exact⟨rfl,rfl,rfl⟩
def abD{w:AX}(h:BA w){e:Event}(ht:e.tx.size<=1048576)
  (hK:(doM w e).2=A0->K (doM w e).1.AK (doM w e).1.B2 (doM w e).1.Ai (doM w e).1.Ab (doM w e).1.got=R)(hF:(doM w e).2=A3->(doM w e).1=w->F=R)(hKv:∀k' b,doM w e=(Ge w e.at_.toNat k',b)->Kv (w.AK.set e.at_.toNat k') b=R)
  (hKm:∀ra',doM w e=(⟨w.ti,w.AK,w.B2,ra',w.Ab,w.got⟩,A0)->Km ra' A0=R)(hKz:doM w e=(w,A3)->Kz A3=R):
  doK w.AK w.B2 w.Ai w.Ab w.got (tE e) K F Kv Km Kz=R:=by
 have rad:(e.ki=4\/e.ki=5\/e.ki=6)->Qz w.AK w.B2 w.Ai (tE e) (λx y=>K x w.B2 y w.Ab w.got) F=R:=by
  intro hk;have hd:doM w e=Dy w e:=by
   unfold doM;rw[A8 hk]
  rw[awu h hk];rw[hd]at hK hF;obtain⟨r1,r2,r3⟩:=aqs w e;rcases tf (Dy w e).2 with c|c
  .have:=hK c;rw[r1,r2,r3]at this;rw[c,A8 rfl];exact this
  .rw[c,A7];exact hF c<|ard c
 have lk:(e.ki=9\/e.ki=10)->U0 w.B2 (tE e) (λy=>K w.AK y w.Ai w.Ab w.got) F=R:=by
  intro hk;have hd:doM w e=ER w e:=by
   unfold doM;rw[AD J,A8 hk]
  rw[awv h];rw[hd]at hK hF;rcases tf (ER w e).2 with c|c
  .have:=hK c;rw[c,A8 rfl,← this];unfold ER;split<;>rfl
  .rw[c,A7];refine hF c ?_;unfold ER at c ⊢;split
   .rename_i h3;rw[A8 h3]at c;cases c
   .rfl
 unfold doK;by_cases h4:e.ki=4
 .rw[A8<|Aa h4];exact rad J
 .rw[AD<|nd h4];by_cases h5:e.ki=5
  .rw[A8<|Aa h5];exact rad J
  .rw[AD<|nd h5];by_cases h6:e.ki=6
   .rw[A8<|Aa h6];exact rad J
   .rw[AD<|nd h6];by_cases h9:e.ki=9
    .rw[A8<|Aa h9];exact lk J
    .rw[AD<|nd h9];by_cases h10:e.ki=10
     .rw[A8<|Aa h10];exact lk J
     .rw[AD<|nd h10];exact aww h J J ht hK hF hKv hKm hKz _ rfl rfl
end
def aug(w:AX)(p:AS)(ra:List AS):(IU w p ra).ti=w.ti:=by unfold IU;split<;>rfl
def ZG(w:AX)(e:Event):(doM w e).1.ti=w.ti:=by
 unfold doM;split
 .unfold Dy;split
  .split
   .split<;>rfl
   .split
    .rfl
    .split
     .exact aug _ _ _
     .rfl
  .rfl
 .split
  .unfold ER;split<;>rfl
  .split
   .unfold KY;split
    .unfold L4;split
     .rfl
     .split<;>rfl
    .split
     .rfl
     .split
      .split<;>rfl
      .split
       .rfl
       .split
        .rfl
        .split
         .unfold L0;split<;>rfl
         .split
          .rfl
          .split<;>rfl
   .rfl
def arV{w:AX}(h:BA w){r:List Int×Int×A2}{ev:List Event}(hev:ev.length<=1048576){e:Event}(ht:e.tx.size<=1048576):
  FW ((r,tS w ev),tE e,())=I (((doM w e).2,()),((r,tS (CC w e)<|Jn ev e (doM w e).2),())):=by
 have hr:∀x:Event,Ac (ev.length+[x].length)=A0:=λx=>B8 (by simp;omega);have hti:=ZG w e;unfold FW;refine abD (w:=w) h (e:=e) ht (λc=> ?_) (λc c2=> ?_) (λk b c=> ?_) (λra c=> ?_) (λc=> ?_)
 .unfold CC tick Jn;rw[c,A8<|hr _,A8 rfl,A8 rfl,hti]
 .unfold CC tick Jn;rw[c,A7,A7,c2]
 .unfold CC tick Jn;rw[c];cases b
  .rfl
  .show(if Ac _ then _ else _)=_;rw[A8<|hr _];rfl
 .unfold CC tick Jn;rw[c,A8 rfl,A8<|hr _];rfl
 .unfold CC tick Jn;rw[c];rfl
end Go.VS
namespace Go.VS
open Go
def TG(k:AA)(r:A4)(f:Bool):(wrR k r f).1.id=k.id:=by
 unfold wrR;split
 .rfl
 .cases f<;>rfl
def au6{k:AA}(h:Ah k=A0)(f:Frame):(Db k f).1.id=k.id:=by
 unfold Db;rw[A8 h];unfold Kg;split
 .split
  .unfold J2;split
   .rfl
   .split
    .rfl
    .split
     .rfl
     .unfold NY;split
      .split
       .unfold N0;split
        .exact TG _ _ _
        .rfl
       .rfl
      .rfl
  .split
   .exact TG _ _ _
   .rfl
 .rfl
def ate(k:AA):(FA k).1.id=k.id:=by
 unfold FA;split
 .exact TG _ _ _
 .rfl
def avu(k:AA)(tt un:Int)(tx:A4):(Dl k tt un tx).1.id=k.id:=by
 unfold Dl;split
 .exact TG _ _ _
 .rfl
def awJ(k:AA)(fr nu:Int):(DV k fr nu).1.id=k.id:=by
 unfold DV;split
 .exact TG _ _ _
 .rfl
def at0(k:AA):(FB k).1.id=k.id:=by unfold FB;split<;>rfl
def asO(k:AA):(F9 k).1.id=k.id:=by unfold F9;split<;>rfl
def aaz(k:AA)(n:Int):(faM k n).id=k.id:=by unfold faM;rfl
def ax3(k:AA):(riM k).id=k.id:=rfl
def awA{k:AA}(h:Ah k=A0):Ah (riM k)=A0:=(ax2<|CI h).ok
def Hu{l:List AA}{i j:Nat}(hi:i<l.length)(k:AA):kA (l.set i k) j=if j=i then k else kA l j:=by
 unfold kA;simp only[B9,NB];by_cases h:j=i
 .subst h;simp[hi]
 .have h':¬i=j:=λe=>h e.symm;simp[h,h']
def BA.put{w:AX}(h:BA w){i:Nat}(hi:i<4){k:AA}(hk:Ah k=A0)(hid:k.id=(kA w.AK i).id)(ra:List AS)(se go:List A6)
  (rl:ra.length<=30)(sl:se.length<=6)(gl:go.length<=6)(p:∀p∈ra,E3 p=A0)(s:∀n∈se,B4 n=A0)(g:∀n∈go,B4 n=A0):
  BA ⟨w.ti,w.AK.set i k,w.B2,ra,se,go⟩:=by
 refine⟨by rw[GA];exact h.kl,h.ll,rl,sl,gl,λj hj=> ?_,p,s,g⟩;show Ah (kA (w.AK.set i k) j)=A0/\(kA (w.AK.set i k) j).id=(j:Int);rw[Hu (by rw[h.kl];exact hi)];split
 .rename_i e;rw[e,hid];exact⟨hk,(h.k i hi).2⟩
 .exact h.k j hj
def BA.Ge{w:AX}(h:BA w){i:Nat}(hi:i<4){k:AA}(hk:Ah k=A0)(hid:k.id=(kA w.AK i).id):BA (Ge w i k):=
 h.put hi hk hid w.Ai w.Ab w.got h.rl h.sl h.gl h.p h.s h.g
def BA.ra{w:AX}(h:BA w){ra:List AS}(rl:ra.length<=30)(p:∀p∈ra,E3 p=A0):BA ⟨w.ti,w.AK,w.B2,ra,w.Ab,w.got⟩:=
 ⟨h.kl,h.ll,rl,h.sl,h.gl,h.k,p,h.s,h.g⟩
def BA.ti{w:AX}(h:BA w)(n:Int):BA ⟨n,w.AK,w.B2,w.Ai,w.Ab,w.got⟩:=⟨h.kl,h.ll,h.rl,h.sl,h.gl,h.k,h.p,h.s,h.g⟩
def Ss{w:AX}(h:BA w)(i:Nat):(J5 w.Ai i).length<=30/\ ∀p∈J5 w.Ai i,E3 p=A0:=by
 have:=h.rl;refine⟨by unfold J5;simp;omega,λp hp=>h.p p ?_⟩;rcases BM.1 hp with h1|h1
 .exact Gx h1
 .exact Kl h1
def as9{w:AX}(h:BA w){p:AS}(hp:E3 p=A0){ra:List AS}(rl:ra.length<=30)(hra:∀p∈ra,E3 p=A0):BA (IU w p ra):=by
 unfold IU;obtain⟨_,p2,_⟩:=OP hp;split
 .have hi:p.dst.toNat<4:=J
  exact h.put hi (au5 (h.k _ hi).1 _) (au6 (h.k _ hi).1 _) _ _ _ (aCv rl) h.sl h.gl (aaH hra (X9 _ _).2) h.s h.g
 .exact h.ra rl hra
def arL{p:AS}(hp:E3 p=A0)(mix kp:Int):E3 (Oe p mix kp)=A0:=by
 unfold E3 Oe at *;simpa[XH,mT] using hp
def are{w:AX}(h:BA w)(e:Event):BA (Dy w e).1:=by
 unfold Dy;split
 .rename_i h0;have h0:=Af.1 h0;have hlt:e.wo.toNat<w.Ai.length:=J
  have hp:=OV h hlt;split
  .split
   .refine h.ra (by rw[GA];exact h.rl) λp hp'=> ?_;rcases TN hp' with h1|h1
    .exact h.p p h1
    .rw[h1];exact arL hp _ _
   .exact h
  .split
   .exact h.ra (Ss h _).1 (Ss h _).2
   .split
    .refine as9 h hp ?_ ?_<;>split
     .exact(Ss h _).1
     .exact h.rl
     .exact(Ss h _).2
     .exact h.p
    .exact h
 .exact h
def atv{w:AX}(h:BA w)(e:Event):BA (ER w e).1:=by
 unfold ER;split
 .exact⟨h.kl,by show(w.B2.set _ _).length=3;rw[GA];exact h.ll,h.rl,h.sl,h.gl,h.k,h.p,h.s,h.g⟩
 .exact h
def aCc{k:AA}{tt un:Int}{tx:A4}(h:(Dl k tt un tx).2≠0):B4 ⟨k.id,(Dl k tt un tx).2,tt,un,tx⟩=A0:=by
 unfold Dl at h ⊢;split
 .rename_i hc;rw[A8 hc]at h;simp only[AE]at hc;simp only at h ⊢;split
  .exact hc.2
  .rename_i h1;rw[AD h1]at h;exact absurd rfl h
 .rename_i hc;rw[AD hc]at h;exact absurd rfl h
def asU{k:AA}(hk:Ah k=A0){fr nu:Int}(h:(DV k fr nu).2.2=A0):B4 (DV k fr nu).2.1=A0:=by
 unfold DV at h ⊢;split
 .rename_i hc;rw[A8 hc]at h;simp only at h ⊢;rw[A8 h];simp only[AE,CL,decide_eq_false_iff_not]at hc;exact Gj (CY (CI hk).kok).i (GM<|NM.1 hc.2).1
 .rename_i hc;rw[AD hc]at h;cases h
def Sl{α:Type}{l:List α}{P:α->Prop}{a:α}(h:∀x∈l,P x)(ha:P a):∀x∈l++[a],P x:=by
 intro x hx;rcases BM.1 hx with h1|h1
 .exact h x h1
 .rw[C9.1 h1];exact ha
def ar2{w:AX}(h:BA w)(e:Event)(ha:isN e.at_=A0):BA (KY w e<|kA w.AK e.at_.toNat).1:=by
 have hi:=TM ha;have hr:=Ff ha;obtain⟨hk,hid⟩:=h.k _ hi;unfold KY;split
 .unfold L4;split
  .exact h
  .split
   .exact h
   .rename_i h1 h2;refine h.put hi (avt hk _ _ _) (avu _ _ _ _) _ _ _ h.rl (by simp;omega) h.gl h.p (Sl h.s ?_) h.g;have:=aCc h2;rw[hid,NI hr.1]at this;exact this
 .split
  .exact h.Ge hi (atd hk) (ate _)
  .split
   .split
    .rename_i h1;exact h.ra (aCv h.rl) (aaH h.p λf hf=>by rw[C9.1 hf];exact auO hk h1)
    .exact h
   .split
    .exact h.Ge hi (mW hk _) (aaz _ _)
    .split
     .exact h.Ge hi (awA hk) (ax3 _)
     .split
      .unfold L0;split
       .rename_i h1;simp only[AE,decide_eq_true_eq]at h1;exact h.put hi (avH hk _ _) (awJ _ _ _) _ _ _ h.rl h.sl (by simp;omega) h.p h.s (Sl h.g<|asU hk h1.1)
       .exact h
      .split
       .exact h.Ge hi (asz hk) (at0 _)
       .split
        .exact h.Ge hi (asN hk) (asO _)
        .exact h
def mZ{w:AX}(h:BA w)(e:Event):BA (doM w e).1:=by
 unfold doM;split
 .exact are h e
 .split
  .exact atv h e
  .split
   .rename_i h1;exact ar2 h e h1
   .exact h
def aaB{w:AX}(h:BA w)(b:Bool):BA (tick w b):=by
 unfold tick;split
 .exact h.ti _
 .exact h
def mF{w:AX}(h:BA w)(e:Event):BA (CC w e):=aaB (mZ h e) _
def kp0(i:Int):AA:=⟨i,A0,noB,0,[]⟩
def rv0:AX:=⟨0,[kp0 0,kp0 1,kp0 2,kp0 3],[A0,A0,A0],[],[],[]⟩
def awg{i:Int}(h:isN i=A0):Ah (kp0 i)=A0:=by
 refine WL (k:=kp0 i) (rs:=[]) (ts:=[]) h ⟨?_,(show noB.size<=2400 by decide),by rfl,by rfl⟩ (show 0<=3 by decide) (.inl rfl) ?_ (λi hi=>absurd hi<|kv _)
 .intro r hr;cases hr
 .unfold CO;rw[A8<|show isN (kp0 i).id=A0 from h];rfl
def ZP{i:Nat}(hi:i<4):kA rv0.AK i=kp0 i:=by
 have:i=0\/i=1\/i=2\/i=3:=J
 obtain rfl|rfl|rfl|rfl:=this<;>rfl
def ly{i:Nat}(hi:i<4):isN (i:Int)=A0:=Af.2 ⟨J,J⟩
def Zl:BA rv0:=by
 refine⟨rfl,rfl,by decide,by decide,by decide,λi hi=> ?_,(λp hp=>by cases hp),(λp hp=>by cases hp),(λp hp=>by cases hp)⟩;rw[ZP hi];exact⟨awg<|ly hi,rfl⟩
def PH(k:AA):Prop:=k.up=A3->k.fo=(k.log.size:Int)
def TE(k:AA)(r:A4)(f:Bool):(wrR k r f).1.up=k.up:=by
 unfold wrR;split
 .rfl
 .cases f<;>rfl
def avX{k:AA}(h:Ah k=A0)(f:Frame):(Db k f).1.up=k.up:=by
 unfold Db;rw[A8 h];unfold Kg;split
 .split
  .unfold J2;split
   .rfl
   .split
    .rfl
    .split
     .rfl
     .unfold NY;split
      .split
       .unfold N0;split
        .exact TE _ _ _
        .rfl
       .rfl
      .rfl
  .split
   .exact TE _ _ _
   .rfl
 .rfl
def asG{k:AA}(ok:Ah k=A0)(h:k.up=A3)(f:Frame):Db k f=(k,[]):=by
 unfold Db;rw[A8 ok];unfold Kg;rw[h,AO,A7]
def at1{k:AA}(h:k.up=A3)(tt un:Int)(tx:A4):Dl k tt un tx=(k,0):=by
 unfold Dl;rw[h,AO,A7]
def av2{k:AA}(h:k.up=A3)(a b:Int):DV k a b=(k,zN,A3):=by
 unfold DV;rw[h,AO,A7]
def arq{k:AA}(h:k.up=A3):FA k=(k,A3):=by
 unfold FA;rw[h,A7]
def arC{k:AA}(h:k.up=A3):FB k=(k,A3):=by
 unfold FB;rw[h,A7]
def aqf{k:AA}(h:k.up=A3):F9 k=(k,A3):=by
 unfold F9;rw[h,AO,A7]
def ax9(k:AA)(tt un:Int)(tx:A4):(Dl k tt un tx).1.up=k.up:=by
 unfold Dl;split
 .exact TE _ _ _
 .rfl
def awn(k:AA)(a b:Int):(DV k a b).1.up=k.up:=by
 unfold DV;split
 .exact TE _ _ _
 .rfl
def auV(k:AA):(FA k).1.up=k.up:=by
 unfold FA;split
 .exact TE _ _ _
 .rfl
def avr(k:AA):(FB k).1.up=k.up:=by unfold FB;split<;>rfl
def aur(k:AA):(F9 k).1.up=k.up:=by unfold F9;split<;>rfl
def QF{k k':AA}(h:PH k)(hu:k'.up=k.up)(hd:k.up=A3->k'=k):PH k':=λe=>by
 rw[hu]at e;rw[hd e];exact h e
def avA(k:AA)(n:Int):PH (faM k n):=by
 intro _;unfold faM;simp only;have h:=(Py<|k.log.extract 0 (k.fo+max 0 (min n<|(k.log.size:Int) - k.fo)).toNat).1;rw[@aBT];omega
def auv{k:AA}(ok:Ah k=A0)(h:k.up=A3)(d:PH k)(n:Int):faM k n=k:=by
 obtain⟨_,h2,h3⟩:=aqh (CI ok) (d h) n;have h4:=aDy ok h;have:faM k n=⟨(faM k n).id,(faM k n).up,(faM k n).log,(faM k n).fo,(faM k n).AN⟩:=rfl;rw[this,h2,h3,aaz,show(faM k n).up=k.up from by rw[h];rfl,show(faM k n).AN=k.AN from by rw[h4];rfl]
def avo{k:AA}(h:k.up=A0):riM k=k:=by
 unfold riM;rw[← h]
def QM{l:List AA}{i:Nat}:l.set i (kA l i)=l:=by
 apply lC;intro j;rw[NB];by_cases h:i=j
 .subst h;by_cases h1:i<l.length
  .rw[A8 rfl,A8 h1,kA,B9,Av h1];rfl
  .rw[A8 rfl,AD h1,HV J]
 .rw[AD h]
def SV{w:AX}{i:Nat}{k:AA}(h:k=kA w.AK i):Ge w i k=w:=by
 subst h;unfold Ge;rw[QM]
structure RI (w:AX):Prop where
 d:∀i,i<4->PH (kA w.AK i)
def awt{w:AX}(h:BA w)(hd:RI w){e:Event}(ho:(doM w e).2=A3):(doM w e).1=w:=by
 unfold doM at ho ⊢;split
 .rename_i h1;rw[A8 h1]at ho;unfold Dy at ho ⊢;split
  .rename_i h2;rw[A8 h2]at ho;split
   .rename_i h3;rw[A8 h3]at ho;split
    .rename_i h4;rw[A8 h4]at ho;cases ho
    .rfl
   .rename_i h3;rw[AD h3]at ho;split
    .rename_i h4;rw[A8 h4]at ho;cases ho
    .rename_i h4;rw[AD h4]at ho;split
     .rename_i h5;rw[A8 h5]at ho;cases ho
     .rfl
  .rfl
 .rename_i h1;rw[AD h1]at ho;split
  .rename_i h2;rw[A8 h2]at ho;unfold ER at ho ⊢;split
   .rename_i h3;rw[A8 h3]at ho;cases ho
   .rfl
  .rename_i h2;rw[AD h2]at ho;split
   .rename_i h3;rw[A8 h3]at ho;have hi:=TM h3;obtain⟨ok,_⟩:=h.k _ hi;have hdk:=hd.d _ hi;unfold KY at ho ⊢;split
    .rename_i c;rw[A8 c]at ho;unfold L4 at ho ⊢;split
     .rfl
     .rename_i c1;rw[AD c1]at ho;split
      .rfl
      .rename_i c2;rw[AD c2]at ho;cases ho
    .rename_i c;rw[AD c]at ho;split
     .rename_i c;rw[A8 c]at ho;refine SV ?_;unfold FA at ho ⊢;split
      .rename_i c1;rw[A8 c1]at ho;exact QC ho
      .rfl
     .rename_i c;rw[AD c]at ho;split
      .rename_i c;rw[A8 c]at ho;split
       .rename_i c1;rw[A8 c1]at ho;cases ho
       .rfl
      .rename_i c;rw[AD c]at ho;split
       .rename_i c;rw[A8 c]at ho;exact SV (auv ok ho hdk _)
       .rename_i c;rw[AD c]at ho;split
        .rename_i c;rw[A8 c]at ho;exact SV (avo<|by simpa using ho)
        .rename_i c;rw[AD c]at ho;split
         .rename_i c;rw[A8 c]at ho;unfold L0 at ho ⊢;split
          .rename_i c1;rw[A8 c1]at ho;cases ho
          .rfl
         .rename_i c;rw[AD c]at ho;split
          .rename_i c;rw[A8 c]at ho;refine SV ?_;unfold FB at ho ⊢;split
           .rename_i c1;rw[A8 c1]at ho;cases ho
           .rfl
          .rename_i c;rw[AD c]at ho;split
           .rename_i c;rw[A8 c]at ho;refine SV ?_;unfold F9 at ho ⊢;split
            .rename_i c1;rw[A8 c1]at ho;cases ho
            .rfl
           .rfl
   .rfl
inductive KMv (k:AA):AA->Prop
 | acE (f:Frame):KMv k (Db k f).1
 | own (tt un:Int) (tx:A4):KMv k (Dl k tt un tx).1
 | time:KMv k (FA k).1
 | eat (a b:Int):KMv k (DV k a b).1
 | UK (n:Int):KMv k (faM k n)
 | aI:KMv k (riM k)
 | pack:KMv k (FB k).1
 | force:KMv k (F9 k).1
def axW{w:AX}(h:BA w)(e:Event):(doM w e).1.AK=w.AK\/ ∃i k',i<4/\KMv (kA w.AK i) k'/\(doM w e).1.AK=w.AK.set i k':=by
 unfold doM;split
 .unfold Dy;split
  .rename_i h2;split
   .split
    .exact .inl rfl
    .exact .inl rfl
   .split
    .exact .inl rfl
    .split
     .unfold IU;split
      .refine .inr ⟨_,_, ?_,.acE _,rfl⟩;have:=Af.1 h2;have:=OP<|OV h (i:=e.wo.toNat) J;omega
      .exact .inl rfl
     .exact .inl rfl
  .exact .inl rfl
 .split
  .unfold ER;split
   .exact .inl rfl
   .exact .inl rfl
  .split
   .rename_i h3;have hi:=TM h3;unfold KY;split
    .unfold L4;split
     .exact .inl rfl
     .split
      .exact .inl rfl
      .exact .inr ⟨_,_,hi,.own _ _ _,rfl⟩
    .split
     .exact .inr ⟨_,_,hi,.time,rfl⟩
     .split
      .split
       .exact .inl rfl
       .exact .inl rfl
      .split
       .exact .inr ⟨_,_,hi,.UK _,rfl⟩
       .split
        .exact .inr ⟨_,_,hi,.aI,rfl⟩
        .split
         .unfold L0;split
          .exact .inr ⟨_,_,hi,.eat _ _,rfl⟩
          .exact .inl rfl
         .split
          .exact .inr ⟨_,_,hi,.pack,rfl⟩
          .split
           .exact .inr ⟨_,_,hi,.force,rfl⟩
           .exact .inl rfl
   .exact .inl rfl
def aw8{w:AX}(h:BA w)(e:Event):(CC w e).AK=w.AK\/ ∃i k',i<4/\KMv (kA w.AK i) k'/\(CC w e).AK=w.AK.set i k':=by
 have:=axW h e;unfold CC tick;split<;>exact this
def avk{P:AA->Prop}(hP:∀k k',Ah k=A0->P k->KMv k k'->P k'){w:AX}(h:BA w)(hw:∀i,i<4->P (kA w.AK i))(e:Event):∀i,i<4->P (kA (CC w e).AK i):=by
 intro i hi;rcases aw8 h e with e1|⟨j,k',hj,m,e1⟩
 .rw[e1];exact hw i hi
 .rw[e1,Hu (by rw[h.kl];exact hj)];split
  .exact hP _ _ (h.k j hj).1 (hw j hj) m
  .exact hw i hi
def KMv.dur{k k':AA}(ok:Ah k=A0)(h:PH k)(m:KMv k k'):PH k':=by
 cases m with
 | acE f=>exact QF h (avX ok f) λe=>by rw[asG ok e]
 | own a b c=>exact QF h (ax9 _ _ _ _) λe=>by rw[at1 e]
 | time=>exact QF h (auV _) λe=>by rw[arq e]
 | eat a b=>exact QF h (awn _ _ _) λe=>by rw[av2 e]
 | UK n=>exact avA _ _
 | aI=>intro e;cases e
 | pack=>exact QF h (avr _) λe=>by rw[arC e]
 | force=>exact QF h (aur _) λe=>by rw[aqf e]
def RI.sim{w:AX}(hd:RI w)(h:BA w)(e:Event):RI (CC w e):=⟨avk (λ_ _ ok d m=>m.dur ok d) h hd.d e⟩
inductive Reach:List Event->AX->Prop
 | nil:Reach [] rv0
 | snoc {ev:List Event} {w:AX} {e:Event} :Reach ev w->(doM w e).2=A0->e.tx.size<=1048576->Reach (ev++[e]) (CC w e)
def Reach.both{ev:List Event}{w:AX}(h:Reach ev w):BA w/\RI w:=by
 induction h with
 | nil=>exact⟨Zl,⟨λi hi e=>by rw[ZP hi]at e;cases e⟩⟩
 | snoc _ _ _ ih=>exact⟨mF ih.1 _,ih.2.sim ih.1 _⟩
def Reach.ok{ev:List Event}{w:AX}(h:Reach ev w):BA w:=h.both.1
def Reach.dur{ev:List Event}{w:AX}(h:Reach ev w):RI w:=h.both.2
def Reach.step{ev:List Event}{w:AX}(h:Reach ev w){e:Event}(ht:e.tx.size<=1048576):Reach (Jn ev e (doM w e).2) (CC w e):=by
 unfold Jn;rcases tf (doM w e).2 with c|c
 .rw[c,A8 rfl];exact h.snoc c ht
 .have:=awt h.ok h.dur c;rw[c,A7];unfold CC tick;rw[c,A7,this];exact h
def S8{l:List Int}(h:BOk l):BE (BF l)=l:=by
 unfold BE BF;simp only[I7]
 conv=>rhs;rw[← Yo l]
 refine GS λn hn=> ?_;have:=h n hn;simp only[Function.comp,id];rw[UInt8.toNat_ofNat'];omega
def atA{a b:List Int}(ha:BOk a)(hb:BOk b)(h:BF a=BF b):a=b:=by
 rw[← S8 ha,h,S8 hb]
def Q4(f:Frame):BOk (Ce f):=by
 unfold Ce;split
 .exact BOk.app (Xt f) (.cons _<|.cons _ .nil)
 .exact .nil
def I1{n:Int}(h0:0<=n)(h1:n<=255):w8 n=n:=by
 rw[N4];omega
def T9{n:Int}(h0:0<=n)(h1:n<=65535):256 * w8 (w64<|Ax n 256)+w8 (BG n 256)=n:=by
 rw[N4,N4,Fv h0,Kr h0,AZ J J];omega
def ave{s:A4}(h:s.size=4):∃a b c d,s=B [a,b,c,d]:=by
 have h':(L s).length=4:=h;rcases hl:L s with _|⟨a,_|⟨b,_|⟨c,_|⟨d,_|⟨e,l⟩⟩⟩⟩⟩<;>rw[hl]at h'<;>simp at h';exact⟨a,b,c,d,Fl (by rw[L_B,hl])⟩
def aDF{a1 a2 a3 a4 a5 a6 a7 a8 a9 b1 b2 b3 b4 b5 b6 b7 b8 b9:Int}{s t:A4}(h1:a1=b1)(h2:a2=b2)(h3:a3=b3)(h4:a4=b4)(h5:a5=b5)(h6:a6=b6)(h7:a7=b7)(h8:a8=b8)(h9:a9=b9)(h:s=t):
  (⟨a1,a2,a3,a4,a5,a6,a7,a8,a9,s⟩:Frame)=⟨b1,b2,b3,b4,b5,b6,b7,b8,b9,t⟩:=by
 subst h1 h2 h3 h4 h5 h6 h7 h8 h9 h;rfl
def aAf{f:Frame}(h:Cj f=A0):DJ (Ce f)=(f,A0):=by
 have hr:=QA h;have r1:=Af.1 hr.1;have r2:=Af.1 hr.2.1;have r3:=Af.1 hr.2.2.1;have r4:=Af.1 hr.2.2.2.1;have r5:=Af.1 hr.2.2.2.2.1;have r6:=Af.1 hr.2.2.2.2.2.1;have r7:=hr.2.2.2.2.2.2;have abc:FQ (Ce f)=f/\((Ce f).length=10\/(Ce f).length=17):=by
  obtain⟨ki,src,dst,fr,nu,t',un,sz,mix,da⟩:=f;simp only at r1 r2 r3 r4 r5 r6 r7;unfold Ce;rw[A8 h];unfold Kd at r7;by_cases hk:ki=1
  .subst hk;simp only[AU,A5,AE,decide_eq_true_eq]at r7;obtain⟨q1,q2,q3,q4⟩:=r7;have q1:=Af.1 q1;have q2:=Af.1 q2;obtain⟨a,b,c,d,rfl⟩:=ave (s:=da) J;unfold Eh;simp only[AU,A5];have hb:BE (B [a,b,c,d])=[(a.toNat:Int),b.toNat,c.toNat,d.toNat]:=rfl;rw[hb];refine⟨?_,.inr rfl⟩;have e1:=T9 (n:=un) J J;have e2:=T9 (n:=mix) J J;unfold FQ;rw[A8<|by rfl];have g1:=I1 (n:=src) J J;have g2:=I1 (n:=dst) J J;have g3:=I1 (n:=fr) J J;have g4:=I1 (n:=nu) J J;have g5:=I1 (n:=t') J J;have g6:=I1 (n:=sz) J J;have g7:=Sq [a,b,c,d];exact aDF rfl g1 g2 g3 g4 g5 e1 g6 e2 g7
  .rw[AD<|by simpa using hk]at r7;simp only[AE,CB,decide_eq_true_eq]at r7;obtain⟨q0,q1,q2,q3,q4⟩:=r7;unfold Eh;simp only[BR hk,A7];refine⟨?_,.inl rfl⟩;have e1:=T9 (n:=un) J J;unfold FQ;rw[AD<|by simp];have g0:=I1 (n:=ki) J J;have g1:=I1 (n:=src) J J;have g2:=I1 (n:=dst) J J;have g3:=I1 (n:=fr) J J;have g4:=I1 (n:=nu) J J;have g5:=I1 (n:=t') J J;exact aDF g0 g1 g2 g3 g4 g5 e1 q1.symm q2.symm q3.symm
 unfold DJ;rw[abc.1,A8,A8<|Aa rfl];rw[CB,decide_eq_true_eq,decide_eq_true_eq];have:=abc.2;omega
def NR:List Int->Nat->Int
 | [],_=>0
 | x::r,i=>x * ((i % 1000:Nat)+1)+NR r (i+1)
def jY:∀ {l:List Int} {i:Nat} {n:Int},BOk l->0<=n->n<65521->Ex l i n=(n+NR l i) % 65521
 | [],i,n,_,h0,h1=>by
  unfold Ex NR;omega
 | x::r,i,n,hb,h0,h1=>by
  have hx:=hb x Ap;have hp:0<=x * ((i % 1000:Nat)+1:Int):=Qf hx.1 J;unfold Ex NR;rw[Kr J,jY (λy hy=>hb y<|Am x hy) J J];omega
def aCz:∀ {l:List Int} {j i:Nat} {x:Int} (h:j<l.length),NR (l.set j x) i=NR l i+(x - l[j]) * (((i+j) % 1000:Nat)+1)
 | y::r,0,i,x,h=>by
  rw[List.set_cons_zero];unfold NR;simp only[List.getElem_cons_zero,HP];rw[Int.sub_mul];omega
 | y::r,j+1,i,x,h=>by
  rw[List.set_cons_succ];unfold NR;rw[aCz (j:=j) (i:=i+1)<|by simpa using h,List.getElem_cons_succ,show i+1+j=i+(j+1) by omega];omega
structure Zq (b body:List Int):Prop where
 e:b=body++two (Ex body 0 0)
 ok:BOk body
 len:body.length<=15
def auU{a b:Int}(h0:0<=a/\a<65521)(h1:0<=b/\b<65521)(h:two a=two b):a=b:=by
 have e1:=T9 (n:=a) J J;have e2:=T9 (n:=b) J J;unfold two at h;simp only[M3,and_true]at h;rw[← e1,← e2,h.1,h.2]
def aqC{b body PN:List Int}{j:Nat}{x:Int}(h:Zq b body)(hj:j<b.length)(hx:x≠b[j])(hr:0<=x/\x<=255):¬Zq (b.set j x) PN:=by
 intro h';have hlb:b.length=body.length+2:=by rw[h.e];simp
 have aye:(b.set j x).length=PN.length+2:=by rw[h'.e];simp
 rw[GA]at aye;have hs:=kP (i:=0) (n:=0) h.ok J J;have hs':=kP (i:=0) (n:=0) h'.ok J J;have e:=h'.e;have hbl:body.length=PN.length:=J
 by_cases hlt:j<body.length
 .have e1:(body.set j x)++two (Ex body 0 0)=PN++two (Ex PN 0 0):=by
   rw[← e,h.e,List.set_append_left _ _ hlt]
  obtain⟨e2,e3⟩:=List.append_inj e1 (by rw[GA];exact hbl);have e4:=auU hs hs' e3;have hbj:b[j]=body[j]:=by simp only[h.e,List.getElem_append_left hlt]
  rw[← e2]at e4 h';rw[jY h.ok J J,jY h'.ok J J,aCz hlt]at e4;have hb1:=h.ok body[j] (CJ hlt);have hlen:=h.len;rw[hbj]at hx;have hm:((0+j) % 1000:Nat)=j:=J
  rw[hm]at e4;have hd:∃d:Int,d=(x - body[j]) * ((j:Int)+1):=⟨_,rfl⟩;obtain⟨d,hd⟩:=hd;rw[← hd]at e4;have h1:d≠0:=by
   rw[hd];exact Int.mul_ne_zero J J
  have h2:d<=255 * 15:=by
   rw[hd];have a1:(x - body[j]) * ((j:Int)+1)<=255 * ((j:Int)+1):=ku J J;omega
  have h3: -(255 * 15)<=d:=by
   rw[hd];have a1:(-255) * ((j:Int)+1)<=(x - body[j]) * ((j:Int)+1):=ku J J;omega
  omega
 .have e1:body++(two<|Ex body 0 0).set (j - body.length) x=PN++two (Ex PN 0 0):=by
   rw[← e,h.e,List.set_append_right _ _ J]
  obtain⟨e2,e3⟩:=List.append_inj e1 hbl;rw[← e2]at e3;have e4:b.set j x=b:=by
   rw[e,← e2];exact h.e.symm
  have:(b.set j x)[j]'(by rw[GA];exact hj)=x:=List.getElem_set_self ..;rw[List.getElem_of_eq e4]at this;exact hx this.symm
def aCb{f:Frame}(h:Cj f=A0):Zq (Ce f) (Eh f):=⟨by unfold Ce;rw[A8 h],Xt f,XE h⟩
def aqA{b:List Int}(hb:BOk b)(h:(DJ b).2=A0):Zq b (Eh (DJ b).1):=by
 have ok:=aqB h;have:Ce (DJ b).1=b:=by
  unfold DJ at h ⊢;split
  .rename_i h1;rw[A8 h1]at h;split
   .rename_i h2;exact atA (Q4 _) hb (BX h2)
   .rename_i h2;rw[AD h2]at h;cases h
  .rename_i h1;rw[AD h1]at h;cases h
 have hs:=aCb ok;rw[this]at hs;exact hs
def awB{x k:Int}(hx:0<=x/\x<=255)(hk:1<=k/\k<=255):Dn .u8 x (w8 k)≠x/\0<=Dn .u8 x (w8 k)/\Dn .u8 x (w8 k)<=255:=by
 rw[I1 J J];have e:Dn .u8 x k=w8 ((F1 8 x ^^^ F1 8 k).toNat:Int):=rfl;have hlt:=(F1 8 x ^^^ F1 8 k).isLt;rw[e,I1 J J];refine⟨λh=> ?_,J,J⟩;obtain⟨m,rfl⟩:=Gy hx.1;obtain⟨n,rfl⟩:=Gy (show 0<=k by omega);have e1:(F1 8 (m:Int) ^^^ F1 8 (n:Int))=F1 8 (m:Int):=by
  apply lQ;rw[QY];omega
 have e2:F1 8 (n:Int)=0#8:=by
  have:=congrArg (λz=>F1 8 (m:Int) ^^^ z) e1;simpa[← BitVec.xor_assoc] using this
 have e3:=congrArg BitVec.toNat e2;rw[QY]at e3;simp at e3;omega
def aqN{f:Frame}{p:AS}(hf:Cj f=A0)(hd:p.data=BF (Ce f)){mix kp:Int}(hm:inB mix 0 ((p.data.size:Int) - 1)=A0)(hk:inB kp 1 255=A0):(DJ<|BE (Oe p mix kp).data).2=A3:=by
 have hm:=Af.1 hm;have hk:=Af.1 hk;rw[hd,XH]at hm;rcases tf (DJ<|BE (Oe p mix kp).data).2 with h|h
 .exfalso;have hs:=aqA (BOk.str _) h;unfold Oe at hs;simp only at hs;rw[hd,S8<|Q4 f]at hs;have hlt:mix.toNat<(Ce f).length:=J
  have hrd: @rd Int (dfl .u8) (Ce f) mix=(Ce f)[mix.toNat]:=by
   show(Ce f).getD mix.toNat 0=_;rw[B9,Av hlt];rfl
  rw[hrd]at hs;have hx:=Q4 f _<|CJ hlt;have hne:=awB hx hk;have hb:BOk ((Ce f).set mix.toNat<|Dn .u8 (Ce f)[mix.toNat] (w8 kp)):=by
   intro y hy;rcases TN hy with h1|h1
   .exact Q4 f y h1
   .rw[h1];exact hne.2
  rw[S8 hb]at hs;exact aqC (aCb hf) hlt hne.1 hne.2 hs
 .exact h
def aBK{α β:Type}{f g:α->β->α}:∀ {l:List β} {a:α},(∀a,∀b∈l,f a b=g a b)->l.foldl f a=l.foldl g a
 | [],_,_=>rfl
 | x::l,a,h=>by
  rw[EL,EL,h a x Ap];exact aBK λa b hb=>h a b<|Am x hb
def NZ(b:Nat)(bl:Nat->List UInt8)(kn:List A4):Prop:=∀k,k<b->bsA kn k=noB\/bsA kn k=B (bl k)
def arG{b:Nat}{bl:Nat->List UInt8}{kn kn':List A4}{m:AT}(hb:∀k,(bl k).length=4)(hm:Ln m->m.da=B (Dm 4 bl<|Br (b:Int) m.nu))
  (h:D8 b kn)(ht:NZ b bl kn)(e:FC b kn m=I kn'):NZ b bl kn':=by
 unfold FC at e;split at e
 .rename_i hc;rw[AE]at hc;have hda:=hm ⟨hc.1,BX hc.2⟩;split at e
  .rename_i u hu;injection e with e;subst e;have FM:u∈DM kn (Br (b:Int) m.nu):=by rw[hu];exact N9 u
   obtain⟨h1,h2⟩:=FF.1 FM;have h3:=Mg h1;have hul:u<kn.length:=by rw[h.1];omega
   have hv:EQ kn (Br (b:Int) m.nu) (L m.da)=bl u:=by
    have hp:=asy (n:=4) (bl:=bl) (p:=λk=> !unk kn k) (ks:=Br (b:Int) m.nu) (u:=u) (λk _=>hb k) (by
     have:(Br (b:Int) m.nu).filter (λk=> !(!unk kn k))=DM kn (Br (b:Int) m.nu):=by
      unfold DM;congr 1;funext k;rw[Bool.not_not]
     rw[this,hu])
    rw[← hp,hda,L_B];unfold EQ;refine aBK λx k hk=> ?_;rcases tf (unk kn k) with c|c
    .rw[c];rfl
    .rw[c];have hkb:=Mg hk;rcases ht k J with h4|h4
     .exact absurd h4 (KC c)
     .rw[h4,L_B];rfl
   intro k hk;rw[YU _ hul];by_cases ek:k=u
   .rw[A8 ek,hv,ek];exact .inr rfl
   .rw[AD ek];exact ht k hk
  .cases e
 .cases e
def kD{b:Nat}{bl:Nat->List UInt8}(hb:∀k,(bl k).length=4):∀(list:List AT) (s:List A4×Bool),(∀m∈list,Ln m->m.da=B (Dm 4 bl<|Br (b:Int) m.nu))->D8 b s.1->NZ b bl s.1->NZ b bl (list.foldl (Cr b) s).1
 | [],_,_,_,h=>h
 | m::list,s,hm,h,ht=>by
  rw[EL];cases e:FC b s.1 m with
  | none=>
   rw[show Cr b s m=s by unfold Cr;rw[e]];exact kD hb list s (λx hx=>hm x<|Am m hx) h ht
  | some kn=>
   rw[show Cr b s m=(kn,A0) by unfold Cr;rw[e]];exact kD hb list (kn,A0) (λx hx=>hm x<|Am m hx) (YI h e).1<|arG hb (hm m Ap) h ht e
def aBA{b:Nat}{bl:Nat->List UInt8}(hb:∀k,(bl k).length=4){list:List AT}(hm:∀m∈list,Ln m->m.da=B (Dm 4 bl<|Br (b:Int) m.nu)):∀(n:Nat) (kn:List A4),D8 b kn->NZ b bl kn->NZ b bl (J4 b list n kn)
 | 0,_,_,h=>h
 | n+1,kn,h,ht=>by
  have h1:=(SG list (kn,A3) h).1;have h2:=kD hb list (kn,A3) hm h ht;unfold J4;split
  .exact aBA hb hm n _ h1 h2
  .exact h2
def aC0{u:Nat}:∀ {l:List A4} {a:A4},u<l.length->bsA l u=noB->Ft l a=U
 | [],_,h,_=>absurd h (kv _)
 | x::l,a,h,e=>by
  unfold Ft;split
  .rfl
  .rename_i hx;cases u with
   | zero=>exact absurd e hx
   | succ u=>exact aC0 (u:=u) (by simpa using h)<|by simpa[bsA] using e
def aEG:∀ {l:List (List UInt8)} {a:A4},(∀x∈l,x.length=4)->Ft (l.map B) a=I (a++B l.flatten)
 | [],a,_=>by
  show I a=_;congr 1;apply Fl;rw[G7,L_B];simp
 | x::l,a,h=>by
  rw[DP];unfold Ft;have hx:=h x Ap;rw[AD (λe=>by have:(B x).size=0:=(by rw[e];rfl);rw[BQ]at this;omega),aEG λy hy=>h y<|Am x hy];congr 1;apply Fl;simp only[G7,L_B,List.flatten_cons,Bw]
def awi{b:Nat}{bl:Nat->List UInt8}{kn:List A4}(h:D8 b kn)(ht:NZ b bl kn)(hu:∀k,k<b->unk kn k=A3):kn=((BJ b).map bl).map B:=by
 apply lC;intro i;by_cases hi:i<b
 .rw[I7,D2,GY hi];have h1:=hu i hi;rcases ht i hi with h2|h2
  .exact absurd h2 (KC h1)
  .have hl:i<kn.length:=by rw[h.1];exact hi
   rw[bsA,B9,Av hl]at h2;rw[Av hl];exact congrArg I h2
 .rw[HV (by rw[h.1];omega),HV (by simp;omega)]
def aDG(t:List UInt8):∀b:Nat,((BJ b).map<|Fu t).flatten=(BJ<|4 * b).map λi=>t.getD i 0
 | 0=>rfl
 | b+1=>by
  rw[Ku,Es,List.flatten_append,aDG t b];have:BJ (4 * (b+1))=BJ (4 * b)++[4 * b,4 * b+1,4 * b+2,4 * b+3]:=by
   rw[show 4 * (b+1)=4 * b+1+1+1+1 by omega];simp only[Ku,Bw];rfl
  rw[this,Es];rfl
def aui{s:Int}(h:inB s 1 24=A0):Ax (s+3) 4=(((s.toNat+3) / 4:Nat):Int)/\inB (Ax (s+3) 4) 1 6=A0:=by
 have h:=Af.1 h;have:Ax (s+3) 4=(((s.toNat+3) / 4:Nat):Int):=by
  rw[Fv J];omega
 refine⟨this,Af.2 ?_⟩;rw[this];omega
def at4{s:Int}(h:inB s 1 24=A0)(list:List AT):Fm s list=(match Ft (J4 ((s.toNat+3) / 4) list 7<|BT ((s.toNat+3) / 4) noB) noB with
  | none=>(noB,A3)
  | some c=>if N3 c s.toNat then(c.extract 0 s.toNat,A0) else(noB,A3)):=by
 obtain⟨h1,h2⟩:=aui h;unfold Fm HL;rw[A8 h,A8 h2,h1,Bb]<;>rfl
def at3{tx:A4}(h:inB tx.size 1 24=A0):(let c:=noB++B ((BJ<|(tx.size+3) / 4).map<|Fu<|L tx).flatten
  (if N3 c tx.size then(c.extract 0 tx.size,A0) else(noB,A3)))=(tx,A0):=by
 have h:=Af.1 h;have hc:L (noB++B ((BJ<|(tx.size+3) / 4).map<|Fu<|L tx).flatten)=(BJ<|4 * ((tx.size+3) / 4)).map λi=>(L tx).getD i 0:=by
  rw[G7,L_B,aDG];rfl
 generalize noB++B ((BJ<|(tx.size+3) / 4).map<|Fu<|L tx).flatten=c at hc;have hsz:c.size=4 * ((tx.size+3) / 4):=by rw[← Ay,hc];simp
 have hz:N3 c tx.size=A0:=by
  unfold N3;rw[CS];intro i hi;refine Aa ?_;unfold bt;show(((L c).getD (tx.size+i) 0).toNat:Int)=0;rw[hc,B9,D2,GY J];simp only[QT,DO];rw[B9,HV (by rw[Ay];omega)];rfl
 show(if N3 c tx.size then(c.extract 0 tx.size,A0) else(noB,A3))=(tx,A0);rw[A8 hz];congr 1;apply Fl;rw[Dz,Ib,hc,JN];apply lC;intro i;rw[GZ];split
 .rename_i hi;rw[D2,GY J];simp only[QT];rw[B9,Av (by rw[Ay];exact hi)];rfl
 .rw[HV (by rw[Ay];omega)]
def Tw(tx:A4)(list:List AT):Prop:=∀m∈list,Ln m->m.da=Jo tx m.nu
def ax1{tx:A4}(h:inB tx.size 1 24=A0):(DC tx).length=(tx.size+3) / 4:=by
 unfold DC;rw[A8 h];simp
def asA{tx:A4}(h:inB tx.size 1 24=A0):inB (((tx.size+3) / 4:Nat):Int) 1 6=A0:=by
 have h:=Af.1 h;exact Af.2 J
def aBz{b:Nat}{f:Nat->Bool}:∀(n:Nat) (x:Int),0<b->(∃k,k<b/\f k=A0)->∃k,k<b/\JB b n f x k=A0
 | 0,_,_,h=>h
 | n+1,x,hb,h=>by
  obtain⟨k,hk,e⟩:=h;exact aBz n _ hb ⟨k,hk,by unfold I4;split;rfl;exact e⟩
def atc{b:Nat}{f:Nat->Bool}{n:Nat}{x:Int}(hb:0<b)(hn:0<n):∃k,k<b/\JB b n f x k=A0:=by
 obtain⟨n,rfl⟩:∃m,n=m+1:=⟨n - 1,J⟩;rw[JB];refine aBz n _ hb ⟨_, ?_,by unfold I4;rw[A8 rfl]⟩;refine Sv _ _ ?_;have:BG (Ax (rnd x) 16) (b:Int)<b:=Qc _ J;have h0:0<=BG (Ax (rnd x) 16) (b:Int):=QZ _<|ky (Sw x).1 J;omega
def aEB{b r:Int}(hb:1<=b):∀(ws:List Int) (acc d:Int),1<=d->1<=MG (L3 b r ws acc d)
 | [],_,_,_=>hb
 | w::ws,acc,d,h=>by
  unfold L3;split
  .exact h
  .exact aEB hb ws _ _ J
def av5{b n:Int}(h:Ds b n=A0):1<=Fs b n:=by
 have hb:1<=b:=by
  unfold Ds at h;rw[AE]at h;exact(Af.1 h.1).1
 unfold Fs;rw[A8 h];split
 .exact E7 _
 .exact aEB hb _ _ _<|E7 _
def auN{b n:Int}(h:Ds b n=A0):Br b n≠[]:=by
 have hb:1<=b:=by
  unfold Ds at h;rw[AE]at h;exact(Af.1 h.1).1
 unfold Br;rw[A8 h];split
 .simp
 .obtain⟨k,hk,e⟩:=atc (b:=b.toNat) (f:=λ_=>A3) (n:=(Fs b n).toNat) (x:=rnd<|7 * n+1) J (by have:=av5 h;omega);intro hh;have:k∈HK (JB b.toNat (Fs b n).toNat (λ_=>A3)<|rnd<|7 * n+1) b.toNat:=FF.2 ⟨DD.2 hk,e⟩;rw[hh]at this;cases this
def atr{tx:A4}(h:inB tx.size 1 24=A0){n:Int}(hn:inB n 0 999=A0):Jo tx n=B (Dm 4 (Fu<|L tx)<|Br (((tx.size+3) / 4:Nat):Int) n):=by
 unfold Jo;rw[ax1 h];have:=auN (b:=(((tx.size+3) / 4:Nat):Int)) (n:=n) (by unfold Ds;rw[asA h,hn];rfl);rw[AD (by rw[List.isEmpty_iff];exact this)]
def auB{tx:A4}(h:inB tx.size 1 24=A0){list:List AT}(hl:Tw tx list):∀m∈list,Ln m->m.da=B (Dm 4 (Fu<|L tx)<|Br (((tx.size+3) / 4:Nat):Int) m.nu):=by
 intro m hm hf;rw[hl m hm hf,atr h hf.1]
def awh(b:Nat)(bl:Nat->List UInt8):NZ b bl (BT b noB):=by
 intro k hk;left;rw[bsA,B9,Yh,A8 hk];rfl
def at2{tx:A4}(h:inB tx.size 1 24=A0){list:List AT}(hl:Tw tx list)(ht:(Fm tx.size list).2=A0):Fm tx.size list=(tx,A0):=by
 rw[at4 h,Bb]at ht ⊢;have h1:=ka list 7 _<|D8.new<|(tx.size+3) / 4;have h2:=aBA (λk=>Xs (L tx) k) (auB h hl) 7 _ (D8.new<|(tx.size+3) / 4)<|awh _ _;generalize J4 ((tx.size+3) / 4) list 7 (BT ((tx.size+3) / 4) noB)=kn at *;have h3:∀k,k<(tx.size+3) / 4->unk kn k=A3:=by
  intro k hk;rcases tf (unk kn k) with c|c
  .rw[aC0 (u:=k) (by rw[h1.1];exact hk)<|BX c]at ht;cases ht
  .exact c
 rw[awi h1 h2 h3,aEG (by
  intro x hx;obtain⟨k,_,rfl⟩:=DE.1 hx;exact Xs _ _)]
 exact at3 h
def Nb(S:A6->Prop)(f:Frame):Prop:=f.ki=1->∃n,S n/\B4 n=A0/\f.fr=n.fr/\f.nu=n.nu/\f.to=n.to/\f.un=n.un/\f.sz=n.tx.size/\f.da=Jo n.tx f.mix
structure PcI (S:A6->Prop) (p:AS):Prop where
 oR:p.sp=A3->∃f,p.data=BF (Ce f)/\p.src=f.src/\p.dst=f.dst/\(Cj f=A0->Nb S f)
 bad:p.sp=A0->(DJ<|BE p.data).2=A3
def aB0:(DJ<|BE<|BF []).2=A3:=by rfl
def PcI.frame{S:A6->Prop}{p:AS}(h:PcI S p)(hu:(DJ<|BE p.data).2=A0):∃f,DJ (BE p.data)=(f,A0)/\Cj f=A0/\p.src=f.src/\p.dst=f.dst/\Nb S f/\p.data=BF (Ce f):=by
 rcases tf p.sp with c|c
 .rw[h.bad c]at hu;cases hu
 .obtain⟨f,h1,h2,h3,h4⟩:=h.oR c;rcases tf (Cj f) with e|e
  .refine⟨f, ?_,e,h2,h3,h4 e,h1⟩;rw[h1,S8<|Q4 f,aAf e]
  .rw[h1]at hu;unfold Ce at hu;rw[e,A7,aB0]at hu;cases hu
def PcI.ayC{S:A6->Prop}{p:AS}(h:PcI S p)(hs:p.sp=A3){mix kp:Int}(hm:inB mix 0 ((p.data.size:Int) - 1)=A0)(hk:inB kp 1 255=A0):PcI S (Oe p mix kp):=by
 obtain⟨f,h1,_,_,_⟩:=h.oR hs;refine⟨λe=>(by cases e),λ_=> ?_⟩;rcases tf (Cj f) with e|e
 .exact aqN e h1 hm hk
 .have h2:=Af.1 hm;rw[h1]at h2;unfold Ce at h2;rw[e,A7,XH]at h2;simp at h2;omega
def PcI.send{S:A6->Prop}{f:Frame}(h:Cj f=A0->Nb S f):PcI S (pcF f):=⟨λ_=>⟨f,rfl,rfl,rfl,h⟩,λe=>by cases e⟩
def PcI.mono{S T:A6->Prop}{p:AS}(h:PcI S p)(hS:∀n,S n->T n):PcI T p:=by
 refine⟨λe=> ?_,h.bad⟩;obtain⟨f,h1,h2,h3,h4⟩:=h.oR e;refine⟨f,h1,h2,h3,λhf hk=> ?_⟩;obtain⟨n,h5,h6⟩:=h4 hf hk;exact⟨n,hS n h5,h6⟩
def aCu{ra:List AS}{fs:List Frame}{p:AS}(h:p∈Cd ra fs):p∈ra\/ ∃f∈fs,p=pcF f:=by
 unfold Cd at h;rcases BM.1 h with h|h
 .exact .inl h
 .obtain⟨f,hf,rfl⟩:=DE.1 h;exact .inr ⟨f,Gx hf,rfl⟩
def aDR{ra:List AS}{i:Nat}{p:AS}(h:p∈J5 ra i):p∈ra:=by
 unfold J5 at h;rcases BM.1 h with h|h
 .exact Gx h
 .exact Kl h
def aw2{l:List A6}{i:Int}(h0:0<=i)(h1:i.toNat<l.length):nA l i.toNat∈l:=by
 rw[nA,B9,Av h1];exact CJ h1
def asF{st:AG}(h:Aw st=A0){n:A6}(hn:n∈st.held):B4 n=A0:=by
 unfold Aw at h;simp only[AE]at h;have hh:=h.2.2.2.1.2;obtain⟨j,hj,rfl⟩:=DG hn;have:=CS.1 hh j hj;rw[AE,nA,B9,Av hj]at this;exact this.1
def avM{S:A6->Prop}{k:AA}(h:Ah k=A0)(hS:∀n∈(stT k).held,S n){fr nu mix:Int}(hb:(Em k fr nu mix).2=A0):Nb S (Em k fr nu mix).1:=by
 intro _;unfold Em at hb ⊢;split at hb
 .rename_i hc;rw[A8 hc];simp only[AE,CL,decide_eq_false_iff_not]at hc;have h0:=GM<|NM.1 hc.2.1;have hm:=aw2 (NM.1 hc.2.1) h0.1;exact⟨_,hS _ hm,asF (CI h).kok hm,rfl,rfl,rfl,rfl,rfl,rfl⟩
 .cases hb
def lq{n:A6}(h:B4 n=A0):inB n.tx.size 1 24=A0:=by
 unfold B4 MD at h;simp only[AE]at h;exact h.2.2.2.2.1
def arf(hv:List AH)(f:Frame):(∃i,Au hv f=(hv,i)/\i<hv.length/\(hA hv i).fr=f.fr/\(hA hv i).nu=f.nu/\EZ hv f.fr f.nu=(i:Int))\/
  (EZ hv f.fr f.nu<0/\ ∃l:List AH,l.Sublist hv/\Au hv f=(l++[⟨f.fr,f.nu,f.to,f.un,f.sz,[]⟩],l.length)):=by
 unfold Au;rcases SB hv f.fr f.nu with h|⟨i,h1,h2,h3,h4⟩
 .rw[A8 h];refine .inr ⟨h,_, ?_,rfl⟩;split
  .exact Yi _ _
  .exact Er _
 .rw[AD J];exact .inl ⟨i,by rw[h1];rfl,h2,h3,h4,h1⟩
def aEz(l:List AH)(h:AH):hA (l++[h]) l.length=h:=by
 unfold hA;rw[B9,FG<|As _];simp
def TH(k:AA)(r:A4)(f:Bool):(wrR k r f).1.AN=k.AN:=by
 unfold wrR;split
 .rfl
 .cases f<;>rfl
def abT(k:AA):Prop:=∀h∈k.AN,5<=h.sz
def awK{l:List AH}{i:Nat}{x:AH}(h:x∈FD l i):x∈l:=by
 unfold FD at h;rcases BM.1 h with h|h
 .exact Gx h
 .exact Kl h
structure aEP (S:A6->Prop) (w:AX):Prop where
 p:∀p∈w.Ai,PcI S p
 b:∀i,i<4->abT (kA w.AK i)
def axA(k:AA)(tt un:Int)(tx:A4):(Dl k tt un tx).1.AN=k.AN:=by
 unfold Dl;split
 .exact TH _ _ _
 .rfl
def awo(k:AA)(a b:Int):(DV k a b).1.AN=k.AN:=by
 unfold DV;split
 .exact TH _ _ _
 .rfl
def auW(k:AA):(FA k).1.AN=k.AN:=by
 unfold FA;split
 .exact TH _ _ _
 .rfl
def avs(k:AA):(FB k).1.AN=k.AN:=by unfold FB;split<;>rfl
def aus(k:AA):(F9 k).1.AN=k.AN:=by unfold F9;split<;>rfl
def aaa{l:List AS}{i:Nat}(h:i<l.length):pA l i∈l:=by
 rw[me h];exact CJ h
def au4{k:AA}(h:Ah k=A0)(f:Frame):Db k f=Kg k f:=A8 h
def auD:CZ [108,101,116]:=by unfold CZ;decide
def atU(n:A6):L (KW n)=[116,97,107,101]++32::L (wr n):=by unfold KW;simp only[G7,L_B];rfl
def aDU{k:AG}{r:A4}(hk:Aw k=A0):BO k r=(G3 k r).filter Aw:=by
 unfold BO F8;rw[A8 hk];cases (G3 k r).filter Aw<;>rfl
def aqJ{k:AG}{n:A6}(hn:B4 n=A0):Bd k EG (wr n)=if n.fr=k.id then U else FE k n:=by
 unfold Bd GN;by_cases h:n.fr=k.id
 .simp[ft,fu,gh,fv,rz,Pz hn,h]
 .simp[ft,fu,gh,fv,rz,Pz hn,h]
def ar3{k:AG}{n:A6}(hk:Aw k=A0)(hn:B4 n=A0):BO k (KW n)=(if n.fr=k.id then U else FE k n).filter Aw:=by
 rw[aDU hk,IQ aCf<|atU n,B_L];rw[show Bd k (B [116,97,107,101]) (wr n)=_ from aqJ hn]
def ats{l:List Mark}{f n:Int}{x:Mark}(h:x∈l)(h1:x.mf=f)(h2:x.mn=n):0<=Bs l f n:=by
 rcases ar1 l f n with h3|h3
 .exact absurd ⟨h1,h2⟩ (aDQ J x h)
 .exact h3
structure aEO (k o:AG) (n:A6):Prop where
 id:o.id=k.id
 ti:o.ti=k.ti
 nx:o.nx=k.nx
 at_:(n.to=k.id/\o.held=k.held/\o.marks=Ez k.marks ⟨n.fr,n.nu,n.un⟩/\o.inbox=Ek k.inbox n)\/(n.to≠k.id/\o.held=Ek k.held n/\o.marks=k.marks/\o.inbox=k.inbox)
structure Safe (k:AA) (st:AG):Prop where
 is:D7 k st
 fo:k.fo=(k.log.size:Int)
def atZ{k:AA}{st o:AG}{r:A4}(h:D7 k st)(hr:BO st r=I o):Safe (wrR k r A0).1 o/\(wrR k r A0).2=A0:=by
 unfold wrR;rw[h.stT,hr];exact⟨⟨QQ<|TI h hr,rfl⟩,rfl⟩
def aD0{k:AA}{st:AG}{r:A4}{f:Bool}(h:D7 k st)(hr:(wrR k r f).2=A0):∃o,BO st r=I o:=by
 unfold wrR at hr;rw[h.stT]at hr;cases hc:BO st r with
 | none=>rw[hc]at hr;cases hr
 | some o=>exact⟨o,rfl⟩
def awq{k:AA}(h:Ah k=A0)(hu:k.up=A0){f:Frame}(hf:Cj f=A0)(h1:f.ki=1):D7 (J6 k<|FD (DN (Au k.AN f).1 (Au k.AN f).2 f) (Au k.AN f).2) (stT k):=by
 have kf:=EC h;have hv:=mU.1 kf.hv;have hp:=jL hf h1;have Ec:=QH (hv:=k.AN) (f:=f);have LA:=Si (hv:=k.AN) (f:=f) kf.hl;have hpf:=aaM hv hf h1;have haf:=aEk hpf Ec hp.2.1;have hal:(DN (Au k.AN f).1 (Au k.AN f).2 f).length=(Au k.AN f).1.length:=by unfold DN;rw[GA]
 exact Xx (CI h) hu (by unfold FD;simp;omega)<|aEc haf _
def as3{k:AG}{m:Mark}{r:A4}(ht:Gm r=I m):Bd k C3 r=if EX k.held m then I ⟨k.id,k.ti,k.nx,Ey k.held (AY k.held m.mf m.mn).toNat,Ez k.marks m,k.inbox⟩ else U:=by
 unfold Bd Ew;cases h:EX k.held m<;>simp[gn,gr,ie,gq,gv,gD,iT,gu,ht,h]
def asp{k:AG}{a b c:Int}(hk:Aw k=A0)(ha:0<=a/\a<=999)(hb:0<=b/\b<=999)(hc:0<=c/\c<=999):
  BO k (Cl C3 a b c)=(if EX k.held ⟨a,b,c⟩ then I ⟨k.id,k.ti,k.nx,Ey k.held (AY k.held a b).toNat,Ez k.marks ⟨a,b,c⟩,k.inbox⟩ else U).filter Aw:=by
 have h3:=YB (r:=B<|B6 a++32::(B6 b++32::B6 c)) (a:=a) (b:=b) (c:=c) J J J J J J<|L_B _;rw[aDU hk,IQ auD<|Sa C3 a b c];rw[show Bd k (B [108,101,116]) _=_ from as3 h3]
structure ayP (a b:A6):Prop where
 fr:a.fr=b.fr
 nu:a.nu=b.nu
 to':a.to=b.to
 un:a.un=b.un
 ok:B4 a=B4 b
structure azw (l m:List A6):Prop where
 len:l.length=m.length
 nA:∀i,ayP (nA l i)<|nA m i
def nR(tx:A4)(i:Nat):List AT:=(BJ i).map λj:Nat=>⟨(j:Int),Jo tx (j:Int)⟩
structure azs (x:AA) (d t:Int) (hv:List AH):Prop where
 ok:Ah x=A0
 up:x.up=A0
 id:x.id=d
 st:stT x=⟨d,t,1,[],[],[]⟩
 hv:x.AN=hv
variable {E:List Event}
def Tot{α:Type}(o:Option α)(P:α->Prop):Prop:=∃a,o=I a/\P a
def Rn{α β:Type}(A:α->Prop)(B:β->Prop):α ⊕ β->Prop
 | .inl a=>A a
 | .inr b=>B b
def Tot.ret{α:Type}{a:α}{P:α->Prop}(h:P a):Tot (I a) P:=⟨a,rfl,h⟩
def Tot.eq{α:Type}{o:Option α}{a:α}(h:o=I a):Tot o (λx=>x=a):=⟨a,h,rfl⟩
def Tot.bind{α β:Type}{o:Option α}{f:α->Option β}{P:α->Prop}{Q:β->Prop}(h:Tot o P)(hf:∀a,P a->Tot (f a) Q):Tot (o.bind f) Q:=by
 obtain⟨a,rfl,p⟩:=h;exact hf a p
def Tot.ite{α:Type}{c:Bool}{a b:Option α}{P:α->Prop}(ha:c=A0->Tot a P)(hb:c=A3->Tot b P):Tot (if c=A0 then a else b) P:=by
 cases c
 .rw[A7];exact hb rfl
 .rw[A8 rfl];exact ha rfl
def Tot.pos{α:Type}{c:Bool}{a b:Option α}{P:α->Prop}(hc:c=A0)(ha:Tot a P):Tot (if c=A0 then a else b) P:=by
 rw[A8 hc];exact ha
def Tot.neg{α:Type}{c:Bool}{a b:Option α}{P:α->Prop}(hc:c=A3)(hb:Tot b P):Tot (if c=A0 then a else b) P:=by
 rw[hc,A7];exact hb
def Tot.join{Ω X:Type}{f:X->Option Ω}{m:Option (Ω ⊕ X)}{A:X->Prop}{Q:Ω->Prop}(h:Tot m (Rn Q A))(hf:∀x,A x->Tot (f x) Q):Tot (BS f m) Q:=by
 obtain⟨r,rfl,p⟩:=h;cases r with
 | inl o=>exact⟨o,rfl,p⟩
 | inr x=>exact hf x p
def Tot.sum{A D Ω:Type}{m:Option (A ⊕ D)}{f:A->Option Ω}{g:D->Option Ω}{P:A->Prop}{Q:D->Prop}{R:Ω->Prop}(h:Tot m (Rn P Q))
  (hf:∀a,P a->Tot (f a) R)(hg:∀d,Q d->Tot (g d) R):Tot (AM m f g) R:=by
 obtain⟨r,rfl,p⟩:=h;cases r with
 | inl o=>exact hf o p
 | inr x=>exact hg x p
def Tot.loop{σ ρ:Type}{b:σ->Option (σ ⊕ ρ)}(Inv:Nat->σ->Prop)(No:ρ->Prop)(n:Nat)
  (h:∀i s,i<=n->Inv i s->Tot (b s) (Rn (λs'=>i<n/\Inv (i+1) s') No)){s0:σ}(h0:Inv 0 s0):Tot (AR b s0) No:=by
 refine avT Inv No n (λi s hi hs=> ?_) (λs hs=> ?_) h0
 .obtain⟨r,e,p⟩:=h i s J hs;cases r with
  | inl s'=>exact .inl ⟨s',e,p.2⟩
  | inr y=>exact .inr ⟨y,e,p⟩
 .obtain⟨r,e,p⟩:=h n s (As _) hs;cases r with
  | inl s'=>exact absurd p.1<|Nat.lt_irrefl _
  | inr y=>exact⟨y,e,p⟩
structure Hi (N:Nat) (r:List Int×Int×A2):Prop where
 l:r.1.length<=2000
 b:BOk r.1
 p0:0<=r.2.1
 p1:r.2.1<=(N:Int)
def Hi.up{N M:Nat}{r:List Int×Int×A2}(h:Hi N r)(hM:N<=M):Hi M r:=⟨h.l,h.b,h.p0,by have:=h.p1;omega⟩
def avS{a b:Int}(ha:0<=a)(ha':a<9223372036854775808)(hb:0<=b)(hb':b<9223372036854775808):0<=Dn .i64 a b:=by
 obtain⟨m,rfl⟩:=Gy ha;obtain⟨n,rfl⟩:=Gy hb;have hm:m<2 ^ 63:=J
 have hn:n<2 ^ 63:=J
 have hx:=Nat.xor_lt_two_pow hm hn;have e:(F1 64 (m:Int) ^^^ F1 64 (n:Int)).toNat=m ^^^ n:=by
  rw[BitVec.toNat_xor,QY,QY];congr 1<;>omega
 show 0<=w64 (((F1 64 (m:Int) ^^^ F1 64 (n:Int)).toNat:Int));rw[e,AZ J J];omega
def Cn{N:Nat}{x:(List Int×Int×A2)×Int×A2}(h:Hi N x.1)(hN:N<=1000000):
  Tot (CU x) λa=>Hi (N+1) a.2.1/\0<=a.1.1/\(1<=x.2.1->a.1.1<x.2.1):=by
 obtain⟨⟨l,p,_⟩,n,_⟩:=x;obtain⟨hl,hb,p0,p1⟩:=h;simp only at hl hb p0 p1;have e1:w64 (p+1)=p+1:=AZ J J;have e2:w64 (p+1 - 1)=p:=by rw[AZ J J];omega
 have hq:Hi (N+1) (l,p+1,()):=⟨hl,hb,by show 0<=p+1;omega,by show p+1<=((N+1:Nat):Int);omega⟩;unfold CU;simp only[e1,e2];refine Tot.ite (λhc=> ?_) (λhc=> ?_)
 .refine Tot.ret ⟨hq,E7 _,λh=>by show(0:Int)<n;omega⟩
 .simp only[NC,decide_eq_false_iff_not]at hc;have hn:1<=n:=J
  have hln:0<l.length:=J
  have hl0:¬((l.length:Int)=0):=hc.2;have hn0:(!decide (n=0))=A0:=by simp;omega
  have oH:(!decide ((l.length:Int)=0))=A0:=by simpa using hl0
  refine Tot.ite (λhc1=> ?_) (λhc1=> ?_)
  .have hc1:=BX hc1;refine Tot.pos (FP p0 hc1) (Tot.pos hn0<|Tot.ret ⟨hq, ?_,λ_=> ?_⟩)
   .have:=hb.rd p;exact QZ _ (by rw[AZ J J];exact this.1)
   .exact Qc _ J
  .have hp:0<=BG p l.length/\BG p l.length<l.length:=⟨QZ _ p0,Qc _ J⟩;have e3:w64 (w64 (p * 7)+3)=p * 7+3:=by rw[AZ (n:=p * 7) J J,AZ J J]
   have hp2:0<=BG (p * 7+3) l.length/\BG (p * 7+3) l.length<l.length:=⟨QZ _ J,Qc _ J⟩;simp only[e3];refine Tot.pos oH (Tot.pos (FP hp.1 hp.2)<|Tot.pos oH<|Tot.pos (FP hp2.1 hp2.2)<|Tot.pos oH<|Tot.pos hn0<|Tot.ret ⟨hq, ?_,λ_=> ?_⟩)
   .have b1:=hb.rd<|BG p l.length;have b2:=hb.rd<|BG (p * 7+3) l.length;have hd:0<=Ax p l.length/\Ax p l.length<=p:=⟨ky p0 J,Int.tdiv_le_self _ p0⟩;generalize @rd Int (dfl .u8) l (BG p l.length)=u1 at b1 ⊢;generalize @rd Int (dfl .u8) l (BG (p * 7+3) l.length)=u2 at b2 ⊢;generalize Ax p l.length=d at hd ⊢;have w1:w64 u1=u1:=AZ J J;have w2:w64 u2=u2:=AZ J J;have w3:w64 (u1 * 131)=u1 * 131:=AZ J J;have w4:w64 (u2 * 1117)=u2 * 1117:=AZ J J;have w5:w64 (p * 29)=p * 29:=AZ J J;have w6:w64 d=d:=AZ J J;have w7:w64 (d * 53)=d * 53:=AZ J J;simp only[w1,w2,w3,w4,w5,w6,w7];have w8:w64 (u1 * 131+u2 * 1117)=u1 * 131+u2 * 1117:=AZ J J;rw[w8];have w9:w64 (u1 * 131+u2 * 1117+p * 29)=u1 * 131+u2 * 1117+p * 29:=AZ J J;rw[w9];have w10:w64 (u1 * 131+u2 * 1117+p * 29+d * 53)=u1 * 131+u2 * 1117+p * 29+d * 53:=AZ J J;rw[w10];have hv:0<=u1 * 131+u2 * 1117+p * 29+d * 53/\u1 * 131+u2 * 1117+p * 29+d * 53<=1000000000:=J
    generalize u1 * 131+u2 * 1117+p * 29+d * 53=v at hv ⊢;have hdv:0<=Ax v 64/\Ax v 64<=v:=⟨ky hv.1 J,Int.tdiv_le_self _ hv.1⟩;have w11:w64 (Ax v 64)=Ax v 64:=AZ J J;rw[w11];exact QZ _ (avS hv.1 J hdv.1 J)
   .exact Qc _ J
def aqr(l:List A4){i:Int}(h0:0<=i)(h1:i<l.length): @rd A4 (dfl .str) l i∈l:=by
 unfold rd;rw[B9,Av (by omega:i.toNat<l.length)];exact CJ _
def axd{N:Nat}{r:List Int×Int×A2}{l:List A4}(h:Hi N r)(hN:N<=1000000)(hl:1<=l.length):
  Tot (dh (r,l,())) λa=>Hi (N+1) a.2.1/\a.1.1∈l:=by
 unfold dh;refine Tot.bind (Cn h hN) λa ha=> ?_;have h1:=ha.2.2 (by show(1:Int)<=(l.length:Int);omega);exact Tot.pos (FP ha.2.1 h1)<|Tot.ret ⟨ha.1,aqr l ha.2.1 h1⟩
def WOk(E:List Event)(N:Nat)(t:Int×List AA×List Bool×List AS×List A6×List A6×List Event×A2):Prop:=∃w ev,t=tS w ev/\Reach (E++ev) w/\ev.length<=N
structure SOk (E:List Event) (N:Nat) (s:(List Int×Int×A2)×Int×List AA×List Bool×List AS×List A6×List A6×List Event×A2):Prop where
 r:Hi N s.1
 w:WOk E N s.2
def WOk.up{N M:Nat}{t:_}(h:WOk E N t)(hM:N<=M):WOk E M t:=by
 obtain⟨w,ev,e,h1,h2⟩:=h;exact⟨w,ev,e,h1,J⟩
def SOk.up{N M:Nat}{s:_}(h:SOk E N s)(hM:N<=M):SOk E M s:=⟨h.r.up hM,h.w.up hM⟩
def SOk.rd{N M:Nat}{s:_}(h:SOk E N s){r:List Int×Int×A2}(hr:Hi M r)(hM:N<=M):SOk E M (r,s.2):=⟨hr,h.w.up hM⟩
abbrev zTx(y:Int×Int×Int×Int×Int×Int×Int×Int×Int×A4×A2):A4:=y.2.2.2.2.2.2.2.2.2.1
def Gu{N:Nat}{s:_}{y:Int×Int×Int×Int×Int×Int×Int×Int×Int×A4×A2}(h:SOk E N s)(hN:N<=1000000)(hy:(zTx y).size<=1048576):
  Tot (FW (s,y,())) λa=>SOk E (N+1) a.2.1:=by
 obtain⟨hr,w,ev,e,hw,hev⟩:=h;obtain⟨r,t⟩:=s;obtain⟨a,b,c,d,f,g,i,j,k,tx,_⟩:=y;simp only at e hr;subst e;have:=arV hw.ok (r:=r) (ev:=ev) J (e:=⟨a,b,c,d,f,g,i,j,k,tx⟩) hy;refine⟨_,this,hr.up J,⟨_,Jn ev ⟨a,b,c,d,f,g,i,j,k,tx⟩ (doM w ⟨a,b,c,d,f,g,i,j,k,tx⟩).2,rfl, ?_, ?_⟩⟩
 .have:=hw.step (e:=⟨a,b,c,d,f,g,i,j,k,tx⟩) hy;unfold Jn at this ⊢;split
  .rename_i hc;rw[A8 hc,Bw]at this;exact this
  .rename_i hc;rw[AD hc]at this;exact this
 unfold Jn;split
 .simp;omega
 .omega
def WOk.has{N:Nat}{t:_}(h:WOk E N t){i:Int}(h0:0<=i)(h1:i<4):Ah (kA t.2.1 i.toNat)=A0/\(kA t.2.1 i.toNat).id=i/\inb i t.2.1.length=A0:=by
 obtain⟨w,ev,rfl,hw,_⟩:=h;have:=hw.ok.k i.toNat J;refine⟨this.1, ?_,FP h0 (by show i<(w.AK.length:Int);rw[hw.ok.kl];exact h1)⟩;rw[this.2];omega
def mi{l:List AA}{i:Int}(h:Ah (kA l i.toNat)=A0):
  Tot (G0 (((@rd AA (dfl .AQ) l i).id,(@rd AA (dfl .AQ) l i).up,(@rd AA (dfl .AQ) l i).log,(@rd AA (dfl .AQ) l i).fo,(@rd AA (dfl .AQ) l i).AN,()),()))
   λa=>a=((tK<|stT<|kA l i.toNat,A0,()),()):=Tot.eq<|OG h
end Go.VS
namespace Go.VS
open Go
variable {E:List Event}
def axK{l:List A4}{s:A4}(h:s∈l)(hl:(l.all λx=>A1<|x.size<=1000)=A0):s.size<=1000:=by
 have:=C0.1 hl s h;exact BX this
def ab5{N:Nat}{s:_}(h:SOk E N s)(hN:N<=900000):Tot (Uj (s,())) λa=>SOk E (N+10) a.2.1:=by
 unfold Uj;refine Tot.bind (Cn h.r J) λr1 h1=>Tot.bind (axd h1.1 J<|by decide) λr2 h2=>Tot.join (A:=λj=>SOk E (N+2) j.1/\0<=j.2.1/\j.2.1<4/\j.2.2.1.size<=1000) ?_ (λj hj=> ?_)
 .have hz:=axK h2.2 (by decide);have hat:r1.1.1<4:=h1.2.2 (show(1:Int)<=4 by decide);refine Tot.ite (λhc=>Tot.pos ?_<|Tot.ret ⟨h.rd h2.1 J,h1.2.1,hat, ?_⟩) (λhc=>Tot.ret ⟨h.rd h2.1 J,h1.2.1,hat,hz⟩)
  .have:=BX hc;simp;omega
  .show(r2.1.1.extract 0 24).size<=1000;rw[aBT];omega
 .obtain⟨hs,a0,a1,hz⟩:=hj;have hk:=hs.w.has a0 a1;refine Tot.pos hk.2.2 (Tot.bind (mi hk.1) λr6 h6=>Tot.bind (Cn hs.r J) λr7 h7=>Tot.bind (Cn h7.1 J) λr8 h8=>
   Tot.bind (Gu (hs.rd h8.1 J) J ?_) λr9 h9=>Tot.ret<|h9.up J)
  show j.2.2.1.size<=1048576;omega
def axf{a:Int}(h0:0<=a)(h1:a<4):0<=BG (w64<|a+1) 4/\BG (w64<|a+1) 4<4:=by
 rw[AZ J J];exact⟨QZ _ J,Qc _ J⟩
def aw7{N:Nat}{s:_}(h:SOk E N s)(hN:N<=900000):Tot (bS (s,())) λa=>SOk E (N+2) a.2.1/\a.2.1.2=s.2/\(a.1.2.2.1=A0->0<=a.1.1/\a.1.1<4/\isN (Co a.1.1 a.1.2.1.2.2.1)=A0):=by
 unfold bS;refine Tot.bind (Cn h.r J) λr1 h1=>Tot.sum (P:=λy=>SOk E (N+2) y.1/\y.1.2=s.2/\(0<=y.2.1/\y.2.1<4/\isN (Co y.2.1 y.2.2.1.2.2.1)=A0)) (Q:=λy=>SOk E (N+2) y.1/\y.1.2=s.2) ?_ (λy hy=>Tot.ret ⟨hy.1,hy.2.1,λ_=>hy.2.2⟩) (λy hy=>Tot.ret ⟨hy.1,hy.2,λh=>by cases h⟩);refine Tot.loop (λi x=>SOk E (N+1) x.1/\x.1.2=s.2/\0<=x.2.2.1/\x.2.2.1<4/\x.2.2.2.1=(i:Int)) _ 4 (λi x hi hx=> ?_) ⟨h.rd h1.1 J,rfl,h1.2.1,h1.2.2<|show(1:Int)<=4 by decide,rfl⟩;obtain⟨hs,hw,a0,a1,hx⟩:=hx;have hk:=hs.w.has a0 a1;unfold pJ;refine Tot.ite (λhc=> ?_) (λhc=>Tot.ret ⟨hs.up J,hw⟩);have hc:=BX hc;refine Tot.pos hk.2.2 (Tot.bind (mi hk.1) λr6 h6=> ?_);subst h6;refine Tot.ite (λhl=> ?_) (λhl=> ?_)
 .have hl:(0:Int)<((stT<|kA x.1.2.2.1 x.2.2.1.toNat).held.length:Int):=BX hl;refine Tot.bind (Cn hs.r J) λr7 h7=> ?_;have hlt:=h7.2.2 hl;refine Tot.pos (FP h7.2.1 hlt)<|Tot.ret ⟨hs.rd h7.1 J,hw,a0,a1, ?_⟩;have hkk:=CI hk.1;have hid:=hkk.id;have h9:r7.1.1.toNat<(stT<|kA x.1.2.2.1 x.2.2.1.toNat).held.length:=by
   have:r7.1.1<((stT<|kA x.1.2.2.1 x.2.2.1.toNat).held.length:Int):=hlt;have:=h7.2.1;omega
  have:=aCH hkk.kok (n:=nA (stT<|kA x.1.2.2.1 x.2.2.1.toNat).held r7.1.1.toNat) (by rw[nA,B9,Av h9];exact CJ h9);rw[hid,hk.2.1]at this;exact this
 .have hm:=axf a0 a1;refine Tot.ret ⟨?_,hs,hw,hm.1,hm.2, ?_⟩
  .omega
  .show w64 (x.2.2.2.1+1)=_;rw[hx,AZ J J];rfl
def T6{N:Nat}{s:_}(h:SOk E N s){Dq odd:Int}(hm:Dq<=64)(hN:N<=900000):Tot (Nt (s,Dq,odd,())) λa=>SOk E (N+1000) a.2.1:=by
 unfold Nt;refine Tot.sum (P:=λ_=>False) (Q:=λy=>SOk E (N+1000) y.1) ?_ (λ_ h=>h.elim) (λy hy=>Tot.ret hy);refine Tot.loop (λi x=>SOk E (N+12 * i) x.1/\x.2.1=Dq/\x.2.2.2.1=(i:Int)) _ Dq.toNat (λi x hi hx=> ?_) ⟨h,rfl,rfl⟩;obtain⟨hs,hx1,hx⟩:=hx;unfold ov;refine Tot.ite (λhc=> ?_) (λhc=>Tot.ret<|show SOk E (N+1000) _ from hs.up J);rw[AE,hx1,hx]at hc;have hlt:(i:Int)<Dq:=BX hc.1;have hN1:N+12 * i<=950000:=J
 generalize hM:N+12 * i=M at hs hN1;refine Tot.join (A:=λj=>SOk E (M+5) j.1/\j.2.1=Dq/\j.2.2.2.1=(i:Int)/\(zTx j.2.2.2.2.1).size<=1000) ?_ (λj hj=> ?_)
 .refine Tot.join (A:=λj=>SOk E (M+1) j.1/\j.2.1=Dq/\j.2.2.2.1=(i:Int)/\(zTx j.2.2.2.2.1).size<=1000) ?_ (λj hj=> ?_)
  .refine Tot.ite (λhc=>Tot.bind (Cn hs.r J) λr1 h1=>Tot.ret ?_) (λhc=>Tot.ret ?_)
   .exact⟨hs.rd h1.1 J,hx1,hx,show noB.size<=1000 by decide⟩
   .exact⟨hs.up J,hx1,hx,show noB.size<=1000 by decide⟩
  .obtain⟨hs,hj1,hj2,hj3⟩:=hj;refine Tot.ite (λhc=> ?_) (λhc=>Tot.ret ⟨hs.up J,hj1,hj2,hj3⟩);refine Tot.bind (Cn hs.r J) λr1 h1=> ?_;refine Tot.ite (λhc=>Tot.ret ⟨hs.rd (h1.1.up J) J,hj1,hj2,hj3⟩) (λhc=> ?_);refine Tot.ite (λhc=>Tot.ret ⟨hs.rd (h1.1.up J) J,hj1,hj2,hj3⟩) (λhc=> ?_);refine Tot.ite (λhc=> ?_) (λhc=> ?_)
   .exact Tot.bind (Cn h1.1 J) λr2 h2=>Tot.bind (Cn h2.1 J) λr3 h3=>Tot.bind (Cn h3.1 J) λr4 h4=>
     Tot.ret ⟨hs.rd (h4.1.up J) J,hj1,hj2,hj3⟩
   .exact Tot.bind (Cn h1.1 J) λr2 h2=>Tot.ret ⟨hs.rd (h2.1.up J) J,hj1,hj2,hj3⟩
 .obtain⟨hs,hj1,hj2,hj3⟩:=hj;have hw:w64 (j.2.2.2.1+1)=((i+1:Nat):Int):=by rw[hj2,AZ J J];rfl
  refine Tot.join (A:=λj=>SOk E (M+7) j.1/\j.2.1=Dq/\j.2.2.2.1=(i:Int)/\(zTx j.2.2.2.2.1).size<=1000) ?_ (λj hj=> ?_)
  .refine Tot.bind (Gu hs J<|Ca hj3<|by decide) λr1 h1=>Tot.ite (λhc=> ?_) (λhc=>Tot.ret ⟨h1.up J,hj1,hj2,hj3⟩);exact Tot.bind (Gu h1 J<|show noB.size<=1048576 by decide) λr2 h2=>Tot.ret ⟨h2.up J,hj1,hj2,hj3⟩
  .obtain⟨hs,hj1,hj2,hj3⟩:=hj;refine Tot.join (A:=λj=>SOk E (M+8) j.1/\j.2.1=Dq/\j.2.2.2.1=(i:Int)/\(zTx j.2.2.2.2.1).size<=1000) ?_ (λj hj=> ?_)
   .refine Tot.ite (λhc=>Tot.bind (Cn hs.r J) λr1 h1=>Tot.ret ⟨hs.rd h1.1 J,hj1,hj2,hj3⟩) (λhc=>Tot.ret ⟨hs.up J,hj1,hj2,hj3⟩)
   .obtain⟨hs,hj1,hj2,hj3⟩:=hj;have hw:w64 (j.2.2.2.1+1)=((i+1:Nat):Int):=by rw[hj2,AZ J J];rfl
    refine Tot.ite (λhc=> ?_) (λhc=>Tot.ret ⟨J, ?_,hj1,hw⟩)
    .refine Tot.bind (Cn hs.r J) λr1 h1=>Tot.bind (Cn h1.1 J) λr2 h2=>Tot.bind (Gu (hs.rd h2.1 J) J ?_) λr3 h3=>Tot.ret ⟨J, ?_,hj1,hw⟩
     .show(zTx j.2.2.2.2.1).size<=1048576;omega
     .exact h3.up J
    .exact hs.up J
end Go.VS
namespace Go.VS
open Go
variable {E:List Event}
def nz:noB.size<=1048576:=by decide
def WOk.rl{N:Nat}{t:_}(h:WOk E N t):t.2.2.2.1.length<=30:=by
 obtain⟨w,ev,rfl,hw,_⟩:=h;exact hw.ok.rl
def Ka{n:Int}{i:Nat}(h:n=(i:Int))(hi:i<=1000000):w64 (n+1)=((i+1:Nat):Int):=by
 rw[h,AZ J J];rfl
def YJ{N:Nat}{s:_}(h:SOk E N s){Dq odd:Int}(h0:0<=Dq)(hm:Dq<=8)(hN:N<=800000):Tot (PX (s,Dq,odd,())) λa=>SOk E (N+1100) a.2.1:=by
 unfold PX;refine Tot.bind (aw7 h J) λr1 h1=>Tot.ite (λhc=>Tot.ret<|h1.1.up J) (λhc=> ?_);refine Tot.bind (Cn h1.1.r J) λr2 h2=>Tot.bind (Cn h2.1 J) λr3 h3=> ?_;refine Tot.sum (P:=λ_=>False) (Q:=λy=>SOk E (N+20) y.1/\y.2.1=Dq) ?_ (λ_ h=>h.elim) (λy hy=> ?_)
 .refine Tot.loop (λi x=>SOk E (N+4+i) x.1/\x.2.1=Dq/\x.2.2.2.2.2.2.1=(i:Int)) _ Dq.toNat (λi x hi hx=> ?_) ⟨h1.1.rd h3.1 J,rfl,rfl⟩;obtain⟨hs,hx1,hx⟩:=hx;unfold ou;refine Tot.ite (λhc=> ?_) (λhc=>Tot.ret ⟨hs.up J,hx1⟩);have hc:=BX hc;exact Tot.bind (Gu hs J nz) λr4 h4=>Tot.ret ⟨J,h4.up J,hx1,Ka hx J⟩
 .have hy2:=hy.2;refine Tot.bind (Cn hy.1.r J) λr4 h4=> ?_;have h5:r4.1.1<=64:=by
   have:w64 (y.2.1+4)=Dq+4:=by rw[hy.2,AZ J J]
   have:=h4.2.2 (by show 1<=w64 (y.2.1+4);omega);have:r4.1.1<w64 (y.2.1+4):=this;omega
  exact Tot.bind (T6 (hy.1.rd h4.1 J) h5 J) λr5 h6=>Tot.ret<|h6.up J
def awm{N:Nat}{s:_}(h:SOk E N s)(hN:N<=700000):Tot (bT (s,())) λa=>SOk E (N+4500) a.2.1:=by
 unfold bT;refine Tot.bind (T6 h (by decide) J) λr1 h1=>Tot.bind (YJ h1 (by decide) (by decide) J) λr2 h2=> ?_;refine Tot.sum (P:=λ_=>False) (Q:=λy=>SOk E (N+2220) y.1) ?_ (λ_ h=>h.elim) (λy hy=> ?_)
 .refine Tot.loop (λi x=>SOk E (N+2100+40 * i) x.1/\x.2.1=(i:Int)) _ 2 (λi x hi hx=> ?_) ⟨h2.up J,rfl⟩;obtain⟨hs,hx⟩:=hx;unfold pN;refine Tot.bind (Cn hs.r J) λr3 h3=>Tot.ite (λhc=> ?_) (λhc=>Tot.ret<|show SOk E (N+2220) _ from hs.rd (h3.1.up J) J);have hc:=BX hc;have hv:=h3.2.2 (show(1:Int)<=2 by decide);have hv:r3.1.1<2:=hv;have hv0:=h3.2.1;rw[AZ J J]at hc;have hrl:=hs.w.rl;refine Tot.sum (P:=λ_=>False) (Q:=λy=>SOk E (N+2100+40 * (i+1)) y.1/\y.2.1=(i:Int)) ?_ (λ_ h=>h.elim) (λy hy=>Tot.ret ⟨J,hy.1,Ka hy.2 J⟩);refine Tot.loop (λk y=>SOk E (N+2100+40 * i+1+k) y.1/\y.2.1=(i:Int)/\y.2.2.1=(x.1.2.2.2.2.1.length:Int)/\y.2.2.2.1=(k:Int)) _ x.1.2.2.2.2.1.length (λk y hk hy=> ?_) ⟨hs.rd h3.1 J,hx,rfl,rfl⟩;obtain⟨hs,y1,y2,y3⟩:=hy;unfold pM;refine Tot.ite (λhc=> ?_) (λhc=>Tot.ret ⟨hs.up J,y1⟩);have hc:=BX hc;exact Tot.bind (Gu hs J nz) λr4 h4=>Tot.ret ⟨J,h4.up J,y1,y2,Ka y3 J⟩
 .refine Tot.bind (Cn (SOk.r hy) J) λr3 h3=>Tot.join (A:=λj=>SOk E (N+2240) j.1) ?_ (λj hj=> ?_)
  .refine Tot.bind (Cn h3.1 J) λr4 h4=>Tot.ite (λhc=> ?_) (λhc=>Tot.ite (λhc=> ?_) λhc=> ?_)
   .exact Tot.bind (Cn h4.1 J) λr5 h5=>Tot.bind (Gu (SOk.rd hy h5.1 J) J nz) λr6 h6=>Tot.bind (Gu h6 J nz) λr7 h7=>Tot.ret (show SOk E (N+2240) _ from h7.up J)
   .refine Tot.bind (Cn h4.1 J) λr5 h5=>Tot.sum (P:=λ_=>False) (Q:=λy=>SOk E (N+2240) y.1) ?_ (λ_ h=>h.elim) (λy hy=>Tot.ret<|show SOk E (N+2240) y.1 from hy);have hv:r5.1.1<9:=h5.2.2 (show(1:Int)<=9 by decide);have hv0:=h5.2.1;refine Tot.loop (λk y=>SOk E (N+2224+k) y.1/\y.2.2.1=r5.1.1 - (k:Int)) _ r5.1.1.toNat (λk y hk hy=> ?_) ⟨SOk.rd hy (h5.1.up J) J,by show r5.1.1=r5.1.1 - 0;omega⟩;obtain⟨hs,y1⟩:=hy;unfold pL;refine Tot.ite (λhc=> ?_) (λhc=>Tot.ret<|show SOk E (N+2240) _ from hs.up J);have hc:=BX hc;refine Tot.bind (Gu hs J nz) λr6 h6=>Tot.ret ⟨J,h6.up J, ?_⟩;show w64 (y.2.2.1 - 1)=r5.1.1 - ((k+1:Nat):Int);rw[AZ J J];omega
   .exact Tot.ret (show SOk E (N+2240) _ from SOk.rd hy (h4.1.up J) J)
  .have hj:SOk E (N+2240) j.1:=hj;refine Tot.bind (YJ hj (by decide) (by decide) J) λr4 h4=>Tot.sum (P:=λ_=>False) (Q:=λy=>SOk E (N+3400) y.1) ?_ (λ_ h=>h.elim) (λy hy=> ?_)
   .refine Tot.loop (λk y=>SOk E (N+3340+k) y.1/\y.2.2.1=(k:Int)) _ 12 (λk y hk hy=> ?_) ⟨h4.up J,rfl⟩;obtain⟨hs,y1⟩:=hy;unfold pK;refine Tot.ite (λhc=> ?_) (λhc=>Tot.ret<|show SOk E (N+3400) _ from hs.up J);rw[AE]at hc;have hc:=BX hc.1;exact Tot.bind (Gu hs J nz) λr6 h6=>Tot.ret ⟨J,h6.up J,Ka y1 J⟩
   .exact Tot.bind (T6 (SOk.up hy<|As _) (by decide) J) λr5 h5=>Tot.ret<|h5.up J
def aw3{N:Nat}{s:_}(h:SOk E N s)(odd:Int)(hN:N<=690000):Tot (bR (s,odd,())) λa=>SOk E (N+25000) a.2.1:=by
 unfold bR;refine Tot.bind (Cn h.r J) λr1 h1=>Tot.bind (Cn h1.1 J) λr2 h2=> ?_;have a0:=h1.2.1;have a1:r1.1.1<4:=h1.2.2 (show(1:Int)<=4 by decide);have hs:SOk E (N+2) (r2.2.1,s.2):=h.rd h2.1 J;refine Tot.join (A:=λj=>SOk E (N+2) j.1/\0<=j.2.2.1/\j.2.2.1<4) ?_ (λj hj=> ?_)
 .exact Tot.ite (λ_=>Tot.ret ⟨hs,a0,a1⟩) λ_=>Tot.ite (λ_=>Tot.ret ⟨hs,a0,a1⟩) λ_=>Tot.ret ⟨hs,a0,a1⟩
 clear hs a0 a1;refine Tot.ite (λ_=>Tot.bind (ab5 hj.1 J) λr4 h4=>Tot.ret<|h4.up J) (λ_=> ?_);refine Tot.join (A:=λj=>SOk E (N+2) j.1/\0<=j.2.2.1/\j.2.2.1<4) ?_ (λj hj=> ?_)
 .exact Tot.ite (λ_=>Tot.ret hj) λ_=>Tot.ite (λ_=>Tot.ret hj) λ_=>Tot.ite (λ_=>Tot.ret hj) λ_=>Tot.ite (λ_=>Tot.ret hj) λ_=>Tot.ite (λ_=>Tot.ret hj) λ_=>Tot.ret hj
 refine Tot.ite (λ_=> ?_) (λ_=> ?_)
 .refine Tot.bind (Cn hj.1.r J) λr3 h3=> ?_;have hv:r3.1.1<7:=h3.2.2 (show(1:Int)<=7 by decide);have hv0:=h3.2.1;have hw:w64 (1+r3.1.1)=1+r3.1.1:=AZ J J;exact Tot.bind (YJ (hj.1.rd h3.1 J) (by rw[hw];omega) (by rw[hw];omega) J) λr4 h4=>Tot.ret<|h4.up J
 refine Tot.join (A:=λj=>SOk E (N+2) j.1/\0<=j.2.2.1/\j.2.2.1<4) ?_ (λj hj=> ?_)
 .exact Tot.ite (λ_=>Tot.ret hj) λ_=>Tot.ret hj
 refine Tot.ite (λ_=> ?_) (λ_=> ?_)
 .refine Tot.bind (Cn hj.1.r J) λr3 h3=> ?_;have hv:r3.1.1<20:=h3.2.2 (show(1:Int)<=20 by decide);have hv0:=h3.2.1;have hw:w64 (1+r3.1.1)=1+r3.1.1:=AZ J J;exact Tot.bind (T6 (hj.1.rd h3.1 J) (by rw[hw];omega) J) λr4 h4=>Tot.ret<|h4.up J
 refine Tot.join (A:=λj=>SOk E (N+2) j.1/\0<=j.2.1/\j.2.1<4) ?_ (λj hj=> ?_)
 .exact Tot.ite (λ_=>Tot.ret hj) λ_=>Tot.ret hj
 refine Tot.ite (λ_=>Tot.bind (Gu hj.1 J nz) λr4 h4=>Tot.ret<|h4.up J) (λ_=> ?_);refine Tot.ite (λ_=>Tot.bind (Cn hj.1.r J) λr3 h3=>Tot.bind (Gu (hj.1.rd h3.1 J) J nz) λr4 h4=>Tot.ret<|h4.up J) (λ_=> ?_);refine Tot.join (A:=λj=>SOk E (N+2) j.1/\0<=j.2.1/\j.2.1<4) ?_ (λj hj=> ?_)
 .exact Tot.ite (λ_=>Tot.ret hj) λ_=>Tot.ret hj
 refine Tot.ite (λ_=>Tot.bind (Gu hj.1 J nz) λr4 h4=>Tot.ret<|h4.up J) (λ_=> ?_);refine Tot.ite (λ_=>Tot.bind (Cn hj.1.r J) λr3 h3=>Tot.bind (Cn h3.1 J) λr4 h4=>Tot.bind (Gu (hj.1.rd h4.1 J) J nz) λr5 h5=>Tot.ret<|h5.up J) (λ_=> ?_);refine Tot.join (A:=λj=>SOk E (N+2) j.1/\0<=j.2.1/\j.2.1<4) ?_ (λj hj=> ?_)
 .exact Tot.ite (λ_=>Tot.ret hj) λ_=>Tot.ret hj
 refine Tot.ite (λ_=> ?_) (λ_=> ?_)
 .have hk:=hj.1.w.has hj.2.1 hj.2.2;refine Tot.pos hk.2.2 (Tot.bind (mi hk.1) λr6 h6=> ?_);subst h6;refine Tot.ite (λhl=> ?_) (λhl=>Tot.ret<|hj.1.up J);have hl:(0:Int)<((stT<|kA j.1.2.2.1 j.2.1.toNat).inbox.length:Int):=BX hl;refine Tot.bind (Cn hj.1.r J) λr7 h7=>Tot.pos (FP h7.2.1<|h7.2.2 hl)<|Tot.bind (Gu (hj.1.rd h7.1 J) J nz) λr8 h8=>Tot.ret<|h8.up J
 refine Tot.ite (λ_=>Tot.bind (Cn hj.1.r J) λr3 h3=>Tot.bind (Gu (hj.1.rd h3.1 J) J nz) λr4 h4=>Tot.ret<|h4.up J) (λ_=> ?_);refine Tot.join (A:=λj=>SOk E (N+2) j.1) ?_ (λj hj=> ?_)
 .exact Tot.ite (λ_=>Tot.ret hj.1) λ_=>Tot.ite (λ_=>Tot.ret hj.1) λ_=>Tot.ret hj.1
 have hj:SOk E (N+2) j.1:=hj;refine Tot.ite (λ_=>Tot.bind (awm hj J) λr4 h4=>Tot.ret<|h4.up J) (λ_=> ?_);refine Tot.sum (P:=λ_=>False) (Q:=λy=>SOk E (N+25000) y.1) ?_ (λ_ h=>h.elim) (λy hy=>Tot.ret hy);refine Tot.loop (λk y=>SOk E (N+2+2200 * k) y.1/\y.2.1=(k:Int)) _ 4 (λk y hk hy=> ?_) ⟨hj,rfl⟩;unfold pb;refine Tot.ite (λhc=> ?_) (λhc=>Tot.ret<|show SOk E (N+25000) _ from hy.1.up J);have hc:=BX hc;have hy2:=hy.2;exact Tot.bind (YJ hy.1 (by decide) (by decide) J) λr5 h5=>Tot.bind (T6 h5 (by decide) J) λr6 h6=>Tot.ret ⟨J,h6.up J,Ka hy.2 J⟩
end Go.VS
namespace Go.VS
open Go
variable {E:List Event}
def aua{i:Int}(h:isN i=A0):UX (i,())=I (((i,A0,noB,0,[],()),()),()):=by
 unfold UX;simp only[JZ,A9,h,AB,A7]
def aaF:RW ()=I (((rv0.ti,rv0.AK,rv0.B2,rv0.Ai,rv0.Ab,rv0.got,()),()),()):=by
 have h0:oo ((0,([]:List AA),([]:List Bool),([]:List AS),([]:List A6),([]:List A6),()),(0,([]:List AA),([]:List Bool),([]:List AS),([]:List A6),([]:List A6),()),0,())
   =I (.inr ((0,[],[],[],[],[],()),(0,[kp0 0,kp0 1,kp0 2,kp0 3],[],[],[],[],()),())):=by
  have st:∀(n:Nat) (l:List AA),n<4->l.length<=4->bZ ((0,[],[],[],[],[],()),(0,l,[],[],[],[],()),(n:Int),())=I (.inl ((0,[],[],[],[],[],()),(0,l++[kp0 n],[],[],[],[],()),((n+1:Nat):Int),())):=by
   intro n l hn hl;unfold bZ;have hi:isN (n:Int)=A0:=Af.2 ⟨J,J⟩;rw[A8<|Aa<|show(n:Int)<4 by omega];rw[show UX (_,())=_ from aua hi];simp only[A9];rw[A8<|B8 (by simp;omega),AZ J J];rfl
  exact B0 (st 0 [] (by decide)<|by decide)<|B0 (st 1 _ (by decide)<|by decide)<|B0 (st 2 _ (by decide)<|by decide)<|B0 (st 3 _ (by decide)<|by decide)<|BP<|by rfl
 have h1:oh ((0,([]:List AA),([]:List Bool),([]:List AS),([]:List A6),([]:List A6),()),(0,[kp0 0,kp0 1,kp0 2,kp0 3],[],[],[],[],()),0,())
   =I (.inr ((0,[],[],[],[],[],()),(0,[kp0 0,kp0 1,kp0 2,kp0 3],[A0,A0,A0],[],[],[],()),())):=by
  have st:∀(n:Nat) (l:List Bool),n<3->l.length<=4->UU ((0,[],[],[],[],[],()),(0,[kp0 0,kp0 1,kp0 2,kp0 3],l,[],[],[],()),(n:Int),())=I (.inl ((0,[],[],[],[],[],()),(0,[kp0 0,kp0 1,kp0 2,kp0 3],l++[A0],[],[],[],()),((n+1:Nat):Int),())):=by
   intro n l hn hl;unfold UU;have hw:w64 ((n:Int)+1)=((n+1:Nat):Int):=by rw[AZ J J];rfl
   simp only[hw];rw[A8<|Aa<|show((n+1:Nat):Int)<4 by omega,A8<|B8 (by simp;omega)]
  refine B0 (st 0 [] (by decide)<|by decide) (B0 (st 1 _ (by decide)<|by decide)<|B0 (st 2 _ (by decide)<|by decide)<|BP ?_);unfold UU;have hw:w64 (((2+1:Nat):Int)+1)=4:=by rw[AZ J J];rfl
  simp only[hw];rfl
 unfold RW;rw[h0];simp only[CR];rw[h1];rfl
def ax7{N M:Nat}{r:List Int×Int×A2}(h:Hi N r){Dq:Int}(hm0:1<=Dq)(hm:Dq<=(M:Int))(hN:N+25000 * M<=710000):
  Tot (df (r,Dq,())) λa=>Hi (N+12+25000 * M) a.2.1/\WOk [] (N+12+25000 * M) a.1.1.2:=by
 unfold df;rw[aaF];simp only[A9];refine Tot.bind (Cn h J) λr2 h2=>Tot.pos (FP h2.2.1<|h2.2.2<|show(1:Int)<=5 by decide) ?_;have hs:SOk [] (N+1) (r2.2.1,rv0.ti,rv0.AK,rv0.B2,rv0.Ai,rv0.Ab,rv0.got,([]:List Event),()):=⟨h2.1,rv0,[],rfl,.nil,Cu _⟩;refine Tot.bind (ab5 hs J) λr4 h4=>Tot.bind (Cn h4.r J) λr9 h9=> ?_;refine Tot.sum (P:=λ_=>False) (Q:=λy=>Hi (N+12+25000 * M) y.1/\WOk [] (N+12+25000 * M) y.2.1.2) ?_ (λ_ h=>h.elim) (λy hy=>Tot.ret hy);have hn0:=h9.2.1;have hn:r9.1.1<(M:Int):=by
  have:r9.1.1<Dq:=h9.2.2 hm0;omega
 refine Tot.loop (λi y=>Hi (N+12+25000 * i) y.1/\WOk [] (N+12+25000 * i) y.2.1.2/\y.2.2.2.1=r9.1.1 - (i:Int)) _ r9.1.1.toNat (λi y hi hy=> ?_) ⟨h9.1.up J,h4.w.up J,by show r9.1.1=r9.1.1 - 0;omega⟩;obtain⟨hr,hw,hy⟩:=hy;unfold rr;refine Tot.ite (λhc=> ?_) (λhc=>Tot.ret ⟨hr.up J,hw.up J⟩);have hc:=BX hc;refine Tot.bind (aw3 (s:=(y.1,y.2.1.2)) ⟨hr,hw⟩ _ J) λr5 h5=>Tot.ret ⟨J,h5.r.up J,h5.w.up J, ?_⟩;show w64 (y.2.2.2.1 - 1)=r9.1.1 - ((i+1:Nat):Int);rw[AZ J J];omega
end Go.VS
namespace Go.VS
open Go
def axC{l:List Int}(hb:BOk l):Tot (eh (l,())) λa=>Hi 0 a.1.1:=by
 unfold eh;refine Tot.ite (λhc=> ?_) (λhc=>Tot.ret ⟨?_,hb,E7 _,E7 _⟩)
 .have hc:(2000:Int)<(l.length:Int):=BX hc;refine Tot.pos (by simp;omega) (Tot.ret ⟨?_,λx hx=>hb x<|Gx hx,E7 _,E7 _⟩);show(BH (AL 2000) l).length<=2000;rw[Cw];omega
 .have:¬(2000:Int)<(l.length:Int):=KC hc;show l.length<=2000;omega
abbrev tR(w:AX):YR:=(w.ti,w.AK,w.B2,w.Ai,w.Ab,w.got,())
abbrev zR:AX:=⟨0,[],[],[],[],[]⟩
abbrev SmR(w:AX):Prop:=IC w.AK w.B2 w.Ai w.Ab w.got
def BA.sm{w:AX}(h:BA w):SmR w:=by
 have h1:=h.kl;have h2:=h.ll;have h3:=h.rl;have h4:=h.sl;have h5:=h.gl;refine⟨J,λk hk=> ?_,J,J,λp hp=> ?_,J,λn hn=> ?_,J,λn hn=> ?_⟩
 .obtain⟨i,hi,rfl⟩:=DG hk;have:=(h.k i J).1;rw[kA,B9,Av hi]at this;exact Cz this
 .have:=(OP<|h.p p hp).2.2.1;unfold aCs;omega
 .have:=Af.1<|lq<|h.s n hn;unfold G2;omega
 .have:=Af.1<|lq<|h.g n hn;unfold G2;omega
def aeW{l:List AA}(hl:l.length<=1048576):aw (l,())=I ((l,()),()):=Lf hl
def afy{l:List Bool}(hl:l.length<=1048576):bM (l,())=I ((l,()),()):=Lf hl
def aeV{l:List AS}(hl:l.length<=1048576):av (l,())=I ((l,()),()):=Lf hl
def V0{w:AX}(sm:SmR w):LL (tR w,())=I ((tR w,()),()):=by
 obtain⟨ti,ks,ls,ra,se,go⟩:=w;have kl:=sm.kl;unfold LL;rw[show aw ((tR ⟨ti,ks,ls,ra,se,go⟩).2.1,())=_ from aeW sm.kl,show bM ((tR ⟨ti,ks,ls,ra,se,go⟩).2.2.1,())=_ from afy sm.l,show av ((tR ⟨ti,ks,ls,ra,se,go⟩).2.2.2.1,())=_ from aeV sm.rl,
  show Ny ((tR ⟨ti,ks,ls,ra,se,go⟩).2.2.2.2.1,())=_ from bN sm.sl,show Ny (tR ⟨ti,ks,ls,ra,se,go⟩).2.2.2.2.2=_ from bN sm.gl]
 simp only[A9];have h:au (tR zR,tR ⟨ti,ks,ls,ra,se,go⟩,(ks.length:Int),0,())=I (.inr (tR zR,tR ⟨ti,ks,ls,ra,se,go⟩,())):=by
  refine C2 (λi=>(tR zR,tR ⟨ti,ks,ls,ra,se,go⟩,(ks.length:Int),(i:Int),())) ks.length ?_ ?_
  .intro i hi;unfold br;have hc:=KI<|Qj sm.k i;simp only[IJ hi,A5,AP hi,SH,hc,A9,Bb];rw[DZ hi kl,show(⟨(kA ks i).id,(kA ks i).up,(kA ks i).log,(kA ks i).fo,(kA ks i).AN⟩:AA)=kA ks i from rfl,QM]
  .unfold br;simp only[Gl,A7]
 rw[show au _=_ from h];rfl
def ir{w:AX}{fs:List Frame}(hr:w.Ai.length<=1048000)(hf:fs.length<=40):OD (tR w,fs,())=I ((),(tR ⟨w.ti,w.AK,w.B2,Cd w.Ai fs,w.Ab,w.got⟩,())):=by
 obtain⟨ti,ks,ls,ra,se,go⟩:=w;unfold OD;have h0:Cd ra (fs.take 0)=ra:=by
  unfold Cd;simp
 have h:dD (tR ⟨ti,ks,ls,Cd ra<|fs.take 0,se,go⟩,fs,(fs.length:Int),((0:Nat):Int),())=I (.inr (tR ⟨ti,ks,ls,Cd ra fs,se,go⟩,())):=by
  refine C2 (λi=>(tR ⟨ti,ks,ls,Cd ra<|fs.take i,se,go⟩,fs,(fs.length:Int),(i:Int),())) fs.length ?_ ?_
  .intro i hi;unfold fa;simp only[IJ hi,A5,AP hi,aDb];have hz:(Cd ra<|fs.take i).length<=1048100:=by
    unfold Cd;simp;have:min (30 - ra.length) (min i fs.length)<=40:=J
    simp only at hr;omega
   have hw:w64 ((i:Int)+1)=((i+1:Nat):Int):=DZ hi J;have hrm:∀p:AS,Ac ((Cd ra<|fs.take i).length+[p].length)=A0:=λp=>B8 (by simp;omega);have ht:fs.take (i+1)=fs.take i++[frA fs i]:=by rw[JI,Av hi,aan hi];rfl
   have hl:(fs.take i).length=i:=by rw[Cw];omega
   have hlen:(Cd ra<|fs.take i).length=ra.length+min (30 - ra.length) i:=by
    unfold Cd;simp;omega
   by_cases h30:(Cd ra<|fs.take i).length<30
   .rw[A8<|Aa<|show((Cd ra<|fs.take i).length:Int)<30 by omega];rw[show Pc ((_,_,_,_,_,_,_,_,_,_,()),())=_ from vu<|frA fs i];simp only[A9,hrm,A5];have e:Cd ra (fs.take<|i+1)=Cd ra (fs.take i)++[pcF (frA fs i)]:=by
     rw[hlen]at h30;have a1:BH (30 - ra.length) (fs.take i++[frA fs i])=fs.take i++[frA fs i]:=Ie (by rw[Ar,hl];simp;omega);have a2:BH (30 - ra.length) (fs.take i)=fs.take i:=Ie (by rw[hl];omega);unfold Cd;rw[ht,a1,a2,Es,← Bw];rfl
    rw[e,hw];rfl
   .rw[AD<|nd<|show ¬((Cd ra<|fs.take i).length:Int)<30 by omega];have e:Cd ra (fs.take<|i+1)=Cd ra (fs.take i):=by
     rw[hlen]at h30;unfold Cd;rw[ht,List.take_append_of_le_length (by rw[hl];omega)]
    rw[e,hw]
  .unfold fa;simp only[Gl,A7,Dw]
 rw[h0]at h;have h':dD (tR ⟨ti,ks,ls,ra,se,go⟩,fs,(fs.length:Int),0,())=I (.inr (tR ⟨ti,ks,ls,Cd ra fs,se,go⟩,())):=h;simp only[h'];rfl
def air{l:List AS}{i:Int}(h0:0<=i)(h1:i<l.length)(hl:l.length<=1048576):V1 (l,i,())=I ((J5 l i.toNat,()),()):=by
 unfold V1;have hw:w64 (i+1)=i+1:=AZ J J;have hn:(i+1).toNat=i.toNat+1:=J
 simp only[hw,hn];rw[A8 (by simp;omega),A8<|B8 (by simp;omega),A8 (by simp;omega),A8<|B8 (by simp;omega)];rfl
def anb{w:AX}(h:BA w)(e:Event):((e.ki=9\/e.ki=10)->fJ (tR w,tE e,())=I (((ER w e).2,()),(tR (ER w e).1,()))):=by
 intro _;have ll:=h.ll;unfold fJ ER;simp only[ED,A9,SF<|show w.B2.length<=1048576 by omega,Xl];rcases tf (inB e.at_ 0<|(w.B2.length:Int) - 1) with e0|e0
 .have ha:=Af.1 e0;have hb:inb e.at_ w.B2.length=A0:=FP ha.1 J;rw[e0,hb];simp only[AB,AI,GK,A5,Bi,AW];rcases tfp (bA w.B2 e.at_.toNat=A1 (e.ki=9)) with c|c<;>simp only[c,AU,Ae,AB,AI,A5,A7]
 .rw[e0];simp only[AB,AI,HB,A5,Bo,AO,A7]
def axM(l:List AS)(i:Int){inst:Decidable ((@rd AS (dfl .An) l i).dst<(@rd AS (dfl .An) l i).src)}:(@ite Int ((@rd AS (dfl .An) l i).dst<(@rd AS (dfl .An) l i).src) inst (@rd AS (dfl .An) l i).dst (@rd AS (dfl .An) l i).src)=lnk (pA l i.toNat):=by
 show _=lnk (@rd AS (dfl .An) l i);unfold lnk;split<;>split<;>omega
def akN{w:AX}(h:BA w)(e:Event):((e.ki=4\/e.ki=5\/e.ki=6)->Rg (tR w,tE e,())=I (((Dy w e).2,()),(tR (Dy w e).1,()))):=by
 intro hk;have rl:=h.rl;unfold Rg Dy;simp only[↓axM,ED,A9,SF<|show w.Ai.length<=1048576 by omega,aAu];rcases tf (inB e.wo 0<|(w.Ai.length:Int) - 1) with e0|e0
 .have ha:=Af.1 e0;have hb:inb e.wo w.Ai.length=A0:=FP ha.1 J;have hwl:e.wo.toNat<w.Ai.length:=J
  have hp:=OV h (i:=e.wo.toNat) hwl;obtain⟨p1,p2,p3,p4,p5⟩:=OP hp;have Ev:=air (l:=w.Ai) ha.1 J J;rw[e0,hb];simp only[AB,A7,A5];rcases tfp (e.ki=5) with c5|c5
  .have c6:¬e.ki=6:=by have:e.ki=5:=of_eq_true c5;omega
   simp only[c5,AU,A5,Ev,A9,c6,if_false]
  .rcases tfp (e.ki=6) with c6|c6
   .simp only[c5,c6,AU,Ae,A5,A7,SF<|show(pA w.Ai e.wo.toNat).data.size<=1048576 by omega];rcases tf (inB e.mix 0<|((pA w.Ai e.wo.toNat).data.size:Int) - 1) with e2|e2<;>simp only[e2,AB,AI,A7,A5,AW,AO,Bc];rcases tf (pA w.Ai e.wo.toNat).sp with e1|e1<;>simp only[e1,AB,AI,A7,A5,AW,AO];rcases tf (inB e.kp 1 255) with e3|e3<;>simp only[e3,AB,AI,A7,A5];have hm:=Af.1 e2;have hmb:inb e.mix (BE (pA w.Ai e.wo.toNat).data).length=A0:=FP hm.1 (by rw[mT];omega);simp only[GA,aaG,aaZ hwl,hb,A5];rw[A8<|B8 J,A8 hmb,A8 hmb];rfl
   .have c4:e.ki=4:=by
     have:¬e.ki=5:=by simpa using c5
     have:¬e.ki=6:=by simpa using c6
     omega
    have hl:inb (lnk<|pA w.Ai e.wo.toNat) w.B2.length=A0:=by
     have:=h.ll;exact FP p4 (by rw[this];exact p5)
    have hin:inb (pA w.Ai e.wo.toNat).dst w.AK.length=A0:=FP p2.1 (by rw[h.kl];omega);have c4':(e.ki=4)=True:=eq_true c4;simp only[c5,c6,c4',AU,Ae,A5,A7,hl,Xl,if_false];rcases tf (bA w.B2 (lnk<|pA w.Ai e.wo.toNat).toNat) with e1|e1<;>simp only[e1,AB,AI,A7,A5];have hlo:=(Ss h e.wo.toNat).1;rcases tfp (e.kp=0) with e5|e5
    .simp only[e5,AU,A5,Ev,A9,Be];simp only[B8<|show(pA w.Ai e.wo.toNat).data.size<=4294967296 by omega,A5,si<|BOk.str _,A9];unfold IU;generalize DJ (BE (pA w.Ai e.wo.toNat).data)=u;rcases tf u.2 with e2|e2<;>simp only[e2,A7,A5,AW,AO,Be];rcases tf (A1 (u.1.src=(pA w.Ai e.wo.toNat).src)&&A1 (u.1.dst=(pA w.Ai e.wo.toNat).dst)) with e3|e3<;>simp only[e3,A7,A5,hin,SP];rw[show RQ ((_,_,_,_,_,()),_,())=_ from uF (Tn h (i:=(pA w.Ai e.wo.toNat).dst.toNat) J) u.1];simp only[A9];have hs:=ir (w:=⟨w.ti,w.AK.set (pA w.Ai e.wo.toNat).dst.toNat (Db (kA w.AK (pA w.Ai e.wo.toNat).dst.toNat) u.1).1,w.B2,J5 w.Ai e.wo.toNat,w.Ab,w.got⟩) (fs:=(Db (kA w.AK (pA w.Ai e.wo.toNat).dst.toNat) u.1).2) (by show(J5 w.Ai e.wo.toNat).length<=1048000;omega) (by have:=(X9 (kA w.AK (pA w.Ai e.wo.toNat).dst.toNat) u.1).1;omega);rw[show OD _=_ from hs];rfl
    .simp only[e5,Ae,A7,Be,if_false];simp only[B8<|show(pA w.Ai e.wo.toNat).data.size<=4294967296 by omega,A5,si<|BOk.str _,A9];unfold IU;generalize DJ (BE (pA w.Ai e.wo.toNat).data)=u;rcases tf u.2 with e2|e2<;>simp only[e2,A7,A5,AW,AO,Be];rcases tf (A1 (u.1.src=(pA w.Ai e.wo.toNat).src)&&A1 (u.1.dst=(pA w.Ai e.wo.toNat).dst)) with e3|e3<;>simp only[e3,A7,A5,hin,SP];rw[show RQ ((_,_,_,_,_,()),_,())=_ from uF (Tn h (i:=(pA w.Ai e.wo.toNat).dst.toNat) J) u.1];simp only[A9];have hs:=ir (w:=⟨w.ti,w.AK.set (pA w.Ai e.wo.toNat).dst.toNat (Db (kA w.AK (pA w.Ai e.wo.toNat).dst.toNat) u.1).1,w.B2,w.Ai,w.Ab,w.got⟩) (fs:=(Db (kA w.AK (pA w.Ai e.wo.toNat).dst.toNat) u.1).2) (by show(w.Ai).length<=1048000;omega) (by have:=(X9 (kA w.AK (pA w.Ai e.wo.toNat).dst.toNat) u.1).1;omega);rw[show OD _=_ from hs];rfl
 .rw[e0];simp only[AI,A5,A7]
def ana{w:AX}(h:BA w){e:Event}(hk:¬(e.ki=4\/e.ki=5\/e.ki=6))(hk':¬(e.ki=9\/e.ki=10))(ht:e.tx.size<=1048576):
  S4 (tR w,tE e,())=I (((doM w e).2,()),(tR (doM w e).1,())):=by
 obtain⟨ki,at_,fr,nu,wo,mix,kp,t',un,tx⟩:=e;simp only at hk hk' ht;have hn:∀(l:List A6) (x:A6),l.length<=6->Ac (l.length+[x].length)=A0:=λl x hl=>B8 (by simp;omega);have rl:=h.rl;unfold S4 doM;rw[AD hk,AD hk'];simp only[Jb,A9];rcases tf (isN at_) with e0|e0
 .have ha:=Ff e0;have hal:=TM e0;have hb:inb at_ w.AK.length=A0:=FP ha.1 (by rw[h.kl];omega);have hko:=(h.k _ hal).1;have hks:=Tn h hal;simp only[e0,AB,A7,hb,A5,SP];unfold KY;rcases tfp (ki=1) with e1|e1
  .simp only[e1,AU,A5];unfold L4;by_cases hs:6<=w.Ab.length
   .rw[A8<|Aa<|show 6<=(w.Ab.length:Int) by omega,A8 hs];rfl
   .rw[AD<|nd<|show ¬6<=(w.Ab.length:Int) by omega,AD hs];rw[show V4 ((_,_,_,_,_,()),_,_,_,())=_ from aiY hko t' un ht];simp only[A9];rcases tfp ((Dl (kA w.AK at_.toNat) t' un tx).2=0) with e2|e2<;>simp only[e2,AU,Ae,A7,A5,if_false]
    .rfl
    .rw[A8<|hn _ _ h.sl,Be];simp only[hb,A5]
  .simp only[e1,Ae,A7,if_false];rcases tfp (ki=2) with e2|e2
   .simp only[e2,AU,A5];rw[show Uv ((_,_,_,_,_,()),())=_ from ahq hko];simp only[A9,Be,hb,A5];rfl
   .simp only[e2,Ae,A7,if_false];rcases tfp (ki=3) with e3|e3
    .simp only[e3,AU,A5];rw[show V5 ((_,_,_,_,_,()),_,_,_,())=_ from ajS hks fr nu mix];simp only[A9];rw[A8 hko];rcases tf (Em (kA w.AK at_.toNat) fr nu mix).2 with e4|e4<;>simp only[e4,A5,A7]
     .have hs:=ir (w:=w) (fs:=[(Em (kA w.AK at_.toNat) fr nu mix).1]) J (by simp);rw[show OD (_,_,())=_ from hs];simp only[A9,Be,hb,A5];rw[show(⟨(kA w.AK at_.toNat).id,(kA w.AK at_.toNat).up,(kA w.AK at_.toNat).log,(kA w.AK at_.toNat).fo,(kA w.AK at_.toNat).AN⟩:AA)=kA w.AK at_.toNat from rfl,QM]
     .simp only[Be,hb,A5];rw[show(⟨(kA w.AK at_.toNat).id,(kA w.AK at_.toNat).up,(kA w.AK at_.toNat).log,(kA w.AK at_.toNat).fo,(kA w.AK at_.toNat).AN⟩:AA)=kA w.AK at_.toNat from rfl,QM]
    .simp only[e3,Ae,A7,if_false];rcases tfp (ki=7) with e4|e4
     .simp only[e4,AU,A5];rw[show Uy ((_,_,_,_,_,()),_,())=_ from aht hks kp];rw[A8 hko];simp only[A9,Be,hb,A5];rfl
     .simp only[e4,Ae,A7,if_false];rcases tfp (ki=8) with e5|e5
      .simp only[e5,AU,A5];rw[show Uw ((_,_,_,_,_,()),())=_ from ahr hko];simp only[A9,Be,hb,A5];rfl
      .simp only[e5,Ae,A7,if_false];rcases tfp (ki=11) with e6|e6
       .simp only[e6,AU,A5];unfold L0;by_cases hs:w.got.length<6
        .rw[AD<|nd<|show ¬6<=(w.got.length:Int) by omega];rw[show V6 ((_,_,_,_,_,()),_,_,())=_ from ajT hko fr nu];simp only[A9];rcases tf (DV (kA w.AK at_.toNat) fr nu).2.2 with e7|e7<;>simp only[e7,AB,AI,A5,A7,AW,AO]
         .rw[A8<|Aa hs,A8<|hn _ _ h.gl,Be];simp only[hb,A5]
         .rfl
        .rw[A8<|Aa<|show 6<=(w.got.length:Int) by omega,BR hs,Bc,A7];rfl
       .simp only[e6,Ae,A7,if_false];rcases tfp (ki=12) with e7|e7
        .simp only[e7,AU,A5];rw[show Ux ((_,_,_,_,_,()),())=_ from ahs hko];simp only[A9,Be,hb,A5];rfl
        .simp only[e7,Ae,A7,if_false];rcases tfp (ki=13) with e8|e8
         .simp only[e8,AU,A5];rw[show Uh ((_,_,_,_,_,()),())=_ from ag6 hko];simp only[A9,Be,hb,A5];rfl
         .simp only[e8,Ae,A7,if_false,Be,hb,A5];rw[show(⟨(kA w.AK at_.toNat).id,(kA w.AK at_.toNat).up,(kA w.AK at_.toNat).log,(kA w.AK at_.toNat).fo,(kA w.AK at_.toNat).AN⟩:AA)=kA w.AK at_.toNat from rfl,QM]
 .simp only[e0,AI,A7,A5]
noncomputable abbrev DW(w:AX):Bool:=HD w.ti w.AK w.B2 w.Ai w.Ab w.got
def aDs{l:List A6}(h:Gt l=A0):∀n∈l,B4 n=A0:=by
 intro n hn;obtain⟨i,hi,rfl⟩:=DG hn;have:=CS.1 h i hi;rw[nA,B9,Av hi]at this;exact this
def Fe{w:AX}(h:DW w=A0):BA w/\0<=w.ti/\w.ti<=99999:=by
 unfold DW HD at h;simp only[AE,Af,decide_eq_true_eq,CS]at h;obtain⟨ht,hk,hl,hr,⟨hs,hs6⟩,⟨hg,hg6⟩,hks,hps⟩:=h;refine⟨⟨J,J,J,J,J,λi hi=> ?_,λp hp=> ?_,aDs hs,aDs hg⟩,ht.1,ht.2⟩
 .have:=hks i J;unfold JA at this;simp only[AE,decide_eq_true_eq]at this;exact⟨this.2,this.1⟩
 .obtain⟨i,hi,rfl⟩:=DG hp;have:=hps i hi;rw[me hi]at this;exact this
def aaK{w:AX}(h:BA w)(h0:0<=w.ti)(h1:w.ti<=99999):DW w=A0:=by
 have k1:=h.kl;have k2:=h.ll;have k3:=h.rl;have k4:=h.sl;have k5:=h.gl;unfold DW HD;simp only[AE,Af,decide_eq_true_eq,CS];refine⟨⟨h0,h1⟩,J,J,J,⟨?_,J⟩,⟨?_,J⟩,λi hi=> ?_,λi hi=> ?_⟩
 .unfold Gt;exact CS.2 λi hi=>h.s _ (by rw[nA,B9,Av hi];exact CJ hi)
 .unfold Gt;exact CS.2 λi hi=>h.g _ (by rw[nA,B9,Av hi];exact CJ hi)
 .unfold JA;have:=h.k i J;rw[this.1,this.2];simp
 .exact OV h hi
def I6(w:AX)(e:Event):AX×Bool:=
 if DW w then(if A1 (99999<=w.ti) then(w,A3) else if(doM w e).2 then(CC w e,A0) else(w,A3)) else(zR,A3)
def xl{w:AX}(h:BA w)(ht0:0<=w.ti)(ht1:w.ti<=99999){e:Event}(ht:e.tx.size<=1048576):
  Rm (tR w,tE e,())=I ((tR (if A1 (99999<=w.ti) then(w,A3) else if(doM w e).2 then(CC w e,A0) else(w,A3)).1,(if A1 (99999<=w.ti) then(w,A3) else if(doM w e).2 then(CC w e,A0) else(w,A3)).2,()),()):=by
 have hti:=ZG w e;have ayc:∀b:Bool,b=A1 (e.ki=9\/e.ki=10)->(BS (X:=YR×YR×YR×Bool×A2) (λj16=>
   (if((!j16.2.2.2.1)||(A1<|j16.1.1=99999)) then
   (LL (j16.1,())).bind λr29=>
   I ((r29.1.1,A3,()),())
   else
   (LL (((w64<|j16.2.2.1.1+1),j16.2.2.1.2),())).bind λr30=>
   I ((r30.1.1,A0,()),()))) (I<|.inr (tR w,tR zR,tR (doM w e).1,(doM w e).2,())):Option ((YR×Bool×A2)×A2))=I ((tR (if A1 (99999<=w.ti) then(w,A3) else if(doM w e).2 then(CC w e,A0) else(w,A3)).1,(if A1 (99999<=w.ti) then(w,A3) else if(doM w e).2 then(CC w e,A0) else(w,A3)).2,()),()):=by
  intro b hb;rw[Be];have azd:A1 (w.ti=99999)=A1 (99999<=w.ti):=decide_eq_decide.2 J;simp only[azd];rcases tf (A1<|99999<=w.ti) with c|c
  .simp only[c,Cv,A5,V0 h.sm,A9]
  .rcases tf (doM w e).2 with c2|c2
   .simp only[c,c2,AB,EK,A7,A5];have hs:=V0 (mF h e).sm;have e1:tR (CC w e)=(w64<|(doM w e).1.ti+1,(doM w e).1.AK,(doM w e).1.B2,(doM w e).1.Ai,(doM w e).1.Ab,(doM w e).1.got,()):=by
     unfold CC tick;rw[c2,A8 rfl]
    rw[e1]at hs ⊢;rw[show LL ((w64<|(doM w e).1.ti+1,(doM w e).1.AK,(doM w e).1.B2,(doM w e).1.Ai,(doM w e).1.Ab,(doM w e).1.got,()),())=_ from hs];rfl
   .simp only[c,c2,AI,Bo,A7,A5,V0 h.sm,A9]
 unfold Rm;rw[V0 h.sm];simp only[A9];have ID:=ayc _ rfl;by_cases h9:e.ki=9\/e.ki=10
 .have hdo:doM w e=ER w e:=by
   unfold doM;rw[AD J,A8 h9]
  have hL:=anb h e h9;rw[← hdo]at hL;rw[← ID];congr 1;rcases tfp (e.ki=9) with c|c
  .simp only[c,AU,A5,Be,hL,A9]
  .have c10:(e.ki=10)=True:=eq_true (by have:¬e.ki=9:=(by simpa using c);omega);simp only[c,c10,AU,Ae,A7,Be,A5,hL,A9]
 .have n9:(e.ki=9)=False:=by simp;omega
  have n10:(e.ki=10)=False:=by simp;omega
  simp only[n9,n10,Ae,A7,Be];rw[← ID];congr 1;by_cases h4:e.ki=4\/e.ki=5\/e.ki=6
  .have hdo:doM w e=Dy w e:=by
    unfold doM;rw[A8 h4]
   have hP:=akN h e h4;rw[← hdo]at hP;rcases tfp (e.ki=4) with c|c
   .simp only[c,AU,A5,hP,A9]
   .rcases tfp (e.ki=5) with c1|c1
    .simp only[c,c1,AU,Ae,A7,A5,hP,A9]
    .have c6:(e.ki=6)=True:=eq_true (by have h4:¬e.ki=4:=(by simpa using c);have h5:¬e.ki=5:=(by simpa using c1);omega);simp only[c,c1,c6,AU,Ae,A7,A5,hP,A9]
  .have n4:(e.ki=4)=False:=by simp;omega
   have n5:(e.ki=5)=False:=by simp;omega
   have n6:(e.ki=6)=False:=by simp;omega
   have hN:=ana h h4 h9 ht;simp only[n4,n5,n6,Ae,A7,hN,A9]
def sE{w:AX}(sm:SmR w):Pj (tR w,())=I ((tR w,()),()):=by
 obtain⟨ti,ks,ls,ra,se,go⟩:=w;have k1:=sm.kl;have k2:=sm.l;have k3:=sm.rl;have k4:=sm.sl;have k5:=sm.gl;unfold Pj;simp only at k1 k2 k3 k4 k5;simp only[EM,CA,DF];rw[A8<|B8 J,A8<|B8 J,A8<|B8 J,A8<|B8 J];have h:bU (tR ⟨ti,ks,ls,ra,se,go⟩,tR zR,tR ⟨ti,ks.take 0,ls,ra,se,go⟩,((0:Nat):Int),())=I (.inr (tR zR,tR ⟨ti,ks,ls,ra,se,go⟩,())):=by
  refine C2 (λi=>(tR ⟨ti,ks,ls,ra,se,go⟩,tR zR,tR ⟨ti,ks.take i,ls,ra,se,go⟩,(i:Int),())) ks.length ?_ ?_
  .intro i hi;unfold dR;have hc:=MS<|Qj sm.k i;simp only[IJ hi,A5,AP hi,SH,hc,A9];rw[A8<|B8 (by simp;omega),DZ hi k1];have:ks.take i++[kA ks i]=ks.take (i+1):=by rw[JI,Av hi,kA,B9,Av hi];rfl
   rw[← this]
  .unfold dR;simp only[Gl,A7,Dw]
 have h':bU (tR ⟨ti,ks,ls,ra,se,go⟩,tR zR,tR ⟨ti,[],ls,ra,se,go⟩,0,())=I (.inr (tR zR,tR ⟨ti,ks,ls,ra,se,go⟩,())):=h;simp only[h'];rfl
def apN{w:AX}(h:BA w){e:Event}(ht:e.tx.size<=1048576):
  W3 (tR w,tE e,())=I ((tR<|tick (doM w e).1 A0,(doM w e).2,()),()):=by
 have hti:=ZG w e;unfold W3;refine abD (w:=w) h (e:=e) ht (λc=> ?_) (λc c2=> ?_) (λk b c=> ?_) (λra c=> ?_) (λc=> ?_)
 .rw[c,tick,A8 rfl,hti]<;>rfl
 .rw[c,c2];rfl
 .rw[c];rfl
 .rw[c];rfl
 .rw[c];rfl
def aq0{w:AX}(h:BA w)(hlt:¬99999<=w.ti)(hrv:DW w=A0){e:Event}(ht:e.tx.size<=1048576):
  O2 (tR w,tE e,())=I ((tR (if(doM w e).2 then(CC w e,A0) else(w,A3)).1,(if(doM w e).2 then(CC w e,A0) else(w,A3)).2,()),()):=by
 have hcw:=sE h.sm;have hd:=apN h ht;have hc2:=sE (aaB (mZ h e) A0).sm;unfold O2;rw[show Pm ((tR w,tE e,()).1,())=_ from fq h.sm];simp only[A9,show HD w.ti w.AK w.B2 w.Ai w.Ab w.got=A0 from hrv,AB,A7,BR hlt,hcw];rw[show W3 (tR w,(tE e,()))=_ from hd];unfold CC;rcases tf (doM w e).2 with c|c
 .simp only[A9,c,AB,A7,hc2,A5]
 .simp only[A9,c,AI,A5,A7]
def alk{w:AX}(sm:SmR w){e:Event}(ht:e.tx.size<=1048576):O2 (tR w,tE e,())=I ((tR (I6 w e).1,(I6 w e).2,()),()):=by
 unfold I6;rcases tf (DW w) with c|c
 .have hw:=Fe c;rw[A8 c];by_cases hlt:99999<=w.ti
  .unfold O2;rw[show Pm (tR w,())=_ from fq sm];simp only[A9,show HD w.ti w.AK w.B2 w.Ai w.Ab w.got=A0 from c,AB,A7,Aa hlt,A5,sE sm]
  .rw[AD<|nd hlt];exact aq0 hw.1 hlt c ht
 .rw[AD (by rw[c];exact Cg)];unfold O2;rw[show Pm (tR w,())=_ from fq sm];simp only[A9,show HD w.ti w.AK w.B2 w.Ai w.Ab w.got=A3 from c,AI,A5]
def apo{l:List AH}{i:Nat}(hi:i<l.length)(hl:(hA l i).got.length<=1048576):pR (l,l,(i:Int),0,())=I (.inr (l,l,(i:Int),())):=
 C2 (b:=VF) (λk=>(l,l,(i:Int),(k:Int),())) (hA l i).got.length (λk hk=>by
  unfold VF;simp only[AP hi,Ls,AP hk,A5,AU,Du,AB,A7,B5 hk (by omega:(hA l i).got.length<=9223372036854775807)];rw[A8<|by simpa using hk]) (by
  unfold VF;simp only[AP hi,Ls,A5];rw[AD<|by simp])
def anq{l:List AH}(hl:l.length<=1048576)(hs:∀h∈l,Of h):Pg (l,l,())=I ((A0,()),()):=by
 have h0:pS (l,l,0,())=I (.inr ()):=
  C2 (b:=Uz) (λk=>(l,l,(k:Int),())) l.length (λk hk=>by
   have hg:(hA l k).got.length<=1048576:=by rw[I2 hk];exact(hs _<|CJ hk).1
   unfold Uz;simp only[AP hk,Ls,B7 hk,A5,AU,AB,A7,apo hk hg,CR,B5 hk (by omega:l.length<=9223372036854775807)]) (by
   unfold Uz;rw[AD<|by simp])
 unfold Pg;simp only[AU,AB,A7,h0,CR]
def anp{k:AA}(sm:FN k):dC (tKp k,tKp k,())=I ((A0,()),()):=by
 unfold dC;simp only[AU,A5,anq sm.2.1 sm.2.2];rfl
def zw{l:List A6}(hl:l.length<=1048576):Rw (l,l,())=I ((A0,()),()):=by
 have h0:po (l,l,0,())=I (.inr ()):=
  C2 (b:=VQ) (λk=>(l,l,(k:Int),())) l.length (λk hk=>by
   unfold VQ;simp only[AP hk,B7 hk,A5,MF,AU,Du,AB,A7,B5 hk (by omega:l.length<=9223372036854775807)]) (by
   unfold VQ;rw[AD<|by simp])
 unfold Rw;simp only[AU,AB,A7,h0,CR]
def OB{w:AX}(sm:SmR w):It (tR w,tR w,())=I ((A0,()),()):=by
 obtain⟨ti,ks,ls,ra,se,go⟩:=w;have k1:ks.length<=1048576:=sm.kl;have k2:ls.length<=1048576:=sm.l;have k3:ra.length<=1048576:=sm.rl;have h0:pn (tR ⟨ti,ks,ls,ra,se,go⟩,tR ⟨ti,ks,ls,ra,se,go⟩,0,())=I (.inr (tR ⟨ti,ks,ls,ra,se,go⟩,tR ⟨ti,ks,ls,ra,se,go⟩,())):=
  C2 (b:=VP) (λk=>(tR ⟨ti,ks,ls,ra,se,go⟩,tR ⟨ti,ks,ls,ra,se,go⟩,(k:Int),())) ks.length (λk hk=>by
   unfold VP;have hc:=anp<|Qj sm.k k;simp only[AP hk,B7 hk,A5,SH,hc,A9,AB,A7,B5 hk (by omega:ks.length<=9223372036854775807)]) (by
   unfold VP;simp only[Gl,A7])
 have h1:pj (tR ⟨ti,ks,ls,ra,se,go⟩,tR ⟨ti,ks,ls,ra,se,go⟩,0,())=I (.inr (tR ⟨ti,ks,ls,ra,se,go⟩,tR ⟨ti,ks,ls,ra,se,go⟩,())):=
  C2 (b:=VO) (λk=>(tR ⟨ti,ks,ls,ra,se,go⟩,tR ⟨ti,ks,ls,ra,se,go⟩,(k:Int),())) ls.length (λk hk=>by
   unfold VO;simp only[AP hk,B7 hk,A5,AU,AB,A7,B5 hk (by omega:ls.length<=9223372036854775807)]) (by
   unfold VO;simp only[Gl,A7])
 have h2:ph (tR ⟨ti,ks,ls,ra,se,go⟩,tR ⟨ti,ks,ls,ra,se,go⟩,0,())=I (.inr ()):=
  C2 (b:=VN) (λk=>(tR ⟨ti,ks,ls,ra,se,go⟩,tR ⟨ti,ks,ls,ra,se,go⟩,(k:Int),())) ra.length (λk hk=>by
   unfold VN;simp only[AP hk,B7 hk,A5,AU,Du,AB,A7,B5 hk (by omega:ra.length<=9223372036854775807)]) (by
   unfold VN;simp only[Gl,A7])
 unfold It;rw[show Rw ((tR ⟨ti,ks,ls,ra,se,go⟩,tR ⟨ti,ks,ls,ra,se,go⟩,()).1.2.2.2.2.2.1,(tR ⟨ti,ks,ls,ra,se,go⟩,tR ⟨ti,ks,ls,ra,se,go⟩,()).2.1.2.2.2.2.2)=_ from zw sm.gl];simp only[AU,AB,A7,zw sm.sl,A9,h0,h1,h2,CR]
def aAy(w:AX)(e:Event):(DW w=A3/\I6 w e=(zR,A3))\/(DW w=A0/\I6 w e=(w,A3))\/(DW w=A0/\w.ti<99999/\(doM w e).2=A0/\I6 w e=(CC w e,A0)):=by
 unfold I6;rcases tf (DW w) with c|c
 .rw[c,A8 rfl];by_cases h:99999<=w.ti
  .rw[A8<|Aa h];exact .inr (.inl ⟨rfl,rfl⟩)
  .rw[AD<|nd h];rcases tf (doM w e).2 with d|d
   .rw[A8 d];exact .inr (.inr ⟨rfl,J,d,rfl⟩)
   .rw[AD (by rw[d];exact Cg)];exact .inr (.inl ⟨rfl,rfl⟩)
 .rw[c,A7];exact .inl ⟨rfl,rfl⟩
def TB{w:AX}{e:Event}(h:(doM w e).2=A0):CC w e=⟨w64<|w.ti+1,(doM w e).1.AK,(doM w e).1.B2,(doM w e).1.Ai,(doM w e).1.Ab,(doM w e).1.got⟩:=by
 unfold CC tick;rw[h,A8 rfl,ZG]
def mE{w:AX}{e:Event}(h:(doM w e).2=A0):(CC w e).ti=w64 (w.ti+1):=by rw[TB h]
def aCt{w:AX}{e:Event}(h:DW w=A0)(ht:w.ti<99999)(hd:(doM w e).2=A0):DW (CC w e)=A0:=by
 obtain⟨h1,h2,h3⟩:=Fe h;have e1:w64 (w.ti+1)=w.ti+1:=AZ J J;exact aaK (mF h1 e) (by rw[mE hd,e1];omega) (by rw[mE hd,e1];omega)
def Tot.val{α:Type}{o:Option α}{a:α}(h:Tot o (λx=>x=a)):o=I a:=by
 obtain⟨b,h1,h2⟩:=h;rw[h1,h2]
def aCg:CZ [101,97,116]:=by unfold CZ;decide
def arK{k:AG}{m:Mark}{r:A4}(ht:Gm r=I m):Bd k CF r=if EX k.inbox m then I ⟨k.id,k.ti,k.nx,k.held,k.marks,Ey k.inbox (AY k.inbox m.mf m.mn).toNat⟩ else U:=by
 unfold Bd Ew;cases h:EX k.inbox m<;>simp[gw,gQ,iU,gP,gS,gE,iV,gR,ht,h]
def avv{l:List A6}(h:F5 l=A0){i:Nat}(hi:i<l.length):nA l i ∉ Ey l i:=by
 have irr:∀a b:Int,bef a b a b=A3:=λa b=>by unfold bef;simp
 have at_:∀j (hj:j<l.length),l[j]=nA l j:=λj hj=>by rw[nA,B9,Av hj];rfl
 have dif:∀j,j<l.length->j≠i->nA l j≠nA l i:=λj hj hne e=>by
  rcases Ta hne with h1|h1
  .have:=WK h i j h1 hi;rw[e,irr]at this;cases this
  .have:=WK h j i h1 hj;rw[e,irr]at this;cases this
 intro hm;unfold Ey at hm;rcases BM.1 hm with hm|hm
 .obtain⟨j,hj,e⟩:=DG hm;rw[Cw]at hj;rw[List.getElem_take,at_ j J]at e;exact dif j J J e
 .obtain⟨j,hj,e⟩:=DG hm;rw[E4]at hj;rw[List.getElem_drop,at_ (i+1+j) J]at e;exact dif _ J J e
structure LtF (d t:AG):Prop where
 id:t.id=d.id
 ti:t.ti=d.ti
 nx:t.nx=d.nx
 box:t.inbox=d.inbox
 held:∀n∈t.held,n∈d.held
 mrk:∀m∈d.marks,m∈t.marks
def LtF.rfl(d:AG):LtF d d:=⟨Eq.refl _,Eq.refl _,Eq.refl _,Eq.refl _,λ_ h=>h,λ_ h=>h⟩
def LtF.trans{a b c:AG}(h:LtF a b)(g:LtF b c):LtF a c:=⟨g.id.trans h.id,g.ti.trans h.ti,g.nx.trans h.nx,g.box.trans h.box,λn hn=>h.held n<|g.held n hn,λm hm=>g.mrk m<|h.mrk m hm⟩
def ZQ(r:A4):Prop:=∃a b c:Int,(0<=a/\a<=999)/\(0<=b/\b<=999)/\(0<=c/\c<=999)/\r=Cl C3 a b c
def aEq{k o:AG}{a b c:Int}(hk:Aw k=A0)(ha:0<=a/\a<=999)(hb:0<=b/\b<=999)(hc:0<=c/\c<=999)(h:BO k (Cl C3 a b c)=I o):
  EX k.held ⟨a,b,c⟩=A0/\o=⟨k.id,k.ti,k.nx,Ey k.held (AY k.held a b).toNat,Ez k.marks ⟨a,b,c⟩,k.inbox⟩:=by
 rw[asp hk ha hb hc]at h;have h:=(Ow.1 h).1;split at h
 .rename_i h1;exact⟨h1,(C8 h).symm⟩
 .cases h
def axN{k o:AG}{r:A4}(hk:Aw k=A0)(hr:ZQ r)(h:BO k r=I o):LtF k o:=by
 obtain⟨a,b,c,ha,hb,hc,rfl⟩:=hr;obtain⟨_,rfl⟩:=aEq hk ha hb hc h;exact⟨rfl,rfl,rfl,rfl,λn hn=>Sj hn,λm hm=>Mz _<|.inr hm⟩
def aso{k o:AG}{r:A4}(hk:Aw k=A0)(h:BO k r=I o):Aw o=A0:=((IK hk).1 h).2
def YN:∀ {ts:List A4} {d t:AG},Aw d=A0->(∀r∈ts,ZQ r)->Ee d ts=I t->LtF d t
 | [],d,t,_,_,h=>by
  cases h;exact LtF.rfl _
 | r::ts,d,t,hk,hl,h=>by
  have h:(BO d r).bind (λk=>Ee k ts)=I t:=h;obtain⟨m,h1,h2⟩:=Aj.1 h;exact(axN hk (hl r<|.head _) h1).trans<|YN (aso hk h1) (λx hx=>hl x<|.tail _ hx) h2
def LO(k:AA):Prop:=∃rs ts,Bz k.log k.fo rs ts/\ ∀r∈ts,ZQ r
def ZC{k:AA}{rs ts:List A4}(l:Bz k.log k.fo rs ts):stD k=(CO k.id rs).getD zK:=by unfold stD;rw[l.abY]
def LO.two{k:AA}(h:Ah k=A0){rs ts:List A4}(l:Bz k.log k.fo rs ts):CO k.id rs=I (stD k)/\Aw (stD k)=A0/\Ee (stD k) ts=I (stT k):=by
 have hs:=(EC h).st;rw[l.state,WR]at hs;obtain⟨d,h1,h2⟩:=Aj.1 hs;have e:stD k=d:=by rw[ZC l,h1];rfl
 rw[e];exact⟨h1,SJ h1,h2⟩
def LO.lf{k:AA}(h:Ah k=A0)(hl:LO k):LtF (stD k) (stT k):=by
 obtain⟨rs,ts,l,g⟩:=hl;obtain⟨_,h2,h3⟩:=LO.two h l;exact YN h2 g h3
def auf{ts:List A4}(h:(cat ts).length=0):ts=[]:=by
 cases ts with
 | nil=>rfl
 | cons r ts=>
  rw[Hm,Ar,Ay]at h;have:=Wl r;omega
def avd{k:AA}(h:Ah k=A0)(hf:k.fo=(k.log.size:Int)):∃rs,Bz k.log k.fo rs []:=by
 obtain⟨rs,ts,l,_⟩:=(CI h).lg;have h1:=l.fo;have h2:=l.size_eq;have:ts=[]:=auf J;subst this;exact⟨rs,l⟩
def Sx{k:AA}(h:Ah k=A0)(hf:k.fo=(k.log.size:Int)):LO k/\stD k=stT k:=by
 obtain⟨rs,l⟩:=avd h hf;refine⟨⟨rs,[],l,λr hr=>by cases hr⟩, ?_⟩;have:=(LO.two h l).2.2;exact C8 this
def awC{k:AA}(h:Ah k=A0)(hl:LO k){r:A4}(hr:ZQ r)(h2:(wrR k r A3).2=A0):
  LO (wrR k r A3).1/\Ah (wrR k r A3).1=A0/\BO (stT k) r=I (stT (wrR k r A3).1)/\(stD (wrR k r A3).1=stD k\/stD (wrR k r A3).1=stT k):=by
 have hk:=CI h;obtain⟨o,ho⟩:=aD0 hk h2;have hi:=TI hk ho;have e:(wrR k r A3).1=wrM k r:=by unfold wrR;rw[ho];rfl
 rw[e,hi.stT];refine⟨?_,hi.ok,ho, ?_⟩
 all_goals
  obtain⟨rs,ts,l,g⟩:=hl;have hz:=kZ hk.kok ho
 .by_cases hc:k.log.size+(Cq r).size<=2400
  .refine⟨rs,ts++[r], ?_,λx hx=> ?_⟩
   .show Bz (Cs (stT k) k.log k.fo r).1 (Cs (stT k) k.log k.fo r).2 _ _;unfold Cs;rw[A8 hc];exact l.add hz.1 hz.2 hc
   .rcases BM.1 hx with hx|hx
    .exact g x hx
    .rw[C9.1 hx];exact hr
  .refine⟨C4<|stT k,[]++[r], ?_,λx hx=> ?_⟩
   .show Bz (Cs (stT k) k.log k.fo r).1 (Cs (stT k) k.log k.fo r).2 _ _;unfold Cs;rw[AD hc];refine(QI hk.kok).add hz.1 hz.2 ?_;have h1:=Q3 hk.kok;have h2:=Mi hz.2;omega
   .rw[EM]at hx;rw[C9.1 hx];exact hr
 .by_cases hc:k.log.size+(Cq r).size<=2400
  .left;have l2:Bz (wrM k r).log (wrM k r).fo rs (ts++[r]):=by
    show Bz (Cs (stT k) k.log k.fo r).1 (Cs (stT k) k.log k.fo r).2 _ _;unfold Cs;rw[A8 hc];exact l.add hz.1 hz.2 hc
   rw[ZC l2,ZC l];rfl
  .right;have l2:Bz (wrM k r).log (wrM k r).fo (C4<|stT k) ([]++[r]):=by
    show Bz (Cs (stT k) k.log k.fo r).1 (Cs (stT k) k.log k.fo r).2 _ _;unfold Cs;rw[AD hc];refine(QI hk.kok).add hz.1 hz.2 ?_;have h1:=Q3 hk.kok;have h2:=Mi hz.2;omega
   have l3:Bz (pkM k).log (pkM k).fo (C4<|stT k) []:=QI hk.kok;have p:=mb hk;have:=(LO.two p.ok l3);rw[ZC l2];have e1:CO k.id (C4<|stT k)=I (stT k):=by
    have t:=this.2.2;have t1:stD (pkM k)=stT (pkM k):=C8 t;have t0:=this.1;rw[t1,p.stT]at t0;exact t0
   show(CO k.id<|C4<|stT k).getD zK=_;rw[e1];rfl
def aup{k:AA}(h:Ah k=A0){r:A4}(h2:(wrR k r A0).2=A0):
  Ah (wrR k r A0).1=A0/\LO (wrR k r A0).1/\stD (wrR k r A0).1=stT (wrR k r A0).1/\BO (stT k) r=I (stT (wrR k r A0).1):=by
 have hk:=CI h;obtain⟨o,ho⟩:=aD0 hk h2;have hs:=(atZ hk ho).1;have:=Sx hs.is.ok hs.fo;refine⟨hs.is.ok,this.1,this.2, ?_⟩;rw[hs.is.stT];exact ho
def aa4{k:AA}(h:Ah k=A0):Ah (foM k)=A0/\LO (foM k)/\stD (foM k)=stT k/\stT (foM k)=stT k:=by
 have hk:=QQ<|CI h;have:=Sx (k:=foM k) hk.ok rfl;exact⟨hk.ok,this.1,this.2.trans hk.stT,hk.stT⟩
def avq{k:AA}(h:Ah k=A0):Ah (pkM k)=A0/\LO (pkM k)/\stD (pkM k)=stT k/\stT (pkM k)=stT k:=by
 have hk:=mb<|CI h;have:=Sx (k:=pkM k) hk.ok rfl;exact⟨hk.ok,this.1,this.2.trans hk.stT,hk.stT⟩
def av9{k:AA}(h:Ah k=A0)(hl:LO k)(keep:Int):
  Ah (faM k keep)=A0/\LO (faM k keep)/\stD (faM k keep)=stT (faM k keep)/\LtF (stD k) (stT<|faM k keep)/\LtF (stT<|faM k keep) (stT k):=by
 have ok:=mW h keep;obtain⟨rs,ts,l,g⟩:=hl;have hfo:=l.fo;obtain⟨us,vs,e,l2⟩:=l.UK (k.fo+max 0 (min keep<|(k.log.size:Int) - k.fo)).toNat J;have lf:(faM k keep).fo=((faM k keep).log.size:Int):=by
  have a:(faM k keep).fo=_:=l2.fo;have b:(faM k keep).log.size=_:=l2.size_eq;rw[a,b];simp[Jf]
 have hf:=Sx ok lf;obtain⟨d0,d1,d2⟩:=LO.two h l;have l2:Bz (faM k keep).log (faM k keep).fo (rs++us) []:=l2;obtain⟨f0,f1,f2⟩:=LO.two ok l2;rw[hf.2]at f0 f1;have f0:CO k.id (rs++us)=I (stT<|faM k keep):=f0;rw[WR,d0]at f0;rw[e,MU,show Ee (stD k) us=_ from f0]at d2;subst e;exact⟨ok,hf.1,hf.2,YN d1 (λr hr=>g r<|Bq _ hr) f0,YN f1 (λr hr=>g r<|CK _ hr) d2⟩
inductive Act|non|own (n:A6)|take (n:A6)|eat (n:A6)|lets (m:Mark)
def Act.new(a:Act)(n:A6):Prop:=a= .own n\/a= .take n
structure KF (k o:AG) (a:Act):Prop where
 id:o.id=k.id
 ti:k.ti<=o.ti
 nx:(o.nx=k.nx/\ ∀n,a≠ .own n)\/ ∃n,a= .own n/\n.nu=k.nx/\n.fr=k.id/\o.nx=k.nx+1
 hold:∀n∈k.held,n∈o.held\/n.un<=o.ti\/a= .lets ⟨n.fr,n.nu,n.un⟩
 held:∀n∈o.held,n∈k.held\/a.new n
 box:∀n∈k.inbox,n∈o.inbox\/a= .eat n
 PU:∀n∈o.inbox,(n∈k.inbox/\a≠ .eat n)\/(a.new n/\n.to=k.id)
 mrk:∀m∈o.marks,m∈k.marks\/a= .lets m\/ ∃n,a.new n/\n.to=k.id/\m=⟨n.fr,n.nu,n.un⟩
 mks:∀m∈k.marks,m∈o.marks\/m.mu<=o.ti
 new:∀n,a.new n->k.ti<n.un/\(∀m∈k.marks,¬(m.mf=n.fr/\m.mn=n.nu))/\(if n.to=k.id then n∈o.inbox else n∈o.held)
 eat:∀n,a= .eat n->n∈k.inbox
 lets:∀m,a= .lets m->∃n∈k.held,m=⟨n.fr,n.nu,n.un⟩
def aDq{l:List A6}{i:Nat}{x:A6}(h:x∈l)(hne:x≠nA l i):x∈Ey l i:=by
 obtain⟨j,hj,e⟩:=DG h;have at_:nA l j=x:=by rw[nA,B9,Av hj];exact e
 have hji:j≠i:=λc=>hne (by rw[← c];exact at_.symm);unfold Ey;rw[BM];by_cases h1:j<i
 .left;rw[List.mem_take_iff_getElem];exact⟨j,J,e⟩
 .right;rw[List.mem_drop_iff_getElem];exact⟨j - (i+1),J,by rw[← e];congr 1;omega⟩
def avO{l:List Mark}{f n:Int}(h:¬0<=Bs l f n):∀m∈l,¬(m.mf=f/\m.mn=n):=λm hm e=>h<|ats hm e.1 e.2
def aax{k o:AG}{n:A6}{a:Act}(ha:a.new n)(hu:∀x,a.new x->x=n)(hnx:(o.nx=k.nx/\ ∀n,a≠ .own n)\/ ∃n,a= .own n/\n.nu=k.nx/\n.fr=k.id/\o.nx=k.nx+1)
  {c:Int}(h:FE ⟨k.id,k.ti,c,k.held,k.marks,k.inbox⟩ n=I o):KF k o a:=by
 have ne:∀x,a≠ .eat x:=λx e=>by obtain h|h:=ha<;>rw[h]at e<;>cases e
 have nl:∀x,a≠ .lets x:=λx e=>by obtain h|h:=ha<;>rw[h]at e<;>cases e
 unfold FE at h;split at h
 .cases h
 split at h
 .cases h
 split at h
 .cases h
 split at h
 .cases h
 split at h
 .cases h
 split at h
 .cases h
 rename_i _ h1 _ _ h2 _;have h1:k.ti<n.un:=by simpa using h1
 have h2:=avO (l:=k.marks) (f:=n.fr) (n:=n.nu) (by simpa using h2);split at h
 .rename_i ht;have ht:n.to=k.id:=BX ht;cases h;refine⟨rfl,E7 _,hnx,λ_ h=> .inl h,λ_ h=> .inl h,λx h=> .inl<|Mz _<|.inr h,λx h=> ?_,λm h=> ?_,λm h=> .inl<|Mz _<|.inr h,λx h=> ?_,λx e=>absurd e<|ne x,λx e=>absurd e<|nl x⟩
  .rcases Mx _ h with rfl|h
   .exact .inr ⟨ha,ht⟩
   .exact .inl ⟨h,ne x⟩
  .rcases Mx _ h with rfl|h
   .exact .inr (.inr ⟨n,ha,ht,rfl⟩)
   .exact .inl h
  .rw[hu x h,A8 ht];exact⟨h1,h2,Mz _<|.inl rfl⟩
 .rename_i ht;have ht:¬n.to=k.id:=by simpa using ht
  cases h;refine⟨rfl,E7 _,hnx,λx h=> .inl<|Mz _<|.inr h,λx h=> ?_,λ_ h=> .inl h,λ_ h=> .inl ⟨h,ne _⟩,λ_ h=> .inl h,λ_ h=> .inl h,λx h=> ?_,λx e=>absurd e<|ne x,λx e=>absurd e<|nl x⟩
  .rcases Mx _ h with rfl|h
   .exact .inr ha
   .exact .inl h
  .rw[hu x h,AD ht];exact⟨h1,h2,Mz _<|.inl rfl⟩
def atV(n:A6):L (Kb n)=[111,119,110]++32::L (wr n):=by unfold Kb;simp only[G7,L_B];rfl
def as2{k:AG}{n:A6}(hn:B4 n=A0):Bd k Dd (wr n)=if n.fr=k.id/\n.nu=k.nx then FE ⟨k.id,k.ti,k.nx+1,k.held,k.marks,k.inbox⟩ n else(if 0<=AY k.held n.fr n.nu\/0<=AY k.inbox n.fr n.nu then U else U):=by
 unfold Bd;rw[AD<|by decide,A8<|by decide,Pz hn];unfold GN;by_cases h:n.fr=k.id/\n.nu=k.nx
 .simp[h.1,h.2]
 .rw[AD h];have:(A1 (n.fr=k.id)&&A1 (n.nu=k.nx))=A3:=by
   rw[← GD,AE,decide_eq_true_eq,decide_eq_true_eq];exact h
  simp[yu,yv,xq,this]
def axB{k o:AG}{n:A6}(hk:Aw k=A0)(hn:B4 n=A0)(h:BO k (Kb n)=I o):KF k o (.own n):=by
 have h:=((IK hk).1 h).1;rw[IQ aDn<|atV n,show Bd k (B [111,119,110]) (B<|L<|wr n)=Bd k Dd (wr n) by rw[B_L]]at h;rw[as2 hn]at h;split at h
 .rename_i hc;have hx:o.nx=k.nx+1:=by
   unfold FE at h
   (repeat' split at h)<;>first|(cases h;done)|(cases h;rfl)
  exact aax (.inl rfl) (λx h=>by obtain h|h:=h<;>cases h;rfl) (.inr ⟨n,rfl,hc.2,hc.1,hx⟩) h
 .split at h<;>cases h
def auY{k o:AG}{n:A6}(hk:Aw k=A0)(hn:B4 n=A0)(h:BO k (KW n)=I o):KF k o (.take n)/\n.fr≠k.id:=by
 rw[ar3 hk hn]at h;have h:=(Ow.1 h).1;split at h
 .cases h
 rename_i hne;have hx:o.nx=k.nx:=by
  unfold FE at h
  (repeat' split at h)<;>first|(cases h;done)|(cases h;rfl)
 exact⟨aax (.inr rfl) (λx h=>by obtain h|h:=h<;>cases h;rfl) (.inl ⟨hx,λn e=>by cases e⟩) h,hne⟩
def auX{k o:AG}(hk:Aw k=A0)(h:BO k (FO<|k.ti+1)=I o):KF k o .non:=by
 have hf:=CY hk;have t0:=hf.t0;have t1:=hf.t1;have h:=((IK hk).1 h).1;rw[IQ jn<|XF _,jH J J J]at h;cases h;refine⟨rfl,by show k.ti<=k.ti+1;omega,.inl ⟨rfl,λ_ h=>by cases h⟩,λn h=> ?_,λn h=> .inl (FF.1 h).1,λ_ h=> .inl h,λ_ h=> .inl ⟨h,λe=>by cases e⟩,λm h=> .inl (FF.1 h).1,λm h=> ?_,
  λ_ h=>(by obtain h|h:=h<;>cases h),λ_ h=>(by cases h),λ_ h=>(by cases h)⟩
 .by_cases hc:k.ti+1<n.un
  .exact .inl (FF.2 ⟨h,Aa hc⟩)
  .exact .inr (.inl (by show n.un<=k.ti+1;omega))
 .by_cases hc:k.ti+1<m.mu
  .exact .inl (FF.2 ⟨h,Aa hc⟩)
  .exact .inr (by show m.mu<=k.ti+1;omega)
def awf{k o:AG}{a b c:Int}(hk:Aw k=A0)(ha:0<=a/\a<=999)(hb:0<=b/\b<=999)(hc:0<=c/\c<=999)(h:BO k (Cl C3 a b c)=I o):KF k o (.lets ⟨a,b,c⟩):=by
 obtain⟨h1,rfl⟩:=aEq hk ha hb hc h;unfold EX at h1;rw[AE,decide_eq_true_eq,decide_eq_true_eq]at h1;obtain⟨i0,i1⟩:=h1;obtain⟨j0,j1,j2,j3⟩:=GM i0;have e:(⟨a,b,c⟩:Mark)=⟨(nA k.held (AY k.held a b).toNat).fr,(nA k.held (AY k.held a b).toNat).nu,(nA k.held (AY k.held a b).toNat).un⟩:=by rw[j2,j3,i1]
 refine⟨rfl,E7 _,.inl ⟨rfl,λ_ h=>by cases h⟩,λn h=> ?_,λn h=> .inl<|Sj h,λ_ h=> .inl h,λ_ h=> .inl ⟨h,λe=>by cases e⟩,λm h=> ?_,λm h=> .inl<|Mz _<|.inr h,
  λ_ h=>(by obtain h|h:=h<;>cases h),λ_ h=>(by cases h),λm h=> ?_⟩
 .by_cases hx:n=nA k.held (AY k.held a b).toNat
  .right;right;rw[e,hx]
  .exact .inl (aDq h hx)
 .rcases Mx _ h with rfl|h
  .exact .inr (.inl rfl)
  .exact .inl h
 .cases h;exact⟨_,Hx j0,e⟩
def awp{k o:AG}{n:A6}(hk:Aw k=A0)(hn:n=nA k.inbox (AY k.inbox n.fr n.nu).toNat)(h0:0<=AY k.inbox n.fr n.nu)(h:BO k (Cl CF n.fr n.nu n.un)=I o):KF k o (.eat n):=by
 have hf:=CY hk;obtain⟨hlt,Zk,hfr,hnu⟩:=GM h0;have hm:n∈k.inbox:=by rw[hn];exact Hx hlt
 obtain⟨⟨a0,a1⟩,⟨b0,b1⟩,⟨c0,c1⟩,_⟩:=jT<|iw hf.i hm;have h3:=YB (r:=B<|B6 n.fr++32::(B6 n.nu++32::B6 n.un)) (a:=n.fr) (b:=n.nu) (c:=n.un) J J J J J J<|L_B _;have h2:=((IK hk).1 h).1;rw[IQ aCg<|Sa CF _ _ _,show Bd k (B [101,97,116]) _=_ from arK h3]at h2;split at h2
 .cases h2;refine⟨rfl,E7 _,.inl ⟨rfl,λ_ h=>by cases h⟩,λ_ h=> .inl h,λ_ h=> .inl h,λx h=> ?_,λx h=> .inl ⟨Sj h,λe=> ?_⟩,λ_ h=> .inl h,λ_ h=> .inl h,
   λ_ h=>(by obtain h|h:=h<;>cases h),λx e=> ?_,λ_ h=>(by cases h)⟩
  .by_cases hx:x=n
   .exact .inr (by rw[hx])
   .exact .inl (aDq h λe=>hx<|e.trans hn.symm)
  .cases e;rw[hn]at h;exact avv hf.i hlt (by rw[← hn]at h ⊢; exact h)
  .cases e;exact hm
 .cases h2
structure Mvd (k k':AA) (a:Act):Prop where
 lo:LO k'
 id:(stT k').id=(stT k).id
 ti:(stT k).ti<=(stT k').ti
 nx:((stT k').nx=(stT k).nx/\ ∀n,a≠ .own n)\/ ∃n,a= .own n/\n.nu=(stT k).nx/\n.fr=(stT k).id/\(stT k').nx=(stT k).nx+1
 hold:∀n,n∈(stT k).held->n∈(stD k).held->(n∈(stT k').held/\n∈(stD k').held)\/n.un<=(stT k').ti\/a= .lets ⟨n.fr,n.nu,n.un⟩
 held:∀n∈(stD k').held,n∈(stD k).held\/a.new n
 box:∀n∈(stT k).inbox,n∈(stT k').inbox\/a= .eat n
 PU:∀n∈(stT k').inbox,(n∈(stT k).inbox/\a≠ .eat n)\/(a.new n/\n.to=(stT k).id)
 mrk:∀m∈(stT k').marks,m∈(stT k).marks\/a= .lets m\/ ∃n,a.new n/\n.to=(stT k).id/\m=⟨n.fr,n.nu,n.un⟩
 mks:∀m∈(stD k).marks,m∈(stD k').marks\/m.mu<=(stT k').ti
 new:∀n,a.new n->(stT k).ti<n.un/\(∀m∈(stT k).marks,¬(m.mf=n.fr/\m.mn=n.nu))/\(if n.to=(stT k).id then n∈(stT k').inbox else n∈(stT k').held/\n∈(stD k').held)
 eat:∀n,a= .eat n->n∈(stT k).inbox/\ ∀m∈(stT k).marks,m∈(stD k').marks
 lets:∀m,a= .lets m->∃n∈(stT k).held,m=⟨n.fr,n.nu,n.un⟩
def auJ{k k':AA}{a:Act}(h:Ah k=A0)(hl:LO k)(lo:LO k')(e:stD k'=stT k')(f:KF (stT k) (stT k') a)(he:∀n,a= .eat n->∀m∈(stT k).marks,m∈(stT k').marks):Mvd k k' a where
 lo:=lo
 id:=f.id
 ti:=f.ti
 nx:=f.nx
 hold:=λn h1 _=>by
  rcases f.hold n h1 with h|h|h
  .exact .inl ⟨h,by rw[e];exact h⟩
  .exact .inr (.inl h)
  .exact .inr (.inr h)
 held:=λn hn=>by
  rw[e]at hn;rcases f.held n hn with h1|h1
  .exact .inl ((hl.lf h).held n h1)
  .exact .inr h1
 box:=f.box
 PU:=f.PU
 mrk:=f.mrk
 mks:=λm hm=>by
  rw[e];exact f.mks m ((hl.lf h).mrk m hm)
 new:=λn hn=>by
  obtain⟨a1,a2,a3⟩:=f.new n hn;refine⟨a1,a2, ?_⟩;rw[e];split at a3
  .rename_i hc;rw[A8 hc];exact a3
  .rename_i hc;rw[AD hc];exact⟨a3,a3⟩
 eat:=λn hn=>⟨f.eat n hn,by rw[e];exact he n hn⟩
 lets:=f.lets
def Q6{k k':AA}(h:Ah k=A0)(hl:LO k)(lo:LO k')(et:stT k'=stT k)(ed:stD k'=stD k\/stD k'=stT k):Mvd k k' .non where
 lo:=lo
 id:=by rw[et]
 ti:=by rw[et];exact E7 _
 nx:= .inl ⟨by rw[et],λ_ e=>by cases e⟩
 hold:=λn h1 h2=> .inl (by rw[et];exact⟨h1,by obtain e|e:=ed<;>rw[e]<;>assumption⟩)
 held:=λn hn=> .inl (by
  obtain e|e:=ed<;>rw[e]at hn
  .exact hn
  .exact(hl.lf h).held n hn)
 box:=λn hn=> .inl (by rw[et];exact hn)
 PU:=λn hn=> .inl ⟨by rw[← et];exact hn,λe=>by cases e⟩
 mrk:=λm hm=> .inl (by rw[← et];exact hm)
 mks:=λm hm=> .inl (by
  obtain e|e:=ed<;>rw[e]
  .exact hm
  .exact(hl.lf h).mrk m hm)
 new:=λn hn=>by obtain e|e:=hn<;>cases e
 eat:=λn e=>by cases e
 lets:=λm e=>by cases e
def Oj{k:AA}(h:Ah k=A0)(hl:LO k):Mvd k k .non:=Q6 h hl hl rfl (.inl rfl)
def auK{k:AA}(h:Ah k=A0)(hl:LO k)(n:Int):Ah (faM k n)=A0/\Mvd k (faM k n) .non:=by
 obtain⟨a0,a1,a2,a3,a4⟩:=av9 h hl n;refine⟨a0,⟨a1,a4.id.symm,by rw[a4.ti];exact E7 _,.inl ⟨a4.nx.symm,λ_ e=>by cases e⟩,λn h1 h2=> .inl ⟨a4.held n h1,by rw[a2];exact a4.held n h1⟩,λn hn=> .inl (by rw[a2]at hn;exact a3.held n hn),λn hn=> .inl (by rw[← a4.box];exact hn),
  λn hn=> .inl ⟨by rw[a4.box];exact hn,λe=>(by cases e)⟩,λm hm=> .inl<|a4.mrk m hm,λm hm=> .inl (by rw[a2];exact a3.mrk m hm),λn hn=>(by obtain e|e:=hn<;>cases e),λn e=>(by cases e),λm e=>(by cases e)⟩⟩
def Yy{k:AA}{a:Act}(h:Ah k=A0)(hl:LO k){r:A4}(h2:(wrR k r A0).2=A0)(hf:∀o,BO (stT k) r=I o->KF (stT k) o a)(he:∀n,a= .eat n->∀o,BO (stT k) r=I o->∀m∈(stT k).marks,m∈o.marks):
  Ah (wrR k r A0).1=A0/\Mvd k (wrR k r A0).1 a:=by
 obtain⟨a0,a1,a2,a3⟩:=aup h h2;exact⟨a0,auJ h hl a1 a2 (hf _ a3) λn e=>he n e _ a3⟩
def avI{k:AA}{a:Act}(h:Ah k=A0)(hl:LO k){r:A4}(hf:∀o,BO (stT k) r=I o->KF (stT k) o a)(he:∀n,a= .eat n->∀o,BO (stT k) r=I o->∀m∈(stT k).marks,m∈o.marks):
  ((wrR k r A0).2=A0/\Ah (wrR k r A0).1=A0/\Mvd k (wrR k r A0).1 a)\/((wrR k r A0).2=A3/\(wrR k r A0).1=k):=by
 rcases tf (wrR k r A0).2 with e|e
 .exact .inl ⟨e,Yy h hl e hf he⟩
 .exact .inr ⟨e,QC e⟩
def auG{k:AA}(h:Ah k=A0)(hl:LO k):Mvd k (FA k).1 .non:=by
 unfold FA;split
 .rcases avI h hl (r:=FO<|(stT k).ti+1) (a:= .non) (λo ho=>auX (CI h).kok ho) (λn e=>by cases e) with⟨_,_,m⟩|⟨_,e⟩
  .exact m
  .rw[e];exact Oj h hl
 .exact Oj h hl
def avJ{k:AA}(h:Ah k=A0)(hl:LO k){tt un:Int}{tx:A4}(h0:(Dl k tt un tx).2≠0):Mvd k (Dl k tt un tx).1 (.own ⟨k.id,(Dl k tt un tx).2,tt,un,tx⟩):=by
 unfold Dl at h0 ⊢;split at h0
 .rename_i hc;rw[AE]at hc;rw[A8 (by rw[AE];exact hc)];simp only at h0 ⊢;split at h0
  .rename_i h2;rw[A8 h2];exact(Yy h hl h2 (λo ho=>axB (CI h).kok hc.2 ho) λn e=>by cases e).2
  .exact absurd rfl h0
 .exact absurd rfl h0
def asT{k o:AG}{a b c:Int}(hk:Aw k=A0)(h:BO k (Cl CF a b c)=I o):∀m∈k.marks,m∈o.marks:=by
 have h2:=((IK hk).1 h).1;rw[IQ aCg<|Sa CF _ _ _]at h2;unfold Bd at h2;rw[AD<|by decide,AD<|by decide,A8<|by decide]at h2;split at h2
 .unfold Ew at h2;rw[show A1 (B [101,97,116]=C3)=A3 by decide,AO,A7,show A1 (B [101,97,116]=D0)=A3 by decide,AO,A7]at h2;split at h2
  .cases h2;exact λm hm=>hm
  .cases h2
 .cases h2
def avL{k:AA}(h:Ah k=A0)(hl:LO k){fr nu:Int}(ok:(DV k fr nu).2.2=A0):Mvd k (DV k fr nu).1 (.eat (DV k fr nu).2.1):=by
 have hk:=CI h;unfold DV at ok ⊢;split at ok
 .rename_i hc;rw[A8 hc];simp only[AE,CL,decide_eq_false_iff_not]at hc;have h0:0<=AY (stT k).inbox fr nu:=by have:=hc.2;omega
  obtain⟨_,_,j2,j3⟩:=GM h0;simp only at ok ⊢;rw[A8 ok];refine(Yy h hl ok (λo ho=> ?_) λn _ o ho=>asT hk.kok ho).2;refine awp hk.kok ?_ ?_ ?_
  .rw[j2,j3]
  .rw[j2,j3];exact h0
  .rw[j2,j3];exact ho
 .cases ok
def auI{k:AA}(h:Ah k=A0)(hl:LO k):Mvd k (FB k).1 .non:=by
 unfold FB;split
 .obtain⟨_,a1,a2,a3⟩:=avq h;exact Q6 h hl a1 a3 (.inr a2)
 .exact Oj h hl
def asc{k:AA}(h:Ah k=A0)(hl:LO k):Mvd k (F9 k).1 .non:=by
 unfold F9;split
 .obtain⟨_,a1,a2,a3⟩:=aa4 h;exact Q6 h hl a1 a3 (.inr a2)
 .exact Oj h hl
def LO.aI{k:AA}(hl:LO k):LO (riM k):=hl
def auH{k:AA}(h:Ah k=A0)(hl:LO k):Mvd k (riM k) .non:=Q6 h hl hl.aI rfl (.inl rfl)
def avK{k:AA}(h:Ah k=A0)(hl:LO k){a b c:Int}(ha:0<=a/\a<=999)(hb:0<=b/\b<=999)(hc:0<=c/\c<=999)(h2:(wrR k (Cl C3 a b c) A3).2=A0):
  Mvd k (wrR k (Cl C3 a b c) A3).1 (.lets ⟨a,b,c⟩):=by
 obtain⟨a0,a1,a2,a3⟩:=awC h hl ⟨a,b,c,ha,hb,hc,rfl⟩ h2;have f:=awf (CI h).kok ha hb hc a2;have lf:=hl.lf h;have sub:∀n∈(stD (wrR k (Cl C3 a b c) A3).1).held,n∈(stD k).held:=λn hn=>by
  obtain e|e:=a3<;>rw[e]at hn
  .exact hn
  .exact lf.held n hn
 refine⟨a0,f.id,f.ti,f.nx,λn h1 h2=> ?_,λn hn=> .inl<|sub n hn,f.box,f.PU,f.mrk,λm hm=> .inl ?_,λn hn=>(by obtain e|e:=hn<;>cases e),λn e=>(by cases e),f.lets⟩
 .rcases f.hold n h1 with h|h|h
  .refine .inl ⟨h, ?_⟩;obtain e|e:=a3<;>rw[e]<;>assumption
  .exact .inr (.inl h)
  .exact .inr (.inr h)
 .rcases a3 with e|e<;>rw[e]
  .exact hm
  .exact lf.mrk m hm
def Dif(a b:A6):Prop:=¬(a.fr=b.fr/\a.nu=b.nu)
def dsN(n:A6)(i:Int):Nat:=(n.to - i).natAbs
def onW(n:A6)(i:Int):Prop:=(n.fr<=i/\i<=n.to)\/(n.to<=i/\i<=n.fr)
noncomputable abbrev sT(w:AX)(i:Nat):AG:=stT<|kA w.AK i
noncomputable abbrev sD(w:AX)(i:Nat):AG:=stD<|kA w.AK i
def L8(w:AX)(n:A6):Prop:=n∈w.got\/n∈(sT w n.to.toNat).inbox
def EW(w:AX)(n:A6):Prop:=∃i:Nat,i<4/\onW n i/\n.un<=(sT w i).ti
def Ji(w:AX)(n:A6)(i:Nat):Prop:=i<4/\n∈(sT w i).held/\n∈(sD w i).held
def Bey(w:AX)(i:Int)(n:A6):Prop:=L8 w n\/EW w n\/ ∃j:Nat,Ji w n j/\dsN n j<dsN n i
def HvF(w:AX)(f:Frame):Prop:=f.ki=2->∃n∈w.Ab,n.fr=f.fr/\n.nu=f.nu/\Bey w f.dst n
def HfG(se:List A6)(h:AH):Prop:=∃n∈se,h.fr=n.fr/\h.nu=n.nu/\h.to=n.to/\h.un=n.un/\h.sz=n.tx.size/\Tw n.tx h.got
structure Inv (w:AX):Prop where
 lo:∀i,i<4->LO (kA w.AK i)
 hs:∀i,i<4->∀n∈(sD w i).held,n∈w.Ab
 bx:∀i,i<4->∀n∈(sT w i).inbox,n∈w.Ab/\ ∀g∈w.got,Dif g n
 nx:∀n∈w.Ab,n.nu<(sT w n.fr.toNat).nx
 sp:w.Ab.Pairwise Dif
 gp:w.got.Pairwise Dif
 gs:∀g∈w.got,g∈w.Ab/\(g.un<=(sT w g.to.toNat).ti\/ ∃m∈(sD w g.to.toNat).marks,m.mf=g.fr/\m.mn=g.nu/\m.mu=g.un)
 cu:∀n∈w.Ab,L8 w n\/EW w n\/ ∃j,Ji w n j
 mrk:∀i,i<4->∀m∈(sT w i).marks,∃n∈w.Ab,m=⟨n.fr,n.nu,n.un⟩/\Bey w i n
 ra:∀p∈w.Ai,PcI (λn=>n∈w.Ab) p
 hv:∀p∈w.Ai,∀f,DJ (BE p.data)=(f,A0)->HvF w f
 hf:∀i,i<4->∀h∈(kA w.AK i).AN,HfG w.Ab h
def Lh{l:List A6}(h:l.Pairwise Dif):∀ {a b:A6},a∈l->b∈l->a.fr=b.fr->a.nu=b.nu->a=b:=by
 intro a b ha hb h1 h2;obtain⟨i,hi,ei⟩:=DG ha;obtain⟨j,hj,ej⟩:=DG hb;rcases Jv i j with c|c|c
 .have:=Ou.1 h i j hi hj c;rw[ei,ej]at this;exact absurd ⟨h1,h2⟩ this
 .subst c;rw[← ei,← ej]
 .have:=Ou.1 h j i hj hi c;rw[ei,ej]at this;exact absurd ⟨h1.symm,h2.symm⟩ this
def aaL{l:List A6}{n:A6}(h:l.Pairwise Dif)(hn:∀a∈l,Dif a n):(l++[n]).Pairwise Dif:=by
 rw[NH];exact⟨h,List.pairwise_singleton _ _,λa ha b hb=>by rw[C9.1 hb];exact hn a ha⟩
def aat{l:List A6}{x:A6}(h:x∈l):∃i,i<l.length/\nA l i=x:=by
 obtain⟨i,hi,e⟩:=DG h;exact⟨i,hi,by rw[nA,B9,Av hi];exact e⟩
def kg{k:AG}(h:Aw k=A0){n:A6}(hn:n∈k.held):k.ti<n.un/\onW n k.id/\n.to≠k.id:=by
 obtain⟨i,hi,e⟩:=aat hn;have:=(CY h).ho i hi;unfold IV Lm at this;rw[e]at this;simp only[AE,CB,decide_eq_true_eq,Af,CL,decide_eq_false_iff_not]at this;obtain⟨_,h1,⟨h2,h3⟩,_⟩:=this;unfold onW;exact⟨h1,J,λe=>h2 e.symm⟩
def YV{k:AG}(h:Aw k=A0){n:A6}(hn:n∈k.inbox):n.to=k.id/\(n.un<=k.ti\/ ∃m∈k.marks,m.mf=n.fr/\m.mn=n.nu):=by
 obtain⟨i,hi,e⟩:=aat hn;have:=(CY h).io i hi;unfold Je at this;rw[e]at this;simp only[AE,CB,decide_eq_true_eq,CL,decide_eq_false_iff_not]at this;obtain⟨h1,_,h2⟩:=this;refine⟨h1, ?_⟩;obtain h2|h2:=h2
 .exact .inl J
 .obtain⟨j0,_,j2,j3⟩:=aEo h2;refine .inr ⟨mA k.marks (Bs k.marks n.fr n.nu).toNat, ?_,j2,j3⟩;rw[mA,B9,Av j0];exact CJ j0
def Lq{w:AX}(ok:BA w){i:Nat}(hi:i<4):(sT w i).id=(i:Int):=(CI (ok.k i hi).1).id.trans (ok.k i hi).2
def Og{w:AX}(ok:BA w){i:Nat}(hi:i<4):Aw (sT w i)=A0:=(CI (ok.k i hi).1).kok
def auk{w w':AX}{i:Nat}{a:Act}{k':AA}(ok:BA w)(hi:i<4)(m:Mvd (kA w.AK i) k' a)(ek:w'.AK=w.AK.set i k')
  (eg:∀n,n∈w.got\/a= .eat n->n∈w'.got){n:A6}(nok:B4 n=A0)(lets:a= .lets ⟨n.fr,n.nu,n.un⟩->Bey w i n){d:Nat}
  (h:L8 w n\/EW w n\/ ∃j:Nat,Ji w n j/\dsN n j<d):L8 w' n\/EW w' n\/ ∃j:Nat,Ji w' n j/\dsN n j<d:=by
 have kl:=ok.kl;have kA':∀j,kA w'.AK j=if j=i then k' else kA w.AK j:=λj=>by rw[ek,Hu J]
 have up:∀j:Nat,(sT w j).ti<=(sT w' j).ti:=λj=>by
  unfold sT;rw[kA' j];split
  .rename_i e;rw[e];exact m.ti
  .exact E7 _
 have cam:L8 w n->L8 w' n:=λh=>by
  obtain h|h:=h
  .exact .inl (eg n<|.inl h)
  .by_cases e:n.to.toNat=i
   .rw[e]at h;rcases m.box n h with h1|h1
    .right;unfold sT;rw[kA' n.to.toNat,A8 e];exact h1
    .exact .inl (eg n<|.inr h1)
   .right;unfold sT;rw[kA' n.to.toNat,AD e];exact h
 have ove:EW w n->EW w' n:=fun⟨j,h1,h2,h3⟩=>⟨j,h1,h2,P7 h3<|up j⟩;have oth:∀j:Nat,j≠i->Ji w n j->Ji w' n j:=λj hj h=>by
  unfold Ji sT sD;rw[kA' j,AD hj];exact h
 obtain h|h|⟨j,h,hd⟩:=h
 .exact .inl (cam h)
 .exact .inr (.inl<|ove h)
 .by_cases e:j=i
  .subst e;obtain⟨_,h1,h2⟩:=h;rcases m.hold n h1 h2 with c|c|c
   .exact .inr (.inr ⟨j,by unfold Ji sT sD;rw[kA' j,A8 rfl];exact⟨hi,c⟩,hd⟩)
   .have hw:=(kg (Og ok hi) h1).2.1;rw[Lq ok hi]at hw;exact .inr (.inl ⟨j,hi,hw,by unfold sT;rw[kA' j,A8 rfl];exact c⟩)
   .rcases lets c with h|h|⟨x,hx,hx2⟩
    .exact .inl (cam h)
    .exact .inr (.inl<|ove h)
    .exact .inr (.inr ⟨x,oth x (λe=>by subst e;omega) hx,J⟩)
  .exact .inr<|.inr ⟨j,oth j e h,hd⟩
def HvF.up{w w':AX}{f:Frame}(hs:∀n∈w.Ab,n∈w'.Ab)(hb:∀n∈w.Ab,∀i,Bey w i n->Bey w' i n)(h:HvF w f):HvF w' f:=λe=>by
 obtain⟨n,h1,h2,h3,h4⟩:=h e;exact⟨n,hs n h1,h2,h3,hb n h1 _ h4⟩
def HfG.up{se se':List A6}{h:AH}(hs:∀n∈se,n∈se')(g:HfG se h):HfG se' h:=by
 obtain⟨n,h1,h2⟩:=g;exact⟨n,hs n h1,h2⟩
def RaN(w w':AX)(p:AS):Prop:=p∈w.Ai\/(PcI (λn=>n∈w'.Ab) p/\ ∀f,DJ (BE p.data)=(f,A0)->HvF w' f)
structure Nl (w w':AX) (i:Nat) (k':AA) (a:Act):Prop where
 hi:i<4
 m:Mvd (kA w.AK i) k' a
 ek:w'.AK=w.AK.set i k'
 se:(w'.Ab=w.Ab/\ ∀n,a≠ .own n)\/ ∃n,a= .own n/\w'.Ab=w.Ab++[n]/\B4 n=A0
 go:(w'.got=w.got/\ ∀n,a≠ .eat n)\/ ∃n,a= .eat n/\w'.got=w.got++[n]
 tk:∀n,a= .take n->n∈w.Ab
 lt:∀m,a= .lets m->∃n∈w.Ab,n.fr=m.mf/\n.nu=m.mn/\Bey w i n
 ra:∀p∈w'.Ai,RaN w w' p
 hf:∀h∈k'.AN,HfG w'.Ab h
def Nl.bey{w w':AX}{i:Nat}{k':AA}{a:Act}(s:Nl w w' i k' a)(v:Inv w)(ok:BA w){n:A6}(hn:n∈w.Ab){d:Nat}
  (h:L8 w n\/EW w n\/ ∃j:Nat,Ji w n j/\dsN n j<d):L8 w' n\/EW w' n\/ ∃j:Nat,Ji w' n j/\dsN n j<d:=by
 refine auk ok s.hi s.m s.ek (λx hx=> ?_) (ok.s n hn) (λe=> ?_) h
 .rcases s.go with⟨e,h1⟩|⟨y,e1,e2⟩
  .rw[e];obtain hx|hx:=hx
   .exact hx
   .exact absurd hx (h1 x)
  .rw[e2,BM,C9];obtain hx|hx:=hx
   .exact .inl hx
   .rw[e1]at hx;cases hx;exact .inr rfl
 .obtain⟨x,h1,h2,h3,h4⟩:=s.lt _ e;have:=Lh v.sp h1 hn h2 h3;rw[← this];exact h4
def Inv.step{w w':AX}{i:Nat}{k':AA}{a:Act}(v:Inv w)(ok:BA w)(s:Nl w w' i k' a):Inv w':=by
 have kl:=ok.kl;have hi:=s.hi;have m:=s.m;have kA':∀j,kA w'.AK j=if j=i then k' else kA w.AK j:=λj=>by rw[s.ek,Hu J]
 have eT:sT w' i=stT k':=by unfold sT;rw[kA' i,A8 rfl]
 have eD:sD w' i=stD k':=by unfold sD;rw[kA' i,A8 rfl]
 have oT:∀j,j≠i->sT w' j=sT w j:=λj hj=>by unfold sT;rw[kA' j,AD hj]
 have oD:∀j,j≠i->sD w' j=sD w j:=λj hj=>by unfold sD;rw[kA' j,AD hj]
 have id':(stT<|kA w.AK i).id=(i:Int):=Lq ok hi;have ses:∀n∈w.Ab,n∈w'.Ab:=λn hn=>by
  obtain⟨e,_⟩|⟨x,_,e,_⟩:=s.se<;>rw[e]
  .exact hn
  .exact Bq _ hn
 have sen:∀n,n∈w'.Ab->n∈w.Ab\/a= .own n:=λn hn=>by
  obtain⟨e,_⟩|⟨x,e1,e,_⟩:=s.se<;>rw[e]at hn
  .exact .inl hn
  .rcases BM.1 hn with hn|hn
   .exact .inl hn
   .rw[C9.1 hn];exact .inr e1
 have ays:∀n,a= .own n->n∈w'.Ab:=λn hn=>by
  obtain⟨_,e⟩|⟨x,e1,e,_⟩:=s.se
  .exact absurd hn (e n)
  .rw[e1]at hn;cases hn;rw[e];exact CK _<|N9 _
 have aJ:∀n,a.new n->n∈w'.Ab:=λn hn=>by
  obtain hn|hn:=hn
  .exact ays n hn
  .exact ses n<|s.tk n hn
 have gos:∀n∈w.got,n∈w'.got:=λn hn=>by
  obtain⟨e,_⟩|⟨x,_,e⟩:=s.go<;>rw[e]
  .exact hn
  .exact Bq _ hn
 have ac2:∀n,a= .own n->n.fr=(i:Int)/\n.nu=(sT w i).nx/\(stT k').nx=(sT w i).nx+1:=λn hn=>by
  obtain⟨_,h⟩|⟨x,h1,h2,h3,h4⟩:=m.nx
  .exact absurd hn (h n)
  .rw[h1]at hn;cases hn;exact⟨h3.trans id',h2,h4⟩
 have nxu:∀j,(sT w j).nx<=(sT w' j).nx:=λj=>by
  by_cases e:j=i
  .subst e;rw[eT];obtain⟨h,_⟩|⟨_,_,_,_,h⟩:=m.nx<;>unfold sT<;>omega
  .rw[oT j e];exact E7 _
 have tiu:∀j,(sT w j).ti<=(sT w' j).ti:=λj=>by
  by_cases e:j=i
  .subst e;rw[eT];exact m.ti
  .rw[oT j e];exact E7 _
 have b0:∀n∈w.Ab,∀j,Bey w j n->Bey w' j n:=λn hn j h=>s.bey v ok hn h;have ayu:∀n,a= .own n->∀x∈w.Ab,Dif x n:=λn hn x hx c=>by
  obtain⟨h1,h2,_⟩:=ac2 n hn;have:=v.nx x hx;rw[c.1,h1,Bb]at this;have:=c.2;omega
 have sp':w'.Ab.Pairwise Dif:=by
  obtain⟨e,_⟩|⟨x,e1,e,_⟩:=s.se<;>rw[e]
  .exact v.sp
  .exact aaL v.sp<|ayu x e1
 have azl:∀n,a.new n->n.to=(i:Int)->∀g∈w.got,Dif g n:=λn hn ht g hg c=>by
  obtain⟨g1,g2⟩:=v.gs g hg;have e:g=n:=Lh sp' (ses g g1) (aJ n hn) c.1 c.2;obtain⟨h1,h2,_⟩:=m.new n hn;subst e;rw[ht,Bb]at g2;obtain g2|⟨y,y1,y2,y3,_⟩:=g2
  .unfold sT at g2;omega
  .exact h2 y (((v.lo i hi).lf (ok.k i hi).1).mrk y y1) ⟨y2,y3⟩
 have ac5:∀n,a.new n->L8 w' n\/EW w' n\/ ∃j:Nat,Ji w' n j/\(n.to≠(i:Int)/\j=i):=λn hn=>by
  obtain⟨_,_,h⟩:=m.new n hn;rw[id']at h;split at h
  .rename_i ht;refine .inl<|.inr ?_;rw[ht,Bb,eT];exact h
  .rename_i ht;exact .inr<|.inr ⟨i,by unfold Ji;rw[eT,eD];exact⟨hi,h⟩,ht,rfl⟩
 have azr:∀n∈w'.Ab,B4 n=A0:=λn hn=>by
  obtain⟨e,_⟩|⟨x,_,e,h⟩:=s.se<;>rw[e]at hn
  .exact ok.s n hn
  .rcases BM.1 hn with hn|hn
   .exact ok.s n hn
   .rw[C9.1 hn];exact h
 refine⟨λj hj=> ?_,λj hj n hn=> ?_,λj hj n hn=> ?_,λn hn=> ?_,sp', ?_,λg hg=> ?_,λn hn=> ?_,λj hj y hy=> ?_,λp hp=> ?_,λp hp f hu=> ?_,λj hj h hh=> ?_⟩
 .rw[kA' j];split
  .exact m.lo
  .exact v.lo j hj
 .by_cases e:j=i
  .subst e;rw[eD]at hn;rcases m.held n hn with h|h
   .exact ses n (v.hs j hj n h)
   .exact aJ n h
  .rw[oD j e]at hn;exact ses n (v.hs j hj n hn)
 .by_cases e:j=i
  .subst e;rw[eT]at hn;rcases m.PU n hn with⟨h,ne⟩|⟨h,ht⟩
   .obtain⟨h1,h2⟩:=v.bx j hj n h;refine⟨ses n h1,λg hg=> ?_⟩;obtain⟨e,_⟩|⟨x,e1,e⟩:=s.go<;>rw[e]at hg
    .exact h2 g hg
    .rcases BM.1 hg with hg|hg
     .exact h2 g hg
     .rw[C9.1 hg];intro c;have:=Lh v.sp ((v.bx j hj x (m.eat x e1).1).1) h1 c.1 c.2;rw[this]at e1;exact ne e1
   .rw[id']at ht;refine⟨aJ n h,λg hg=> ?_⟩;obtain⟨e,_⟩|⟨x,e1,e⟩:=s.go
    .rw[e]at hg;exact azl n h ht g hg
    .rcases h with h|h<;>rw[h]at e1<;>cases e1
  .rw[oT j e]at hn;obtain⟨h1,h2⟩:=v.bx j hj n hn;refine⟨ses n h1,λg hg=> ?_⟩;obtain⟨e,_⟩|⟨x,e1,e2⟩:=s.go
   .rw[e]at hg;exact h2 g hg
   .rw[e2]at hg;rcases BM.1 hg with hg|hg
    .exact h2 g hg
    .rw[C9.1 hg];intro c;have hx:=(m.eat x e1).1;have:=Lh v.sp ((v.bx i hi x hx).1) h1 c.1 c.2;subst this;have a1:=(YV (Og ok hi) hx).1;have a2:=(YV (Og ok hj) hn).1;rw[Lq ok hi]at a1;rw[Lq ok hj]at a2;omega
 .rcases sen n hn with h|h
  .exact Int.lt_of_lt_of_le (v.nx n h) (nxu _)
  .obtain⟨h1,h2,h3⟩:=ac2 n h;rw[h1,Bb,eT];omega
 .rcases s.go with⟨e,_⟩|⟨x,e1,e⟩<;>rw[e]
  .exact v.gp
  .exact aaL v.gp (λg hg=>(v.bx i hi x (m.eat x e1).1).2 g hg)
 .have old:g∈w.got->g∈w'.Ab/\(g.un<=(sT w' g.to.toNat).ti\/ ∃m∈(sD w' g.to.toNat).marks,m.mf=g.fr/\m.mn=g.nu/\m.mu=g.un):=λhg=>by
   obtain⟨h1,h2⟩:=v.gs g hg;refine⟨ses g h1, ?_⟩;obtain h2|⟨y,y1,y2,y3,y4⟩:=h2
   .exact .inl (P7 h2<|tiu _)
   .by_cases e:g.to.toNat=i
    .rw[e]at y1 ⊢;rw[eT,eD];rcases m.mks y y1 with c|c
     .exact .inr ⟨y,c,y2,y3,y4⟩
     .exact .inl J
    .rw[oD _ e];exact .inr ⟨y,y1,y2,y3,y4⟩
  obtain⟨e,_⟩|⟨x,e1,e⟩:=s.go<;>rw[e]at hg
  .exact old hg
  .rcases BM.1 hg with hg|hg
   .exact old hg
   .rw[C9.1 hg];obtain⟨hx,hm⟩:=m.eat x e1;obtain⟨b1,b2⟩:=YV (Og ok hi) hx;rw[Lq ok hi]at b1;refine⟨ses x (v.bx i hi x hx).1, ?_⟩;rw[b1,Bb,eT,eD];obtain b2|⟨y,y1,y2,y3⟩:=b2
    .exact .inl (P7 b2 m.ti)
    .obtain⟨z,z1,z2,_⟩:=v.mrk i hi y y1;have:z=x:=Lh v.sp z1 (v.bx i hi x hx).1 (by rw[← y2,z2]) (by rw[← y3,z2]);exact .inr ⟨y,hm y y1,y2,y3,by rw[z2,this]⟩
 .rcases sen n hn with h|h
  .rcases v.cu n h with c|c|⟨j,c⟩
   .rcases s.bey v ok h (d:=0) (.inl c) with c|c|⟨j,c,_⟩
    .exact .inl c
    .exact .inr (.inl c)
    .exact .inr (.inr ⟨j,c⟩)
   .rcases s.bey v ok h (d:=0) (.inr<|.inl c) with c|c|⟨j,c,_⟩
    .exact .inl c
    .exact .inr (.inl c)
    .exact .inr (.inr ⟨j,c⟩)
   .rcases s.bey v ok h (.inr<|.inr ⟨j,c,P0 _⟩) with c|c|⟨j,c,_⟩
    .exact .inl c
    .exact .inr (.inl c)
    .exact .inr (.inr ⟨j,c⟩)
  .rcases ac5 n (.inl h) with c|c|⟨j,c,_⟩
   .exact .inl c
   .exact .inr (.inl c)
   .exact .inr (.inr ⟨j,c⟩)
 .have old:∀j,j<4->y∈(sT w j).marks->∃n∈w'.Ab,y=⟨n.fr,n.nu,n.un⟩/\Bey w' j n:=λj hj hy=>by
   obtain⟨n,h1,h2,h3⟩:=v.mrk j hj y hy;exact⟨n,ses n h1,h2,b0 n h1 _ h3⟩
  by_cases e:j=i
  .subst e;rw[eT]at hy;rcases m.mrk y hy with h|h|⟨n,h,ht,rfl⟩
   .exact old j hj h
   .obtain⟨n,h1,h2,h3,h4⟩:=s.lt y h;obtain⟨x,x1,x2⟩:=m.lets y h;have:x=n:=Lh v.sp (v.hs j hj x<|((v.lo j hj).lf (ok.k j hj).1).held x x1) h1 (by rw[h2,x2]) (by rw[h3,x2]);subst this;exact⟨x,ses x h1,x2,b0 x h1 _ h4⟩
   .refine⟨n,aJ n h,rfl, ?_⟩;rw[id']at ht;rcases ac5 n h with c|c|⟨_,_,c,_⟩
    .exact .inl c
    .exact .inr (.inl c)
    .exact absurd ht c
  .rw[oT j e]at hy;exact old j hj hy
 .rcases s.ra p hp with h|h
  .exact(v.ra p h).mono ses
  .exact h.1
 .rcases s.ra p hp with h|h
  .exact(v.hv p h f hu).up ses b0
  .exact h.2 f hu
 .rw[kA' j]at hh;split at hh
  .exact s.hf h hh
  .exact(v.hf j hj h hh).up ses
def aDe{w w':AX}{f:Frame}(h:Cj f=A0->Nb (λn=>n∈w'.Ab) f/\HvF w' f):RaN w w' (pcF f):=by
 refine .inr ⟨PcI.send λe=>(h e).1,λg hg=> ?_⟩;have hg:DJ (BE<|BF<|Ce f)=(g,A0):=hg;rcases tf (Cj f) with e|e
 .rw[S8<|Q4 f,aAf e]at hg;rw[← (Prod.mk.inj hg).1];exact(h e).2
 .unfold Ce at hg;rw[e,A7]at hg;have:=aB0;rw[hg]at this;cases this
def RJ(e:Event)(w w':AX):Prop:=∃i k' a,Nl w w' i k' a/\((∃m,a= .lets m)->e.ki=4)/\((∃n,a= .own n)->e.ki=1)
def Pw{e:Event}{w w':AX}(v:Inv w)(ok:BA w)(ek:w'.AK=w.AK)(es:w'.Ab=w.Ab)(eg:w'.got=w.got)(hr:∀p∈w'.Ai,RaN w w' p):RJ e w w':=
 ⟨0,kA w.AK 0,.non,⟨J,Oj (ok.k 0 J).1<|v.lo 0 J,by rw[ek,QM],.inl ⟨es,λ_ e=>by cases e⟩,.inl ⟨eg,λ_ e=>by cases e⟩,
  λ_ e=>(by cases e),λ_ e=>(by cases e),hr,λh hh=>(by rw[es];exact v.hf 0 J h hh)⟩,fun⟨_,e⟩=>(by cases e),fun⟨_,e⟩=>(by cases e)⟩
def Lc{e:Event}{w:AX}(v:Inv w)(ok:BA w):RJ e w w:=Pw v ok rfl rfl rfl λ_ h=> .inl h
def ar0{a t:Int}(h:isN (Co a t)=A0)(n:A6)(ht:n.to=t):dsN n (Co a t)<dsN n a:=by
 have h0:=Ff h;revert h0;unfold Co dsN;split
 .omega
 .rename_i h1;intro _;simp only[CB,CL,not_or,Bool.not_eq_false,decide_eq_true_eq]at h1;have:=h1.2.2;split<;>omega
def aqw{f:Frame}(h:Cj f=A0)(h1:f.ki=1){n:A6}(ht:f.to=n.to):dsN n f.dst<dsN n f.src:=by
 obtain⟨_,r2,_,_,_,_,r7⟩:=QA h;unfold Kd at r7;rw[A8<|Aa h1]at r7;simp only[AE,decide_eq_true_eq]at r7;have e:=r7.2.2.2;rw[e]at r2 ⊢;exact ar0 r2 n ht.symm
def atj{got:List AT}{mix:Int}{da:A4}{m:AT}(h:m∈Dc got mix da):m∈got\/m=⟨mix,da⟩:=by
 unfold Dc at h;rcases BM.1 h with h|h
 .left;split at h
  .exact(FF.1<|Kl h).1
  .exact(FF.1 h).1
 .exact .inr<|C9.1 h
def ax6{w:AX}{hv:List AH}{f:Frame}{n:A6}(g:∀h∈hv,HfG w.Ab h)(hn:n∈w.Ab)(h1:f.fr=n.fr)(h2:f.nu=n.nu)(h3:f.to=n.to)(h4:f.un=n.un)(h5:f.sz=n.tx.size):
  (∀h∈(Au hv f).1,HfG w.Ab h)/\(hA (Au hv f).1 (Au hv f).2).fr=f.fr/\(hA (Au hv f).1 (Au hv f).2).nu=f.nu:=by
 rcases arf hv f with⟨i,e,hi,e1,e2,_⟩|⟨_,l,sub,e⟩
 .rw[e];exact⟨g,e1,e2⟩
 .rw[e];refine⟨λh hh=> ?_,by rw[aEz],by rw[aEz]⟩;rcases BM.1 hh with hh|hh
  .exact g h (sub.subset hh)
  .rw[C9.1 hh];exact⟨n,hn,h1,h2,h3,h4,h5,λm hm=>by cases hm⟩
def axU{l:List AH}{i:Nat}(h:i<l.length):hA l i∈l:=by
 rw[I2 h];exact CJ h
def awb{w:AX}(v:Inv w){hv:List AH}{i:Nat}(hi:i<hv.length){f:Frame}{n:A6}(g:∀h∈hv,HfG w.Ab h)(hn:n∈w.Ab)(h1:f.fr=n.fr)(h2:f.nu=n.nu)(h6:f.da=Jo n.tx f.mix)
  (e1:(hA hv i).fr=f.fr)(e2:(hA hv i).nu=f.nu):(∀h∈DN hv i f,HfG w.Ab h)/\Tw n.tx (Dc (hA hv i).got f.mix f.da):=by
 obtain⟨x,x1,x2,x3,x4,x5,x6,x7⟩:=g _<|axU hi;have e:x=n:=Lh v.sp x1 hn (by rw[← x2,e1,h1]) (by rw[← x3,e2,h2]);subst e;have ht:Tw x.tx (Dc (hA hv i).got f.mix f.da):=λm hm fit=>by
  rcases atj hm with c|c
  .exact x7 m c fit
  .rw[c];exact h6
 refine⟨λh hh=> ?_,ht⟩;unfold DN at hh;rcases TN hh with c|c
 .exact g h c
 .rw[c];exact⟨x,x1,x2,x3,x4,x5,x6,ht⟩
def awa{w w':AX}(hg:w'.got=w.got){n:A6}{i:Int}(hT:∀j,sT w' j=sT w j)(hD:∀j,sD w' j=sD w j\/sD w' j=sT w j)(h:Bey w i n):Bey w' i n:=by
 obtain h|⟨j,h1,h2,h3⟩|⟨j,⟨h1,h2,h3⟩,h4⟩:=h
 .exact .inl (by unfold L8;rw[hg,hT];exact h)
 .exact .inr (.inl ⟨j,h1,h2,by rw[hT];exact h3⟩)
 .refine .inr (.inr ⟨j,⟨h1,by rw[hT];exact h2, ?_⟩,h4⟩);rcases hD j with e|e<;>rw[e]<;>assumption
def Mvd.ofH{k k':AA}{hv:List AH}{a:Act}(m:Mvd (J6 k hv) k' a):Mvd k k' a:=⟨m.lo,m.id,m.ti,m.nx,m.hold,m.held,m.box,m.PU,m.mrk,m.mks,m.new,m.eat,m.lets⟩
def au3{w:AX}(v:Inv w)(ok:BA w){i:Nat}(hi:i<4){f:Frame}(hf:Cj f=A0)(hd:f.dst=(i:Int))(g:Nb (λn=>n∈w.Ab) f)(hv:HvF w f){ra:List AS}(hra:∀p∈ra,p∈w.Ai):
  ∃a,Nl w ⟨w.ti,w.AK.set i (Db (kA w.AK i) f).1,w.B2,Cd ra (Db (kA w.AK i) f).2,w.Ab,w.got⟩ i (Db (kA w.AK i) f).1 a/\ ∀n,a≠ .own n:=by
 have hok:=(ok.k i hi).1;have hid:=(ok.k i hi).2;have kl:=ok.kl;have lo:=v.lo i hi;have mkS:∀(k':AA) (fs:List Frame) (a:Act),Mvd (kA w.AK i) k' a->(∀n,a≠ .own n)->(∀n,a≠ .eat n)->(∀n,a= .take n->n∈w.Ab)->(∀m,a= .lets m->∃n∈w.Ab,n.fr=m.mf/\n.nu=m.mn/\Bey w i n)->(∀h∈k'.AN,HfG w.Ab h)->
   (∀x∈fs,Nb (λn=>n∈w.Ab) x/\HvF ⟨w.ti,w.AK.set i k',w.B2,Cd ra fs,w.Ab,w.got⟩ x)->∃a,Nl w ⟨w.ti,w.AK.set i k',w.B2,Cd ra fs,w.Ab,w.got⟩ i k' a/\ ∀n,a≠ .own n:=λk' fs a m n1 n2 n3 n4 n5 n6=>
  ⟨a,⟨hi,m,rfl,.inl ⟨rfl,n1⟩,.inl ⟨rfl,n2⟩,n3,n4,λp hp=>by
   rcases aCu hp with hp|⟨x,hx,rfl⟩
   .exact .inl (hra p hp)
   .exact aDe λ_=>n6 x hx,n5⟩,n1⟩
 have stay:∃a,Nl w ⟨w.ti,w.AK.set i<|kA w.AK i,w.B2,Cd ra [],w.Ab,w.got⟩ i (kA w.AK i) a/\ ∀n,a≠ .own n:=mkS _ _ .non (Oj hok lo) (λ_ e=>by cases e) (λ_ e=>by cases e) (λ_ e=>by cases e) (λ_ e=>by cases e) (v.hf i hi) (λx hx=>by cases hx);have non:∀(k':AA) (fs:List Frame),Mvd (kA w.AK i) k' .non->(∀h∈k'.AN,HfG w.Ab h)->(∀x∈fs,Nb (λn=>n∈w.Ab) x/\HvF ⟨w.ti,w.AK.set i k',w.B2,Cd ra fs,w.Ab,w.got⟩ x)->∃a,Nl w ⟨w.ti,w.AK.set i k',w.B2,Cd ra fs,w.Ab,w.got⟩ i k' a/\ ∀n,a≠ .own n:=
  λk' fs m h1 h2=>mkS k' fs .non m (λ_ e=>by cases e) (λ_ e=>by cases e) (λ_ e=>by cases e) (λ_ e=>by cases e) h1 h2
 rw[au4 hok];unfold Kg;split
 .rename_i hc;simp only[AE]at hc;split
  .rename_i h1;have h1:f.ki=1:=BX h1;obtain⟨n,hn,nok,g1,g2,g3,g4,g5,g6⟩:=g h1;have hds:=aqw hf h1 g3;rw[hd]at hds;unfold J2;split
   .exact non _ _ (Oj hok lo) (v.hf i hi) (λx hx=>by
     rw[C9.1 hx];exact⟨λe=>(by cases e),λe=>(by cases e)⟩)
   split
   .rename_i hh;obtain⟨_,a1,a2,a3⟩:=aa4 hok;refine non _ _ (Q6 hok lo a1 a3<|.inr a2) (v.hf i hi) (λx hx=> ?_);rw[C9.1 hx];refine⟨λe=>(by cases e),λ_=>⟨n,hn,g1.symm,g2.symm, ?_⟩⟩;obtain hh|hh:=hh
    .obtain⟨j0,_,j2,j3⟩:=GM hh;have hm:=Hx j0;have hs:=v.hs i hi _<|(lo.lf hok).held _ hm;have e:=Lh v.sp hs hn (by rw[j2,g1]) (by rw[j3,g2]);rw[e]at hm;refine .inr (.inr ⟨i,⟨hi, ?_, ?_⟩,hds⟩)
     .show n∈(stT<|kA (w.AK.set i _) i).held;rw[Hu J,A8 rfl,a3];exact hm
     .show n∈(stD<|kA (w.AK.set i _) i).held;rw[Hu J,A8 rfl,a2];exact hm
    .obtain⟨j0,_,j2,j3⟩:=aEo hh;have hm:mA (stT<|kA w.AK i).marks (Bs (stT<|kA w.AK i).marks f.fr f.nu).toNat∈(stT<|kA w.AK i).marks:=by
      rw[mA,B9,Av j0];exact CJ j0
     obtain⟨z,z1,z2,z3⟩:=v.mrk i hi _ hm;have e:=Lh v.sp z1 hn (by rw[← g1,← j2,z2]) (by rw[← g2,← j3,z2]);subst e;have z4:=awa (w:=w) (w':=⟨w.ti,w.AK.set i<|foM<|kA w.AK i,w.B2,Cd ra [R5 2 f],w.Ab,w.got⟩) rfl (n:=z) (i:=(i:Int)) (λj=>by
       show stT (kA (w.AK.set i _) j)=_;rw[Hu J];split
       .rename_i e;rw[e,a3]
       .rfl) (λj=>by
       show stD (kA (w.AK.set i _) j)=_\/stD (kA (w.AK.set i _) j)=_;rw[Hu J];split
       .rename_i e;rw[e,a2];exact .inr rfl
       .exact .inl rfl) z3
     obtain c|c|⟨j,c1,c2⟩:=z4
     .exact .inl c
     .exact .inr (.inl c)
     .exact .inr<|.inr ⟨j,c1,Ym c2 hds⟩
   split
   .exact stay
   .obtain⟨p1,p2,p3⟩:=ax6 (v.hf i hi) hn g1 g2 g3 g4 g5;have plt:=QH (hv:=(kA w.AK i).AN) (f:=f);obtain⟨q1,q2⟩:=awb v plt p1 hn g1 g2 g6 p2 p3;have mH:∀hv,Mvd (kA w.AK i) (J6 (kA w.AK i) hv) .non:=λhv=>Q6 hok lo lo rfl (.inl rfl);unfold NY;split
    .split
     .rename_i ht;rw[g5]at ht;have ht:=at2 (lq nok) q2 ht;have e:(⟨f.fr,f.nu,f.to,f.un,(Fm f.sz<|Dc (hA (Au (kA w.AK i).AN f).1 (Au (kA w.AK i).AN f).2).got f.mix f.da).1⟩:A6)=n:=by
       rw[g5,ht,g1,g2,g3,g4]
      rw[e];have hdr:=(awq hok hc.1 hc.2.1 h1).ok;have hh:∀h∈FD (DN (Au (kA w.AK i).AN f).1 (Au (kA w.AK i).AN f).2 f) (Au (kA w.AK i).AN f).2,HfG w.Ab h:=λh hh=>q1 h<|awK hh;unfold N0;split
      .rename_i hw;rw[AE]at hw;have mt:=(Yy hdr (show LO (J6 (kA w.AK i) _) from lo) hw.2 (a:= .take n) (λo ho=>(auY (CI hdr).kok nok ho).1) λ_ e=>by cases e).2;have mt:=mt.ofH;refine mkS _ _ (.take n) mt (λ_ e=>by cases e) (λ_ e=>by cases e) (λx e=>by cases e;exact hn) (λ_ e=>by cases e) (λh hx=>hh h (by rw[TH]at hx;exact hx)) (λx hx=> ?_);rw[C9.1 hx];refine⟨λe=>(by cases e),λ_=>⟨n,hn,g1.symm,g2.symm, ?_⟩⟩;obtain⟨_,_,hnw⟩:=mt.new n<|.inr rfl;rw[Lq ok hi]at hnw;split at hnw
       .rename_i hto;refine .inl<|.inr ?_;show n∈(stT<|kA (w.AK.set i _) n.to.toNat).inbox;rw[hto,Bb,Hu J,A8 rfl];exact hnw
       .refine .inr (.inr ⟨i,⟨hi, ?_, ?_⟩,hds⟩)
        .show n∈(stT<|kA (w.AK.set i _) i).held;rw[Hu J,A8 rfl];exact hnw.1
        .show n∈(stD<|kA (w.AK.set i _) i).held;rw[Hu J,A8 rfl];exact hnw.2
      .exact non _ _ (mH _) hh (λx hx=>by cases hx)
     .exact non _ _ (mH _) q1 (λx hx=>by cases hx)
    .exact non _ _ (mH _) p1 (λx hx=>by cases hx)
  .split
   .rename_i h2;rw[AE]at h2;have h2:f.ki=2:=BX h2.1;obtain⟨r1,r2,r3⟩:=kB hf;rcases tf (wrR (kA w.AK i) (Cl C3 f.fr f.nu f.un) A3).2 with e|e
    .refine mkS _ _ _ (avK hok lo r1 r2 r3 e) (λ_ e=>by cases e) (λ_ e=>by cases e) (λ_ e=>by cases e) (λm em=> ?_) (λh hx=>v.hf i hi h (by rw[TH]at hx;exact hx)) (λx hx=>by cases hx);cases em;obtain⟨n,n1,n2,n3,n4⟩:=hv h2;rw[hd]at n4;exact⟨n,n1,n2,n3,n4⟩
    .have:=QC e;simp only[this];exact stay
   .exact stay
 .exact stay
def axJ{k:AA}{fr nu mix:Int}(hb:(Em k fr nu mix).2=A0):(Em k fr nu mix).1.ki=1:=by
 unfold Em at hb ⊢;split at hb
 .rename_i hc;rw[A8 hc]
 .cases hb
def Sm{w:AX}(v:Inv w)(ok:BA w)(e:Event):RJ e w (doM w e).1:=by
 have kl:=ok.kl;have old:∀ {w':AX} {p:AS},p∈w.Ai->RaN w w' p:=λh=> .inl h;unfold doM;split
 .rename_i hk;unfold Dy;split
  .rename_i h2;have h2:=Af.1 h2;have hlt:e.wo.toNat<w.Ai.length:=J
   have hpc:=v.ra _<|aaa hlt;split
   .split
    .rename_i h3;simp only[AE,CL]at h3;refine Pw v ok rfl rfl rfl (λp hp=> ?_);rcases TN hp with h4|h4
     .exact old h4
     .rw[h4];have:=hpc.ayC h3.1 h3.2.1 h3.2.2;refine .inr ⟨this,λf hu=> ?_⟩;have hb:=this.bad rfl;rw[hu]at hb;cases hb
    .exact Lc v ok
   .split
    .exact Pw v ok rfl rfl rfl (λp hp=>old<|aDR hp)
    .split
     .have hra:∀p∈(if e.kp=0 then J5 w.Ai e.wo.toNat else w.Ai),p∈w.Ai:=by
       intro p hp;split at hp
       .exact aDR hp
       .exact hp
      unfold IU;split
      .rename_i hc;simp only[AE,decide_eq_true_eq]at hc;obtain⟨f,hu,hfo,_,hd,hg,_⟩:=hpc.frame hc.1;have hv:=v.hv _ (aaa hlt) f hu;obtain⟨_,⟨d0,d1⟩,_⟩:=OP<|OV ok hlt;rw[hu];obtain⟨a,s,na⟩:=au3 v ok (i:=(pA w.Ai e.wo.toNat).dst.toNat) J hfo (by rw[← hd];omega) hg hv hra;exact⟨_,_,a,s,λ_=>by omega,fun⟨n,e⟩=>absurd e<|na n⟩
      .exact Pw v ok rfl rfl rfl (λp hp=>old<|hra p hp)
     .exact Lc v ok
  .exact Lc v ok
 split
 .unfold ER;split
  .exact Pw v ok rfl rfl rfl (λp hp=>old hp)
  .exact Lc v ok
 split
 .rename_i ha;have ha:=Ff ha;have hi:e.at_.toNat<4:=J
  have hok:=(ok.k _ hi).1;have lo:=v.lo _ hi;have one:∀ {k':AA},Mvd (kA w.AK e.at_.toNat) k' .non->(∀h∈k'.AN,h∈(kA w.AK e.at_.toNat).AN)->RJ e w (Ge w e.at_.toNat k'):=λm hh=>
   ⟨_,_,_,⟨hi,m,rfl,.inl ⟨rfl,λ_ e=>(by cases e)⟩,.inl ⟨rfl,λ_ e=>(by cases e)⟩,λ_ e=>(by cases e),λ_ e=>(by cases e),λp hp=>old hp,λh hx=>v.hf _ hi h<|hh h hx⟩,fun⟨_,e⟩=>(by cases e),fun⟨_,e⟩=>(by cases e)⟩
  unfold KY;split
  .rename_i h1;unfold L4;split
   .exact Lc v ok
   .split
    .exact Lc v ok
    .rename_i h0;have hid:=(ok.k _ hi).2;have hn:=aCc (k:=kA w.AK e.at_.toNat) h0;have m:=avJ hok lo (tt:=e.to) (un:=e.un) (tx:=e.tx) h0;have eid:(kA w.AK e.at_.toNat).id=e.at_:=J
     rw[eid]at hn m;refine⟨_,_,_,⟨hi,m,rfl,.inr ⟨_,rfl,rfl,hn⟩,.inl ⟨rfl,λ_ e=>(by cases e)⟩,λ_ e=>(by cases e),λ_ e=>(by cases e),λp hp=>old hp,λh hx=> ?_⟩,fun⟨_,e⟩=>(by cases e),λ_=>h1⟩;rw[axA]at hx;exact(v.hf _ hi h hx).up (λn hn=>Bq _ hn)
  .split
   .exact one (auG hok lo) (λh hx=>by rw[auW]at hx;exact hx)
   .split
    .split
     .rename_i hb;refine Pw v ok rfl rfl rfl (λp hp=> ?_);rcases aCu hp with hp|⟨x,hx,rfl⟩
      .exact old hp
      .rw[C9.1 hx];exact aDe λ_=>⟨avM hok (λn hn=>v.hs _ hi n<|(lo.lf hok).held n hn) hb,λe=>by rw[axJ hb]at e;cases e⟩
     .exact Lc v ok
    .split
     .exact one (auK hok lo _).2 (λh hx=>by cases hx)
     .split
      .exact one (auH hok lo) (λh hx=>hx)
      .split
       .unfold L0;split
        .rename_i hc;rw[AE]at hc;exact⟨_,_,_,⟨hi,avL hok lo hc.1,rfl,.inl ⟨rfl,λ_ e=>(by cases e)⟩,.inr ⟨_,rfl,rfl⟩,λ_ e=>(by cases e),λ_ e=>(by cases e),λp hp=>old hp,λh hx=>v.hf _ hi h (by rw[awo]at hx;exact hx)⟩,fun⟨_,e⟩=>(by cases e),fun⟨_,e⟩=>(by cases e)⟩
        .exact Lc v ok
       .split
        .exact one (auI hok lo) (λh hx=>by rw[avs]at hx;exact hx)
        .split
         .exact one (asc hok lo) (λh hx=>by rw[aus]at hx;exact hx)
         .exact Lc v ok
 .exact Lc v ok
def Inv.doM{w:AX}(v:Inv w)(ok:BA w)(e:Event):Inv (doM w e).1:=by
 obtain⟨_,_,_,s,_⟩:=Sm v ok e;exact v.step ok s
def Inv.tick{w:AX}(v:Inv w)(ok:BA w)(b:Bool):Inv (tick w b):=by
 unfold Go.VS.tick;cases b
 .exact v
 .obtain⟨_,_,_,s,_⟩:=Pw (e:=⟨0,0,0,0,0,0,0,0,0,noB⟩) (w':=⟨w64<|w.ti+1,w.AK,w.B2,w.Ai,w.Ab,w.got⟩) v ok rfl rfl rfl (λp hp=> .inl hp);exact v.step ok s
def Inv.sim{w:AX}(v:Inv w)(ok:BA w)(e:Event):Inv (CC w e):=(v.doM ok e).tick (mZ ok e) _
def TC{i:Nat}(hi:i<4):stT (kA rv0.AK i)=⟨(i:Int),0,1,[],[],[]⟩/\LO (kA rv0.AK i)/\stD (kA rv0.AK i)=⟨(i:Int),0,1,[],[],[]⟩:=by
 have hk:=(Zl.k i hi).1;have e:=ZP hi;have hf:(kA rv0.AK i).fo=((kA rv0.AK i).log.size:Int):=by rw[e];rfl
 have h1:=Sx hk hf;have h2:stT (kA rv0.AK i)=⟨(i:Int),0,1,[],[],[]⟩:=by
  have l:Bz (kA rv0.AK i).log (kA rv0.AK i).fo [] []:=by
   rw[e];exact⟨λr hr=>(by cases hr),(by show noB.size<=2400;decide),rfl,rfl⟩
  have:=(EC hk).st;rw[l.state]at this;rw[e]at this;unfold CO kp0 at this;rw[A8<|ly hi]at this;rw[e];exact(C8 this).symm
 exact⟨h2,h1.1,h1.2.trans h2⟩
def R3:Inv rv0:=by
 refine⟨λi hi=>(TC hi).2.1,λi hi n hn=> ?_,λi hi n hn=> ?_,λn hn=>(by cases hn),.nil,.nil,λg hg=>(by cases hg),λn hn=>(by cases hn),λi hi m hm=> ?_,λp hp=>(by cases hp),λp hp=>(by cases hp),λi hi h hh=> ?_⟩
 .unfold sD at hn;rw[(TC hi).2.2]at hn;cases hn
 .unfold sT at hn;rw[(TC hi).1]at hn;cases hn
 .unfold sT at hm;rw[(TC hi).1]at hm;cases hm
 .rw[ZP hi]at hh;cases hh
end Go.VS
end
