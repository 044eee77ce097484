/- Part 9. -/
import Derived.Test.YtcdeafiabojglaaGreatDoorQAR
open BitVec renaming eq_of_toNat_eq->mz,ofInt->F9,toNat_ofInt->Qn
open Bool renaming and_eq_true->AE,and_false->BX,and_self->EY,and_true->KJ,eq_iff_iff->NL,false->A0,false_and->AO,false_ne_true->CF,false_or->Bn,not_eq_true'->CM,not_eq_true->GK,not_false->AH,not_true->AB,or_eq_false_iff->NJ,or_eq_true->C8,or_false->EX,or_self->GL,or_true->DU,true->Y,true_and->AS,true_or->Bw
open ByteArray renaming size->aB,size_extract->Tx
open Decidable renaming decide->U
open Eq renaming refl->Hn,trans->LM
open Go.Lib renaming itoa->B6
open Int renaming eq_ofNat_of_zero_le->HG,le_refl->Dw,mul_comm->Qw,mul_le_mul_of_nonneg_right->mJ,mul_nonneg->n7,not_lt->Qx,tdiv->Ay,tdiv_eq_ediv_of_nonneg->Fh,tdiv_nonneg->mv,tmod->BJ,tmod_eq_emod_of_nonneg->LI,tmod_lt_of_pos->Qs,tmod_nonneg->Qo,toNat->AJ,toNat_natCast->Bc,toNat_of_nonneg->mc
open List renaming all_cons->P0,all_eq_true->DB,append_assoc->C7,append_nil->CE,drop->Bp,drop_append_of_le_length->Tu,drop_drop->J5,drop_eq_nil_of_le->KI,drop_sublist->Qq,drop_zero->Iy,eq_nil_of_length_eq_zero->Df,ext_getElem?->mU,filter_append->P5,filter_cons->JY,filter_nil->Zz,foldl_cons->Du,getD_eq_getElem?_getD->BG,getElem?_append_right->FN,getElem?_eq_getElem->Av,getElem?_eq_none->Hm,getElem?_map->DA,getElem?_range->Gj,getElem?_replicate->Zq,getElem?_set->U8,getElem?_set_self->Zr,getElem?_take->Gk,getElem_mem->Ci,getElem_of_mem->Cz,length->j8,length_append->Am,length_cons->Bm,length_drop->E4,length_filter_le->J1,length_map->De,length_nil->CL,length_set->G2,length_singleton->KH,length_take->DW,map_append->Eg,map_congr_left->Gi,map_cons->DV,map_id->Zy,map_map->IF,map_nil->IK,mem_append->BN,mem_append_left->Bz,mem_append_right->CW,mem_cons->Bj,mem_cons_of_mem->Ah,mem_cons_self->Ao,mem_filter->F8,mem_iff_getElem->Zo,mem_map->C0,mem_of_getElem?->Cp,mem_of_mem_drop->Iz,mem_of_mem_take->HI,mem_or_eq_of_mem_set->ML,mem_range->Cy,mem_singleton->C1,mem_singleton_self->MP,nil_append->EV,nodup_append->Jb,pairwise_iff_getElem->KG,range->B1,range_succ->Hl,replicate->BZ,set->Bq,set_append_right->aDL,take->BV,take_add_one->JW,take_append_drop->JZ,take_length->EG,take_of_length_le->J2,take_take->aC
open List.Sublist renaming append->me,refl->EW
open List.cons renaming injEq->MR
open Nat renaming add_zero->Ho,le_refl->Ar,le_trans->C6,lt_or_gt_of_ne->U5,min_eq_left->R4,sub_self->LJ,sub_zero->Je,zero_add->DM,zero_le->Ch
open Option renaming bind_eq_some_iff->Ag,bind_some->A6,filter_eq_some_iff->Ja,getD_some->Dd,isSome_some->Dk,map_some->Qi,none->G,some->I
open Option.some renaming inj->E5
open Or renaming inl->NX,inr->NV
open Prod.mk renaming injEq->CS
set_option linter.all false
noncomputable section
namespace Go.VS
open Go
abbrev tF(f:Frame):Int×Int×Int×Int×Int×Int×Int×Int×Int×A1×D:=(f.ki,f.src,f.dst,f.fr,f.nu,f.to,f.un,f.sz,f.mix,f.da,())
def K0(f:Frame):Bool:=
 if U (f.ki=1) then inB f.sz 1 24&&(inB f.mix 0 999&&(U ((f.da.size:Int)=4)&&U (f.dst=Bu f.src f.to)))
 else(U (f.ki=2)||decide (f.ki=3))&&(U (f.sz=0)&&(U (f.mix=0)&&(U (f.da=noB)&&U (f.src=Bu f.dst f.to))))
def By(f:Frame):Bool:=isN f.src&&(isN f.dst&&(isN f.fr&&(isN f.to&&(inB f.nu 1 99&&(inB f.un 1 999&&K0 f)))))
def zk(f:Frame):WT (tF f,())=I ((By f,()),()):=by
 obtain⟨ki,src,dst,fr,nu,t',un,sz,mix,da⟩:=f;unfold WT By;simp only[Kk,EK,A6];obtain e|e:=tf (isN src)<;>simp only[e,AB,AH,A2,A4,AS,AO];obtain e|e:=tf (isN dst)<;>simp only[e,AB,AH,A2,A4,AS,AO];obtain e|e:=tf (isN fr)<;>simp only[e,AB,AH,A2,A4,AS,AO];obtain e|e:=tf (isN t')<;>simp only[e,AB,AH,A2,A4,AS,AO];obtain e|e:=tf (inB nu 1 99)<;>simp only[e,AB,AH,A2,A4,AS,AO];obtain e|e:=tf (inB un 1 999)<;>simp only[e,AB,AH,A2,A4,AS,AO];unfold K0;simp only[uH,Dk,Dd,Hz,A2];obtain e|e:=tfp (ki=1)<;>simp only[e,AW,Ad,A2,A4]
 .rcases tf (inB sz 1 24) with e|e<;>simp only[e,A2,A4,AS,AO];obtain e|e:=tf (inB mix 0 999)<;>simp only[e,A2,A4,AS,AO]
 .rcases tfp (ki=2) with e|e<;>simp only[e,AW,Ad,A2,A4,Bk,Bw,Bn,AS]
  .rcases tfp (sz=0) with e|e<;>simp only[e,AW,Ad,A2,A4,AS,AO];obtain e|e:=tfp (mix=0)<;>simp only[e,AW,Ad,A2,A4,AS,AO]
  .rcases tfp (ki=3) with e|e<;>simp only[e,AW,Ad,A2,A4,AS,AO];obtain e|e:=tfp (sz=0)<;>simp only[e,AW,Ad,A2,A4,AS,AO];obtain e|e:=tfp (mix=0)<;>simp only[e,AW,Ad,A2,A4,AS,AO]
def ayu{ki:Int}(h1:(ki=1)=False):inB ki 1 3=(U (ki=2)||decide (ki=3)):=by
 have h1:ki≠1:=of_eq_false h1;rw[NL,Aa,C8,decide_eq_true_iff,decide_eq_true_iff];omega
def aA3(f:Frame):WJ (tF f,())=I ((By f,()),()):=by
 obtain⟨ki,src,dst,fr,nu,t',un,sz,mix,da⟩:=f;unfold WJ By;simp only[Jq,I0,A6];have hk:inB ki 1 3=(U (ki=1)||(U (ki=2)||decide (ki=3))):=by
  obtain e|e:=tfp (ki=1)
  .have:ki=1:=of_eq_true e;subst this;rfl
  .rw[ayu e];simp only[e,Ad,Bn]
 rw[hk];unfold K0;obtain e0|e0:=tfp (ki=1)<;>simp only[e0,AW,Ad,Bw,Bn,AB,AH,A2,A4]
 .rcases tf (isN src) with e|e<;>simp only[e,AB,AH,A2,A4,AS,AO];obtain e|e:=tf (isN dst)<;>simp only[e,AB,AH,A2,A4,AS,AO];obtain e|e:=tf (isN fr)<;>simp only[e,AB,AH,A2,A4,AS,AO];obtain e|e:=tf (isN t')<;>simp only[e,AB,AH,A2,A4,AS,AO];obtain e|e:=tf (inB nu 1 99)<;>simp only[e,AB,AH,A2,A4,AS,AO];obtain e|e:=tf (inB un 1 999)<;>simp only[e,AB,AH,A2,A4,AS,AO];simp only[fS,A6];rw[show U (Bu src t'=dst)=U (dst=Bu src t') from decide_eq_decide.2 eq_comm];obtain e|e:=tf (inB sz 1 24)<;>obtain e1|e1:=tf (inB mix 0 999)<;>obtain e2|e2:=tf (U<|(da.size:Int)=4)<;>obtain e3|e3:=tfp (dst=Bu src t')<;>simp only[e,e1,e2,e3,AW,Ad,A2,A4,AS,AO,EY,BX]
 .rcases tf (U (ki=2)||decide (ki=3)) with e9|e9<;>simp only[e9,AB,AH,A2,A4,AS,AO,BX];obtain e|e:=tf (isN src)<;>simp only[e,AB,AH,A2,A4,AS,AO];obtain e|e:=tf (isN dst)<;>simp only[e,AB,AH,A2,A4,AS,AO];obtain e|e:=tf (isN fr)<;>simp only[e,AB,AH,A2,A4,AS,AO];obtain e|e:=tf (isN t')<;>simp only[e,AB,AH,A2,A4,AS,AO];obtain e|e:=tf (inB nu 1 99)<;>simp only[e,AB,AH,A2,A4,AS,AO];obtain e|e:=tf (inB un 1 999)<;>simp only[e,AB,AH,A2,A4,AS,AO];simp only[fS,A6];rw[show U (Bu dst t'=src)=U (src=Bu dst t') from decide_eq_decide.2 eq_comm];obtain e|e:=tfp (sz=0)<;>obtain e1|e1:=tfp (mix=0)<;>obtain e2|e2:=tfp (da=noB)<;>obtain e3|e3:=tfp (src=Bu dst t')<;>simp only[e,e1,e2,e3,AW,Ad,A2,A4,AS,AO,EY,BX]
def BOk(l:List Int):Prop:=∀x∈l,0<=x/\x<=255
def BOk.rd{l:List Int}(h:BOk l)(i:Int):0<= @rd Int aHh l i/\ @rd Int aHh l i<=255:=by
 show 0<=l.getD i.toNat 0/\l.getD i.toNat 0<=255;rw[BG];cases e:l[i.toNat]? with
 | none=>exact⟨by decide,by decide⟩
 | some x=>exact h x<|Cp e
def BOk.str(s:A1):BOk (B9 s):=by
 intro x hx;obtain⟨b,_,rfl⟩:=C0.1 hx;have:=b.toNat_lt;omega
def BOk.app{a b:List Int}(ha:BOk a)(hb:BOk b):BOk (a++b):=by
 intro x hx;obtain h|h:=BN.1 hx
 .exact ha x h
 .exact hb x h
def axM(n:Int):0<=w8 n/\w8 n<=255:=by
 rw[ND];omega
def BOk.nil:BOk []:=λx hx=>by cases hx
def BOk.cons(n:Int){l:List Int}(h:BOk l):BOk (w8 n::l):=by
 intro x hx;obtain h1|h1:=Bj.1 hx
 .rw[h1];exact axM n
 .exact h x h1
def Et:List Int->Nat->Int->Int
 | [],_,n=>n
 | x::r,i,n=>Et r (i+1) (BJ (n+x * ((i % 1000:Nat)+1)) 65521)
def lu:∀ {l:List Int} {i:Nat} {n:Int},BOk l->0<=n->n<65521->0<=Et l i n/\Et l i n<65521
 | [],_,_,_,h0,h1=>⟨h0,h1⟩
 | x::r,i,n,hb,h0,h1=>by
  have hx:=hb x Ao;have hp:0<=x * ((i % 1000:Nat)+1:Int):=n7 hx.1 J;unfold Et;rw[LI J];exact lu (λy hy=>hb y<|Ah x hy) J J
def aGW{x:Int}(i:Nat)(h:0<=x/\x<=255):0<=x * ((i % 1000:Nat)+1:Int)/\x * ((i % 1000:Nat)+1:Int)<=255000:=by
 refine⟨n7 h.1 J, ?_⟩;have h1:x * ((i % 1000:Nat)+1:Int)<=255 * ((i % 1000:Nat)+1:Int):=mJ h.2 J;omega
def abS(pre:List Int)(x:Int)(post:List Int): @rd Int aHh (pre++x::post) (j8 pre:Int)=x:=by
 rw[Oi,BG,FN<|Ar _];simp
def au7(post:List Int):∀(pre:List Int) (n:Int),BOk post->0<=n->n<65521->(pre++post).length<=1048576->
  cN (n,pre++post,((pre++post).length:Int),(j8 pre:Int),())=I (.inr (Et post pre.length n,())):=by
 induction post with
 | nil=>
  intro pre n _ _ _ _;refine BC ?_;unfold dr;simp only[CE,show U ((j8 pre:Int)<(j8 pre:Int))=A0 from BH J,A4];rfl
 | cons x post ih=>
  intro pre n hb h0 h1 hl;have hlen:pre.length<(pre++x::post).length:=by simp
  have hw:=Dg hlen hl;have hx:=hb x Ao;have hm:=aGW pre.length hx;have ht:BJ (j8 pre:Int) 1000=((pre.length % 1000:Nat):Int):=rfl;refine At (x':=(BJ (n+x * ((pre.length % 1000:Nat)+1)) 65521,pre++x::post,((pre++x::post).length:Int),((pre++[x]).length:Int),())) ?_ ?_
  .unfold dr;simp only[show U ((j8 pre:Int)<((pre++x::post).length:Int))=Y from AR J,A2,AY hlen,abS,ht];rw[AU (n:=x) J J,AU (n:=((pre.length % 1000:Nat):Int)+1) J J,AU (n:=x * _) J J,AU (n:=n+_) J J,hw,@Am _ pre [x]];rfl
  .have hr:0<=BJ (n+x * ((pre.length % 1000:Nat)+1)) 65521/\BJ (n+x * ((pre.length % 1000:Nat)+1)) 65521<65521:=by
    rw[LI J];omega
   have:=ih (pre++[x]) _ (λy hy=>hb y<|Ah x hy) hr.1 hr.2 (by rw[← snoc];exact hl);rw[← snoc]at this;rw[Et];rw[show(pre++[x]).length=pre.length+1 by simp]at this ⊢;exact this
def atP(post:List Int):∀(pre:List Int) (n:Int),BOk post->0<=n->n<65521->(pre++post).length<=1048576->
  c8 (pre++post,n,(j8 pre:Int),())=I (.inr (Et post pre.length n,())):=by
 induction post with
 | nil=>
  intro pre n _ _ _ _;refine BC ?_;unfold eL;simp only[CE,show U ((j8 pre:Int)<(j8 pre:Int))=A0 from BH J,A4];rfl
 | cons x post ih=>
  intro pre n hb h0 h1 hl;have hlen:pre.length<(pre++x::post).length:=by simp
  have hw:=Dg hlen hl;have hx:=hb x Ao;have hm:=aGW pre.length hx;have ht:BJ (j8 pre:Int) 1000=((pre.length % 1000:Nat):Int):=rfl;refine At (x':=(pre++x::post,BJ (n+x * ((pre.length % 1000:Nat)+1)) 65521,((pre++[x]).length:Int),())) ?_ ?_
  .unfold eL;simp only[show U ((j8 pre:Int)<((pre++x::post).length:Int))=Y from AR J,A2,AY hlen,abS,ht];rw[AU (n:=x) J J,AU (n:=((pre.length % 1000:Nat):Int)+1) J J,Qw _ x,AU (n:=x * _) J J,AU (n:=n+_) J J,hw,@Am _ pre [x]];rfl
  .have hr:0<=BJ (n+x * ((pre.length % 1000:Nat)+1)) 65521/\BJ (n+x * ((pre.length % 1000:Nat)+1)) 65521<65521:=by
    rw[LI J];omega
   have:=ih (pre++[x]) _ (λy hy=>hb y<|Ah x hy) hr.1 hr.2 (by rw[← snoc];exact hl);rw[← snoc]at this;rw[Et];rw[show(pre++[x]).length=pre.length+1 by simp]at this ⊢;exact this
def akB{l:List Int}(h:BOk l)(hl:l.length<=1048576):W1 (l,())=I ((Et l 0 0,()),()):=by
 unfold W1;have h1:cN (0,l,(j8 l:Int),0,())=I (.inr (Et l 0 0,())):=au7 l [] 0 h J J hl;rw[h1];rfl
def ajn{l:List Int}(h:BOk l)(hl:l.length<=1048576):S7 (l,())=I ((Et l 0 0,()),()):=by
 unfold S7;have h1:c8 (l,0,0,())=I (.inr (Et l 0 0,())):=atP l [] 0 h J J hl;rw[h1];rfl
abbrev two(n:Int):List Int:=[w8 (w64<|Ay n 256),w8<|BJ n 256]
abbrev R7(f:Frame):List Int:=[w8 f.ki,w8 f.src,w8 f.dst,w8 f.fr,w8 f.nu,w8 f.to,w8<|w64<|Ay f.un 256,w8<|BJ f.un 256]
def Ep(f:Frame):List Int:=if U (f.ki=1) then(R7 f++[w8 f.sz,w8<|w64<|Ay f.mix 256,w8<|BJ f.mix 256])++B9 f.da else R7 f
def Cf(f:Frame):List Int:=if By f then Ep f++two (Et (Ep f) 0 0) else []
def j9{l:List Int}(n:Int)(hl:l.length<=1048576):O7 (l,n,())=I ((l++two n,()),()):=by
 unfold O7;rw[A5<|BD y8]
def ZB(f:Frame):BOk (Ep f):=by
 unfold Ep;split
 .exact BOk.app (.cons _<|.cons _<|.cons _<|.cons _<|.cons _<|.cons _<|.cons _<|.cons _<|.cons _<|.cons _<|.cons _ .nil) (BOk.str _)
 .exact .cons _<|.cons _<|.cons _<|.cons _<|.cons _<|.cons _<|.cons _<|.cons _ .nil
def o8{f:Frame}(h:By f=Y)(hk:U (f.ki=1)=Y):f.da.size=4:=by
 unfold By K0 at h;simp only[AE]at h;have h:=h.2.2.2.2.2.2;rw[A5 hk]at h;simp only[AE]at h;have:=BW h.2.2.1;omega
def YB{f:Frame}(h:By f=Y):(Ep f).length<=15:=by
 unfold Ep;split
 .rename_i hk;have:=o8 h hk;simp[T6,Ax];omega
 .simp
def xf(f:Frame):Pj (tF f,())=I ((Cf f,()),()):=by
 unfold Pj Cf;simp only[zk,A6];obtain e|e:=tf (By f)
 .simp only[e,AB,A4,A2];have hl:=YB e;have hj:∀ {X Ω:Type} (g:X->Option Ω) (y:X),BU g (I<|.inr y)=g y:=λ_ _=>rfl;have hs:=akB (ZB f) J;have key:∀l,l=Ep f->((W1 (l,())).bind λr4=>if Ab (l.length+(two r4.1.1).length) then(ct ((l++two r4.1.1),())).bind λr5=>I (r5.1,()) else G)=I ((Ep f++two (Et (Ep f) 0 0),()),()):=by
   rintro l rfl;simp only[hs,A6];rw[A5<|BD y8,afb y8];rfl
  obtain e1|e1:=tf (U<|f.ki=1)
  .have hd:=o8 e e1;have hb:Ep f=(R7 f++[w8 f.sz,w8<|w64<|Ay f.mix 256,w8<|BJ f.mix 256])++B9 f.da:=by unfold Ep;rw[A5 e1]
   rw[A5 e1,A5<|BD aG9,A5<|BD (by simp[T6,Ax];omega),hj];exact key _ hb.symm
  .have hb:Ep f=R7 f:=by unfold Ep;rw[e1,A4]
   rw[A9 (by rw[e1];exact CF),hj];exact key _ hb.symm
 .simp only[e,AH,A2,A4]
def xN(f:Frame):Pf (tF f,())=I ((Cf f,()),()):=by
 unfold Pf Cf;simp only[aA3,A6];obtain e|e:=tf (By f)
 .simp only[e,AB,A4,A2];have hl:=YB e;have hs:=ajn (ZB f) J;have key:∀l,l=Ep f->((S7 (l,())).bind λr6=>(O7 (l,r6.1)).bind λr7=>I (r7.1,()))=I ((Ep f++two (Et (Ep f) 0 0),()),()):=by
   rintro l rfl;simp only[hs,A6];rw[j9 _ J];rfl
  rw[A5<|by rfl,j9 _ aG9];simp only[A6];obtain e1|e1:=tf (U<|f.ki=1)
  .have hd:=o8 e e1;have hb:Ep f=(R7 f++[w8 f.sz,w8<|w64<|Ay f.mix 256,w8<|BJ f.mix 256])++B9 f.da:=by unfold Ep;rw[A5 e1]
   rw[A5 e1,A5<|by rfl,j9 _ aG9];simp only[A6];rw[A5<|BD J,A5<|BD (by simp[T6,Ax];omega)];exact key _ (by rw[hb];rfl)
  .have hb:Ep f=R7 f:=by unfold Ep;rw[e1,A4]
   rw[A9 (by rw[e1];exact CF)];exact key _ (by rw[hb];rfl)
 .simp only[e,AH,A2,A4]
abbrev zF:Frame:=⟨0,0,0,0,0,0,0,0,0,noB⟩
abbrev r8(b:List Int)(i:Int):Int:= @rd Int aHh b i
def FZ(b:List Int):Frame:=
 if U ((j8 b:Int)=17) then⟨r8 b 0,r8 b 1,r8 b 2,r8 b 3,r8 b 4,r8 b 5,256 * r8 b 6+r8 b 7,r8 b 8,256 * r8 b 9+r8 b 10,BF<|Bp 11<|BV 15 b⟩
 else⟨r8 b 0,r8 b 1,r8 b 2,r8 b 3,r8 b 4,r8 b 5,256 * r8 b 6+r8 b 7,0,0,noB⟩
def Cb(b:List Int):Frame×Bool:=
 if U ((j8 b:Int)=10)||decide ((j8 b:Int)=17) then(if U (BF (Cf<|FZ b)=BF b) then(FZ b,Y) else(zF,A0)) else(zF,A0)
def abe{b:List Int}(h:BOk b)(i:Int):w64 (r8 b i)=r8 b i:=by
 have:0<=r8 b i/\r8 b i<=255:=h.rd i;exact AU J J
def aak{b:List Int}(h:BOk b)(i j:Int):w64 (w64 (256 * r8 b i)+r8 b j)=256 * r8 b i+r8 b j:=by
 have h1:0<=r8 b i/\r8 b i<=255:=h.rd i;have h2:0<=r8 b j/\r8 b j<=255:=h.rd j;rw[AU (n:=256 * r8 b i) J J,AU J J]
def vH{b:List Int}(h:BOk b):cV (b,())=I ((tF (Cb b).1,(Cb b).2,()),()):=by
 unfold cV Cb;by_cases h1:b.length=10\/b.length=17
 .have hn:10<=b.length:=J
  have hI:∀i:Int,(0<=i/\i<10)->inb i b.length=Y:=λi hi=>by simp[inb];omega
  rw[A9 y8];dsimp only;rw[A5<|hI 0 J,A5<|hI 1 J,A5<|hI 2 J,A5<|hI 3 J,A5<|hI 4 J,A5<|hI 5 J,A5<|hI 6 J,A5<|hI 7 J];rw[A5 (show(U ((j8 b:Int)=10)||decide ((j8 b:Int)=17))=Y by simp;omega)];simp only[abe h,aak h];have fin:∀f:Frame,FZ b=f->((Pj (tF f,())).bind λr16=>if(!decide ((BF r16.1.1)=(BF b))) then I ((tF zF,A0,()),()) else I ((tF f,Y,()),()))=
    I ((tF (if U (BF (Cf<|FZ b)=BF b) then(FZ b,Y) else(zF,A0)).1,(if U (BF (Cf<|FZ b)=BF b) then(FZ b,Y) else(zF,A0)).2,()),()):=by
   rintro f rfl;simp only[xf,A6];obtain e|e:=tf (U<|BF (Cf<|FZ b)=BF b)<;>simp only[e,AB,AH,A2,A4]
  obtain e|e:=tf (U<|(j8 b:Int)=17)
  .have e17:b.length=17:=by have:=BW e;omega
   have hJ:∀i:Int,(0<=i/\i<17)->inb i b.length=Y:=λi hi=>by simp[inb];omega
   rw[A5 e,A5<|hJ 8 J,A5<|hJ 9 J,A5<|hJ 10 J,A5 y8,Bk];refine fin ⟨r8 b 0,r8 b 1,r8 b 2,r8 b 3,r8 b 4,r8 b 5,256 * r8 b 6+r8 b 7,r8 b 8,256 * r8 b 9+r8 b 10,BF<|Bp 11<|BV 15 b⟩ ?_;unfold FZ;rw[A5 e]
  .rw[A9 (by rw[e];exact CF),Bk];refine fin ⟨r8 b 0,r8 b 1,r8 b 2,r8 b 3,r8 b 4,r8 b 5,256 * r8 b 6+r8 b 7,0,0,noB⟩ ?_;unfold FZ;rw[A9 (by rw[e];exact CF)]
 .rw[A5 y8,A9 y8]
def afF{b:List Int}(h:BOk b):cq (b,())=I ((tF (Cb b).1,(Cb b).2,()),()):=by
 unfold cq Cb;by_cases h1:b.length=10\/b.length=17
 .have hn:10<=b.length:=J
  have hI:∀i:Int,(0<=i/\i<10)->inb i b.length=Y:=λi hi=>by simp[inb];omega
  rw[A9 y8];dsimp only;rw[A5<|hI 0 J,A5<|hI 1 J,A5<|hI 2 J,A5<|hI 3 J,A5<|hI 4 J,A5<|hI 5 J,A5<|hI 6 J,A5<|hI 7 J];rw[A5 (show(U ((j8 b:Int)=10)||decide ((j8 b:Int)=17))=Y by simp;omega)];simp only[abe h,Qw _ 256,aak h];have fin:∀f:Frame,FZ b=f->((Pf (tF f,())).bind λr16=>if(!decide ((BF r16.1.1)=(BF b))) then I ((tF zF,A0,()),()) else I ((tF f,Y,()),()))=
    I ((tF (if U (BF (Cf<|FZ b)=BF b) then(FZ b,Y) else(zF,A0)).1,(if U (BF (Cf<|FZ b)=BF b) then(FZ b,Y) else(zF,A0)).2,()),()):=by
   rintro f rfl;simp only[xN,A6];obtain e|e:=tf (U<|BF (Cf<|FZ b)=BF b)<;>simp only[e,AB,AH,A2,A4]
  obtain e|e:=tf (U<|(j8 b:Int)=17)
  .have e17:b.length=17:=by have:=BW e;omega
   have hJ:∀i:Int,(0<=i/\i<17)->inb i b.length=Y:=λi hi=>by simp[inb];omega
   rw[A5<|AR J,A5<|hJ 8 J,A5<|hJ 9 J,A5<|hJ 10 J,A5 y8,Bk];refine fin ⟨r8 b 0,r8 b 1,r8 b 2,r8 b 3,r8 b 4,r8 b 5,256 * r8 b 6+r8 b 7,r8 b 8,256 * r8 b 9+r8 b 10,BF<|Bp 11<|BV 15 b⟩ ?_;unfold FZ;rw[A5 e]
  .have e17:b.length≠17:=by have:=JV e;omega
   rw[A9 y8,Bk];refine fin ⟨r8 b 0,r8 b 1,r8 b 2,r8 b 3,r8 b 4,r8 b 5,256 * r8 b 6+r8 b 7,0,0,noB⟩ ?_;unfold FZ;rw[A9 (by rw[e];exact CF)]
 .rw[A5 y8,A9 y8]
def ar2{b:List Int}(h:(Cb b).2=Y):By (Cb b).1=Y:=by
 unfold Cb at h ⊢;split
 .rename_i h1;rw[A5 h1]at h;split
  .rename_i h2;have h2:=BW h2;unfold Cf at h2;split at h2
   .assumption
   .have h3:(BF b).size=b.length:=by simp[BF,aB]
    have h4:(BF ([]:List Int)).size=0:=rfl;rw[← h2,h4]at h3;rw[← h3]at h1;cases h1
  .rename_i h2;rw[A9 h2]at h;cases h
 .rename_i h1;rw[A9 h1]at h;cases h
def OV{n:Int}(h0:0<=n)(k:Nat)(hk:1<=k)(h:n<(10 ^ k:Nat)):(BM n).size<=k:=by
 show(B6 n).length<=k;exact Ls h0 k hk h
def aB3{r:A1}(hr:r.size<=1048576):Py (r,())=I ((CY r,()),()):=by
 have hd:=OV (n:=(r.size:Int)) J 7 J J;unfold Py;simp only[JM (n:=(r.size:Int)) J J,A6];rw[A5<|AR (by rw[BP];simp;omega),A5<|AR (by rw[Bf,BP];simp;omega),A5<|AR (by rw[Bf,Bf,BP,BP];simp;omega)];rfl
def gk{r:A1}(hr:r.size<=1048576):Kh (r,())=I ((CY r,()),()):=by
 have hd:=OV (n:=(r.size:Int)) J 7 J J;unfold Kh;simp only[FV (n:=(r.size:Int)) J J,A6];rw[A5<|AR (by rw[BP];simp;omega),A5<|AR (by rw[Bf,BP];simp;omega),A5<|AR (by rw[Bf,Bf,BP,BP];simp;omega)];rfl
def QA{r:A1}(hr:r.size<=1048576):(CY r).size<=r.size+9:=by
 have hd:=OV (n:=(r.size:Int)) J 7 J J;unfold CY;simp only[Bf,BP];simp;omega
def rOk(r:A1):Bool:=inB r.size 1 60
def jn(r:A1):XO (r,())=I ((rOk r,()),()):=rfl
def jt(r:A1):fN (r,())=I ((rOk r,()),()):=rfl
def IE(lg:A1)(fo:Int)(r:A1):(A1×Int)×Bool:=
 if DP lg fo then(if rOk r&&U (lg.size+(CY r).size<=2400) then((lg++CY r,fo),Y) else((lg,fo),A0)) else((noB,0),A0)
def aaB{lg st:A1}{fo:Int}(b:Bool)(hl:lg.size<=1048576)(hs:st.size<=1048585):
  (if((!b)||(U<|2400<(w64<|(lg.size:Int)+(st.size:Int)))) then I (((lg,fo,()),A0,()),()) else(if U (lg.size+st.size<=4611686018427387904) then I (((lg++st,fo,()),Y,()),()) else G))=
   I ((((if b&&U (lg.size+st.size<=2400) then((lg++st,fo),Y) else((lg,fo),A0)).1.1,(if b&&U (lg.size+st.size<=2400) then((lg++st,fo),Y) else((lg,fo),A0)).1.2,()),(if b&&U (lg.size+st.size<=2400) then((lg++st,fo),Y) else((lg,fo),A0)).2,()),()):=by
 rw[AU J J];cases b
 .rfl
 .by_cases h:lg.size+st.size<=2400
  .rw[A9 y8,A5<|AR J,A5 y8]
  .rw[A5 y8,A9 y8]
def yl{lg r:A1}{fo:Int}(hl:lg.size<=1048576)(hr:r.size<=1048576):
  SB ((lg,fo,()),r,())=I ((((IE lg fo r).1.1,(IE lg fo r).1.2,()),(IE lg fo r).2,()),()):=by
 unfold SB IE;simp only[WO hl,A6];obtain e|e:=tf (DP lg fo)
 .simp only[e,AB,A4,A2,jn,aB3 hr,A6,Dk,Dd,Hz];exact aaB (rOk r) hl (by have:=QA hr;omega)
 .simp only[e,AH,A4,A2]
def tz{lg r:A1}{fo:Int}(hl:lg.size<=1048576)(hr:r.size<=1048576):
  O0 ((lg,fo,()),r,())=I ((((IE lg fo r).1.1,(IE lg fo r).1.2,()),(IE lg fo r).2,()),()):=by
 unfold O0 IE;simp only[WZ hl,A6];obtain e|e:=tf (DP lg fo)
 .simp only[e,AB,A4,A2,jt,gk hr,A6,Dk,Dd,Hz];exact aaB (rOk r) hl (by have:=QA hr;omega)
 .simp only[e,AH,A4,A2]
def Iu(lg:A1)(fo:Int):A1×Int:=if DP lg fo then(lg,(lg.size:Int)) else(noB,0)
def agf{lg:A1}{fo:Int}(hl:lg.size<=1048576):dQ ((lg,fo,()),())=I ((((Iu lg fo).1,(Iu lg fo).2,()),()),()):=by
 unfold dQ Iu;simp only[WO hl,A6];obtain e|e:=tf (DP lg fo)<;>simp only[e,AB,AH,A4,A2]
def dI{lg:A1}{fo:Int}(hl:lg.size<=1048576):Nu ((lg,fo,()),())=I ((((Iu lg fo).1,(Iu lg fo).2,()),()),()):=by
 unfold Nu Iu;simp only[WZ hl,A6];obtain e|e:=tf (DP lg fo)<;>simp only[e,AB,AH,A4,A2]
def Q2{lg:A1}{fo:Int}(h:DP lg fo=Y):lg.size<=2400/\0<=fo/\fo<=lg.size:=by
 unfold DP at h;simp only[AE]at h;have h1:=BW h.1;have h2:=Aa.1 h.2.1;omega
def Ee(lg:A1)(fo keep:Int):Nat:=(fo+max 0 (min keep<|(lg.size:Int) - fo)).toNat
def MI(lg:A1)(fo keep:Int):A1×Int:=
 if DP lg fo then((lg.extract 0<|Ee lg fo keep).extract 0 (D6<|lg.extract 0<|Ee lg fo keep).2,((D6<|lg.extract 0<|Ee lg fo keep).2:Int)) else(noB,0)
def axk{lg:A1}{fo keep:Int}(h0:0<=fo)(h1:fo<=lg.size)(h2:lg.size<=2400):
  w64 (fo+(if 0<(if w64 ((lg.size:Int) - fo)<keep then w64 ((lg.size:Int) - fo) else keep) then(if w64 ((lg.size:Int) - fo)<keep then w64 ((lg.size:Int) - fo) else keep) else 0))=(Ee lg fo keep:Int)/\Ee lg fo keep<=lg.size:=by
 rw[AU (n:=(lg.size:Int) - fo) J J];unfold Ee;by_cases h3:(lg.size:Int) - fo<keep
 .rw[A5 h3];by_cases h4:(0:Int)<(lg.size:Int) - fo
  .rw[A5 h4,AU J J];omega
  .rw[A9 h4,AU J J];omega
 .rw[A9 h3];by_cases h4:(0:Int)<keep
  .rw[A5 h4,AU J J];omega
  .rw[A9 h4,AU J J];omega
def aiE{lg:A1}{fo keep:Int}(hl:lg.size<=1048576):de ((lg,fo,()),keep,())=I ((((MI lg fo keep).1,(MI lg fo keep).2,()),()),()):=by
 unfold de MI;simp only[WO hl,A6];obtain e|e:=tf (DP lg fo)
 .have hr:=Q2 e;obtain⟨c1,c2⟩:=axk (keep:=keep) hr.2.1 hr.2.2 hr.1;simp only[e,AB,A4,A2,c1,Bc];have hz:(lg.extract 0<|Ee lg fo keep).size=Ee lg fo keep:=by rw[G8 J];omega
  have hg:=Q4<|lg.extract 0<|Ee lg fo keep;rw[A5 y8,dd J];simp only[A6,Bc];rw[A5 y8]
 .simp only[e,AH,A4,A2]
def axY{s:A1}{a b:Nat}(h:b<=a)(ha:a<=s.size):s.extract 0 b=(s.extract 0 a).extract 0 b:=by
 apply Fu;rw[E9,E9,E9,Je,Je,Iy,Iy,aC,R4 h]
def ahh{lg:A1}{fo keep:Int}(hl:lg.size<=1048576):dz ((lg,fo,()),keep,())=I ((((MI lg fo keep).1,(MI lg fo keep).2,()),()),()):=by
 unfold dz MI;simp only[WZ hl,A6];obtain e|e:=tf (DP lg fo)
 .have hr:=Q2 e;simp only[e,AB,A4,A2];rw[AU (n:=(lg.size:Int) - fo) J J];have hz:(lg.extract 0<|Ee lg fo keep).size=Ee lg fo keep:=by rw[G8 (by unfold Ee;omega)];omega
  have hg:=Q4<|lg.extract 0<|Ee lg fo keep;have fin:∀n:Int,n=(Ee lg fo keep:Int)->(if(U (0<=n)&&U (n<=(lg.size:Int))) then(Lg ((lg.extract (0)<|AJ n),())).bind λr9=>
    (if(U (0<=r9.1.2.1)&&U (r9.1.2.1<=(lg.size:Int))) then I (((lg.extract (0)<|AJ r9.1.2.1,r9.1.2),()),()) else G) else G)=
    I ((((lg.extract 0<|Ee lg fo keep).extract 0 (D6<|lg.extract 0<|Ee lg fo keep).2,((D6<|lg.extract 0<|Ee lg fo keep).2:Int),()),()),()):=by
   rintro n rfl;have hc:Ee lg fo keep<=lg.size:=by unfold Ee;omega
   rw[A5 y8,Bc,Va J];simp only[A6,Bc];rw[A5 y8,axY (a:=Ee lg fo keep) J hc]
  obtain h3|h3:=tf (U<|(lg.size:Int) - fo<keep)<;>simp only[h3,A2,A4,Bk]
  .have h3:=BW h3;obtain h4|h4:=tf (U<|(0:Int)<(lg.size:Int) - fo)<;>simp only[h4,A2,A4,Bk]
   .have h4:=BW h4;rw[AU (n:=fo+((lg.size:Int) - fo)) J J];exact fin _ (by unfold Ee;omega)
   .have h4:=JV h4;exact fin _ (by unfold Ee;omega)
  .have h3:=JV h3;obtain h4|h4:=tf (U<|0<keep)<;>simp only[h4,A2,A4,Bk]
   .have h4:=BW h4;rw[AU (n:=fo+keep) J J];exact fin _ (by unfold Ee;omega)
   .have h4:=JV h4;exact fin _ (by unfold Ee;omega)
 .simp only[e,AH,A4,A2]
def Ff(rs:List A1):Bool:=rs.all rOk
def JQ(lg:A1)(fo:Int)(rs:List A1):(A1×Int)×Bool:=
 if DP lg fo then(if Ff rs&&U ((D7 rs).size<=2400) then((D7 rs,((D7 rs).size:Int)),Y) else((lg,fo),A0)) else((noB,0),A0)
def aaj{r:A1}(h:rOk r=Y):1<=r.size/\r.size<=60:=by
 have:=Aa.1 h;omega
def aGA(pre:List A1)(r:A1):B (cat<|pre++[r])=B (cat pre)++CY r:=by
 apply Fu;rw[GG,L_B,L_B,Ks,I1,Jv,CE]
abbrev zS:A1×Int×D:=(noB,0,())
def au4{sl:A1×Int×D}(post:List A1):∀(pre:List A1),(pre++post).length<=1048576->(cat pre).length<=69 * pre.length->
  (Rl (sl,zS,B<|cat pre,pre++post,((pre++post).length:Int),(j8 pre:Int),())=I (.inl (sl,A0,()))/\(Ff post=A0\/2400<(cat<|pre++post).length))\/
  (Rl (sl,zS,B<|cat pre,pre++post,((pre++post).length:Int),(j8 pre:Int),())=I (.inr (sl,zS,B<|cat<|pre++post,()))/\Ff post=Y):=by
 induction post with
 | nil=>
  intro pre _ _;refine NV ⟨BC ?_,rfl⟩;unfold Rt;simp only[CE,show U ((j8 pre:Int)<(j8 pre:Int))=A0 from BH J,A4]
 | cons r post ih=>
  intro pre hl hc;have hlen:pre.length<(pre++r::post).length:=by simp
  have hw:=Dg hlen hl;have hb:(U<|(j8 pre:Int)<((pre++r::post).length:Int))=Y:=AR J;by_cases h:rOk r=Y/\(cat pre).length<=2400
  .have hz:=aaj h.1;have hs:=QA (r:=r) J;have Md:Rt (sl,zS,B<|cat pre,pre++r::post,((pre++r::post).length:Int),(j8 pre:Int),())=I (.inl (sl,zS,B<|cat<|pre++[r],(pre++[r])++post,(((pre++[r])++post).length:Int),((pre++[r]).length:Int),())):=by
    unfold Rt;simp only[hb,A2,AY hlen,NE,jn,A6,h.1,AB,Bn];rw[A9 (by rw[BP];exact λg=>absurd (BW g) J),aB3 (r:=r) J];simp only[A6];rw[A5<|AR (by rw[BP];omega),hw,aGA,@Am _ pre [r],← snoc];rfl
   have hc2:(cat<|pre++[r]).length<=69 * (pre++[r]).length:=by
    rw[Ks,I1,Jv,CE,Am,Ax,Am,KH];omega
   have e:Ff (r::post)=Ff post:=by
    unfold Ff;rw[P0,h.1,AS]
   rw[e];rcases ih (pre++[r]) (by rw[← snoc];exact hl) hc2 with⟨h1,h2⟩|⟨h1,h2⟩
   .rw[← snoc]at h2;exact NX ⟨At Md h1,h2⟩
   .refine NV ⟨?_,h2⟩;rw[snoc];rw[← snoc]at Md ⊢;rw[snoc pre r post]at Md ⊢;exact At Md h1
  .refine NX ⟨BC ?_, ?_⟩
   .unfold Rt;simp only[hb,A2,AY hlen,NE,jn,A6];rw[A5];obtain e|e:=tf (rOk r)
    .rw[e,AB,Bn];refine AR ?_;rw[BP];have:¬(cat pre).length<=2400:=λg=>h ⟨e,g⟩;omega
    .rw[e];rfl
   .rcases tf (rOk r) with e|e
    .have:¬(cat pre).length<=2400:=λg=>h ⟨e,g⟩;refine NV ?_;rw[Ks,Am];omega
    .refine NX ?_;unfold Ff;rw[P0,e,AO]
def atL{sl:A1×Int×D}(post:List A1):∀(pre:List A1),(pre++post).length<=1048576->(cat pre).length<=69 * pre.length->
  cC (pre++post,sl,zS,B<|cat pre,(j8 pre:Int),())=I (if Ff post then .inr (sl,zS,B<|cat<|pre++post,()) else .inl (sl,A0,())):=by
 induction post with
 | nil=>
  intro pre _ _;refine BC ?_;unfold Rp;simp only[CE,show U ((j8 pre:Int)<(j8 pre:Int))=A0 from BH J,A4];rfl
 | cons r post ih=>
  intro pre hl hc;have hlen:pre.length<(pre++r::post).length:=by simp
  have hw:=Dg hlen hl;have hb:(U<|(j8 pre:Int)<((pre++r::post).length:Int))=Y:=AR J;obtain h|h:=tf (rOk r)
  .have hz:=aaj h;have hs:=QA (r:=r) J;have Md:Rp (pre++r::post,sl,zS,B<|cat pre,(j8 pre:Int),())=I (.inl ((pre++[r])++post,sl,zS,B<|cat<|pre++[r],((pre++[r]).length:Int),())):=by
    unfold Rp;simp only[hb,A2,AY hlen,NE,jt,A6,h,AB,A4];rw[gk (r:=r) J];simp only[A6];rw[A5<|AR (by rw[BP];simp at hl;omega),hw,aGA,@Am _ pre [r],← snoc];rfl
   have hc2:(cat<|pre++[r]).length<=69 * (pre++[r]).length:=by
    rw[Ks,I1,Jv,CE,Am,Ax,Am,KH];omega
   have e:Ff (r::post)=Ff post:=by
    unfold Ff;rw[P0,h,AS]
   rw[e];have:=ih (pre++[r]) (by rw[← snoc];exact hl) hc2;rw[snoc pre r post];rw[snoc pre r post]at Md;exact At Md this
  .refine BC ?_;unfold Rp;simp only[hb,A2,AY hlen,NE,jt,A6,h,AH];rw[A9 (by unfold Ff;rw[P0,h,AO];exact CF)]
def mG{lg:A1}{fo:Int}(rs:List A1)(s:(((A1×Int×D)×Bool×D) ⊕ ((A1×Int×D)×(A1×Int×D)×A1×D)))
  (h:(s= .inl ((lg,fo,()),A0,())/\(Ff rs&&U ((D7 rs).size<=2400))=A0)\/(s= .inr ((lg,fo,()),zS,D7 rs,())/\Ff rs=Y)):
  AP (I s) (λy28=>I (y28,())) (λy28=>(if(U<|2400<(y28.2.2.1.size:Int)) then I ((y28.1,A0,()),()) else I (((y28.2.2.1,(y28.2.2.1.size:Int),()),Y,()),())))=
   I ((((if Ff rs&&U ((D7 rs).size<=2400) then((D7 rs,((D7 rs).size:Int)),Y) else((lg,fo),A0)).1.1,(if Ff rs&&U ((D7 rs).size<=2400) then((D7 rs,((D7 rs).size:Int)),Y) else((lg,fo),A0)).1.2,()),(if Ff rs&&U ((D7 rs).size<=2400) then((D7 rs,((D7 rs).size:Int)),Y) else((lg,fo),A0)).2,()),()):=by
 obtain⟨rfl,h⟩|⟨rfl,h⟩:=h
 .rw[h];rfl
 .simp only[AP,A6];by_cases h2:(D7 rs).size<=2400
  .rw[A9 y8,h,AR h2];rfl
  .rw[A5<|AR J,h,BH h2];rfl
def yF{lg:A1}{fo:Int}{rs:List A1}(hl:lg.size<=1048576)(hr:rs.length<=1048576):
  S1 ((lg,fo,()),rs,())=I ((((JQ lg fo rs).1.1,(JQ lg fo rs).1.2,()),(JQ lg fo rs).2,()),()):=by
 unfold S1 JQ;simp only[WO hl,A6];obtain e|e:=tf (DP lg fo)
 .simp only[e,AB,A4,A2];rcases au4 (sl:=(lg,fo,())) rs [] hr (by simp[Jv]) with⟨h1,h2⟩|⟨h1,h2⟩
  .rw[show Rl ((lg,fo,()),(noB,0,()),noB,rs,(j8 rs:Int),0,())=_ from h1];refine mG rs _<|NX ⟨rfl, ?_⟩;obtain h2|h2:=h2
   .rw[h2];rfl
   .rw[BH,BX];show ¬(B<|cat rs).size<=2400;rw[BP];exact Nat.not_le.2 h2
  .rw[show Rl ((lg,fo,()),(noB,0,()),noB,rs,(j8 rs:Int),0,())=_ from h1];exact mG rs _ (NV ⟨rfl,h2⟩)
 .simp only[e,AH,A4,A2]
def xB{lg:A1}{fo:Int}{rs:List A1}(hl:lg.size<=1048576)(hr:rs.length<=1048576):
  Rw ((lg,fo,()),rs,())=I ((((JQ lg fo rs).1.1,(JQ lg fo rs).1.2,()),(JQ lg fo rs).2,()),()):=by
 unfold Rw JQ;simp only[WZ hl,A6];obtain e|e:=tf (DP lg fo)
 .simp only[e,AB,A4,A2];have h1:=atL (sl:=(lg,fo,())) rs [] hr (by simp[Jv]);rw[show cC (rs,(lg,fo,()),(noB,0,()),noB,0,())=_ from h1];refine mG rs _ ?_;obtain h2|h2:=tf (Ff rs)
  .exact NV ⟨A5 h2,h2⟩
  .exact NX ⟨A9 (by rw[h2];exact CF),by rw[h2];rfl⟩
 .simp only[e,AH,A4,A2]
def ZF{β:Type}(f:A3->β){l:List A3}{i:Nat}(h:i<l.length):(l.take<|i+1).map f=(l.take i).map f++[f (nA l i)]:=by
 rw[My h,Eg,DT<|Av h];rfl
def aGj{β:Type}(f:Mark->β){l:List Mark}{i:Nat}(h:i<l.length):(l.take<|i+1).map f=(l.take i).map f++[f (mA l i)]:=by
 rw[My h,Eg,Fa<|Av h];rfl
def Fo{α:Type}{l m:List α}(hl:l.length<=1048576)(hm:m.length<=1048576):Ab (l.length+m.length)=Y:=BD J
def aS{n:A3}(h:Aw n=Y):(wr n).size<=4000:=by have:=R6 h;omega
def QT{n:A3}(h:Aw n=Y):n.tx.size<=1048576:=by
 have h2:=R6 h;by_cases hs:n.tx.size<=1048576
 .exact hs
 .exfalso;unfold Aw at h;simp only[AE]at h;have hx:LN n.tx=Y:=by simp_all
  unfold LN at hx;rw[AE]at hx;have:=Aa.1 hx.1;omega
def nw{n:A3}(h:Aw n=Y):(if Aw ⟨n.fr,n.nu,n.to,n.un,n.tx⟩ then wr ⟨n.fr,n.nu,n.to,n.un,n.tx⟩ else noB)=wr n:=by
 rw[show(⟨n.fr,n.nu,n.to,n.un,n.tx⟩:A3)=n from rfl,A5 h]
def HE{n:Int}(h0:0<=n)(h1:n<=999):(BM n).size<=3:=OV h0 3 J J
def td{w:A1}{a b c:Int}(hw:w.size<=1048576)(ha:0<=a/\a<=999)(hb:0<=b/\b<=999)(hc:0<=c/\c<=999):Pg (w,a,b,c,())=I ((Cc w a b c,()),()):=by
 have h1:=HE ha.1 ha.2;have h2:=HE hb.1 hb.2;have h3:=HE hc.1 hc.2;unfold Pg;simp only[JM (n:=a) J J,JM (n:=b) J J,JM (n:=c) J J,A6];rw[A5<|AR (by simp[BP];omega),A5<|AR (by simp[Bf,BP];omega),A5<|AR (by simp[Bf,BP];omega),A5<|AR (by simp[Bf,BP];omega),A5<|AR (by simp[Bf,BP];omega),A5<|AR (by simp[Bf,BP];omega)];rfl
def IY{i n:Nat}(h:i<n):U ((i:Int)<(n:Int))=Y:=AR J
def Gy(n:Nat):U ((n:Int)<(n:Int))=A0:=BH J
section
variable {k:AL} (hf:Ei k)
include hf
def arf(o:List A1)(ho:o.length<=100):
  cM (tK k,o,k.marks,(j8 k.marks:Int),0,())=I (.inr (tK k,o++k.marks.map λm=>Cc D5 m.mf m.mn m.mu,())):=by
 have ml:=hf.ml;refine LM (congrArg _ ?_) (CX (λi=>(tK k,o++(k.marks.take i).map (λm=>Cc D5 m.mf m.mn m.mu),k.marks,(j8 k.marks:Int),(i:Int),())) k.marks.length ?_ ?_)
 .simp
 .intro i hi;have hm:=Oa<|Su hf.m hi;unfold dq;simp only[IY hi,A2,AY hi,FD,td (w:=D5) aHd (J:0<=(mA k.marks i).mf/\(mA k.marks i).mf<=999) (J:0<=(mA k.marks i).mn/\(mA k.marks i).mn<=999) (J:0<=(mA k.marks i).mu/\(mA k.marks i).mu<=999),A6];rw[A5<|Fo y8 aG9,aGj _ hi,Dg hi J,C7]
 .unfold dq;simp only[Gy,A4,EG]
def are(o:List A1)(ho:o.length<=200):
  cL (tK k,o,k.held,(j8 k.held:Int),0,())=I (.inr (tK k,o++k.held.map M3,())):=by
 have hl:=hf.hl;refine LM (congrArg _ ?_) (CX (λi=>(tK k,o++(k.held.take i).map M3,k.held,(j8 k.held:Int),(i:Int),())) k.held.length ?_ ?_)
 .simp
 .intro i hi;have hm:=Gx hf.h hi;have hz:=aS hm;unfold dp;simp only[IY hi,A2,AY hi,DQ,Vj<|QT hm,nw hm,A6];rw[A5<|AR (by rw[BP];simp;omega),A5<|Fo y8 aG9,ZF _ hi,Dg hi J,C7];rfl
 .unfold dp;simp only[Gy,A4,EG]
def ard(o:List A1)(ho:o.length<=200):
  bj (o,k.inbox,(j8 k.inbox:Int),0,())=I (.inr (o++k.inbox.map N3,())):=by
 have il:=hf.il;refine LM (congrArg _ ?_) (CX (λi=>(o++(k.inbox.take i).map N3,k.inbox,(j8 k.inbox:Int),(i:Int),())) k.inbox.length ?_ ?_)
 .simp
 .intro i hi;have hm:=Gx hf.i hi;have hz:=aS hm;unfold dm;simp only[IY hi,A2,AY hi,DQ,Vj<|QT hm,nw hm,A6];rw[A5<|AR (by rw[BP];simp;omega),A5<|Fo y8 aG9,ZF _ hi,Dg hi J,C7];rfl
 .unfold dm;simp only[Gy,A4,EG]
def arw(o:List A1)(ho:o.length<=100):
  bz (tK k,o,0,())=I (.inr (tK k,o++k.marks.map λm=>Cc D5 m.mf m.mn m.mu,())):=by
 have ml:=hf.ml;refine LM (congrArg _ ?_) (CX (λi=>(tK k,o++(k.marks.take i).map (λm=>Cc D5 m.mf m.mn m.mu),(i:Int),())) k.marks.length ?_ ?_)
 .simp
 .intro i hi;have hm:=Oa<|Su hf.m hi;have h1:=HE (n:=(mA k.marks i).mf) J J;have h2:=HE (n:=(mA k.marks i).mn) J J;have h3:=HE (n:=(mA k.marks i).mu) J J;unfold eJ;simp only[IY hi,A2,AY hi,FD,FV (n:=(mA k.marks i).mf) J J,FV (n:=(mA k.marks i).mn) J J,FV (n:=(mA k.marks i).mu) J J,A6];rw[A5<|AR (by simp[Bf,BP];omega),A5<|AR (by simp[Bf,BP];omega),A5<|AR (by simp[Bf,BP];omega),A5<|AR (by simp[Bf,BP];omega),A5<|AR (by simp[Bf,BP];omega)];rw[A5<|Fo y8 aG9,aGj _ hi,Dg hi J,C7];rfl
 .unfold eJ;simp only[Gy,A4,EG]
def arv(o:List A1)(ho:o.length<=200):
  bw (tK k,o,0,())=I (.inr (tK k,o++k.held.map M3,())):=by
 have hl:=hf.hl;refine LM (congrArg _ ?_) (CX (λi=>(tK k,o++(k.held.take i).map M3,(i:Int),())) k.held.length ?_ ?_)
 .simp
 .intro i hi;have hm:=Gx hf.h hi;have hz:=aS hm;unfold eH;simp only[IY hi,A2,AY hi,DQ,Rx<|QT hm,nw hm,A6];rw[A5<|AR (by rw[BP];simp;omega),A5<|Fo y8 aG9,ZF _ hi,Dg hi J,C7];rfl
 .unfold eH;simp only[Gy,A4,EG]
def aru(o:List A1)(ho:o.length<=200):
  bu (tK k,o,0,())=I (.inr (o++k.inbox.map N3,())):=by
 have il:=hf.il;refine LM (congrArg _ ?_) (CX (λi=>(tK k,o++(k.inbox.take i).map N3,(i:Int),())) k.inbox.length ?_ ?_)
 .simp
 .intro i hi;have hm:=Gx hf.i hi;have hz:=aS hm;unfold eG;simp only[IY hi,A2,AY hi,DQ,Rx<|QT hm,nw hm,A6];rw[A5<|AR (by rw[BP];simp;omega),A5<|Fo y8 aG9,ZF _ hi,Dg hi J,C7];rfl
 .unfold eG;simp only[Gy,A4,EG]
def QV:DX k.held k.marks k.inbox:=by
 have hl:=hf.hl;have ml:=hf.ml;have il:=hf.il;refine⟨J,λx hx=> ?_,J,J,λx hx=> ?_⟩
 .obtain⟨i,hi,rfl⟩:=Cz hx;have:=Gx hf.h hi;rw[DT<|Av hi]at this;exact QT this
 .obtain⟨i,hi,rfl⟩:=Cz hx;have:=Gx hf.i hi;rw[DT<|Av hi]at this;exact QT this
def aop:(AP (cM (tK k,(if 0<k.ti then [FX k.ti] else [])++(if 1<k.nx then [L3 k.nx] else []),k.marks,(j8 k.marks:Int),0,()))
  (λ_=>G)
  (λy34=>(AP (cL (y34.1,y34.2.1,y34.1.2.2.2.1,(j8 y34.1.2.2.2.1:Int),0,()))
  (λ_=>G)
  (λy72=>(AP (bj (y72.2.1,y72.1.2.2.2.2.2.1,(j8 y72.1.2.2.2.2.2.1:Int),0,()))
  (λ_=>G)
  (λpj=>(Rk pj).bind λqD=>
  I (qD.1,())))))))=I ((CG k,()),()):=by
 have hl:=hf.hl;have ml:=hf.ml;have il:=hf.il;have ho:((if 0<k.ti then [FX k.ti] else [])++(if 1<k.nx then [L3 k.nx] else [])).length<=2:=by
  rw[Am];split<;>split<;>simp
 rw[arf hf _ J];simp only[AP,A6];rw[are hf _ (by rw[Am,De];omega)];simp only[A6];rw[ard hf _ (by rw[Am,Am,De,De];omega)];simp only[A6];rw[qd (by rw[Am,Am,Am,De,De,De];omega)];rfl
def apG:(AP (bz (tK k,(if 0<k.ti then [FX k.ti] else [])++(if 1<k.nx then [L3 k.nx] else []),0,()))
  (λ_=>G)
  (λy46=>(AP (bw (y46.1,y46.2.1,0,()))
  (λ_=>G)
  (λy54=>(AP (bu (y54.1,y54.2.1,0,()))
  (λ_=>G)
  (λy62=>I (y62,())))))))=I ((CG k,()),()):=by
 have hl:=hf.hl;have ml:=hf.ml;have il:=hf.il;have ho:((if 0<k.ti then [FX k.ti] else [])++(if 1<k.nx then [L3 k.nx] else [])).length<=2:=by
  rw[Am];split<;>split<;>simp
 rw[arw hf _ J];simp only[AP,A6];rw[arv hf _ (by rw[Am,De];omega)];simp only[A6];rw[aru hf _ (by rw[Am,Am,De,De];omega)];rfl
end
def yo{k:AL}(sm:DX k.held k.marks k.inbox):W0 (tK k,())=I ((if Au k then CG k else [],()),()):=by
 unfold W0;rw[jN sm];simp only[A6];obtain e|e:=tf (Au k)
 .have hf:=C2 e;have t0:=hf.t0;have t1:=hf.t1;have n0:=hf.n0;have n1:=hf.n1;have e2:Au ⟨k.id,k.ti,k.nx,k.held,k.marks,k.inbox⟩=Y:=e;have d1:=HE t0 J;have d2:=HE (n:=k.nx) J J;have fin:=aop hf;simp only[e,e2,AB,A4,A2,JM (n:=k.ti) J J,JM (n:=k.nx) J J,A6];have h5:U ((B [116,105,109,101,32]).size+(BM k.ti).size<=4611686018427387904)=Y:=AR (by rw[BP];simp;omega);have h6:U ((B [110,101,120,116,32]).size+(BM k.nx).size<=4611686018427387904)=Y:=AR (by rw[BP];simp;omega);have q1:∀a:A1,Ab ([a]:List A1).length=Y:=λ_=>rfl;have q2:∀a b:A1,Ab (([a]:List A1).length+([b]:List A1).length)=Y:=λ_ _=>rfl;have q3:∀b:A1,Ab (([]:List A1).length+([b]:List A1).length)=Y:=λ_=>rfl;have q4:∀a b:A1,Ab ((([]:List A1)++[a]).length+([b]:List A1).length)=Y:=λ_ _=>rfl;by_cases h1:0<k.ti<;>by_cases h2:1<k.nx<;>simp only[h1,h2,AW,Ad,A2,A4,if_false]at fin ⊢ <;>simp only[Bk,h2,AW,Ad,A2,A4,h5,h6,q1,q2,q3,q4,JM (n:=k.nx) J J,FV (n:=k.nx) J J,A6]<;>exact fin
 .have e2:Au ⟨k.id,k.ti,k.nx,k.held,k.marks,k.inbox⟩=A0:=e;simp only[e,e2,AH,A4,A2]
def yS{k:AL}(sm:DX k.held k.marks k.inbox):WA (tK k,())=I ((if Au k then CG k else [],()),()):=by
 unfold WA;rw[jC sm];simp only[A6];obtain e|e:=tf (Au k)
 .have hf:=C2 e;have t0:=hf.t0;have t1:=hf.t1;have n0:=hf.n0;have n1:=hf.n1;have e2:Au ⟨k.id,k.ti,k.nx,k.held,k.marks,k.inbox⟩=Y:=e;have d1:=HE t0 J;have d2:=HE (n:=k.nx) J J;have fin:=apG hf;simp only[e,e2,AB,A4,A2,FV (n:=k.ti) J J,FV (n:=k.nx) J J,A6];have h5:U ((B [116,105,109,101,32]).size+(BM k.ti).size<=4611686018427387904)=Y:=AR (by rw[BP];simp;omega);have h6:U ((B [110,101,120,116,32]).size+(BM k.nx).size<=4611686018427387904)=Y:=AR (by rw[BP];simp;omega);have q1:∀a:A1,Ab ([a]:List A1).length=Y:=λ_=>rfl;have q2:∀a b:A1,Ab (([a]:List A1).length+([b]:List A1).length)=Y:=λ_ _=>rfl;have q3:∀b:A1,Ab (([]:List A1).length+([b]:List A1).length)=Y:=λ_=>rfl;have q4:∀a b:A1,Ab ((([]:List A1)++[a]).length+([b]:List A1).length)=Y:=λ_ _=>rfl;by_cases h1:0<k.ti<;>by_cases h2:1<k.nx<;>simp only[h1,h2,AW,Ad,A2,A4,if_false]at fin ⊢ <;>simp only[Bk,h2,AW,Ad,A2,A4,h5,h6,q1,q2,q3,q4,JM (n:=k.nx) J J,FV (n:=k.nx) J J,A6]<;>exact fin
 .have e2:Au ⟨k.id,k.ti,k.nx,k.held,k.marks,k.inbox⟩=A0:=e;simp only[e,e2,AH,A4,A2]
end Go.VS
namespace Go.VS
open Go
def aaZ{l:List AQ}{m:AQ}(h:m∈l):∃i,i<l.length/\xA l i=m:=by
 obtain⟨i,hi,rfl⟩:=Zo.1 h;exact⟨i,hi,by rw[xA,BG,Av hi];rfl⟩
def Oo{l:List AD}{m:AD}(h:m∈l):∃i,i<l.length/\hA l i=m:=by
 obtain⟨i,hi,rfl⟩:=Zo.1 h;exact⟨i,hi,by rw[hA,BG,Av hi];rfl⟩
def awQ{h:AD}(ok:Fs h=Y):Oh h:=by
 unfold Fs at ok;simp only[AE]at ok;have h1:=BW ok.2.2.2.2.2.1;have h2:=Cq.1 ok.2.2.2.2.2.2;refine⟨J,λm hm=> ?_⟩;obtain⟨i,hi,rfl⟩:=aaZ hm;have:=h2 i hi;unfold IA at this;simp only[AE]at this;have:=BW this.1.2;show(xA h.got i).da.size<=1048576;omega
def D0{k:A7}(h:Ae k=Y):F5 k:=by
 have hf:=E7 h;have hr:=Q2 hf.sh;have hl:=hf.hl;refine⟨J,J,λx hx=> ?_⟩;obtain⟨i,hi,rfl⟩:=Oo hx;have:=hf.hv i hi;unfold Fe at this;rw[AE]at this;exact awQ this.1
def afe{l:List AD}(hl:l.length<=1048576):rb (l,())=I ((l,()),()):=Lz hl
def aet{l:List AQ}(hl:l.length<=1048576):rD (l,())=I ((l,()),()):=Lz hl
def MH(l:List AD)(i:Nat): @rd AD aHa l (i:Int)=hA l i:=rfl
def Hc{l:List AD}{i:Nat}(h:i<l.length):hA l i=l[i]:=by
 rw[hA,BG,Av h];rfl
def Ke{k:A7}(sm:F5 k):Hy (tKp k,())=I ((tKp k,()),()):=by
 obtain⟨id,up,lg,fo,hv⟩:=k;obtain⟨sl,hl,hs⟩:=sm;simp only at sl hl hs;unfold Hy;simp only[afe hl,A6];have h:qY ((0,A0,noB,0,[],()),(id,up,lg,fo,hv,()),(j8 hv:Int),0,())=I (.inr ((0,A0,noB,0,[],()),(id,up,lg,fo,hv,()),())):=by
  refine CX (λi=>((0,A0,noB,0,[],()),(id,up,lg,fo,hv,()),(j8 hv:Int),(i:Int),())) hv.length ?_ ?_
  .intro i hi;unfold cr;have hg:(hA hv i).got.length<=1048576:=by rw[Hc hi];exact(hs _<|Ci hi).1
   simp only[IY hi,A2,AY hi,MH,aet hg,A6,Bc];rw[Dg hi hl,show(⟨(hA hv i).fr,(hA hv i).nu,(hA hv i).to,(hA hv i).un,(hA hv i).sz,(hA hv i).got⟩:AD)=hA hv i from rfl,Hc hi,List.set_getElem_self]
  .unfold cr;simp only[Gy,A4]
 rw[h];rfl
def Lj{k:A7}(sm:F5 k):G4 (tKp k,())=I ((tKp k,()),()):=by
 obtain⟨id,up,lg,fo,hv⟩:=k;obtain⟨sl,hl,hs⟩:=sm;simp only at sl hl hs;unfold G4;have h:rI ((id,up,lg,fo,hv,()),(0,A0,noB,0,[],()),[],0,())=I (.inr ((id,up,lg,fo,hv,()),(0,A0,noB,0,[],()),hv,())):=by
  refine CX (λi=>((id,up,lg,fo,hv,()),(0,A0,noB,0,[],()),hv.take i,(i:Int),())) hv.length ?_ ?_
  .intro i hi;unfold eY;have hg:(hA hv i).got.length<=1048576:=by rw[Hc hi];exact(hs _<|Ci hi).1
   have e1:Ab (([]:List AQ).length+(hA hv i).got.length)=Y:=Fo aG9 hg;have e2:∀h:AD,Ab ((hv.take i).length+([h]:List AD).length)=Y:=λh=>Fo y8 aG9;simp only[IY hi,A2,AY hi,MH,EV,e1,e2];rw[Dg hi hl,My hi,← Hc hi]
  .unfold eY;simp only[Gy,A4,EG]
 rw[h];rfl
structure Hu (k:A7) (st:AL):Prop where
 sh:DP k.log k.fo=Y
 st:DF k.id k.log=I st
def DE.LX{k:A7}{st:AL}(h:DE k st):Hu k st:=⟨(E7 h.ok).sh,h.st⟩
def Hu.kok{k:A7}{st:AL}(h:Hu k st):Au st=Y:=T5 h.st
def Hu.sz{k:A7}{st:AL}(h:Hu k st):k.log.size<=1048576:=by have:=Q2 h.sh;omega
def Hu.stT{k:A7}{st:AL}(h:Hu k st):Go.VS.stT k=st:=by
 unfold Go.VS.stT;rw[h.st];rfl
def QI{k:AL}(hk:Au k=Y):(D7<|CG k).size<=800:=by
 have:=(XC hk).2;unfold D7;rw[BP];exact this
def YZ{k:AL}(hk:Au k=Y):(CG k).length<=1048576:=by
 have hf:=C2 hk;have h1:=hf.hl;have h2:=hf.ml;have h3:=hf.il;unfold CG;simp only[Am,De];have a2:(if 0<k.ti then [FX k.ti] else []).length<=1:=by split<;>simp
 have b2:(if 1<k.nx then [L3 k.nx] else []).length<=1:=by split<;>simp
 omega
def TY{k:A7}{st o:AL}{r:A1}(h:Hu k st)(hr:BO st r=I o):
  DP (D2 st k.log k.fo r).1 (D2 st k.log k.fo r).2=Y/\
  (IE k.log k.fo r=(D2 st k.log k.fo r,Y)\/
   (IE k.log k.fo r=((k.log,k.fo),A0)/\JQ k.log k.fo (CG st)=((D7<|CG st,((D7<|CG st).size:Int)),Y)/\
    IE (D7<|CG st) ((D7<|CG st).size:Int) r=(D2 st k.log k.fo r,Y))):=by
 have hz:=mC h.kok hr;have hrk:rOk r=Y:=Aa.2 J;have hrs:=XC h.kok;have hps:=QI h.kok;have hpo:=(QS h.kok).pf;have hst:=Mz hz.2;obtain⟨rs,ts,hl⟩:=abY h.sh;obtain⟨rs',ts',hl',_⟩:=aaH (id:=k.id) (k:=st) hl (by rw[← hl.state];exact h.st) hr;refine⟨hl'.pf, ?_⟩;unfold D2 IE;rw[A5 h.sh,hrk,AS];by_cases hc:k.log.size+(CY r).size<=2400
 .rw[A5 hc,A5<|AR hc];exact .inl rfl
 .rw[A9 hc,A9 (by rw[BH hc];exact CF)];refine .inr ⟨rfl, ?_, ?_⟩
  .unfold JQ;rw[A5 h.sh,A5];rw[AE];refine⟨?_,AR J⟩;unfold Ff;rw[DB];exact λx hx=>by
    have:=hrs.1 x hx;exact Aa.2 J
  .rw[A5 hpo,AS,A5<|AR J]
def wrR(k:A7)(r:A1)(f:Bool):A7×Bool:=
 match BO (stT k) r with
 | none=>(k,A0)
 | some _=>(if f then foM (wrM k r) else wrM k r,Y)
def aE4{k:AL}{r:A1}:(FJ k r).2=(BO k r).isSome:=by
 unfold BO;obtain e|e:=tf (FJ k r).2<;>rw[e]<;>rfl
def aor{k:AL}(hk:Au k=Y){r:A1}(hr:r.size<=1048576):SP (tK k,r,())=I ((tK (FJ k r).1,(FJ k r).2,()),()):=aAw (QV<|C2 hk) hr
def aq8{k:AL}(hk:Au k=Y){r:A1}(hr:r.size<=1048576):SX (tK k,r,())=I ((tK (FJ k r).1,(FJ k r).2,()),()):=aB9 (QV<|C2 hk) hr
def axK{k:A7}{st o:AL}{r:A1}(h:Hu k st)(hr:BO st r=I o):Iu (D2 st k.log k.fo r).1 (D2 st k.log k.fo r).2=((D2 st k.log k.fo r).1,((D2 st k.log k.fo r).1.size:Int)):=by
 unfold Iu;rw[A5 (TY h hr).1]
def W6{k:A7}{st:AL}(h:Hu k st){r:A1}(hr:r.size<=1048576)(f:Bool):Kc (tKp k,r,f,())=I ((tKp (wrR k r f).1,(wrR k r f).2,()),()):=by
 have hs:=h.sz;have hk:=h.kok;have hsm:=QV<|C2 hk;have hrl:=YZ hk;have hpz:=QI hk;unfold Kc wrR;rw[h.stT];rw[show FA (tKp k,())=I ((tK<|(DF k.id k.log).getD zK,(DF k.id k.log).isSome,()),()) from Sk hs];rw[h.st];simp only[A6,Dd,aor hk hr,aE4];cases hc:BO st r with
 | none=>rfl
 | some o=>
  have hL:=axK h hc;have hwr:wrM k r=⟨k.id,k.up,(D2 st k.log k.fo r).1,(D2 st k.log k.fo r).2,k.AG⟩:=by unfold wrM;rw[h.stT]
  have hsz:(D2 st k.log k.fo r).1.size<=1048576:=by have:=Q2 (TY h hc).1;omega
  have hF:=dI (lg:=(D2 st k.log k.fo r).1) (fo:=(D2 st k.log k.fo r).2) hsz;rw[hL]at hF;simp only[Dk,AB,A4,tz hs hr,A6];have fin:BU (X:=Bool×(Int×Bool×A1×Int×List AD×D)×(Int×Bool×A1×Int×List AD×D)×(A1×Int×D)×Bool×D) (λj7=>
    (if(!j7.2.2.2.2.1) then
    I ((j7.2.1,A0,()),())
    else
    (if j7.1 then
    (Nu (j7.2.2.2.1,())).bind λr12=>
    I (((j7.2.1.1,j7.2.1.2.1,r12.1.1.1,r12.1.1.2.1,j7.2.1.2.2.2.2),Y,()),())
    else
    I (((j7.2.1.1,j7.2.1.2.1,j7.2.2.2.1.1,j7.2.2.2.1.2.1,j7.2.1.2.2.2.2),Y,()),())))) (I<|.inr (f,tKp k,(0,A0,noB,0,[],()),((D2 st k.log k.fo r).1,(D2 st k.log k.fo r).2,()),Y,()))=
    I ((tKp<|if f then foM (wrM k r) else wrM k r,Y,()),()):=by
   rw[Bk,hwr];cases f
   .rfl
   .simp only[AB,A4,A2,hF,A6];rfl
  rcases(TY h hc).2 with ha|⟨ha,hb,hd⟩
  .rw[ha];simp only[AB,A4];exact fin
  .rw[ha];simp only[AH,A2,yS hsm,hk,A6];rw[show Rw ((k.log,k.fo,()),CG st,())=_ from xB hs hrl,hb];simp only[A6];rw[show O0 ((D7<|CG st,((D7<|CG st).size:Int),()),r,())=_ from tz J hr,hd];simp only[A6];exact fin
def XU{k:A7}{st:AL}(h:Hu k st){r:A1}(hr:r.size<=1048576):OF (tKp k,r,())=I ((tKp (wrR k r A0).1,(wrR k r A0).2,()),()):=by
 have hs:=h.sz;have hk:=h.kok;have hsm:=QV<|C2 hk;have hrl:=YZ hk;have hpz:=QI hk;unfold OF wrR;rw[h.stT];simp only[WL hs,h.st,A6,Dd,aq8 hk hr,aE4];cases hc:BO st r with
 | none=>rfl
 | some o=>
  have hwr:wrM k r=⟨k.id,k.up,(D2 st k.log k.fo r).1,(D2 st k.log k.fo r).2,k.AG⟩:=by unfold wrM;rw[h.stT]
  simp only[Dk,AB,A4,yl hs hr,A6];rcases(TY h hc).2 with ha|⟨ha,hb,hd⟩
  .rw[ha];simp only[AB,A4,Bk,hwr]
  .rw[ha];simp only[AH,A2,yo hsm,hk,A6];rw[show S1 ((k.log,k.fo,()),CG st,())=_ from yF hs hrl,hb];simp only[A6,AB,A4];rw[show SB ((D7<|CG st,((D7<|CG st).size:Int),()),r,())=_ from yl J hr,hd];simp only[A6,Bk,AB,A4,hwr]
def gY{k:A7}(h:DP k.log k.fo=Y):OA (tKp k,())=I ((tKp<|foM k,()),()):=by
 have hs:k.log.size<=1048576:=by have:=Q2 h;omega
 unfold OA;simp only[agf hs,A6];unfold Iu;rw[A5 h];rfl
def aab{k:A7}{st o:AL}{r:A1}(h:Hu k st)(hr:BO st r=I o):DP (wrM k r).log (wrM k r).fo=Y:=by
 have:=(TY h hr).1;unfold wrM;rw[h.stT];exact this
def gP{k:A7}{st:AL}(h:DE k st){r:A1}(hr:r.size<=1048576):O4 (tKp k,r,())=I ((tKp (wrR k r Y).1,(wrR k r Y).2,()),()):=by
 have hl:=h.LX;unfold O4;simp only[XU hl hr,A6];unfold wrR;rw[hl.stT];cases hc:BO st r with
 | none=>
  simp only[AH,A2,Ke<|D0 h.ok,A6]
 | some o=>
  simp only[AB,A4,A2];rw[gY<|aab hl hc];simp only[A6];have hsm:F5 (foM<|wrM k r):=D0 (Qc<|Tl h hc).ok;rw[show Hy (tKp<|foM<|wrM k r,())=_ from Ke hsm];rfl
abbrev zKp:A7:=⟨0,A0,noB,0,[]⟩
abbrev zN:A3:=⟨0,0,0,0,noB⟩
abbrev tN(n:A3):Int×Int×Int×Int×A1×D:=(n.fr,n.nu,n.to,n.un,n.tx,())
def QN{k:A7}(h:Ae k=Y):k.log.size<=1048576:=(D0 h).1
def Mw{k:A7}(h:Ae k=Y):FA (tKp k,())=I ((tK<|stT k,Y,()),()):=by
 have:=Sk (id:=k.id) (fo:=k.fo) (up:=k.up) (hv:=k.AG)<|QN h;rw[(E7 h).st]at this;exact this
def Mn{k:A7}(h:Ae k=Y):Gn (tKp k,())=I ((tK<|stT k,()),()):=by
 unfold Gn;rw[Jo<|D0 h];simp only[A6,h,AB,A4];rw[show Lk (k.id,k.log,())=_ from WL<|QN h,(E7 h).st];rfl
def aJ{w:A1}{n:A3}(hw:w.size<=10)(hn:Aw n=Y):(w++wr n).size<=1048576:=by
 have:=R6 hn;rw[Bf];omega
def FL(k:A7):A7×Bool:=if k.up then wrR k (FX<|(stT k).ti+1) Y else(k,A0)
def asY{st:AL}(hk:Au st=Y)(h:999<=st.ti):BO st (FX<|st.ti+1)=G:=by
 have hf:=C2 hk;have h1:=hf.t1;cases hc:BO st (FX<|st.ti+1) with
 | none=>rfl
 | some o=>
  exfalso;obtain⟨a,b⟩:=(IZ hk).1 hc;rw[Ij ko<|YC _]at a;have c:=kX (k:=st) (t:=st.ti+1) (by have:=hf.t0;omega) J J;rw[show B [116,105,109,101]=Ec from rfl,c]at a;injection a with a;have:=(C2 b).t1;rw[← a]at this;simp only at this;omega
def aCa{t:Int}(h0:0<=t)(h1:t<=1000):(FX t).size<=100:=by
 unfold FX;have:=OV h0 4 J J;rw[Bf,BP];simp;omega
def agO{k:A7}(h:Ae k=Y):VR (tKp k,())=I ((tKp (FL k).1,(FL k).2,()),()):=by
 have hk:=CQ h;have hf:=C2 hk.kok;have t0:=hf.t0;have t1:=hf.t1;have hz:=aCa (t:=(stT k).ti+1) J J;have hd:=OV (n:=(stT k).ti+1) J 4 J J;unfold VR FL;rw[Lm<|D0 h];simp only[A6,h,AB,A4,Mw h,Lj<|D0 h];obtain e|e:=tf k.up
 .simp only[e,AB,Bn,A2];rw[AU J J,FV J J];simp only[A6];by_cases hc:999<=(stT k).ti
  .rw[A5<|AR hc];unfold wrR;rw[asY hk.kok hc]
  .rw[A9 (by rw[BH hc];exact CF),A5<|AR (by rw[BP];simp;omega)];rw[show Kc (tKp k,B [116,105,109,101,32]++BM ((stT k).ti+1),Y,())=_ from W6 hk.LX (r:=FX<|(stT k).ti+1) J Y];rfl
 .simp only[e,AH,Bw,A2,A4]
def agh{k:A7}(h:Ae k=Y):VY (tKp k,())=I ((tKp (FL k).1,(FL k).2,()),()):=by
 have hk:=CQ h;have hf:=C2 hk.kok;have t0:=hf.t0;have t1:=hf.t1;have hz:=aCa (t:=(stT k).ti+1) J J;have hd:=OV (n:=(stT k).ti+1) J 4 J J;unfold VY FL;rw[Jo<|D0 h];simp only[A6,h,AB,A4,Mn h,Ke<|D0 h];obtain e|e:=tf k.up
 .simp only[e,AB,A4,A2];rw[AU J J,JM J J];simp only[A6];rw[A5<|AR (by rw[BP];simp;omega)];rw[show O4 (tKp k,B [116,105,109,101,32]++BM ((stT k).ti+1),())=_ from gP hk (r:=FX<|(stT k).ti+1) J];rfl
 .simp only[e,AH,A2,A4]
def L8(n:A3):A1:=B [111,119,110,32]++wr n
def Dq(k:A7)(tt un:Int)(tx:A1):A7×Int:=
 if k.up&&Aw ⟨k.id,(stT k).nx,tt,un,tx⟩ then
  ((wrR k (L8 ⟨k.id,(stT k).nx,tt,un,tx⟩) Y).1,if(wrR k (L8 ⟨k.id,(stT k).nx,tt,un,tx⟩) Y).2 then(stT k).nx else 0)
 else(k,0)
def oV{n:A3}:wr n≠noB:=by
 intro h;have h1:(wr n).size=0:=by rw[h];rfl
 unfold wr at h1;simp only[Bf,BP,Bm,CL]at h1;omega
def aCt:DG (B [])=G:=by
 unfold DG;split
 .rename_i h;obtain⟨n,_,h⟩:=h;exact absurd h oV
 .rfl
def aFQ:Cn [111,119,110]:=by unfold Cn;decide
def aDq:Cn [116,97,107,101]:=by unfold Cn;decide
def aCr{st:AL}{w:List UInt8}(hk:Au st=Y)(hw:Cn w)(h:B w=Dh\/B w=EN):BO st (B (w++[32])++noB)=G:=by
 cases hc:BO st (B (w++[32])++noB) with
 | none=>rfl
 | some o=>
  exfalso;obtain⟨a,_⟩:=(IZ hk).1 hc;rw[Ij (w:=w) (r:=[]) hw (by rw[GG,L_B];simp[L,noB])]at a;have h2:∀v,v=Dh\/v=EN->Bh st v (B [])=G:=by
   rintro v (rfl|rfl)
   .unfold Bh;rw[A9 aHd,A5 aHd,aCt]
   .unfold Bh;rw[A9 aHd,A5 aHd,aCt]
  rw[h2 _ h]at a;cases a
def aF2{k:A7}{r:A1}{f:Bool}(h:BO (stT k) r=G):wrR k r f=(k,A0):=by
 unfold wrR;rw[h]
def QQ{k:A7}{r:A1}{f:Bool}(h:(wrR k r f).2=A0):(wrR k r f).1=k:=by
 unfold wrR at h ⊢;split at h
 .rfl
 .cases h
def ahj{k:A7}(h:Ae k=Y)(tt un:Int){tx:A1}(ht:tx.size<=1048576):Vb (tKp k,tt,un,tx,())=I ((tKp (Dq k tt un tx).1,(Dq k tt un tx).2,()),()):=by
 have hk:=CQ h;unfold Vb Dq;rw[Lm<|D0 h];simp only[A6,h,AB,A4,Mw h,Lj<|D0 h,Rx ht];obtain e|e:=tf k.up
 .rcases tf (Aw ⟨k.id,(stT k).nx,tt,un,tx⟩) with e2|e2
  .have hz:=aJ (w:=B [111,119,110,32]) (by rw[BP];decide) e2;simp only[e,e2,AB,Bn,EY,A2];rw[A9 (by rw[BH oV];exact CF),A5<|AR (by rw[Bf]at hz;omega)];rw[show Kc (tKp k,B [111,119,110,32]++wr ⟨k.id,(stT k).nx,tt,un,tx⟩,Y,())=_ from W6 hk.LX (r:=L8 ⟨k.id,(stT k).nx,tt,un,tx⟩) hz Y];simp only[A6];obtain e3|e3:=tf (wrR k (L8 ⟨k.id,(stT k).nx,tt,un,tx⟩) Y).2
   .simp only[e3,AB,A4,A2]
   .simp only[e3,AH,A4,A2,QQ e3]
  .simp only[e,e2,AB,Bn,BX,A4,AW,A2]
 .simp only[e,AH,Bw,AO,A2,A4]
def aiG{k:A7}(h:Ae k=Y)(tt un:Int){tx:A1}(ht:tx.size<=1048576):Vk (tKp k,tt,un,tx,())=I ((tKp (Dq k tt un tx).1,(Dq k tt un tx).2,()),()):=by
 have hk:=CQ h;unfold Vk Dq;rw[Jo<|D0 h];simp only[A6,h,AB,A4,Mn h,Ke<|D0 h,Vj ht];obtain e|e:=tf k.up
 .rcases tf (Aw ⟨k.id,(stT k).nx,tt,un,tx⟩) with e2|e2
  .have hz:=aJ (w:=B [111,119,110,32]) (by rw[BP];decide) e2;simp only[e,e2,AB,A4,EY,A2];rw[A5<|AR (by rw[Bf]at hz;omega)];rw[show O4 (tKp k,B [111,119,110,32]++wr ⟨k.id,(stT k).nx,tt,un,tx⟩,())=_ from gP hk (r:=L8 ⟨k.id,(stT k).nx,tt,un,tx⟩) hz];simp only[A6];obtain e3|e3:=tf (wrR k (L8 ⟨k.id,(stT k).nx,tt,un,tx⟩) Y).2
   .simp only[e3,AB,A4,A2]
   .simp only[e3,AH,A4,A2]
  .simp only[e,e2,AB,A4,BX];have hb:BO (stT k) (B [111,119,110,32]++noB)=G:=aCr hk.kok aFQ<|.inl rfl;have hz0:(B [111,119,110,32]++noB).size<=1048576:=by rw[Bf,BP];show 4+0<=1048576;omega
   have hl:=gP hk (r:=B [111,119,110,32]++noB) hz0;rw[aF2 hb]at hl;rw[A5<|AR (show(B [111,119,110,32]).size+noB.size<=4611686018427387904 by rw[BP];show 4+0<=4611686018427387904;omega),hl];rfl
 .simp only[e,AH,AO,A2,A4]
def Db(k:A7)(fr nu:Int):A7×A3×Bool:=
 if k.up&& !decide (AZ (stT k).inbox fr nu<0) then
  ((wrR k (Cc CO fr nu (nA (stT k).inbox (AZ (stT k).inbox fr nu).toNat).un) Y).1,
   (if(wrR k (Cc CO fr nu (nA (stT k).inbox (AZ (stT k).inbox fr nu).toNat).un) Y).2 then nA (stT k).inbox (AZ (stT k).inbox fr nu).toNat else zN),
   (wrR k (Cc CO fr nu (nA (stT k).inbox (AZ (stT k).inbox fr nu).toNat).un) Y).2)
 else(k,zN,A0)
def RA(l:List A3)(i:Int): @rd A3 aG6 l i=nA l i.toNat:=rfl
def Q5{n:A3}(h:Aw n=Y):(0<=n.fr/\n.fr<=999)/\(0<=n.nu/\n.nu<=999)/\(0<=n.un/\n.un<=999)/\isN n.fr=Y/\isN n.to=Y/\inB n.nu 1 99=Y/\inB n.un 1 999=Y/\n.tx.size<=24/\1<=n.tx.size:=by
 unfold Aw at h;simp only[AE]at h;obtain⟨a,b,c,d,e⟩:=h;have a1:=Aa.1 a;have c1:=Aa.1 c;have d1:=Aa.1 d;unfold LN at e;rw[AE]at e;have e1:=Aa.1 e.1;exact⟨J,J,J,a,b,c,d,J,J⟩
def Xi{w:A1}{a b c:Int}(hw:w.size<=10)(ha:0<=a/\a<=999)(hb:0<=b/\b<=999)(hc:0<=c/\c<=999):(Cc w a b c).size<=100:=by
 have h1:=HE ha.1 ha.2;have h2:=HE hb.1 hb.2;have h3:=HE hc.1 hc.2;unfold Cc;simp only[Bf,BP,Bm,CL];omega
def js{a b c:Int}(ha:0<=a/\a<=999)(hb:0<=b/\b<=999)(hc:0<=c/\c<=999):Nz (a,b,c,())=I ((((((BM a++B [32])++BM b)++B [32])++BM c),()),()):=by
 have h1:=HE ha.1 ha.2;have h2:=HE hb.1 hb.2;have h3:=HE hc.1 hc.2;unfold Nz;simp only[FV (n:=a) J J,FV (n:=b) J J,FV (n:=c) J J,A6];rw[A5<|AR (by simp only[Bf,BP,Bm,CL];omega),A5<|AR (by simp only[Bf,BP,Bm,CL];omega),A5<|AR (by simp only[Bf,BP,Bm,CL];omega),A5<|AR (by simp only[Bf,BP,Bm,CL];omega)]
def Xq(w:List UInt8)(a b c:Int):B (w++[32])++((((BM a++B [32])++BM b)++B [32])++BM c)=Cc (B w) a b c:=by
 apply Fu;unfold Cc;simp only[GG,L_B,C7]
def ahl{k:A7}(h:Ae k=Y)(fr nu:Int):Vd (tKp k,fr,nu,())=I ((tKp (Db k fr nu).1,tN (Db k fr nu).2.1,(Db k fr nu).2.2,()),()):=by
 have hk:=CQ h;have hf:=C2 hk.kok;have il:=hf.il;unfold Vd Db;rw[Lm<|D0 h];simp only[A6,h,AB,A4,Mw h,Lj<|D0 h,Jl (l:=(stT k).inbox)<|show(stT k).inbox.length<=1048576 by omega];obtain e|e:=tf k.up
 .by_cases hi:AZ (stT k).inbox fr nu<0
  .simp only[e,AB,Bn,AR hi,A2,BX,A4]
  .have hi':0<=AZ (stT k).inbox fr nu:=J
   obtain⟨i1,i2,i3,i4⟩:=FE hi';have hn:=Gx hf.i i1;obtain⟨r1,r2,r3,_⟩:=Q5 hn;rw[i3]at r1;rw[i4]at r2;have hz:=Xi (w:=CO) aHd r1 r2 r3;have hl:=W6 hk.LX (r:=Cc CO fr nu (nA (stT k).inbox (AZ (stT k).inbox fr nu).toNat).un) J Y;simp only[e,AB,Bn,BH hi,A4,AH,EY,A2,N5 hi',RA,js r1 r2 r3,A6];rw[A5<|AR (by rw[← Xq [101,97,116]]at hz;rw[Bf]at hz;rw[show(B [101,97,116,32]).size=(B<|[101,97,116]++[32]).size from rfl];omega)];rw[show(B [101,97,116,32])=B ([101,97,116]++[32]) from rfl,Xq [101,97,116],hl];simp only[A6];obtain e3|e3:=tf (wrR k (Cc CO fr nu (nA (stT k).inbox (AZ (stT k).inbox fr nu).toNat).un) Y).2
   .simp only[e3,AB,A4,A2]
   .simp only[e3,AH,A4,A2,QQ e3]
 .simp only[e,AH,Bw,AO,A2,A4]
def aiI{k:A7}(h:Ae k=Y)(fr nu:Int):Vm (tKp k,fr,nu,())=I ((tKp (Db k fr nu).1,tN (Db k fr nu).2.1,(Db k fr nu).2.2,()),()):=by
 have hk:=CQ h;have hf:=C2 hk.kok;have il:=hf.il;unfold Vm Db;rw[Jo<|D0 h];simp only[A6,h,AB,A4,Mn h,Ke<|D0 h,Ln (l:=(stT k).inbox)<|show(stT k).inbox.length<=1048576 by omega];obtain e|e:=tf k.up
 .by_cases hi:AZ (stT k).inbox fr nu<0
  .simp only[e,AB,Bn,AR hi,A2,BX,A4]
  .have hi':0<=AZ (stT k).inbox fr nu:=J
   obtain⟨i1,i2,i3,i4⟩:=FE hi';have hn:=Gx hf.i i1;obtain⟨r1,r2,r3,_⟩:=Q5 hn;rw[i3]at r1;rw[i4]at r2;have hz:=Xi (w:=CO) aHd r1 r2 r3;have hl:=gP hk (r:=Cc CO fr nu (nA (stT k).inbox (AZ (stT k).inbox fr nu).toNat).un) J;simp only[e,AB,Bn,BH hi,A4,AH,EY,A2,N5 hi',RA,td (w:=CO) aHd r1 r2 r3,A6,hl];obtain e3|e3:=tf (wrR k (Cc CO fr nu (nA (stT k).inbox (AZ (stT k).inbox fr nu).toNat).un) Y).2
   .simp only[e3,AB,A4,A2]
   .simp only[e3,AH,A4,A2]
 .simp only[e,AH,Bw,AO,A2,A4]
def EC(k:A7)(fr nu mix:Int):Frame×Bool:=
 if k.up&&(!decide (AZ (stT k).held fr nu<0)&&inB mix 0 999) then
  let n:=nA (stT k).held (AZ (stT k).held fr nu).toNat
  (⟨1,k.id,Bu k.id n.to,n.fr,n.nu,n.to,n.un,n.tx.size,mix,Fw n.tx mix⟩,Y)
 else(zF,A0)
def ahk{k:A7}(sm:F5 k)(fr nu mix:Int):Vc (tKp k,fr,nu,mix,())=I ((tF (if Ae k then EC k fr nu mix else(zF,A0)).1,(if Ae k then EC k fr nu mix else(zF,A0)).2,()),()):=by
 unfold Vc EC;rw[Lm sm];obtain h|h:=tf (Ae k)
 .have hk:=CQ h;have hf:=C2 hk.kok;have hl:=hf.hl;obtain e|e:=tf k.up
  .simp only[A6,h,e,AB,GL,A4,A2,Mw h,Jl (l:=(stT k).held)<|show(stT k).held.length<=1048576 by omega,I0,Dk,Dd,Hz];by_cases hi:AZ (stT k).held fr nu<0
   .simp only[AR hi,Bw,A2,AB,AO,BX,A4]
   .have hi':0<=AZ (stT k).held fr nu:=J
    obtain e2|e2:=tf (inB mix 0 999)
    .simp only[BH hi,e2,AB,GL,A4,AH,EY,A2,N5 hi',RA,fS,alY,A6]
    .simp only[BH hi,e2,AH,DU,A2,BX,A4]
  .simp only[A6,h,e,AB,AH,DU,A2,AO,A4]
 .simp only[A6,h,AH,Bw,A2,A4]
def aiH{k:A7}(sm:F5 k)(fr nu mix:Int):Vl (tKp k,fr,nu,mix,())=I ((tF (if Ae k then EC k fr nu mix else(zF,A0)).1,(if Ae k then EC k fr nu mix else(zF,A0)).2,()),()):=by
 unfold Vl EC;rw[Jo sm];obtain h|h:=tf (Ae k)
 .have hk:=CQ h;have hf:=C2 hk.kok;have hl:=hf.hl;obtain e|e:=tf k.up
  .simp only[A6,h,e,AB,A4,A2,EK];obtain e2|e2:=tf (inB mix 0 999)
   .simp only[e2,AB,A4,Mn h,Ln (l:=(stT k).held)<|show(stT k).held.length<=1048576 by omega,A6];by_cases hi:AZ (stT k).held fr nu<0
    .simp only[AR hi,A2,AB,AO,BX,A4]
    .have hi':0<=AZ (stT k).held fr nu:=J
     simp only[BH hi,A4,AH,EY,A2,N5 hi',RA,uH,anN,A6]
   .simp only[e2,AH,A2,BX,A4]
  .simp only[A6,h,e,AB,AH,A2,AO,A4]
 .simp only[A6,h,AH,A2,A4]
def FM(k:A7):A7×Bool:=if k.up then(pkM k,Y) else(k,A0)
def aao{k:A7}{st:AL}(h:Hu k st):JQ k.log k.fo (CG st)=((D7<|CG st,((D7<|CG st).size:Int)),Y):=by
 have hrs:=XC h.kok;have hps:=QI h.kok;unfold JQ;rw[A5 h.sh,A5];rw[AE];refine⟨?_,AR J⟩;unfold Ff;rw[DB];exact λx hx=>by
  have:=hrs.1 x hx;exact Aa.2 J
def agQ{k:A7}(h:Ae k=Y):VU (tKp k,())=I ((tKp (FM k).1,(FM k).2,()),()):=by
 have hk:=CQ h;have hsm:=QV<|C2 hk.kok;have hP:=xB (lg:=k.log) (fo:=k.fo) (rs:=CG<|stT k) (QN h)<|YZ hk.kok;rw[aao hk.LX]at hP;unfold VU FM;rw[Lm<|D0 h];simp only[A6,h,AB,A4,Mw h,Lj<|D0 h,yS hsm,hk.kok,A2,hP];obtain e|e:=tf k.up
 .simp only[e,AB,GL,A4,A2];unfold pkM;simp only[e]
 .simp only[e,AH,Bw,A2,A4]
def agj{k:A7}(h:Ae k=Y):VN (tKp k,())=I ((tKp (FM k).1,(FM k).2,()),()):=by
 have hk:=CQ h;have hsm:=QV<|C2 hk.kok;have hP:=yF (lg:=k.log) (fo:=k.fo) (rs:=CG<|stT k) (QN h)<|YZ hk.kok;rw[aao hk.LX]at hP;unfold VN FM;rw[Jo<|D0 h];simp only[A6,h,AB,A4,Ke<|D0 h];obtain e|e:=tf k.up
 .simp only[e,AB,A4,A2,Mn h,yo hsm,hk.kok,hP,A6];unfold pkM;simp only[e]
 .simp only[e,AH,A2,A4]
def FK(k:A7):A7×Bool:=if k.up&& !decide (k.fo=(k.log.size:Int)) then(foM k,Y) else(k,A0)
def afE{k:A7}(h:Ae k=Y):VJ (tKp k,())=I ((tKp (FK k).1,(FK k).2,()),()):=by
 have hf:=E7 h;have hF:=dI (lg:=k.log) (fo:=k.fo)<|QN h;rw[show Iu k.log k.fo=(k.log,(k.log.size:Int)) from A5 hf.sh]at hF;unfold VJ FK;rw[Lm<|D0 h];simp only[A6,h,AB,A4,Lj<|D0 h];obtain e|e:=tf k.up<;>obtain e2|e2:=tfp (k.fo=(k.log.size:Int))<;>simp only[e,e2,AW,Ad,AB,AH,DU,Bw,GL,EY,BX,AO,A2,A4,hF,A6];unfold foM;simp only[e]
def afj{k:A7}(h:Ae k=Y):V9 (tKp k,())=I ((tKp (FK k).1,(FK k).2,()),()):=by
 have hf:=E7 h;unfold V9 FK;rw[Jo<|D0 h];simp only[A6,h,AB,A4,Ke<|D0 h];obtain e|e:=tf k.up<;>obtain e2|e2:=tfp (k.fo=(k.log.size:Int))<;>simp only[e,e2,AW,Ad,AB,AH,DU,Bw,GL,EY,BX,AO,A2,A4];rw[show OA ((tKp k,()))=_ from gY hf.sh];rfl
def aGQ{k:A7}(h:Ae k=Y)(keep:Int):(faM k keep)=⟨k.id,A0,(MI k.log k.fo keep).1,(MI k.log k.fo keep).2,[]⟩:=by
 unfold faM MI Ee;rw[A5 (E7 h).sh]
def agS{k:A7}(sm:F5 k)(keep:Int):VW (tKp k,keep,())=I ((tKp<|if Ae k then faM k keep else zKp,()),()):=by
 unfold VW;rw[Lm sm];obtain h|h:=tf (Ae k)
 .simp only[A6,h,AB,A4,A2,ahh sm.1,aGQ h]
 .simp only[A6,h,AH,A2,A4]
def agk{k:A7}(sm:F5 k)(keep:Int):VO (tKp k,keep,())=I ((tKp<|if Ae k then faM k keep else zKp,()),()):=by
 unfold VO;rw[Jo sm];obtain h|h:=tf (Ae k)
 .simp only[A6,h,AB,A4,A2,aiE sm.1,aGQ h]
 .simp only[A6,h,AH,A2,A4]
def aFt{k:A7}(h:Ae k=Y)(hu:k.up=A0):k.AG=[]:=by
 rcases(E7 h).up with h1|h1
 .rw[hu]at h1;cases h1
 .exact Df h1
def agP{k:A7}(h:Ae k=Y):VT (tKp k,())=I ((tKp<|riM k,()),()):=by
 unfold VT riM;rw[Lm<|D0 h];simp only[A6,h,AB,A4];obtain e|e:=tf k.up
 .simp only[e,A2,Lj<|D0 h,A6];rw[← e]
 .simp only[e,A4,aFt h e]
def agi{k:A7}(h:Ae k=Y):VM (tKp k,())=I ((tKp<|riM k,()),()):=by
 unfold VM riM;rw[Jo<|D0 h];simp only[A6,h,AB,A4,Ke<|D0 h]
def aaz{hv:List AD}{i:Nat}(h:i<hv.length)(x:AD):hA (hv.set i x) i=x:=by
 rw[hA,BG,Zr h];rfl
def alT{l:List AD}{f n:Int}(hl:l.length<=1048576):fg (l,f,n,())=I ((EF l f n,()),()):=by
 have h:rH (l,f,n,0,())=I (if EF l f n<0 then .inr () else .inl (EF l f n,())):=
  Q8 (λi=>(l,f,n,(i:Int),())) l.length (λi=>U ((hA l i).fr=f)&&U ((hA l i).nu=n)) (λi=>(i,())) () (λi hi=>by
   unfold eX;simp only[IY hi,AY hi,A2,MH,Hz,Dg hi hl];obtain e|e:=tfp ((hA l i).fr=f)<;>obtain e2|e2:=tfp ((hA l i).nu=n)<;>simp only[e,e2,AW,Ad,EY,BX,AO,A2,A4]) (by
   unfold eX;simp only[Gy,A4])
 unfold fg;rw[h];by_cases e':EF l f n<0
 .have:EF l f n= -1:=by
   obtain h|⟨i,h,_⟩:=G6 l.length (λi=>U ((hA l i).fr=f)&&U ((hA l i).nu=n))
   .exact h.1
   .have:EF l f n=(i:Int):=h;omega
  rw[A5 e',this];rfl
 .rw[A9 e'];rfl
def Sg(l:List AD)(f n:Int):EF l f n<0\/ ∃i:Nat,EF l f n=(i:Int)/\i<l.length/\(hA l i).fr=f/\(hA l i).nu=n:=by
 obtain h|⟨i,h,h2,h3,_⟩:=G6 l.length (λi=>U ((hA l i).fr=f)&&U ((hA l i).nu=n))
 .left;have:EF l f n= -1:=h.1;omega
 .right;rw[AE]at h3;exact⟨i,h,h2,BW h3.1,BW h3.2⟩
def Ap(hv:List AD)(f:Frame):List AD×Nat:=
 if EF hv f.fr f.nu<0 then((if 3<=hv.length then hv.drop 1 else hv)++[⟨f.fr,f.nu,f.to,f.un,f.sz,[]⟩],(if 3<=hv.length then hv.drop 1 else hv).length)
 else(hv,(EF hv f.fr f.nu).toNat)
def N8{hv:List AD}{f:Frame}:(Ap hv f).2<(Ap hv f).1.length:=by
 unfold Ap;obtain h|⟨i,h1,h2,_⟩:=Sg hv f.fr f.nu
 .rw[A5 h];simp
 .rw[A9 J];show(EF hv f.fr f.nu).toNat<hv.length;omega
def TL{hv:List AD}{f:Frame}(h:hv.length<=3):(Ap hv f).1.length<=3:=by
 unfold Ap;split
 .simp only[Am,KH];split
  .rw[E4];omega
  .omega
 .exact h
def Dn(mix:Int)(m:AQ):Bool:= !decide (m.nu=mix)
def Cu(got:List AQ)(mix:Int)(da:A1):List AQ:=
 (if 14<=(got.filter<|Dn mix).length then(got.filter<|Dn mix).drop 1 else got.filter (Dn mix))++[⟨mix,da⟩]
def aEb{p:AQ->Bool}(pre:List AQ)(m:AQ):(pre++[m]).filter p=pre.filter p++if p m then [m] else []:=by
 rw[P5];congr 1;simp only[JY,Zz]
def aqj{mix:Int}{da:A1}(post:List AQ):∀(pre:List AQ),(pre++post).length<=1048576->
  ez ((mix,da,()),pre.filter<|Dn mix,pre++post,((pre++post).length:Int),(j8 pre:Int),())=I (.inr ((mix,da,()),(pre++post).filter<|Dn mix,())):=by
 induction post with
 | nil=>
  intro pre _;refine BC ?_;unfold XP;simp only[CE,Gy,A4]
 | cons m post ih=>
  intro pre hl;have hlen:pre.length<(pre++m::post).length:=by simp
  have hw:=Dg hlen hl;have hf:(pre.filter<|Dn mix).length<=pre.length:=J1 _ _;have:=ih (pre++[m]) (by rw[← snoc];exact hl);rw[← snoc]at this;refine At ?_ this;unfold XP;simp only[IY hlen,A2,AY hlen,ME,hw,aEb,@Am _ pre [m],KH];obtain e|e:=tfp (m.nu=mix)
  .have:Dn mix m=A0:=by unfold Dn;simp only[e,AW,AB]
   simp only[e,this,AW,AB,A4,CE]
  .have:Dn mix m=Y:=by unfold Dn;simp only[e,Ad,AH]
   simp only[e,this,Ad,AH,A2];rw[A5<|BD (by simp at hl ⊢; omega)]
def arE{got:List AQ}{mix:Int}{da:A1}(hl:got.length<=1048576):Xb (got,(mix,da,()),())=I ((Cu got mix da,()),()):=by
 have hf:(got.filter<|Dn mix).length<=got.length:=J1 _ _;unfold Xb Cu;rw[show ez ((mix,da,()),[],got,(j8 got:Int),0,())=_ from aqj got [] hl];simp only[AP,A6,EV];by_cases h:14<=(got.filter<|Dn mix).length
 .rw[A5<|AR J,A5 h,A5 y8,A5<|Fo (by rw[E4];omega) aG9];rfl
 .rw[A9 (by rw[BH J];exact CF),A9 h,A5<|Fo J aG9]
def aqP{k:Int×Bool×A1×Int×List AD×D}{f:Frame}{z:Int×Bool×A1×Int×List AD×D}{i:Int}{h:AD}(post:List AQ):∀(pre:List AQ),h.got=pre++post->(pre++post).length<=1048576->
  dF (k,tF f,z,i,(h.fr,h.nu,h.to,h.un,h.sz,h.got,()),pre.filter<|Dn f.mix,(j8 pre:Int),())=I (.inr (k,tF f,z,i,(h.fr,h.nu,h.to,h.un,h.sz,h.got,()),h.got.filter<|Dn f.mix,())):=by
 induction post with
 | nil=>
  intro pre hg _;rw[CE]at hg;refine BC ?_;unfold fh;simp only[hg,Gy,A4]
 | cons m post ih=>
  intro pre hg hl;have hlen:pre.length<(pre++m::post).length:=by simp
  have hw:=Dg hlen hl;have hf:(pre.filter<|Dn f.mix).length<=pre.length:=J1 _ _;have:=ih (pre++[m]) (by rw[hg,snoc]) (by rw[← snoc];exact hl);refine At ?_ this;unfold fh;simp only[hg,IY hlen,A2,AY hlen,ME,hw,aEb,@Am _ pre [m],KH];obtain e|e:=tfp (m.nu=f.mix)
  .have:Dn f.mix m=A0:=by unfold Dn;simp only[e,AW,AB]
   simp only[e,this,AW,AB,A4,CE]
  .have:Dn f.mix m=Y:=by unfold Dn;simp only[e,Ad,AH]
   simp only[e,this,Ad,AH,A2];rw[A5<|BD (by simp at hl ⊢; omega)]
def ES(hv:List AD)(i:Nat):List AD:=hv.take i++hv.drop (i+1)
def zE{hv:List AD}{i:Nat}(hi:i<hv.length)(hl:hv.length<=1048576):Ps (hv,(i:Int),())=I ((ES hv i,()),()):=by
 unfold Ps ES;simp only[Bc,EV];rw[Dg hi hl,A5 y8,A5<|Fo (l:=([]:List AD)) aG9 y8,A5 y8,A5<|Fo y8 y8,Bc]
def Co(hv:List AD)(i:Nat)(f:Frame):List AD:=hv.set i ⟨(hA hv i).fr,(hA hv i).nu,(hA hv i).to,(hA hv i).un,(hA hv i).sz,Cu (hA hv i).got f.mix f.da⟩
def MD(h:AD)(f:Frame):Bool:=U (h.to=f.to)&&(U (h.un=f.un)&&U (h.sz=f.sz))
def apJ{k:A7}(sm:F5 k)(h3:k.AG.length<=3)(f:Frame):
  gf (tKp k,tF f,())=I ((if MD (hA (Ap k.AG f).1 (Ap k.AG f).2) f then((k.id,k.up,k.log,k.fo,Co (Ap k.AG f).1 (Ap k.AG f).2 f,()),((Ap k.AG f).2:Int),()) else((k.id,k.up,k.log,k.fo,(Ap k.AG f).1,()),-1,()),())):=by
 obtain⟨id,up,lg,fo,hv⟩:=k;obtain⟨sl,hl,hs⟩:=sm;simp only at sl hl hs h3;unfold gf;simp only[alT hl,A6];have Ej:=N8 (hv:=hv) (f:=f);have LV:=TL (hv:=hv) (f:=f) h3;have Uw:(hA (Ap hv f).1 (Ap hv f).2).got.length<=1048576:=by
  unfold Ap;obtain h|⟨i,h1,h2,_⟩:=Sg hv f.fr f.nu
  .rw[A5 h];simp only;rw[hA,BG,FN<|Ar _];simp
  .rw[A9 J];show(hA hv (EF hv f.fr f.nu).toNat).got.length<=1048576;rw[h1,Bc,Hc h2];exact(hs _<|Ci h2).1
 have pa:∀ {Ω:Type} (F:(Int×Bool×A1×Int×List AD×D)×(Int×Int×Int×Int×Int×Int×Int×Int×Int×A1×D)×(Int×Bool×A1×Int×List AD×D)×Int×D->Option Ω),
   BU F ((if(U<|EF hv f.fr f.nu<0) then
    (BU (X:=(Int×Bool×A1×Int×List AD×D)×(Int×Int×Int×Int×Int×Int×Int×Int×Int×A1×D)×(Int×Bool×A1×Int×List AD×D)×D) (λj7=>
    (if Ab (j7.1.2.2.2.2.1.length+([(AD.mk j7.2.1.2.2.2.1 j7.2.1.2.2.2.2.1 j7.2.1.2.2.2.2.2.1 j7.2.1.2.2.2.2.2.2.1 j7.2.1.2.2.2.2.2.2.2.1 ([]:List AQ))]:List AD).length) then
    let v9:=(w64<|((j7.1.2.2.2.2.1++([(AD.mk j7.2.1.2.2.2.1 j7.2.1.2.2.2.2.1 j7.2.1.2.2.2.2.2.1 j7.2.1.2.2.2.2.2.2.1 j7.2.1.2.2.2.2.2.2.2.1 ([]:List AQ))]:List AD)).length:Int) - 1)
    I (.inr ((j7.1.1,j7.1.2.1,j7.1.2.2.1,j7.1.2.2.2.1,(j7.1.2.2.2.2.1++([(AD.mk j7.2.1.2.2.2.1 j7.2.1.2.2.2.2.1 j7.2.1.2.2.2.2.2.1 j7.2.1.2.2.2.2.2.2.1 j7.2.1.2.2.2.2.2.2.2.1 ([]:List AQ))]:List AD)),()),j7.2.1,j7.2.2.1,v9,()))
    else G))
    ((if(U<|3<=(j8 hv:Int)) then
    (Ps (hv,0,())).bind λr8=>
    I (.inr ((id,up,lg,fo,r8.1),tF f,(0,A0,noB,0,([]:List AD),()),()))
    else
    I (.inr ((id,up,lg,fo,hv,()),tF f,(0,A0,noB,0,([]:List AD),()),())))))
    else
    I (.inr ((id,up,lg,fo,hv,()),tF f,(0,A0,noB,0,([]:List AD),()),(EF hv f.fr f.nu,())))))=F ((id,up,lg,fo,(Ap hv f).1,()),tF f,(0,A0,noB,0,[],()),((Ap hv f).2:Int),()):=by
  intro Ω F;unfold Ap;obtain h|⟨i,h1,h2,_⟩:=Sg hv f.fr f.nu
  .rw[A5<|AR h,A5 h];by_cases h4:3<=hv.length
   .have hd:=zE (hv:=hv) (i:=0) J hl;rw[A5<|AR J,show Ps (hv,0,())=_ from hd];simp only[A6,Bk,A5 h4];rw[show ES hv 0=hv.drop 1 from by simp[ES],A5<|Fo y8 aG9,Bk,AU (by first|(simp;done)|(simp;omega)) (by first|(simp;done)|(simp;omega))];congr 1;simp
   .rw[A9 (by rw[BH J];exact CF)];simp only[Bk,A9 h4];rw[A5<|Fo J aG9,Bk,AU (by first|(simp;done)|(simp;omega)) (by first|(simp;done)|(simp;omega))];congr 1;simp
  .rw[A9 (by rw[BH J];exact CF),A9 (J:¬EF hv f.fr f.nu<0),Bk];simp only;rw[h1,Bc]
 rw[pa];revert Ej LV Uw;generalize (Ap hv f).1=l;generalize (Ap hv f).2=i;intro Ej LV Uw;unfold MD;have hff:((hA l i).got.filter<|Dn f.mix).length<=(hA l i).got.length:=J1 _ _;simp only[AY Ej,A2,MH,Bc];obtain e1|e1:=tfp ((hA l i).to=f.to)<;>simp only[e1,AW,Ad,AB,AH,A4,A2,AS,AO];obtain e2|e2:=tfp ((hA l i).un=f.un)<;>simp only[e2,AW,Ad,AB,AH,A4,A2,AS,AO];obtain e3|e3:=tfp ((hA l i).sz=f.sz)<;>simp only[e3,AW,Ad,AB,AH,A4,A2];have hgo:=aqP (k:=(id,up,lg,fo,l,())) (f:=f) (z:=(0,A0,noB,0,[],())) (i:=(i:Int)) (h:=hA l i) (hA l i).got [] rfl Uw;rw[show dF ((id,up,lg,fo,l,()),tF f,(0,A0,noB,0,[],()),(i:Int),((hA l i).fr,(hA l i).nu,(hA l i).to,(hA l i).un,(hA l i).sz,(hA l i).got,()),[],0,())=_ from hgo];simp only[AP,A6];unfold Co Cu;by_cases h:14<=((hA l i).got.filter<|Dn f.mix).length
 .rw[A5<|AR J,A5 h,A5 y8,A5<|Fo (l:=([]:List AQ)) aG9 (by rw[E4];omega),Bk];simp only[EV,show AJ 1=1 from rfl];rw[A5<|Fo (by rw[E4];omega) aG9,A5<|AY Ej];rfl
 .rw[A9 (by rw[BH J];exact CF),A9 h,Bk];dsimp only;rw[A5<|Fo J aG9,A5<|AY Ej];rfl
def Cs(kind:Int)(f:Frame):Frame:=⟨kind,f.dst,f.src,f.fr,f.nu,f.to,f.un,0,0,noB⟩
def JK(n:A3):A1:=B [116,97,107,101,32]++wr n
abbrev GA(k:A7)(hv:List AD):A7:=⟨k.id,k.up,k.log,k.fo,hv⟩
def JL(k:A7)(n:A3)(f:Frame):A7×List Frame:=
 if Aw n&&(wrR k (JK n) Y).2 then((wrR k (JK n) Y).1,[Cs 2 f]) else(k,[])
def Iv(k:A7)(f:Frame):A7×List Frame:=
 if MD (hA (Ap k.AG f).1 (Ap k.AG f).2) f then
  (if(Es f.sz<|Cu (hA (Ap k.AG f).1 (Ap k.AG f).2).got f.mix f.da).2 then
   JL (GA k<|ES (Co (Ap k.AG f).1 (Ap k.AG f).2 f) (Ap k.AG f).2) ⟨f.fr,f.nu,f.to,f.un,(Es f.sz<|Cu (hA (Ap k.AG f).1 (Ap k.AG f).2).got f.mix f.da).1⟩ f
  else(GA k<|Co (Ap k.AG f).1 (Ap k.AG f).2 f,[]))
 else(GA k (Ap k.AG f).1,[])
def Dz(k:A7)(f:Frame):A7×List Frame:=
 if f.un<=(stT k).ti then(k,[Cs 3 f])
 else if 0<=AZ (stT k).held f.fr f.nu\/0<=Bt (stT k).marks f.fr f.nu then(foM k,[Cs 2 f])
 else if f.fr=k.id then(k,[])
 else Iv k f
def aFX{s:Int}{l:List AQ}:(Es s l).1.size<=24:=by
 unfold Es;split
 .rename_i h;have h1:=Aa.1 h;split
  .exact Ch _
  .rename_i c hc;split
   .have hb:inB (Ay (s+3) 4) 1 6=Y:=by
     have hd:Ay (s+3) 4=(s+3) / 4:=Fh J;exact Aa.2 J
    have hk:=mE hb l;have hz:=YA hk.all hc;have hz0:noB.size=0:=rfl;have hd:Ay (s+3) 4=(s+3) / 4:=Fh J;rw[hk.1,hz0]at hz;rw[G8 J];omega
   .exact Ch _
 .exact Ch _
def aDk(got:List AQ)(mix:Int)(da:A1):(Cu got mix da).length<=got.length+1:=by
 have hf:(got.filter<|Dn mix).length<=got.length:=J1 _ _;unfold Cu;simp only[Am,KH];split
 .rw[E4];omega
 .omega
def aba{h:AD}(ok:Fs h=Y):h.got.length<=14:=by
 unfold Fs at ok;simp only[AE]at ok;have h1:=BW ok.2.2.2.2.2.1;omega
def aEQ{hv:List AD}{f:Frame}(hs:∀h∈hv,Fs h=Y):(hA (Ap hv f).1 (Ap hv f).2).got.length<=14:=by
 unfold Ap;obtain h|⟨i,h1,h2,_⟩:=Sg hv f.fr f.nu
 .rw[A5 h];simp only;rw[hA,BG,FN<|Ar _];simp
 .rw[A9 J];show(hA hv (EF hv f.fr f.nu).toNat).got.length<=14;rw[h1,Bc,Hc h2];exact aba<|hs _<|Ci h2
def aF3{k:A7}{st:AL}(h:Hu k st)(hv:List AD):Hu (GA k hv) st:=⟨h.sh,h.st⟩
def aDi{k:A7}(h:Ae k=Y):∀x∈k.AG,Fs x=Y:=by
 intro x hx;obtain⟨i,hi,rfl⟩:=Oo hx;have:=(E7 h).hv i hi;unfold Fe at this;rw[AE]at this;exact this.1
def aqQ{k:A7}(h:Ae k=Y){f:Frame}(hf:By f=Y)(h1:f.ki=1):W7 (tKp k,tF f,())=I ((tKp (Dz k f).1,(Dz k f).2,()),()):=by
 have hk:=CQ h;have hkf:=C2 hk.kok;have sm:=D0 h;have kf:=E7 h;have hF:=dI (lg:=k.log) (fo:=k.fo)<|QN h;rw[show Iu k.log k.fo=(k.log,(k.log.size:Int)) from A5 kf.sh]at hF;have hl:=hkf.hl;have ml:=hkf.ml;have hfr:inB f.sz 1 24=Y/\inB f.mix 0 999=Y:=by
  unfold By K0 at hf;simp only[AE]at hf;have:=hf.2.2.2.2.2.2;rw[A5<|AR h1]at this;simp only[AE]at this;exact⟨this.1,this.2.1⟩
 have hsz:=Aa.1 hfr.1;have hmx:Dc (Ay (f.sz+3) 4) f.mix=Y:=by
  have hd:Ay (f.sz+3) 4=(f.sz+3) / 4:=Fh J;unfold Dc;rw[hfr.2,KJ];exact Aa.2 J
 unfold W7 Dz;simp only[Mw h,A6];by_cases c1:f.un<=(stT k).ti
 .rw[A5<|AR c1,A5 c1];rfl
 .rw[A9 (by rw[BH c1];exact CF),A9 c1];simp only[Jl (l:=(stT k).held)<|show(stT k).held.length<=1048576 by omega,SF (l:=(stT k).marks)<|show(stT k).marks.length<=1048576 by omega,A6,Dk,Dd,Hz,A2];by_cases c2:0<=AZ (stT k).held f.fr f.nu\/0<=Bt (stT k).marks f.fr f.nu
  .rw[A5 (by rw[C8];exact c2.imp AR AR),A5 c2];simp only[hF,A6];rfl
  .rw[A9 (by rw[C8];exact λh=>c2<|h.imp BW BW),A9 c2];simp only[W5 (n:=f.sz) J J,XV,hmx,Dk,Dd,Hz,A2,AB,EX];by_cases c3:f.fr=k.id
   .rw[A5<|AR c3,A5 c3]
   .rw[A9 (by rw[BH c3];exact CF),A9 c3];have q7:=apJ sm kf.hl f;rw[q7];simp only[A6];unfold Iv;obtain c4|c4:=tf (MD (hA (Ap k.AG f).1 (Ap k.AG f).2) f)
    .have Ej:=N8 (hv:=k.AG) (f:=f);have LV:=TL (hv:=k.AG) (f:=f) kf.hl;have hal:(Co (Ap k.AG f).1 (Ap k.AG f).2 f).length=(Ap k.AG f).1.length:=by unfold Co;rw[G2]
     have pv:=aEQ (f:=f)<|aDi h;have hgl:=aDk (hA (Ap k.AG f).1 (Ap k.AG f).2).got f.mix f.da;have Uw:(hA (Co (Ap k.AG f).1 (Ap k.AG f).2 f) (Ap k.AG f).2).got=Cu (hA (Ap k.AG f).1 (Ap k.AG f).2).got f.mix f.da:=by
      unfold Co;rw[aaz Ej]
     simp only[c4,A2];rw[A9 (by rw[BH J];exact CF),A5<|AY (by rw[hal];exact Ej)];simp only[MH,Uw,alW f.sz _<|show(Cu (hA (Ap k.AG f).1 (Ap k.AG f).2).got f.mix f.da).length<=1048576 by omega,A6];obtain c5|c5:=tf (Es f.sz<|Cu (hA (Ap k.AG f).1 (Ap k.AG f).2).got f.mix f.da).2
     .simp only[c5,AB,A4,A2];rw[zE (by rw[hal];exact Ej) (by rw[hal];omega)];simp only[A6];rw[Rx (by have:=aFX (s:=f.sz) (l:=Cu (hA (Ap k.AG f).1 (Ap k.AG f).2).got f.mix f.da);omega)];simp only[A6];unfold JL;generalize hn:(⟨f.fr,f.nu,f.to,f.un,(Es f.sz<|Cu (hA (Ap k.AG f).1 (Ap k.AG f).2).got f.mix f.da).1⟩:A3)=n;obtain c6|c6:=tf (Aw n)
      .have hz:=aJ (w:=B [116,97,107,101,32]) (by rw[BP];decide) c6;have hw:=W6 (aF3 hk.LX<|ES (Co (Ap k.AG f).1 (Ap k.AG f).2 f) (Ap k.AG f).2) (r:=JK n) hz Y;simp only[c6,A2,AS];rw[A9 (by rw[BH oV];exact CF),A5<|AR (by rw[Bf]at hz;omega)];rw[show Kc ((k.id,k.up,k.log,k.fo,ES (Co (Ap k.AG f).1 (Ap k.AG f).2 f) (Ap k.AG f).2,()),B [116,97,107,101,32]++wr n,Y,())=_ from hw];simp only[A6];obtain c7|c7:=tf (wrR (GA k<|ES (Co (Ap k.AG f).1 (Ap k.AG f).2 f) (Ap k.AG f).2) (JK n) Y).2
       .simp only[c7,AB,A4,A2];rfl
       .simp only[c7,AH,A4,A2,QQ c7]
      .simp only[c6,A4,AW,A2,AO]
     .simp only[c5,AH,A4,A2]
    .simp only[c4,A4];rfl
def aiA{k:A7}(h:Ae k=Y){f:Frame}:Vh (tKp k,tF f,())=I ((tKp (Dz k f).1,(Dz k f).2,()),()):=by
 have hk:=CQ h;have hkf:=C2 hk.kok;have sm:=D0 h;have kf:=E7 h;have hl:=hkf.hl;have ml:=hkf.ml;have hl3:=kf.hl;have hlen:k.AG.length<=1048576:=J
 unfold Vh Dz;simp only[Mn h,A6];by_cases c1:f.un<=(stT k).ti
 .rw[A5<|AR c1,A5 c1];rfl
 .rw[A9 (by rw[BH c1];exact CF),A9 c1];simp only[Ln (l:=(stT k).held)<|show(stT k).held.length<=1048576 by omega,SS (l:=(stT k).marks)<|show(stT k).marks.length<=1048576 by omega,A6,Dk,Dd,Hz,A2];by_cases c2:0<=AZ (stT k).held f.fr f.nu\/0<=Bt (stT k).marks f.fr f.nu
  .rw[A5 (by rw[C8];exact c2.imp AR AR),A5 c2,gY kf.sh];rfl
  .rw[A9 (by rw[C8];exact λh=>c2<|h.imp BW BW),A9 c2];by_cases c3:f.fr=k.id
   .rw[A5<|AR c3,A5 c3]
   .rw[A9 (by rw[BH c3];exact CF),A9 c3];simp only[aB5 hlen,A6];have Ej:=N8 (hv:=k.AG) (f:=f);have LV:=TL (hv:=k.AG) (f:=f) kf.hl;have pv:=aEQ (f:=f)<|aDi h;have pa:∀ {Ω:Type} (F:(Int×Bool×A1×Int×List AD×D)×(Int×Int×Int×Int×Int×Int×Int×Int×Int×A1×D)×(Int×Bool×A1×Int×List AD×D)×Int×D->Option Ω),
      BU F ((if(U<|EF k.AG f.fr f.nu<0) then
      (if Ab (k.AG.length+([(AD.mk f.fr f.nu f.to f.un f.sz ([]:List AQ))]:List AD).length) then
      (if(U<|3<((k.AG++([(AD.mk f.fr f.nu f.to f.un f.sz ([]:List AQ))]:List AD)).length:Int)) then
      (if(U (0<=1)&&U (1<=((k.AG++([(AD.mk f.fr f.nu f.to f.un f.sz ([]:List AQ))]:List AD)).length:Int))) then
      let v22:=(w64<|((Bp (AJ 1)<|k.AG++([(AD.mk f.fr f.nu f.to f.un f.sz ([]:List AQ))]:List AD)).length:Int) - 1)
      I (.inr ((k.id,k.up,k.log,k.fo,(Bp (AJ 1)<|k.AG++([(AD.mk f.fr f.nu f.to f.un f.sz ([]:List AQ))]:List AD)),()),tF f,(0,A0,noB,0,([]:List AD),()),v22,()))
      else G)
      else
      let v23:=(w64<|((k.AG++([(AD.mk f.fr f.nu f.to f.un f.sz ([]:List AQ))]:List AD)).length:Int) - 1)
      I (.inr ((k.id,k.up,k.log,k.fo,(k.AG++([(AD.mk f.fr f.nu f.to f.un f.sz ([]:List AQ))]:List AD)),()),tF f,(0,A0,noB,0,([]:List AD),()),v23,())))
      else G)
      else
      I (.inr (tKp k,tF f,(0,A0,noB,0,([]:List AD),()),(EF k.AG f.fr f.nu,())))))=F ((k.id,k.up,k.log,k.fo,(Ap k.AG f).1,()),tF f,(0,A0,noB,0,[],()),((Ap k.AG f).2:Int),()):=by
     intro Ω F;unfold Ap;obtain h|⟨i,h1,h2,_⟩:=Sg k.AG f.fr f.nu
     .rw[A5<|AR h,A5 h,A5<|Fo hlen aG9];by_cases h4:3<=k.AG.length
      .rw[A5<|AR y8,A5 y8,A5 h4];have e1:Bp (AJ 1) (k.AG++[(⟨f.fr,f.nu,f.to,f.un,f.sz,[]⟩:AD)])=k.AG.drop 1++[⟨f.fr,f.nu,f.to,f.un,f.sz,[]⟩]:=by
        show Bp 1 _=_;rw[Tu J]
       simp only[e1];rw[Bk,AU (by first|(simp;done)|(simp;omega)) (by first|(simp;done)|(simp;omega))];congr 1;simp
      .rw[A9 y8,A9 h4];simp only;rw[Bk,AU (by first|(simp;done)|(simp;omega)) (by first|(simp;done)|(simp;omega))];congr 1;simp
     .rw[A9 (by rw[BH J];exact CF),A9 (J:¬EF k.AG f.fr f.nu<0),Bk];simp only;rw[h1,Bc]
    rw[pa];have hgl:=aDk (hA (Ap k.AG f).1 (Ap k.AG f).2).got f.mix f.da;unfold Iv;have hLg:=λhv=>aF3 hk.LX hv;revert Ej LV pv hgl;generalize (Ap k.AG f).1=l;generalize (Ap k.AG f).2=i;intro Ej LV pv hgl;have alu:l.set i ⟨(hA l i).fr,(hA l i).nu,(hA l i).to,(hA l i).un,(hA l i).sz,Cu (hA l i).got f.mix f.da⟩=Co l i f:=rfl;have hal:(Co l i f).length=l.length:=by unfold Co;rw[G2]
    have hat:hA (Co l i f) i=⟨(hA l i).fr,(hA l i).nu,(hA l i).to,(hA l i).un,(hA l i).sz,Cu (hA l i).got f.mix f.da⟩:=aaz Ej _;simp only[AY Ej,A2,MH,Bc];unfold MD;obtain e1|e1:=tfp ((hA l i).to=f.to)<;>simp only[e1,AW,Ad,AB,AH,A4,A2,AS,AO];obtain e2|e2:=tfp ((hA l i).un=f.un)<;>simp only[e2,AW,Ad,AB,AH,A4,A2,AS,AO];obtain e3|e3:=tfp ((hA l i).sz=f.sz)<;>simp only[e3,AW,Ad,AB,AH,A4,A2];have e3':(hA l i).sz=f.sz:=of_eq_true e3;rw[arE<|show(hA l i).got.length<=1048576 by omega];simp only[A6,alu,hat];rw[e3'];rw[anL f.sz _<|show(Cu (hA l i).got f.mix f.da).length<=1048576 by omega];simp only[A6];obtain c5|c5:=tf (Es f.sz<|Cu (hA l i).got f.mix f.da).2
    .simp only[c5,AB,A4,A2];rw[A5 y8,A5<|Fo (l:=([]:List AD)) aG9 y8,Dg (n:=i) (m:=l.length) Ej J,A5 y8,A5<|Fo y8 y8];rw[Vj (by have:=aFX (s:=f.sz) (l:=Cu (hA l i).got f.mix f.da);omega)];simp only[A6,EV,Bc];unfold JL;generalize hn:(⟨f.fr,f.nu,f.to,f.un,(Es f.sz<|Cu (hA l i).got f.mix f.da).1⟩:A3)=n;have hL:=hLg<|ES (Co l i f) i;have hdr:BV i (Co l i f)++Bp (i+1) (Co l i f)=ES (Co l i f) i:=rfl;rw[hdr];obtain c6|c6:=tf (Aw n)
     .have hz:=aJ (w:=B [116,97,107,101,32]) (by rw[BP];decide) c6;have hw:=XU hL (r:=JK n) hz;simp only[c6,A2,AS];rw[A5<|AR (by rw[Bf]at hz;omega)];rw[show OF ((k.id,k.up,k.log,k.fo,ES (Co l i f) i,()),B [116,97,107,101,32]++wr n,())=_ from hw];simp only[A6];unfold wrR;rw[hL.stT];cases hc:BO (stT k) (JK n) with
      | none=>rfl
      | some o=>
       simp only[AB,A4,A2];rw[gY<|aab hL hc];rfl
     .have hb:BO (stT k) (B [116,97,107,101,32]++noB)=G:=aCr hk.kok aDq<|.inr rfl;have hz0:(B [116,97,107,101,32]++noB).size<=1048576:=by rw[Bf,BP];show 5+0<=1048576;omega
      have hw:=XU hL (r:=B [116,97,107,101,32]++noB) hz0;rw[aF2 (by rw[hL.stT];exact hb)]at hw;simp only[c6,A4,AO];rw[A5<|AR (show(B [116,97,107,101,32]).size+noB.size<=4611686018427387904 by rw[BP];show 5+0<=4611686018427387904;omega)];rw[show OF ((k.id,k.up,k.log,k.fo,ES (Co l i f) i,()),B [116,97,107,101,32]++noB,())=_ from hw];rfl
    .simp only[c5,AH,A4,A2]
def XL{α β:Type}[DecidableEq β]{l:List α}{f:α->β}:(l.map f).Nodup↔ ∀(i j:Nat) (hi:i<l.length) (hj:j<l.length),j<i->f l[j]≠f l[i]:=by
 unfold List.Nodup;rw[KG];constructor
 .intro h i j hi hj hlt;have:=h j i (by simpa using hj) (by simpa using hi) hlt;simpa using this
 .intro h i j hi hj hlt;have:=h j i (by simpa using hj) (by simpa using hi) hlt;simpa using this
def aV{l:List AQ}{i:Nat}(h:i<l.length):xA l i=l[i]:=by
 rw[xA,BG,Av h];rfl
def Iq(m:AQ):Prop:=inB m.nu 0 999=Y/\(m.da.size:Int)=4
structure RW (l:List AQ):Prop where
 el:∀m∈l,Iq m
 nd:(l.map (·.nu)).Nodup
def aaR{l:List AQ}:B5 l.length (IA l)=Y↔RW l:=by
 rw[Cq];constructor
 .intro h;refine⟨λm hm=> ?_,XL.2 λi j hi hj hlt=> ?_⟩
  .obtain⟨i,hi,rfl⟩:=aaZ hm;have:=h i hi;unfold IA at this;simp only[AE]at this;exact⟨this.1.1,BW this.1.2⟩
  .have:=h i hi;unfold IA at this;simp only[AE]at this;have:=Cq.1 this.2 j hlt;rw[aV hi,aV hj]at this;simpa using this
 .intro h i hi;unfold IA;simp only[AE];have h1:=h.el l[i] (Ci hi);rw[aV hi];refine⟨⟨h1.1,AR h1.2⟩,Cq.2 λj hj=> ?_⟩;have:=XL.1 h.nd i j hi J hj;rw[aV (J:j<l.length)];simpa using this
def avT{l:List AQ}(h:RW l)(hl:l.length<=14){mix:Int}{da:A1}(hm:Iq ⟨mix,da⟩):RW (Cu l mix da)/\(Cu l mix da).length<=14:=by
 have hf:(l.filter<|Dn mix).length<=l.length:=J1 _ _;have LY:∀g:List AQ,g.Sublist (l.filter<|Dn mix)->RW (g++[⟨mix,da⟩]):=by
  intro g hg;refine⟨λm hm'=> ?_, ?_⟩
  .rcases BN.1 hm' with h1|h1
   .exact h.el m (F8.1<|hg.subset h1).1
   .rw[C1.1 h1];exact hm
  .rw[Eg,Jb];refine⟨h.nd.sublist<|(hg.trans List.filter_sublist).map _,by simp,λa ha b hb=> ?_⟩;obtain⟨m,h1,rfl⟩:=C0.1 ha;have h2:=(F8.1<|hg.subset h1).2;have hb:b=mix:=by simpa using hb
   rw[hb];unfold Dn at h2;simpa using h2
 unfold Cu;split
 .refine⟨LY _<|Qq _ _, ?_⟩;simp only[Am,KH,E4];omega
 .refine⟨LY _<|EW _, ?_⟩;simp only[Am,KH];omega
abbrev Nh(h:AD):Int×Int:=(h.fr,h.nu)
structure Jg (l:List AD):Prop where
 el:∀h∈l,Fs h=Y
 nd:(l.map Nh).Nodup
def oF{l:List AD}:(∀i,i<l.length->Fe l i=Y)↔Jg l:=by
 constructor
 .intro h;refine⟨λm hm=> ?_,XL.2 λi j hi hj hlt=> ?_⟩
  .obtain⟨i,hi,rfl⟩:=Oo hm;have:=h i hi;unfold Fe at this;rw[AE]at this;exact this.1
  .have:=h i hi;unfold Fe at this;rw[AE]at this;have:=Cq.1 this.2 j hlt;rw[Hc hi,Hc hj]at this;intro e;simp only[Nh,CS]at e;simp[e.1,e.2]at this
 .intro h i hi;unfold Fe;rw[AE];refine⟨by rw[Hc hi];exact h.el _<|Ci hi,Cq.2 λj hj=> ?_⟩;have:=XL.1 h.nd i j hi J hj;rw[Hc hi,Hc (J:j<l.length)];simp only[Nh,ne_eq,CS,not_and]at this;by_cases e:l[j].fr=l[i].fr
  .simp[e,this e]
  .simp[e]
def OW{f:Frame}(h:By f=Y):isN f.src=Y/\isN f.dst=Y/\isN f.fr=Y/\isN f.to=Y/\inB f.nu 1 99=Y/\inB f.un 1 999=Y/\K0 f=Y:=by
 unfold By at h;simp only[AE]at h;exact h
def Sq{f:Frame}(h:By f=Y)(h1:f.ki=1):inB f.sz 1 24=Y/\Iq ⟨f.mix,f.da⟩/\f.dst=Bu f.src f.to:=by
 have:=(OW h).2.2.2.2.2.2;unfold K0 at this;rw[A5<|AR h1]at this;simp only[AE]at this;exact⟨this.1,⟨this.2.1,BW this.2.2.1⟩,BW this.2.2.2⟩
def Jg.sub{l g:List AD}(h:Jg l)(hg:g.Sublist l):Jg g:=⟨λx hx=>h.el x<|hg.subset hx,h.nd.sublist<|hg.map _⟩
def aGu{l:List AD}(h:Jg l){f:Frame}(hf:By f=Y)(h1:f.ki=1):Jg (Ap l f).1:=by
 obtain⟨_,_,r3,r4,r5,r6,_⟩:=OW hf;have hp:=Sq hf h1;unfold Ap;split
 .rename_i hi;have Ui:∀x∈l,Nh x≠(f.fr,f.nu):=by
   intro x hx e;obtain⟨i,hi',rfl⟩:=Oo hx;simp only[Nh,CS]at e;obtain h|⟨i,h,_⟩:=G6 l.length (λi=>U ((hA l i).fr=f.fr)&&U ((hA l i).nu=f.nu))
   .have:=h.2 i hi';simp[e.1,e.2]at this
   .have:EF l f.fr f.nu=(i:Int):=h;omega
  have LY:∀g:List AD,g.Sublist l->Jg (g++[⟨f.fr,f.nu,f.to,f.un,f.sz,[]⟩]):=by
   intro g hg;refine⟨λx hx=> ?_, ?_⟩
   .rcases BN.1 hx with h2|h2
    .exact h.el x (hg.subset h2)
    .rw[C1.1 h2];unfold Fs;simp only[r3,r4,r5,r6,hp.1,AS];rfl
   .rw[Eg,Jb];refine⟨h.nd.sublist<|hg.map _,by simp,λa ha b hb=> ?_⟩;obtain⟨m,h2,rfl⟩:=C0.1 ha;have hb:b=(f.fr,f.nu):=by simpa using hb
    rw[hb];exact Ui m<|hg.subset h2
  simp only;split
  .exact LY _ (Qq _ _)
  .exact LY _ (EW _)
 .exact h
def avO{h:AD}(ok:Fs h=Y):RW h.got/\h.got.length<=14:=by
 have h1:=aba ok;unfold Fs at ok;simp only[AE]at ok;exact⟨aaR.1 ok.2.2.2.2.2.2,h1⟩
def avN{h:AD}(ok:Fs h=Y){g:List AQ}(hg:RW g)(hl:g.length<=14):Fs ⟨h.fr,h.nu,h.to,h.un,h.sz,g⟩=Y:=by
 unfold Fs at ok ⊢;simp only[AE]at ok ⊢;exact⟨ok.1,ok.2.1,ok.2.2.1,ok.2.2.2.1,ok.2.2.2.2.1,AR J,aaR.2 hg⟩
def aaA{l:List AD}(h:Jg l){i:Nat}(hi:i<l.length){f:Frame}(hm:Iq ⟨f.mix,f.da⟩):Jg (Co l i f):=by
 have hh:=h.el l[i] (Ci hi);have hg:=avO hh;have hn:=avT hg.1 hg.2 hm;unfold Co;rw[Hc hi];refine⟨λx hx=> ?_, ?_⟩
 .rcases ML hx with h1|h1
  .exact h.el x h1
  .rw[h1];exact avN hh hn.1 hn.2
 .rw[List.map_set];have:(l.map Nh).set i (Nh ⟨l[i].fr,l[i].nu,l[i].to,l[i].un,l[i].sz,Cu l[i].got f.mix f.da⟩)=l.map Nh:=by
   apply List.ext_getElem aG9;intro j h1 h2;rw[List.getElem_set];split
   .rename_i e;subst e;simp
   .rfl
  rw[this];exact h.nd
def aaX{l:List AD}(h:Jg l)(i:Nat):Jg (ES l i):=by
 refine h.sub ?_;unfold ES;have:(l.take i++l.drop (i+1)).Sublist (l.take i++l.drop i):=me (EW _) (by rw[← J5];exact Qq _ _);rw[JZ]at this;exact this
def ZP{k:A7}{st:AL}(h:DE k st)(hu:k.up=Y){hv:List AD}(hl:hv.length<=3)(hf:Jg hv):DE (GA k hv) st:=by
 obtain⟨rs,ts,h1,h2⟩:=h.lg;have kf:=E7 h.ok;exact⟨XB (k:=GA k hv) kf.id h1 hl (.inl hu) (by rw[show(GA k hv).id=k.id from rfl,h2];rfl)<|oF.2 hf,h.st⟩
def Tj{k:A7}{st:AL}(h:DE k st)(r:A1)(b:Bool):∃o,DE (wrR k r b).1 o/\((wrR k r b).2=Y->BO st r=I o)/\((wrR k r b).2=A0->o=st/\BO st r=G):=by
 unfold wrR;rw[h.stT];cases hc:BO st r with
 | none=>exact⟨st,h,(λe=>absurd e CF),λ_=>⟨rfl,rfl⟩⟩
 | some o=>
  refine⟨o, ?_,(λ_=>rfl),λe=>absurd e.symm CF⟩;simp only;split
  .exact Qc (Tl h hc)
  .exact Tl h hc
def lA{k:A7}(h:Ae k=Y)(hu:k.up=Y){f:Frame}(hf:By f=Y)(h1:f.ki=1):Ae (Dz k f).1=Y:=by
 have hk:=CQ h;have kf:=E7 h;have hv:=oF.1 kf.hv;have hp:=Sq hf h1;have Ej:=N8 (hv:=k.AG) (f:=f);have LV:=TL (hv:=k.AG) (f:=f) kf.hl;have hpf:=aGu hv hf h1;have haf:=aaA hpf Ej hp.2.1;have hal:(Co (Ap k.AG f).1 (Ap k.AG f).2 f).length=(Ap k.AG f).1.length:=by unfold Co;rw[G2]
 unfold Dz;split
 .exact h
 split
 .exact(Qc hk).ok
 split
 .exact h
 unfold Iv;split
 .split
  .unfold JL;have hw:=ZP hk hu (hv:=ES (Co (Ap k.AG f).1 (Ap k.AG f).2 f) (Ap k.AG f).2) (by unfold ES;simp;omega)<|aaX haf _;split
   .obtain⟨o,ho,_⟩:=Tj hw (JK ⟨f.fr,f.nu,f.to,f.un,(Es f.sz<|Cu (hA (Ap k.AG f).1 (Ap k.AG f).2).got f.mix f.da).1⟩) Y;exact ho.ok
   .exact hw.ok
  .exact(ZP hk hu (by rw[hal];exact LV) haf).ok
 .exact(ZP hk hu LV hpf).ok
def HA(k:A7)(f:Frame):A7×List Frame:=
 if k.up&&(By f&&U (f.dst=k.id)) then
  (if U (f.ki=1) then Dz k f
   else if U (f.ki=2)&&(!decide (AZ (stT k).held f.fr f.nu<0)&&(U ((nA (stT k).held (AZ (stT k).held f.fr f.nu).toNat).to=f.to)&&U ((nA (stT k).held (AZ (stT k).held f.fr f.nu).toNat).un=f.un))) then
    ((wrR k (Cc C3 f.fr f.nu f.un) A0).1,[])
   else(k,[]))
 else(k,[])
def C4(k:A7)(f:Frame):A7×List Frame:=if Ae k then HA k f else(zKp,[])
def lE{f:Frame}(h:By f=Y):(0<=f.fr/\f.fr<=999)/\(0<=f.nu/\f.nu<=999)/\(0<=f.un/\f.un<=999):=by
 obtain⟨_,_,r3,_,r5,r6,_⟩:=OW h;have a:=Aa.1 r3;have b:=Aa.1 r5;have c:=Aa.1 r6;exact⟨J,J,J⟩
def agR{k:A7}(sm:F5 k)(f:Frame):VV (tKp k,tF f,())=I ((tKp (C4 k f).1,(C4 k f).2,()),()):=by
 unfold VV C4;rw[Lm sm];obtain h|h:=tf (Ae k)
 .have hk:=CQ h;have hkf:=C2 hk.kok;have hl:=hkf.hl;have hl':(stT k).held.length<=1048576:=J
  unfold HA;simp only[A6,h,AB,A4,A2,Lj sm,aA3,Mw h,Jl hl'];obtain e|e:=tf k.up<;>simp only[e,AB,AH,A4,A2,AS,AO];obtain e2|e2:=tf (By f)<;>simp only[e2,AB,AH,A4,A2,AS,AO];obtain e3|e3:=tfp (f.dst=k.id)<;>simp only[e3,AW,Ad,AB,AH,A4,A2];obtain⟨r1,r2,r3⟩:=lE e2;obtain e4|e4:=tfp (f.ki=1)
  .have e4':=of_eq_true e4;simp only[e4,AW,A2];rw[show W7 (tKp k,tF f,())=_ from aqQ h e2 e4'];simp only[A6];rw[Lj<|D0<|lA h e e2 e4'];rfl
  .simp only[e4,Ad,A4];obtain e5|e5:=tfp (f.ki=2)<;>simp only[e5,AW,Ad,AB,AH,A4,A2,AS,AO];by_cases hi:AZ (stT k).held f.fr f.nu<0
   .simp only[AR hi,A2,AB,AO,A4]
   .have hi':0<=AZ (stT k).held f.fr f.nu:=J
    simp only[BH hi,A4,AH,AS,A2,N5 hi',RA];obtain e6|e6:=tfp ((nA (stT k).held (AZ (stT k).held f.fr f.nu).toNat).un=f.un)<;>simp only[e6,AW,Ad,AB,AH,A4,A2,KJ,BX];obtain e7|e7:=tfp ((nA (stT k).held (AZ (stT k).held f.fr f.nu).toNat).to=f.to)<;>simp only[e7,AW,Ad,AB,AH,A4,A2];have hz:=Xi (w:=C3) aHd r1 r2 r3;have hw:=W6 hk.LX (r:=Cc C3 f.fr f.nu f.un) J A0;rw[js r1 r2 r3];simp only[A6];rw[A5<|AR (by rw[← Xq [108,101,116]]at hz;rw[Bf]at hz;rw[show(B [108,101,116,32]).size=(B<|[108,101,116]++[32]).size from rfl];omega)];rw[show(B [108,101,116,32])=B ([108,101,116]++[32]) from rfl,Xq [108,101,116],hw];rfl
 .simp only[A6,h,AH,A2,A4]
def wS{k:A7}(sm:F5 k)(f:Frame):S3 (tKp k,tF f,())=I ((tKp (C4 k f).1,(C4 k f).2,()),()):=by
 unfold S3 C4;rw[Jo sm];obtain h|h:=tf (Ae k)
 .have hk:=CQ h;have hkf:=C2 hk.kok;have hl:=hkf.hl;have hl':(stT k).held.length<=1048576:=J
  unfold HA;simp only[A6,h,AB,A4,A2,Ke sm,zk,Mn h,Ln hl'];obtain e|e:=tf k.up<;>simp only[e,AB,AH,A4,A2,AS,AO];obtain e2|e2:=tf (By f)<;>simp only[e2,AB,AH,A4,A2,AS,AO];obtain e3|e3:=tfp (f.dst=k.id)<;>simp only[e3,AW,Ad,AB,AH,A4,A2];obtain⟨r1,r2,r3⟩:=lE e2;obtain e4|e4:=tfp (f.ki=1)
  .have e4':=of_eq_true e4;simp only[e4,AW,A2];rw[show Vh (tKp k,tF f,())=_ from aiA h];simp only[A6];rw[Ke<|D0<|lA h e e2 e4'];rfl
  .simp only[e4,Ad,A4];obtain e5|e5:=tfp (f.ki=2)<;>simp only[e5,AW,Ad,A4,A2,AS,AO];by_cases hi:AZ (stT k).held f.fr f.nu<0
   .rw[A9 (show ¬U (0<=AZ (stT k).held f.fr f.nu)=Y by simp;omega)];simp only[AR hi,HR,A2,Bk,AB,AO,A4]
   .have hi':0<=AZ (stT k).held f.fr f.nu:=J
    rw[A5<|AR hi'];simp only[BH hi,AH,AS,A2,N5 hi',RA,Hz,Bk];obtain e7|e7:=tfp ((nA (stT k).held (AZ (stT k).held f.fr f.nu).toNat).to=f.to)<;>simp only[e7,AW,Ad,A4,A2,AS,AO];obtain e6|e6:=tfp ((nA (stT k).held (AZ (stT k).held f.fr f.nu).toNat).un=f.un)<;>simp only[e6,AW,Ad,A4,A2];have hz:=Xi (w:=C3) aHd r1 r2 r3;have hw:=XU hk.LX (r:=Cc C3 f.fr f.nu f.un) J;rw[show Pg (B [108,101,116],f.fr,f.nu,f.un,())=_ from td (w:=C3) aHd r1 r2 r3];simp only[A6];rw[hw];rfl
 .simp only[A6,h,AH,A2,A4]
def avK{k:A7}(h:Ae k=Y)(f:Frame):Ae (C4 k f).1=Y:=by
 have hk:=CQ h;unfold C4 HA;rw[A5 h];split
 .rename_i hc;simp only[AE]at hc;split
  .rename_i h1;exact lA h hc.1 hc.2.1 (BW h1)
  .split
   .obtain⟨o,ho,_⟩:=Tj hk (Cc C3 f.fr f.nu f.un) A0;exact ho.ok
   .exact h
 .exact h
def aun{k:A7}(h:Ae k=Y):Ae (FL k).1=Y:=by
 unfold FL;split
 .obtain⟨o,ho,_⟩:=Tj (CQ h) (FX<|(stT k).ti+1) Y;exact ho.ok
 .exact h
def axH{k:A7}(h:Ae k=Y)(tt un:Int)(tx:A1):Ae (Dq k tt un tx).1=Y:=by
 unfold Dq;split
 .obtain⟨o,ho,_⟩:=Tj (CQ h) (L8 ⟨k.id,(stT k).nx,tt,un,tx⟩) Y;exact ho.ok
 .exact h
def axe{k:A7}(h:Ae k=Y)(fr nu:Int):Ae (Db k fr nu).1=Y:=by
 unfold Db;split
 .obtain⟨o,ho,_⟩:=Tj (CQ h) (Cc CO fr nu (nA (stT k).inbox (AZ (stT k).inbox fr nu).toNat).un) Y;exact ho.ok
 .exact h
def aui{k:A7}(h:Ae k=Y):Ae (FM k).1=Y:=by
 unfold FM;split
 .exact(oJ<|CQ h).ok
 .exact h
def auI{k:A7}(h:Ae k=Y):Ae (FK k).1=Y:=by
 unfold FK;split
 .exact(Qc<|CQ h).ok
 .exact h
def Sx(l:List Int):(BF l).size=l.length:=by
 show(List.toArray _).size=_;simp
def asr(f:Frame):(Cf f).length<=17:=by
 unfold Cf;split
 .rename_i h;have:=YB h;simp only[Am,Bm,CL];omega
 .simp
def frA(l:List Frame)(i:Nat):Frame:=l.getD i<|dfl .frame
def aFD(l:List Frame)(i:Nat): @rd Frame aHk l (i:Int)=frA l i:=rfl
def pcF(f:Frame):AK:=⟨f.src,f.dst,BF<|Cf f,A0⟩
def CC(ra:List AK)(fs:List Frame):List AK:=ra++(fs.take<|30 - ra.length).map pcF
def aaw{l:List Frame}{i:Nat}(h:i<l.length):frA l i=l[i]:=by
 rw[frA,BG,Av h];rfl
def zB{ra:List AK}{fs:List Frame}(hf:fs.length<=1048576):SK (ra,fs,())=I ((CC ra fs,()),()):=by
 have Gs:rG (ra,fs,0,())=I (.inr (CC ra fs,())):=by
  have h0:=CX (b:=W4) (y:= .inr (CC ra fs,())) (λi=>(ra++(fs.take i).map pcF,fs,(i:Int),())) (min fs.length<|30 - ra.length) (λi hi=>by
   have h1:i<fs.length:=J
   have h2:(ra++(fs.take i).map pcF).length=ra.length+i:=by simp;omega
   unfold W4;simp only[BK h1,AY h1,aFD,BA h1 (by omega:fs.length<=9223372036854775807),h2];rw[A5 y8];simp only[A2];rw[show Pf ((_,_,_,_,_,_,_,_,_,_,()),())=_ from xN<|frA fs i];simp only[A6];rw[A5<|BD y8];have h3:ra++(fs.take<|i+1).map pcF=(ra++(fs.take i).map pcF)++[pcF (frA fs i)]:=by
    rw[aaw h1,C7,← List.map_singleton (f:=pcF),← Eg,List.take_append_getElem h1]
   rw[h3];rfl) (by
   unfold W4;have h2:(ra++(fs.take<|min fs.length<|30 - ra.length).map pcF).length=ra.length+min fs.length (30 - ra.length):=by simp
   simp only[h2];rw[A9 (by simp only[AE,decide_eq_true_eq];omega)];have h3:fs.take (min fs.length<|30 - ra.length)=fs.take (30 - ra.length):=by
    rw[Nat.min_comm,← aC,EG]
   rw[h3];rfl)
  simp only[List.take_zero,IK,CE]at h0;exact h0
 unfold SK;simp only[Gs,CU]
def Ox(f:Frame):Prop:=isN f.src=Y/\isN f.dst=Y/\(f.src - f.dst=1\/f.dst - f.src=1)
def ayS{f:Frame}(h:Ox f):EA (pcF f)=Y:=by
 have:=asr f;unfold EA pcF;simp only[h.1,h.2.1,AS,Sx,AE,C8,decide_eq_true_eq];exact⟨h.2.2,J⟩
def aFg{ra:List AK}{fs:List Frame}(h:ra.length<=30):(CC ra fs).length<=30:=by
 unfold CC;simp;omega
def aGn{ra:List AK}{fs:List Frame}(h:∀p∈ra,EA p=Y)(hf:∀f∈fs,Ox f):∀p∈CC ra fs,EA p=Y:=by
 intro p hp;obtain h1|h1:=BN.1 hp
 .exact h p h1
 .obtain⟨f,h2,rfl⟩:=C0.1 h1;exact ayS<|hf f<|HI h2
def kr{a t:Int}(h:isN (Bu a t)=Y):isN a=Y/\(a - Bu a t=1\/Bu a t - a=1):=by
 have h0:=Em h;revert h0;unfold Bu;split
 .omega
 .rename_i h1;intro _;simp only[C8,CM,not_or,Bool.not_eq_false]at h1;refine⟨h1.1, ?_⟩;split<;>omega
def av8{f:Frame}(h:By f=Y):Ox f:=by
 obtain⟨r1,r2,_,_,_,_,r7⟩:=OW h;refine⟨r1,r2, ?_⟩;unfold K0 at r7;split at r7
 .simp only[AE,decide_eq_true_eq]at r7;have h1:=r7.2.2.2;have:=kr (a:=f.src) (t:=f.to) (by rw[← h1];exact r2);rw[← h1]at this;exact this.2
 .simp only[AE,decide_eq_true_eq]at r7;have h1:=r7.2.2.2.2;have:=kr (a:=f.dst) (t:=f.to) (by rw[← h1];exact r1);rw[← h1]at this;exact this.2.symm
def axT{f:Frame}(n:Int)(h:Ox f):Ox (Cs n f):=⟨h.2.1,h.1,h.2.2.symm⟩
def auC(k:A7)(f:Frame):(C4 k f).2=[]\/(By f=Y/\ ∃n,(C4 k f).2=[Cs n f]):=by
 unfold C4;split
 .unfold HA;split
  .rename_i hc;simp only[AE]at hc;split
   .unfold Dz;split
    .exact .inr ⟨hc.2.1,3,rfl⟩
    .split
     .exact .inr ⟨hc.2.1,2,rfl⟩
     .split
      .exact .inl rfl
      .unfold Iv;split
       .split
        .unfold JL;split
         .exact .inr ⟨hc.2.1,2,rfl⟩
         .exact .inl rfl
        .exact .inl rfl
       .exact .inl rfl
   .split<;>exact .inl rfl
  .exact .inl rfl
 .exact .inl rfl
def YV(k:A7)(f:Frame):(C4 k f).2.length<=1/\ ∀g∈(C4 k f).2,Ox g:=by
 obtain h|⟨h,n,h1⟩:=auC k f
 .rw[h];exact⟨by simp,λg hg=>by cases hg⟩
 .rw[h1];exact⟨by simp,λg hg=>by rw[C1.1 hg];exact axT n<|av8 h⟩
def avd{k:A7}(h:Ae k=Y){fr nu mix:Int}(hb:(EC k fr nu mix).2=Y):Ox (EC k fr nu mix).1:=by
 unfold EC at hb ⊢;split
 .rename_i hc;simp only[AE,CM,decide_eq_false_iff_not]at hc;have hk:=CQ h;have h0:=(FE<|Qx.1 hc.2.1).1;have:=lI hk.kok (n:=nA (stT k).held (AZ (stT k).held fr nu).toNat) (by rw[nA,BG,Av h0];exact Ci h0);rw[hk.id]at this;have h2:=kr this;exact⟨h2.1,this,h2.2⟩
 .rename_i hc;rw[A9 hc]at hb;cases hb
structure B8 (w:AA):Prop where
 kl:w.A8.length=4
 ll:w.An.length=3
 rl:w.AM.length<=30
 sl:w.AX.length<=6
 gl:w.got.length<=6
 k:∀i,i<4->Ae (kA w.A8 i)=Y/\(kA w.A8 i).id=(i:Int)
 p:∀p∈w.AM,EA p=Y
 s:∀n∈w.AX,Aw n=Y
 g:∀n∈w.got,Aw n=Y
def Ft(w:AA)(p:AK)(ra:List AK):AA:=
 if(Cb<|B9 p.data).2&&(U ((Cb<|B9 p.data).1.src=p.src)&&U ((Cb<|B9 p.data).1.dst=p.dst)) then
  ⟨w.ti,w.A8.set p.dst.toNat (C4 (kA w.A8 p.dst.toNat) (Cb<|B9 p.data).1).1,w.An,CC ra (C4 (kA w.A8 p.dst.toNat) (Cb<|B9 p.data).1).2,w.AX,w.got⟩
 else⟨w.ti,w.A8,w.An,ra,w.AX,w.got⟩
def On(p:AK)(mix kp:Int):AK:=⟨p.src,p.dst,BF<|Bq (B9 p.data) mix.toNat<|Ds .u8 (@rd Int aHh (B9 p.data) mix)<|w8 kp,Y⟩
def I8(ra:List AK)(i:Nat):List AK:=ra.take i++ra.drop (i+1)
def lnk(p:AK):Int:=if p.src<p.dst then p.src else p.dst
def Dx(w:AA)(e:Event):AA×Bool:=
 if inB e.wo 0 ((w.AM.length:Int) - 1) then
  if e.ki=6 then
   if !(pA w.AM e.wo.toNat).sp&&(inB e.mix 0 (((pA w.AM e.wo.toNat).data.size:Int) - 1)&&inB e.kp 1 255) then
    (⟨w.ti,w.A8,w.An,w.AM.set e.wo.toNat<|On (pA w.AM e.wo.toNat) e.mix e.kp,w.AX,w.got⟩,Y)
   else(w,A0)
  else if e.ki=5 then(⟨w.ti,w.A8,w.An,I8 w.AM e.wo.toNat,w.AX,w.got⟩,Y)
  else if bA w.An (lnk<|pA w.AM e.wo.toNat).toNat then(Ft w (pA w.AM e.wo.toNat)<|if e.kp=0 then I8 w.AM e.wo.toNat else w.AM,Y)
  else(w,A0)
 else(w,A0)
def Gp(w:AA)(i:Nat)(k:A7):AA:=⟨w.ti,w.A8.set i k,w.An,w.AM,w.AX,w.got⟩
def MY(w:AA)(e:Event)(k:A7):AA×Bool:=
 if 6<=w.AX.length then(w,A0)
 else if(Dq k e.to e.un e.tx).2=0 then(w,A0)
 else(⟨w.ti,w.A8.set e.at_.toNat (Dq k e.to e.un e.tx).1,w.An,w.AM,w.AX++[⟨e.at_,(Dq k e.to e.un e.tx).2,e.to,e.un,e.tx⟩],w.got⟩,Y)
def Mb(w:AA)(e:Event)(k:A7):AA×Bool:=
 if(Db k e.fr e.nu).2.2&&U (w.got.length<6) then
  (⟨w.ti,w.A8.set e.at_.toNat (Db k e.fr e.nu).1,w.An,w.AM,w.AX,w.got++[(Db k e.fr e.nu).2.1]⟩,Y)
 else(w,A0)
def Ig(w:AA)(e:Event)(k:A7):AA×Bool:=
 if e.ki=1 then MY w e k
 else if e.ki=2 then(Gp w e.at_.toNat (FL k).1,(FL k).2)
 else if e.ki=3 then(if(EC k e.fr e.nu e.mix).2 then(⟨w.ti,w.A8,w.An,CC w.AM [(EC k e.fr e.nu e.mix).1],w.AX,w.got⟩,Y) else(w,A0))
 else if e.ki=7 then(Gp w e.at_.toNat<|faM k e.kp,k.up)
 else if e.ki=8 then(Gp w e.at_.toNat<|riM k,!k.up)
 else if e.ki=11 then Mb w e k
 else if e.ki=12 then(Gp w e.at_.toNat (FM k).1,(FM k).2)
 else if e.ki=13 then(Gp w e.at_.toNat (FK k).1,(FK k).2)
 else(w,A0)
def Fc(w:AA)(e:Event):AA×Bool:=
 if inB e.at_ 0 ((w.An.length:Int) - 1)&& !decide (bA w.An e.at_.toNat=U (e.ki=9)) then
  (⟨w.ti,w.A8,w.An.set e.at_.toNat<|U<|e.ki=9,w.AM,w.AX,w.got⟩,Y)
 else(w,A0)
def doM(w:AA)(e:Event):AA×Bool:=
 if e.ki=4\/e.ki=5\/e.ki=6 then Dx w e
 else if e.ki=9\/e.ki=10 then Fc w e
 else if isN e.at_ then Ig w e (kA w.A8 e.at_.toNat)
 else(w,A0)
abbrev tE(e:Event):Int×Int×Int×Int×Int×Int×Int×Int×Int×A1×D:=(e.ki,e.at_,e.fr,e.nu,e.wo,e.mix,e.kp,e.to,e.un,e.tx,())
abbrev tS(w:AA)(ev:List Event):Int×List A7×List Bool×List AK×List A3×List A3×List Event×D:=(w.ti,w.A8,w.An,w.AM,w.AX,w.got,ev,())
def tick(w:AA)(b:Bool):AA:=if b then⟨w64<|w.ti+1,w.A8,w.An,w.AM,w.AX,w.got⟩ else w
def Cw(w:AA)(e:Event):AA:=tick (doM w e).1 (doM w e).2
def K8(ev:List Event)(e:Event)(b:Bool):List Event:=if b then ev++[e] else ev
def aCc(l:List AK)(i:Int): @rd AK aHe l i=pA l i.toNat:=rfl
def Yj(l:List Bool)(i:Int): @rd Bool aHm l i=bA l i.toNat:=rfl
def oW{l:List AK}{i:Nat}(h:i<l.length):pA l i=l[i]:=by
 rw[pA,BG,Av h];rfl
def Da{i:Int}{n:Nat}(h0:0<=i)(h1:i<n):inb i n=Y:=by unfold inb;simp;omega
def N4{p:AK}(h:EA p=Y):(0<=p.src/\p.src<=3)/\(0<=p.dst/\p.dst<=3)/\p.data.size<=40/\0<=lnk p/\lnk p<3:=by
 unfold EA at h;simp only[AE,C8,decide_eq_true_eq]at h;have a:=Em h.1;have b:=Em h.2.1;refine⟨a,b,J, ?_, ?_⟩<;>unfold lnk<;>split<;>omega
def alS(a b:Int):fX (a,b,())=I ((if a<b then a else b,()),()):=by
 unfold fX;obtain e|e:=tfp (a<b)<;>simp only[e,AW,Ad,A2,if_false,A4]
def OY{w:AA}(h:B8 w){i:Nat}(hi:i<w.AM.length):EA (pA w.AM i)=Y:=by
 rw[oW hi];exact h.p _<|Ci hi
def UL{w:AA}(h:B8 w){i:Nat}(hi:i<4):F5 (kA w.A8 i):=D0 (h.k i hi).1
def Q9{n:Nat}(h:n<=1048576):w64 ((n:Int) - 1)=(n:Int) - 1:=AU J J
def nd{p:Prop}[Decidable p](h:¬p):¬(U p=Y):=by simpa using h
def aGm{α:Type}(l:List α)(i:Nat)(x y:α):(l.set i x).set i y=l.set i y:=by simp
def aap{l:List AK}{i:Nat}(h:i<l.length)(p:AK):pA (l.set i p) i=p:=by
 rw[pA,BG,Zr h];rfl
def oS(s:A1):(B9 s).length=s.size:=by rw[T6,De,Ax]
def Qd{n:Int}(h:isN n=Y):n.toNat<4:=by have:=Em h;omega
section
variable {Ω:Type} {K2:List A7->List AK->Option Ω} {F:Option Ω}
def abF{w:AA}(h:B8 w){e:Event}(hk:e.ki≠5){p:AK}(hp:EA p=Y)(ra:List AK):RQ w.A8 ra (tE e) p K2=K2 (Ft w p ra).A8 (Ft w p ra).AM:=by
 obtain⟨p1,p2,p3,p4,p5⟩:=N4 hp;have hin:inb p.dst w.A8.length=Y:=Da p2.1 (by rw[h.kl];omega);unfold RQ Ft;rw[A9<|nd hk,A5<|BD J,afF<|BOk.str _];generalize Cb (B9 p.data)=u;simp only[A6];obtain e2|e2:=tf u.2<;>simp only[e2,AB,AH,A4,A2,AS,AO];obtain e3|e3:=tfp (u.1.src=p.src)<;>simp only[e3,AW,Ad,AB,AH,A4,A2,AS,AO];obtain e4|e4:=tfp (u.1.dst=p.dst)<;>simp only[e4,AW,Ad,AB,AH,A4,A2];simp only[hin,A2,Sr];rw[show VV ((_,_,_,_,_,()),_,())=_ from agR (UL h (i:=p.dst.toNat) J) u.1];simp only[A6];rw[zB (by have:=(YV (kA w.A8 p.dst.toNat) u.1).1;omega)];rfl
def abH{a:List A7}{ra:List AK}{e:Event}(h0:0<=e.wo)(h1:e.wo<ra.length)(hl:ra.length<=1048576)(p:AK):av a ra (tE e) p K2=RQ a (I8 ra e.wo.toNat) (tE e) p K2:=by
 have hw:w64 (e.wo+1)=e.wo+1:=AU J J;have hn:(e.wo+1).toNat=e.wo.toNat+1:=J
 unfold av;simp only[hw,hn];rw[A5 y8,A5<|BD y8,A5 y8,A5<|BD y8];rfl
def ay7{w:AA}(h:B8 w){e:Event}(hk:e.ki=4\/e.ki=5\/e.ki=6):RR w.A8 w.An w.AM (tE e) K2 F=if(Dx w e).2 then K2 (Dx w e).1.A8 (Dx w e).1.AM else F:=by
 have rl:=h.rl;unfold RR Dx;simp only[I0,A6,Q9 (J:w.AM.length<=1048576),aCc];obtain e0|e0:=tf (inB e.wo 0<|(w.AM.length:Int) - 1)
 .have ha:=Aa.1 e0;have hb:inb e.wo w.AM.length=Y:=Da ha.1 J;have hwl:e.wo.toNat<w.AM.length:=J
  have hp:=OY h (i:=e.wo.toNat) hwl;obtain⟨p1,p2,p3,p4,p5⟩:=N4 hp;rw[e0,hb];simp only[AB,A4,A2];obtain c6|c6:=tfp (e.ki=6)
  .simp only[c6,AW,A2,Q9<|show(pA w.AM e.wo.toNat).data.size<=1048576 by omega];obtain e1|e1:=tf (pA w.AM e.wo.toNat).sp<;>simp only[e1,AB,AH,A4,A2,AS,AO];obtain e2|e2:=tf (inB e.mix 0<|((pA w.AM e.wo.toNat).data.size:Int) - 1)<;>simp only[e2,AB,AH,A4,A2,AS,AO];obtain e3|e3:=tf (inB e.kp 1 255)<;>simp only[e3,AB,AH,A4,A2];have hm:=Aa.1 e2;have hmb:inb e.mix (B9 (pA w.AM e.wo.toNat).data).length=Y:=Da hm.1 (by rw[oS];omega);simp only[G2,aGm,aap hwl,hb,A2];rw[A5<|BD J,A5 hmb,A5 hmb];rfl
  .simp only[c6,Ad,A4,if_false];obtain c4|c4:=tfp (e.ki=4)
   .have c5:¬e.ki=5:=by have:e.ki=4:=of_eq_true c4;omega
    have hl:inb (lnk<|pA w.AM e.wo.toNat) w.An.length=Y:=by
     have:=h.ll;exact Da p4 (by rw[this];exact p5)
    have hlk:∀q:AK,(if q.src<q.dst then q.src else q.dst)=lnk q:=λ_=>rfl;simp only[c4,AW,A2,alS,A6,hlk,hl,Yj,A9 c5];obtain e1|e1:=tf (bA w.An (lnk<|pA w.AM e.wo.toNat).toNat)<;>simp only[e1,AB,AH,A4,A2];unfold au;rw[A9<|nd c5];by_cases e5:e.kp=0
    .rw[A5<|AR e5,A5 e5,abH ha.1 J J,abF h c5 hp]
    .rw[A9<|nd e5,A9 e5,abF h c5 hp]
   .have c5:e.ki=5:=by
     have:¬e.ki=4:=by simpa using c4
     have:¬e.ki=6:=by simpa using c6
     omega
    simp only[c4,Ad,A4,A5 c5];unfold au;rw[A5<|AR c5,abH ha.1 J J];unfold RQ;rw[A5<|AR c5];rfl
 .rw[e0];simp only[AH,A2,A4]
def ay8{w:AA}(h:B8 w){e:Event}{K1:List Bool->Option Ω}:Ua w.An (tE e) K1 F=if(Fc w e).2 then K1 (Fc w e).1.An else F:=by
 have ll:=h.ll;unfold Ua Fc;simp only[I0,A6,Q9 (J:w.An.length<=1048576),Yj];obtain e0|e0:=tf (inB e.at_ 0<|(w.An.length:Int) - 1)
 .have ha:=Aa.1 e0;have hb:inb e.at_ w.An.length=Y:=Da ha.1 J;rw[e0,hb];simp only[AB,A4,A2,AS];obtain c|c:=tfp (bA w.An e.at_.toNat=U (e.ki=9))<;>simp only[c,AW,Ad,AB,AH,A2,A4]
 .rw[e0];simp only[AH,AO,A2,A4]
end
section
variable {Ω:Type} {K:List A7->List Bool->List AK->List A3->List A3->Option Ω} {F:Option Ω} {Kv:List A7->Bool->Option Ω} {Km:List AK->Bool->Option Ω} {Kz:Bool->Option Ω} {R:Option Ω}
def ay9{w:AA}(h:B8 w){e:Event}(hk:¬(e.ki=4\/e.ki=5\/e.ki=6))(hk':¬(e.ki=9\/e.ki=10))(ht:e.tx.size<=1048576){B7:AA×Bool}
  (hK:B7.2=Y->K B7.1.A8 B7.1.An B7.1.AM B7.1.AX B7.1.got=R)(hF:B7.2=A0->B7.1=w->F=R)(hKv:∀k' b,B7=(Gp w e.at_.toNat k',b)->Kv (w.A8.set e.at_.toNat k') b=R)
  (hKm:∀ra',B7=(⟨w.ti,w.A8,w.An,ra',w.AX,w.got⟩,Y)->Km ra' Y=R)(hKz:B7=(w,A0)->Kz A0=R):
  ∀X,p8 w.A8 w.AM w.AX w.got (tE e) (λx y z=>K x w.An w.AM y z) F Kv Km Kz=X->doM w e=B7->X=R:=by
 intro X;obtain⟨ki,at_,fr,nu,wo,mix,kp,t',un,tx⟩:=e;simp only at hk hk' ht hKv;have hn:∀(l:List A3) (x:A3),l.length<=6->Ab (l.length+[x].length)=Y:=λl x hl=>BD y8;unfold p8 doM;rw[A9 hk,A9 hk'];simp only[Jq,A6];obtain e0|e0:=tf (isN at_)
 .have ha:=Em e0;have hal:=Qd e0;have hb:inb at_ w.A8.length=Y:=Da ha.1 (by rw[h.kl];omega);have hko:=(h.k _ hal).1;have hks:=UL h hal;simp only[e0,AB,A4,hb,A2,Sr];unfold Ig;obtain e1|e1:=tfp (ki=1)
  .simp only[e1,AW,A2];unfold MY;by_cases hs:6<=w.AX.length
   .rw[A5<|AR (J:6<=(w.AX.length:Int)),A5 hs];intro hX hd;subst hd;rw[← hX];exact hF rfl rfl
   .rw[A9<|nd (J:¬6<=(w.AX.length:Int)),A9 hs];rw[show Vb ((_,_,_,_,_,()),_,_,_,())=_ from ahj hko t' un ht];simp only[A6];obtain e2|e2:=tfp ((Dq (kA w.A8 at_.toNat) t' un tx).2=0)<;>simp only[e2,AW,Ad,A4,A2,if_false]
    .intro hX hd;subst hd;rw[← hX];exact hF rfl rfl
    .rw[A5<|hn _ _ h.sl];intro hX hd;subst hd;rw[← hX];exact hK rfl
  .simp only[e1,Ad,A4,if_false];obtain e2|e2:=tfp (ki=2)
   .simp only[e2,AW,A2];rw[show VR ((_,_,_,_,_,()),())=_ from agO hko];simp only[A6];intro hX hd;subst hd;rw[← hX];exact hKv _ _ rfl
   .simp only[e2,Ad,A4,if_false];obtain e3|e3:=tfp (ki=3)
    .simp only[e3,AW,A2];rw[show Vc ((_,_,_,_,_,()),_,_,_,())=_ from ahk hks fr nu mix];simp only[A6];rw[A5 hko];obtain e4|e4:=tf (EC (kA w.A8 at_.toNat) fr nu mix).2<;>simp only[e4,A2,A4]
     .rw[show SK (_,_,())=_ from zB (ra:=w.AM) (fs:=[(EC (kA w.A8 at_.toNat) fr nu mix).1]) aG9];simp only[A6];intro hX hd;subst hd;rw[← hX];exact hKm _ rfl
     .intro hX hd;subst hd;rw[← hX];exact hKz rfl
    .simp only[e3,Ad,A4,if_false];obtain e4|e4:=tfp (ki=7)
     .simp only[e4,AW,A2];rw[show VW ((_,_,_,_,_,()),_,())=_ from agS hks kp];simp only[A6];rw[A5 hko];intro hX hd;subst hd;rw[← hX];exact hKv _ _ rfl
     .simp only[e4,Ad,A4,if_false];obtain e5|e5:=tfp (ki=8)
      .simp only[e5,AW,A2];rw[show VT ((_,_,_,_,_,()),())=_ from agP hko];simp only[A6];intro hX hd;subst hd;rw[← hX];exact hKv _ _ rfl
      .simp only[e5,Ad,A4,if_false];obtain e6|e6:=tfp (ki=11)
       .simp only[e6,AW,A2];unfold Mb;rw[show Vd ((_,_,_,_,_,()),_,_,())=_ from ahl hko fr nu];simp only[A6];obtain e7|e7:=tf (Db (kA w.A8 at_.toNat) fr nu).2.2<;>simp only[e7,A2,A4,AS,AO]
        .by_cases hs:w.got.length<6
         .rw[A5<|AR<|show(j8 w.got:Int)<6 by omega,A5<|AR hs,A5<|hn _ _ h.gl];intro hX hd;subst hd;rw[← hX];exact hK rfl
         .rw[A9<|nd (J:¬(j8 w.got:Int)<6),A9<|nd hs];intro hX hd;subst hd;rw[← hX];exact hF rfl rfl
        .intro hX hd;subst hd;rw[← hX];exact hF rfl rfl
       .simp only[e6,Ad,A4,if_false];obtain e7|e7:=tfp (ki=12)
        .simp only[e7,AW,A2];rw[show VU ((_,_,_,_,_,()),())=_ from agQ hko];simp only[A6];intro hX hd;subst hd;rw[← hX];exact hKv _ _ rfl
        .simp only[e7,Ad,A4,if_false];obtain e8|e8:=tfp (ki=13)
         .simp only[e8,AW,A2];rw[show VJ ((_,_,_,_,_,()),())=_ from afE hko];simp only[A6];intro hX hd;subst hd;rw[← hX];exact hKv _ _ rfl
         .simp only[e8,Ad,A4,if_false];intro hX hd;subst hd;rw[← hX];exact hF rfl rfl
 .simp only[e0,AH,A4,A2];intro hX hd;subst hd;rw[← hX];exact hF rfl rfl
def atZ{w:AA}{e:Event}(h:(Dx w e).2=A0):(Dx w e).1=w:=by
 unfold Dx at h ⊢;split
 .rename_i h2;rw[A5 h2]at h;split
  .rename_i h3;rw[A5 h3]at h;split
   .rename_i h4;rw[A5 h4]at h;cases h
   .rfl
  .rename_i h3;rw[A9 h3]at h;split
   .rename_i h4;rw[A5 h4]at h;cases h
   .rename_i h4;rw[A9 h4]at h;split
    .rename_i h5;rw[A5 h5]at h;cases h
    .rfl
 .rfl
def as5(w:AA)(e:Event):(Dx w e).1.An=w.An/\(Dx w e).1.AX=w.AX/\(Dx w e).1.got=w.got:=by
 unfold Dx;split
 .split
  .split<;>exact⟨rfl,rfl,rfl⟩
  .split
   .exact⟨rfl,rfl,rfl⟩
   .split
    .unfold Ft;split<;>exact⟨rfl,rfl,rfl⟩
    .exact⟨rfl,rfl,rfl⟩
 .exact⟨rfl,rfl,rfl⟩
def abb{w:AA}(h:B8 w){e:Event}(ht:e.tx.size<=1048576)
  (hK:(doM w e).2=Y->K (doM w e).1.A8 (doM w e).1.An (doM w e).1.AM (doM w e).1.AX (doM w e).1.got=R)(hF:(doM w e).2=A0->(doM w e).1=w->F=R)(hKv:∀k' b,doM w e=(Gp w e.at_.toNat k',b)->Kv (w.A8.set e.at_.toNat k') b=R)
  (hKm:∀ra',doM w e=(⟨w.ti,w.A8,w.An,ra',w.AX,w.got⟩,Y)->Km ra' Y=R)(hKz:doM w e=(w,A0)->Kz A0=R):
  doK w.A8 w.An w.AM w.AX w.got (tE e) K F Kv Km Kz=R:=by
 have rad:(e.ki=4\/e.ki=5\/e.ki=6)->RR w.A8 w.An w.AM (tE e) (λx y=>K x w.An y w.AX w.got) F=R:=by
  intro hk;have hd:doM w e=Dx w e:=by
   unfold doM;rw[A5 hk]
  rw[ay7 h hk];rw[hd]at hK hF;obtain⟨r1,r2,r3⟩:=as5 w e;obtain c|c:=tf (Dx w e).2
  .have:=hK c;rw[r1,r2,r3]at this;rw[c,A5 rfl];exact this
  .rw[c,A4];exact hF c<|atZ c
 have lk:(e.ki=9\/e.ki=10)->Ua w.An (tE e) (λy=>K w.A8 y w.AM w.AX w.got) F=R:=by
  intro hk;have hd:doM w e=Fc w e:=by
   unfold doM;rw[A9 J,A5 hk]
  rw[ay8 h];rw[hd]at hK hF;obtain c|c:=tf (Fc w e).2
  .have:=hK c;rw[c,A5 rfl,← this];unfold Fc;split<;>rfl
  .rw[c,A4];refine hF c ?_;unfold Fc at c ⊢;split
   .rename_i h3;rw[A5 h3]at c;cases c
   .rfl
 unfold doK;by_cases h4:e.ki=4
 .rw[A5<|AR h4];exact rad J
 .rw[A9<|nd h4];by_cases h5:e.ki=5
  .rw[A5<|AR h5];exact rad J
  .rw[A9<|nd h5];by_cases h6:e.ki=6
   .rw[A5<|AR h6];exact rad J
   .rw[A9<|nd h6];by_cases h9:e.ki=9
    .rw[A5<|AR h9];exact lk J
    .rw[A9<|nd h9];by_cases h10:e.ki=10
     .rw[A5<|AR h10];exact lk J
     .rw[A9<|nd h10];exact ay9 h J J ht hK hF hKv hKm hKz _ rfl rfl
end
def aw3(w:AA)(p:AK)(ra:List AK):(Ft w p ra).ti=w.ti:=by unfold Ft;split<;>rfl
def oQ(w:AA)(e:Event):(doM w e).1.ti=w.ti:=by
 unfold doM;split
 .unfold Dx;split
  .split
   .split<;>rfl
   .split
    .rfl
    .split
     .exact aw3 _ _ _
     .rfl
  .rfl
 .split
  .unfold Fc;split<;>rfl
  .split
   .unfold Ig;split
    .unfold MY;split
     .rfl
     .split<;>rfl
    .split
     .rfl
     .split
      .split<;>rfl
      .split
       .rfl
       .split
        .rfl
        .split
         .unfold Mb;split<;>rfl
         .split
          .rfl
          .split<;>rfl
   .rfl
def atQ{w:AA}(h:B8 w){r:List Int×Int×D}{ev:List Event}(hev:ev.length<=1048576){e:Event}(ht:e.tx.size<=1048576):
  FP ((r,tS w ev),tE e,())=I (((doM w e).2,()),((r,tS (Cw w e)<|K8 ev e (doM w e).2),())):=by
 have hr:∀x:Event,Ab (ev.length+[x].length)=Y:=λx=>BD y8;have hti:=oQ w e;unfold FP;refine abb (w:=w) h (e:=e) ht (λc=> ?_) (λc c2=> ?_) (λk b c=> ?_) (λra c=> ?_) (λc=> ?_)
 .unfold Cw tick K8;rw[c,A5<|hr _,A5 rfl,A5 rfl,hti]
 .unfold Cw tick K8;rw[c,A4,A4,c2]
 .unfold Cw tick K8;rw[c];cases b
  .rfl
  .show(if Ab _ then _ else _)=_;rw[A5<|hr _];rfl
 .unfold Cw tick K8;rw[c,A5 rfl,A5<|hr _];rfl
 .unfold Cw tick K8;rw[c];rfl
end Go.VS
namespace Go.VS
open Go
def Tk(k:A7)(r:A1)(f:Bool):(wrR k r f).1.id=k.id:=by
 unfold wrR;split
 .rfl
 .cases f<;>rfl
def avL{k:A7}(h:Ae k=Y)(f:Frame):(C4 k f).1.id=k.id:=by
 unfold C4;rw[A5 h];unfold HA;split
 .split
  .unfold Dz;split
   .rfl
   .split
    .rfl
    .split
     .rfl
     .unfold Iv;split
      .split
       .unfold JL;split
        .exact Tk _ _ _
        .rfl
       .rfl
      .rfl
  .split
   .exact Tk _ _ _
   .rfl
 .rfl
def auo(k:A7):(FL k).1.id=k.id:=by
 unfold FL;split
 .exact Tk _ _ _
 .rfl
def awY(k:A7)(tt un:Int)(tx:A1):(Dq k tt un tx).1.id=k.id:=by
 unfold Dq;split
 .exact Tk _ _ _
 .rfl
def axf(k:A7)(fr nu:Int):(Db k fr nu).1.id=k.id:=by
 unfold Db;split
 .exact Tk _ _ _
 .rfl
def auj(k:A7):(FM k).1.id=k.id:=by unfold FM;split<;>rfl
def auJ(k:A7):(FK k).1.id=k.id:=by unfold FK;split<;>rfl
def abC(k:A7)(n:Int):(faM k n).id=k.id:=by unfold faM;rfl
def ayP(k:A7):(riM k).id=k.id:=rfl
def ayN{k:A7}(h:Ae k=Y):Ae (riM k)=Y:=(ayO<|CQ h).ok
def HV{l:List A7}{i j:Nat}(hi:i<l.length)(k:A7):kA (l.set i k) j=if j=i then k else kA l j:=by
 unfold kA;simp only[BG,U8];by_cases h:j=i
 .subst h;simp[hi]
 .have h':¬i=j:=λe=>h e.symm;simp[h,h']
def B8.put{w:AA}(h:B8 w){i:Nat}(hi:i<4){k:A7}(hk:Ae k=Y)(hid:k.id=(kA w.A8 i).id)(ra:List AK)(se go:List A3)
  (rl:ra.length<=30)(sl:se.length<=6)(gl:go.length<=6)(p:∀p∈ra,EA p=Y)(s:∀n∈se,Aw n=Y)(g:∀n∈go,Aw n=Y):
  B8 ⟨w.ti,w.A8.set i k,w.An,ra,se,go⟩:=by
 refine⟨by rw[G2];exact h.kl,h.ll,rl,sl,gl,λj hj=> ?_,p,s,g⟩;show Ae (kA (w.A8.set i k) j)=Y/\(kA (w.A8.set i k) j).id=(j:Int);rw[HV (by rw[h.kl];exact hi)];split
 .rename_i e;rw[e,hid];exact⟨hk,(h.k i hi).2⟩
 .exact h.k j hj
def B8.Gp{w:AA}(h:B8 w){i:Nat}(hi:i<4){k:A7}(hk:Ae k=Y)(hid:k.id=(kA w.A8 i).id):B8 (Gp w i k):=
 h.put hi hk hid w.AM w.AX w.got h.rl h.sl h.gl h.p h.s h.g
def B8.ra{w:AA}(h:B8 w){ra:List AK}(rl:ra.length<=30)(p:∀p∈ra,EA p=Y):B8 ⟨w.ti,w.A8,w.An,ra,w.AX,w.got⟩:=
 ⟨h.kl,h.ll,rl,h.sl,h.gl,h.k,p,h.s,h.g⟩
def B8.ti{w:AA}(h:B8 w)(n:Int):B8 ⟨n,w.A8,w.An,w.AM,w.AX,w.got⟩:=⟨h.kl,h.ll,h.rl,h.sl,h.gl,h.k,h.p,h.s,h.g⟩
def TX{w:AA}(h:B8 w)(i:Nat):(I8 w.AM i).length<=30/\ ∀p∈I8 w.AM i,EA p=Y:=by
 have:=h.rl;refine⟨by unfold I8;simp;omega,λp hp=>h.p p ?_⟩;obtain h1|h1:=BN.1 hp
 .exact HI h1
 .exact Iz h1
def att{w:AA}(h:B8 w){p:AK}(hp:EA p=Y){ra:List AK}(rl:ra.length<=30)(hra:∀p∈ra,EA p=Y):B8 (Ft w p ra):=by
 unfold Ft;obtain⟨_,p2,_⟩:=N4 hp;split
 .have hi:p.dst.toNat<4:=J
  exact h.put hi (avK (h.k _ hi).1 _) (avL (h.k _ hi).1 _) _ _ _ (aFg rl) h.sl h.gl (aGn hra (YV _ _).2) h.s h.g
 .exact h.ra rl hra
def atG{p:AK}(hp:EA p=Y)(mix kp:Int):EA (On p mix kp)=Y:=by
 unfold EA On at *;simpa[Sx,oS] using hp
def ata{w:AA}(h:B8 w)(e:Event):B8 (Dx w e).1:=by
 unfold Dx;split
 .rename_i h0;have h0:=Aa.1 h0;have hlt:e.wo.toNat<w.AM.length:=J
  have hp:=OY h hlt;split
  .split
   .refine h.ra (by rw[G2];exact h.rl) λp hp'=> ?_;obtain h1|h1:=ML hp'
    .exact h.p p h1
    .rw[h1];exact atG hp _ _
   .exact h
  .split
   .exact h.ra (TX h _).1 (TX h _).2
   .split
    .refine att h hp ?_ ?_<;>split
     .exact(TX h _).1
     .exact h.rl
     .exact(TX h _).2
     .exact h.p
    .exact h
 .exact h
def avl{w:AA}(h:B8 w)(e:Event):B8 (Fc w e).1:=by
 unfold Fc;split
 .exact⟨h.kl,by show(w.An.set _ _).length=3;rw[G2];exact h.ll,h.rl,h.sl,h.gl,h.k,h.p,h.s,h.g⟩
 .exact h
def aDn{k:A7}{tt un:Int}{tx:A1}(h:(Dq k tt un tx).2≠0):Aw ⟨k.id,(Dq k tt un tx).2,tt,un,tx⟩=Y:=by
 unfold Dq at h ⊢;split
 .rename_i hc;rw[A5 hc]at h;simp only[AE]at hc;simp only at h ⊢;split
  .exact hc.2
  .rename_i h1;rw[A9 h1]at h;exact absurd rfl h
 .rename_i hc;rw[A9 hc]at h;exact absurd rfl h
def ath{k:A7}(hk:Ae k=Y){fr nu:Int}(h:(Db k fr nu).2.2=Y):Aw (Db k fr nu).2.1=Y:=by
 unfold Db at h ⊢;split
 .rename_i hc;rw[A5 hc]at h;simp only at h ⊢;rw[A5 h];simp only[AE,CM,decide_eq_false_iff_not]at hc;exact Gx (C2 (CQ hk).kok).i (FE<|Qx.1 hc.2).1
 .rename_i hc;rw[A9 hc]at h;cases h
def OR{α:Type}{l:List α}{P:α->Prop}{a:α}(h:∀x∈l,P x)(ha:P a):∀x∈l++[a],P x:=by
 intro x hx;obtain h1|h1:=BN.1 hx
 .exact h x h1
 .rw[C1.1 h1];exact ha
def arX{w:AA}(h:B8 w)(e:Event)(ha:isN e.at_=Y):B8 (Ig w e<|kA w.A8 e.at_.toNat).1:=by
 have hi:=Qd ha;have hr:=Em ha;obtain⟨hk,hid⟩:=h.k _ hi;unfold Ig;split
 .unfold MY;split
  .exact h
  .split
   .exact h
   .rename_i h1 h2;refine h.put hi (axH hk _ _ _) (awY _ _ _ _) _ _ _ h.rl y8 h.gl h.p (OR h.s ?_) h.g;have:=aDn h2;rw[hid,mc hr.1]at this;exact this
 .split
  .exact h.Gp hi (aun hk) (auo _)
  .split
   .split
    .rename_i h1;exact h.ra (aFg h.rl) (aGn h.p λf hf=>by rw[C1.1 hf];exact avd hk h1)
    .exact h
   .split
    .exact h.Gp hi (oH hk _) (abC _ _)
    .split
     .exact h.Gp hi (ayN hk) (ayP _)
     .split
      .unfold Mb;split
       .rename_i h1;simp only[AE,decide_eq_true_eq]at h1;exact h.put hi (axe hk _ _) (axf _ _ _) _ _ _ h.rl h.sl y8 h.p h.s (OR h.g<|ath hk h1.1)
       .exact h
      .split
       .exact h.Gp hi (aui hk) (auj _)
       .split
        .exact h.Gp hi (auI hk) (auJ _)
        .exact h
def abG{w:AA}(h:B8 w)(e:Event):B8 (doM w e).1:=by
 unfold doM;split
 .exact ata h e
 .split
  .exact avl h e
  .split
   .rename_i h1;exact arX h e h1
   .exact h
def awz{w:AA}(h:B8 w)(b:Bool):B8 (tick w b):=by
 unfold tick;split
 .exact h.ti _
 .exact h
def nb{w:AA}(h:B8 w)(e:Event):B8 (Cw w e):=awz (abG h e) _
def kp0(i:Int):A7:=⟨i,Y,noB,0,[]⟩
def rv0:AA:=⟨0,[kp0 0,kp0 1,kp0 2,kp0 3],[Y,Y,Y],[],[],[]⟩
def axw{i:Int}(h:isN i=Y):Ae (kp0 i)=Y:=by
 refine XB (k:=kp0 i) (rs:=[]) (ts:=[]) h ⟨?_,(show noB.size<=2400 by decide),by rfl,by rfl⟩ (show 0<=3 by decide) (.inl rfl) ?_ (λi hi=>absurd hi<|Nat.not_lt_zero _)
 .intro r hr;cases hr
 .unfold Cd;rw[A5<|show isN (kp0 i).id=Y from h];rfl
def UO{i:Nat}(hi:i<4):kA rv0.A8 i=kp0 i:=by
 have:i=0\/i=1\/i=2\/i=3:=J
 obtain rfl|rfl|rfl|rfl:=this<;>rfl
def Ih{i:Nat}(hi:i<4):isN (i:Int)=Y:=Aa.2 ⟨J,J⟩
def abt:B8 rv0:=by
 refine⟨rfl,rfl,by decide,by decide,by decide,λi hi=> ?_,(λp hp=>by cases hp),(λp hp=>by cases hp),(λp hp=>by cases hp)⟩;rw[UO hi];exact⟨axw<|Ih hi,rfl⟩
def PL(k:A7):Prop:=k.up=A0->k.fo=(k.log.size:Int)
def Ok(k:A7)(r:A1)(f:Bool):(wrR k r f).1.up=k.up:=by
 unfold wrR;split
 .rfl
 .cases f<;>rfl
def awP{k:A7}(h:Ae k=Y)(f:Frame):(C4 k f).1.up=k.up:=by
 unfold C4;rw[A5 h];unfold HA;split
 .split
  .unfold Dz;split
   .rfl
   .split
    .rfl
    .split
     .rfl
     .unfold Iv;split
      .split
       .unfold JL;split
        .exact Ok _ _ _
        .rfl
       .rfl
      .rfl
  .split
   .exact Ok _ _ _
   .rfl
 .rfl
def auB{k:A7}(ok:Ae k=Y)(h:k.up=A0)(f:Frame):C4 k f=(k,[]):=by
 unfold C4;rw[A5 ok];unfold HA;rw[h,AO,A4]
def auk{k:A7}(h:k.up=A0)(tt un:Int)(tx:A1):Dq k tt un tx=(k,0):=by
 unfold Dq;rw[h,AO,A4]
def awH{k:A7}(h:k.up=A0)(a b:Int):Db k a b=(k,zN,A0):=by
 unfold Db;rw[h,AO,A4]
def asZ{k:A7}(h:k.up=A0):FL k=(k,A0):=by
 unfold FL;rw[h,A4]
def asq{k:A7}(h:k.up=A0):FM k=(k,A0):=by
 unfold FM;rw[h,A4]
def arK{k:A7}(h:k.up=A0):FK k=(k,A0):=by
 unfold FK;rw[h,AO,A4]
def ayT(k:A7)(tt un:Int)(tx:A1):(Dq k tt un tx).1.up=k.up:=by
 unfold Dq;split
 .exact Ok _ _ _
 .rfl
def ay2(k:A7)(a b:Int):(Db k a b).1.up=k.up:=by
 unfold Db;split
 .exact Ok _ _ _
 .rfl
def awx(k:A7):(FL k).1.up=k.up:=by
 unfold FL;split
 .exact Ok _ _ _
 .rfl
def axG(k:A7):(FM k).1.up=k.up:=by unfold FM;split<;>rfl
def av9(k:A7):(FK k).1.up=k.up:=by unfold FK;split<;>rfl
def QP{k k':A7}(h:PL k)(hu:k'.up=k.up)(hd:k.up=A0->k'=k):PL k':=λe=>by
 rw[hu]at e;rw[hd e];exact h e
def axX(k:A7)(n:Int):PL (faM k n):=by
 intro _;unfold faM;simp only;have h:=(Q4<|k.log.extract 0 (k.fo+max 0 (min n<|(k.log.size:Int) - k.fo)).toNat).1;rw[@Tx];omega
def awC{k:A7}(ok:Ae k=Y)(h:k.up=A0)(d:PL k)(n:Int):faM k n=k:=by
 obtain⟨_,h2,h3⟩:=arO (CQ ok) (d h) n;have h4:=aFt ok h;have:faM k n=⟨(faM k n).id,(faM k n).up,(faM k n).log,(faM k n).fo,(faM k n).AG⟩:=rfl;rw[this,h2,h3,abC,show(faM k n).up=k.up from by rw[h];rfl,show(faM k n).AG=k.AG from by rw[h4];rfl]
def aGp{k:A7}(h:k.up=Y):riM k=k:=by
 unfold riM;rw[← h]
def L7{l:List A7}{i:Nat}:l.set i (kA l i)=l:=by
 apply mU;intro j;rw[U8];by_cases h:i=j
 .subst h;by_cases h1:i<l.length
  .rw[A5 rfl,A5 h1,kA,BG,Av h1];rfl
  .rw[A5 rfl,A9 h1,Hm J]
 .rw[A9 h]
def QB{w:AA}{i:Nat}{k:A7}(h:k=kA w.A8 i):Gp w i k=w:=by
 subst h;unfold Gp;rw[L7]
structure PS (w:AA):Prop where
 d:∀i,i<4->PL (kA w.A8 i)
def ay6{w:AA}(h:B8 w)(hd:PS w){e:Event}(ho:(doM w e).2=A0):(doM w e).1=w:=by
 unfold doM at ho ⊢;split
 .rename_i h1;rw[A5 h1]at ho;unfold Dx at ho ⊢;split
  .rename_i h2;rw[A5 h2]at ho;split
   .rename_i h3;rw[A5 h3]at ho;split
    .rename_i h4;rw[A5 h4]at ho;cases ho
    .rfl
   .rename_i h3;rw[A9 h3]at ho;split
    .rename_i h4;rw[A5 h4]at ho;cases ho
    .rename_i h4;rw[A9 h4]at ho;split
     .rename_i h5;rw[A5 h5]at ho;cases ho
     .rfl
  .rfl
 .rename_i h1;rw[A9 h1]at ho;split
  .rename_i h2;rw[A5 h2]at ho;unfold Fc at ho ⊢;split
   .rename_i h3;rw[A5 h3]at ho;cases ho
   .rfl
  .rename_i h2;rw[A9 h2]at ho;split
   .rename_i h3;rw[A5 h3]at ho;have hi:=Qd h3;obtain⟨ok,_⟩:=h.k _ hi;have hdk:=hd.d _ hi;unfold Ig at ho ⊢;split
    .rename_i c;rw[A5 c]at ho;unfold MY at ho ⊢;split
     .rfl
     .rename_i c1;rw[A9 c1]at ho;split
      .rfl
      .rename_i c2;rw[A9 c2]at ho;cases ho
    .rename_i c;rw[A9 c]at ho;split
     .rename_i c;rw[A5 c]at ho;refine QB ?_;unfold FL at ho ⊢;split
      .rename_i c1;rw[A5 c1]at ho;exact QQ ho
      .rfl
     .rename_i c;rw[A9 c]at ho;split
      .rename_i c;rw[A5 c]at ho;split
       .rename_i c1;rw[A5 c1]at ho;cases ho
       .rfl
      .rename_i c;rw[A9 c]at ho;split
       .rename_i c;rw[A5 c]at ho;exact QB (awC ok ho hdk _)
       .rename_i c;rw[A9 c]at ho;split
        .rename_i c;rw[A5 c]at ho;exact QB (aGp<|by simpa using ho)
        .rename_i c;rw[A9 c]at ho;split
         .rename_i c;rw[A5 c]at ho;unfold Mb at ho ⊢;split
          .rename_i c1;rw[A5 c1]at ho;cases ho
          .rfl
         .rename_i c;rw[A9 c]at ho;split
          .rename_i c;rw[A5 c]at ho;refine QB ?_;unfold FM at ho ⊢;split
           .rename_i c1;rw[A5 c1]at ho;cases ho
           .rfl
          .rename_i c;rw[A9 c]at ho;split
           .rename_i c;rw[A5 c]at ho;refine QB ?_;unfold FK at ho ⊢;split
            .rename_i c1;rw[A5 c1]at ho;cases ho
            .rfl
           .rfl
   .rfl
inductive KMv (k:A7):A7->Prop
 | aCz (f:Frame):KMv k (C4 k f).1
 | own (tt un:Int) (tx:A1):KMv k (Dq k tt un tx).1
 | time:KMv k (FL k).1
 | eat (a b:Int):KMv k (Db k a b).1
 | Uo (n:Int):KMv k (faM k n)
 | bS:KMv k (riM k)
 | pack:KMv k (FM k).1
 | force:KMv k (FK k).1
def ayw{w:AA}(h:B8 w)(e:Event):(doM w e).1.A8=w.A8\/ ∃i k',i<4/\KMv (kA w.A8 i) k'/\(doM w e).1.A8=w.A8.set i k':=by
 unfold doM;split
 .unfold Dx;split
  .rename_i h2;split
   .split
    .exact .inl rfl
    .exact .inl rfl
   .split
    .exact .inl rfl
    .split
     .unfold Ft;split
      .refine .inr ⟨_,_, ?_,.aCz _,rfl⟩;have:=Aa.1 h2;have:=N4<|OY h (i:=e.wo.toNat) J;omega
      .exact .inl rfl
     .exact .inl rfl
  .exact .inl rfl
 .split
  .unfold Fc;split
   .exact .inl rfl
   .exact .inl rfl
  .split
   .rename_i h3;have hi:=Qd h3;unfold Ig;split
    .unfold MY;split
     .exact .inl rfl
     .split
      .exact .inl rfl
      .exact .inr ⟨_,_,hi,.own _ _ _,rfl⟩
    .split
     .exact .inr ⟨_,_,hi,.time,rfl⟩
     .split
      .split
       .exact .inl rfl
       .exact .inl rfl
      .split
       .exact .inr ⟨_,_,hi,.Uo _,rfl⟩
       .split
        .exact .inr ⟨_,_,hi,.bS,rfl⟩
        .split
         .unfold Mb;split
          .exact .inr ⟨_,_,hi,.eat _ _,rfl⟩
          .exact .inl rfl
         .split
          .exact .inr ⟨_,_,hi,.pack,rfl⟩
          .split
           .exact .inr ⟨_,_,hi,.force,rfl⟩
           .exact .inl rfl
   .exact .inl rfl
def ayM{w:AA}(h:B8 w)(e:Event):(Cw w e).A8=w.A8\/ ∃i k',i<4/\KMv (kA w.A8 i) k'/\(Cw w e).A8=w.A8.set i k':=by
 have:=ayw h e;unfold Cw tick;split<;>exact this
def ax8{P:A7->Prop}(hP:∀k k',Ae k=Y->P k->KMv k k'->P k'){w:AA}(h:B8 w)(hw:∀i,i<4->P (kA w.A8 i))(e:Event):∀i,i<4->P (kA (Cw w e).A8 i):=by
 intro i hi;obtain e1|⟨j,k',hj,m,e1⟩:=ayM h e
 .rw[e1];exact hw i hi
 .rw[e1,HV (by rw[h.kl];exact hj)];split
  .exact hP _ _ (h.k j hj).1 (hw j hj) m
  .exact hw i hi
def KMv.dur{k k':A7}(ok:Ae k=Y)(h:PL k)(m:KMv k k'):PL k':=by
 cases m with
 | aCz f=>exact QP h (awP ok f) λe=>by rw[auB ok e]
 | own a b c=>exact QP h (ayT _ _ _ _) λe=>by rw[auk e]
 | time=>exact QP h (awx _) λe=>by rw[asZ e]
 | eat a b=>exact QP h (ay2 _ _ _) λe=>by rw[awH e]
 | Uo n=>exact axX _ _
 | bS=>intro e;cases e
 | pack=>exact QP h (axG _) λe=>by rw[asq e]
 | force=>exact QP h (av9 _) λe=>by rw[arK e]
def PS.sim{w:AA}(hd:PS w)(h:B8 w)(e:Event):PS (Cw w e):=⟨ax8 (λ_ _ ok d m=>m.dur ok d) h hd.d e⟩
inductive Reach:List Event->AA->Prop
 | nil:Reach [] rv0
 | snoc {ev:List Event} {w:AA} {e:Event} :Reach ev w->(doM w e).2=Y->e.tx.size<=1048576->Reach (ev++[e]) (Cw w e)
def Reach.both{ev:List Event}{w:AA}(h:Reach ev w):B8 w/\PS w:=by
 induction h with
 | nil=>exact⟨abt,⟨λi hi e=>by rw[UO hi]at e;cases e⟩⟩
 | snoc _ _ _ ih=>exact⟨nb ih.1 _,ih.2.sim ih.1 _⟩
def Reach.ok{ev:List Event}{w:AA}(h:Reach ev w):B8 w:=h.both.1
def Reach.dur{ev:List Event}{w:AA}(h:Reach ev w):PS w:=h.both.2
def Reach.step{ev:List Event}{w:AA}(h:Reach ev w){e:Event}(ht:e.tx.size<=1048576):Reach (K8 ev e (doM w e).2) (Cw w e):=by
 unfold K8;obtain c|c:=tf (doM w e).2
 .rw[c,A5 rfl];exact h.snoc c ht
 .have:=ay6 h.ok h.dur c;rw[c,A4];unfold Cw tick;rw[c,A4,this];exact h
def Reach.ind{P:AA->Prop}(h0:P rv0)(hs:∀w e,B8 w->PS w->P w->(doM w e).2=Y->P (Cw w e)){ev:List Event}{w:AA}(h:Reach ev w):P w:=by
 induction h with
 | nil=>exact h0
 | snoc h1 h2 _ ih=>exact hs _ _ h1.ok h1.dur ih h2
def OG{l:List Int}(h:BOk l):B9 (BF l)=l:=by
 unfold B9 BF;simp only[IF]
 conv=>rhs;rw[← Zy l]
 refine Gi λn hn=> ?_;have:=h n hn;simp only[Function.comp,id];rw[UInt8.toNat_ofNat'];omega
def auu{a b:List Int}(ha:BOk a)(hb:BOk b)(h:BF a=BF b):a=b:=by
 rw[← OG ha,h,OG hb]
def OO(f:Frame):BOk (Cf f):=by
 unfold Cf;split
 .exact BOk.app (ZB f) (.cons _<|.cons _ .nil)
 .exact .nil
def I9{n:Int}(h0:0<=n)(h1:n<=255):w8 n=n:=by
 rw[ND];omega
def Tm{n:Int}(h0:0<=n)(h1:n<=65535):256 * w8 (w64<|Ay n 256)+w8 (BJ n 256)=n:=by
 rw[ND,ND,Fh h0,LI h0,AU J J];omega
def awW{s:A1}(h:s.size=4):∃a b c d,s=B [a,b,c,d]:=by
 have h':(L s).length=4:=h;rcases hl:L s with _|⟨a,_|⟨b,_|⟨c,_|⟨d,_|⟨e,l⟩⟩⟩⟩⟩<;>rw[hl]at h'<;>simp at h';exact⟨a,b,c,d,Fu (by rw[L_B,hl])⟩
def aGK{a1 a2 a3 a4 a5 a6 a7 a8 a9 b1 b2 b3 b4 b5 b6 b7 b8 b9:Int}{s t:A1}(h1:a1=b1)(h2:a2=b2)(h3:a3=b3)(h4:a4=b4)(h5:a5=b5)(h6:a6=b6)(h7:a7=b7)(h8:a8=b8)(h9:a9=b9)(h:s=t):
  (⟨a1,a2,a3,a4,a5,a6,a7,a8,a9,s⟩:Frame)=⟨b1,b2,b3,b4,b5,b6,b7,b8,b9,t⟩:=by
 subst h1 h2 h3 h4 h5 h6 h7 h8 h9 h;rfl
def XX{f:Frame}(h:By f=Y):Cb (Cf f)=(f,Y):=by
 have hr:=OW h;have r1:=Aa.1 hr.1;have r2:=Aa.1 hr.2.1;have r3:=Aa.1 hr.2.2.1;have r4:=Aa.1 hr.2.2.2.1;have r5:=Aa.1 hr.2.2.2.2.1;have r6:=Aa.1 hr.2.2.2.2.2.1;have r7:=hr.2.2.2.2.2.2;have ac5:FZ (Cf f)=f/\((Cf f).length=10\/(Cf f).length=17):=by
  obtain⟨ki,src,dst,fr,nu,t',un,sz,mix,da⟩:=f;simp only at r1 r2 r3 r4 r5 r6 r7;unfold Cf;rw[A5 h];unfold K0 at r7;by_cases hk:ki=1
  .subst hk;simp only[AW,A2,AE,decide_eq_true_eq]at r7;obtain⟨q1,q2,q3,q4⟩:=r7;have q1:=Aa.1 q1;have q2:=Aa.1 q2;obtain⟨a,b,c,d,rfl⟩:=awW (s:=da) J;unfold Ep;simp only[AW,A2];have hb:B9 (B [a,b,c,d])=[(a.toNat:Int),b.toNat,c.toNat,d.toNat]:=rfl;rw[hb];refine⟨?_,.inr rfl⟩;have e1:=Tm (n:=un) J J;have e2:=Tm (n:=mix) J J;unfold FZ;rw[A5<|by rfl];have g1:=I9 (n:=src) J J;have g2:=I9 (n:=dst) J J;have g3:=I9 (n:=fr) J J;have g4:=I9 (n:=nu) J J;have g5:=I9 (n:=t') J J;have g6:=I9 (n:=sz) J J;have g7:=TS [a,b,c,d];exact aGK rfl g1 g2 g3 g4 g5 e1 g6 e2 g7
  .rw[A9<|by simpa using hk]at r7;simp only[AE,C8,decide_eq_true_eq]at r7;obtain⟨q0,q1,q2,q3,q4⟩:=r7;unfold Ep;simp only[BH hk,A4];refine⟨?_,.inl rfl⟩;have e1:=Tm (n:=un) J J;unfold FZ;rw[A9 aG9];have g0:=I9 (n:=ki) J J;have g1:=I9 (n:=src) J J;have g2:=I9 (n:=dst) J J;have g3:=I9 (n:=fr) J J;have g4:=I9 (n:=nu) J J;have g5:=I9 (n:=t') J J;exact aGK g0 g1 g2 g3 g4 g5 e1 q1.symm q2.symm q3.symm
 unfold Cb;rw[ac5.1,A5,A5<|AR rfl];rw[C8,decide_eq_true_eq,decide_eq_true_eq];have:=ac5.2;omega
def NY:List Int->Nat->Int
 | [],_=>0
 | x::r,i=>x * ((i % 1000:Nat)+1)+NY r (i+1)
def kx:∀ {l:List Int} {i:Nat} {n:Int},BOk l->0<=n->n<65521->Et l i n=(n+NY l i) % 65521
 | [],i,n,_,h0,h1=>by
  unfold Et NY;omega
 | x::r,i,n,hb,h0,h1=>by
  have hx:=hb x Ao;have hp:0<=x * ((i % 1000:Nat)+1:Int):=n7 hx.1 J;unfold Et NY;rw[LI J,kx (λy hy=>hb y<|Ah x hy) J J];omega
def aEz:∀ {l:List Int} {j i:Nat} {x:Int} (h:j<l.length),NY (l.set j x) i=NY l i+(x - l[j]) * (((i+j) % 1000:Nat)+1)
 | y::r,0,i,x,h=>by
  rw[List.set_cons_zero];unfold NY;simp only[List.getElem_cons_zero,Ho];rw[Int.sub_mul];omega
 | y::r,j+1,i,x,h=>by
  rw[List.set_cons_succ];unfold NY;rw[aEz (j:=j) (i:=i+1)<|by simpa using h,List.getElem_cons_succ,show i+1+j=i+(j+1) by omega];omega
structure bD (b body:List Int):Prop where
 e:b=body++two (Et body 0 0)
 ok:BOk body
 len:body.length<=15
def awv{a b:Int}(h0:0<=a/\a<65521)(h1:0<=b/\b<65521)(h:two a=two b):a=b:=by
 have e1:=Tm (n:=a) J J;have e2:=Tm (n:=b) J J;unfold two at h;simp only[MR,and_true]at h;rw[← e1,← e2,h.1,h.2]
def ar3{b body PQ:List Int}{j:Nat}{x:Int}(h:bD b body)(hj:j<b.length)(hx:x≠b[j])(hr:0<=x/\x<=255):¬bD (b.set j x) PQ:=by
 intro h';have hlb:b.length=body.length+2:=by rw[h.e];simp
 have amn:(b.set j x).length=PQ.length+2:=by rw[h'.e];simp
 rw[G2]at amn;have hs:=lu (i:=0) (n:=0) h.ok J J;have hs':=lu (i:=0) (n:=0) h'.ok J J;have e:=h'.e;have hbl:body.length=PQ.length:=J
 by_cases hlt:j<body.length
 .have e1:(body.set j x)++two (Et body 0 0)=PQ++two (Et PQ 0 0):=by
   rw[← e,h.e,List.set_append_left _ _ hlt]
  obtain⟨e2,e3⟩:=List.append_inj e1 (by rw[G2];exact hbl);have e4:=awv hs hs' e3;have hbj:b[j]=body[j]:=by simp only[h.e,List.getElem_append_left hlt]
  rw[← e2]at e4 h';rw[kx h.ok J J,kx h'.ok J J,aEz hlt]at e4;have hb1:=h.ok body[j] (Ci hlt);have hlen:=h.len;rw[hbj]at hx;have hm:((0+j) % 1000:Nat)=j:=J
  rw[hm]at e4;have hd:∃d:Int,d=(x - body[j]) * ((j:Int)+1):=⟨_,rfl⟩;obtain⟨d,hd⟩:=hd;rw[← hd]at e4;have h1:d≠0:=by
   rw[hd];exact Int.mul_ne_zero J J
  have h2:d<=255 * 15:=by
   rw[hd];have a1:(x - body[j]) * ((j:Int)+1)<=255 * ((j:Int)+1):=mJ J J;omega
  have h3: -(255 * 15)<=d:=by
   rw[hd];have a1:(-255) * ((j:Int)+1)<=(x - body[j]) * ((j:Int)+1):=mJ J J;omega
  omega
 .have e1:body++(two<|Et body 0 0).set (j - body.length) x=PQ++two (Et PQ 0 0):=by
   rw[← e,h.e,aDL _ _ J]
  obtain⟨e2,e3⟩:=List.append_inj e1 hbl;rw[← e2]at e3;have e4:b.set j x=b:=by
   rw[e,← e2];exact h.e.symm
  have:(b.set j x)[j]'(by rw[G2];exact hj)=x:=List.getElem_set_self ..;rw[List.getElem_of_eq e4]at this;exact hx this.symm
def aEZ{f:Frame}(h:By f=Y):bD (Cf f) (Ep f):=⟨by unfold Cf;rw[A5 h],ZB f,YB h⟩
def ar1{b:List Int}(hb:BOk b)(h:(Cb b).2=Y):bD b (Ep (Cb b).1):=by
 have ok:=ar2 h;have:Cf (Cb b).1=b:=by
  unfold Cb at h ⊢;split
  .rename_i h1;rw[A5 h1]at h;split
   .rename_i h2;exact auu (OO _) hb (BW h2)
   .rename_i h2;rw[A9 h2]at h;cases h
  .rename_i h1;rw[A9 h1]at h;cases h
 have hs:=aEZ ok;rw[this]at hs;exact hs
def axI{x k:Int}(hx:0<=x/\x<=255)(hk:1<=k/\k<=255):Ds .u8 x (w8 k)≠x/\0<=Ds .u8 x (w8 k)/\Ds .u8 x (w8 k)<=255:=by
 rw[I9 J J];have e:Ds .u8 x k=w8 ((F9 8 x ^^^ F9 8 k).toNat:Int):=rfl;have hlt:=(F9 8 x ^^^ F9 8 k).isLt;rw[e,I9 J J];refine⟨λh=> ?_,J,J⟩;obtain⟨m,rfl⟩:=HG hx.1;obtain⟨n,rfl⟩:=HG (J:0<=k);have e1:(F9 8 (m:Int) ^^^ F9 8 (n:Int))=F9 8 (m:Int):=by
  apply mz;rw[Qn];omega
 have e2:F9 8 (n:Int)=0#8:=by
  have:=congrArg (λz=>F9 8 (m:Int) ^^^ z) e1;simpa[← BitVec.xor_assoc] using this
 have e3:=congrArg BitVec.toNat e2;rw[Qn]at e3;simp at e3;omega
def ars{f:Frame}{p:AK}(hf:By f=Y)(hd:p.data=BF (Cf f)){mix kp:Int}(hm:inB mix 0 ((p.data.size:Int) - 1)=Y)(hk:inB kp 1 255=Y):(Cb<|B9 (On p mix kp).data).2=A0:=by
 have hm:=Aa.1 hm;have hk:=Aa.1 hk;rw[hd,Sx]at hm;obtain h|h:=tf (Cb<|B9 (On p mix kp).data).2
 .exfalso;have hs:=ar1 (BOk.str _) h;unfold On at hs;simp only at hs;rw[hd,OG<|OO f]at hs;have hlt:mix.toNat<(Cf f).length:=J
  have hrd: @rd Int aHh (Cf f) mix=(Cf f)[mix.toNat]:=by
   show(Cf f).getD mix.toNat 0=_;rw[BG,Av hlt];rfl
  rw[hrd]at hs;have hx:=OO f _<|Ci hlt;have hne:=axI hx hk;have hb:BOk ((Cf f).set mix.toNat<|Ds .u8 (Cf f)[mix.toNat] (w8 kp)):=by
   intro y hy;obtain h1|h1:=ML hy
   .exact OO f y h1
   .rw[h1];exact hne.2
  rw[OG hb]at hs;exact ar3 (aEZ hf) hlt hne.1 hne.2 hs
 .exact h
def aDT{α β:Type}{f g:α->β->α}:∀ {l:List β} {a:α},(∀a,∀b∈l,f a b=g a b)->l.foldl f a=l.foldl g a
 | [],_,_=>rfl
 | x::l,a,h=>by
  rw[Du,Du,h a x Ao];exact aDT λa b hb=>h a b<|Ah x hb
def Na(b:Nat)(bl:Nat->List UInt8)(kn:List A1):Prop:=∀k,k<b->bsA kn k=noB\/bsA kn k=B (bl k)
def asu{b:Nat}{bl:Nat->List UInt8}{kn kn':List A1}{m:AQ}(hb:∀k,(bl k).length=4)(hm:Iq m->m.da=B (Dr 4 bl<|Bg (b:Int) m.nu))
  (h:Ca b kn)(ht:Na b bl kn)(e:F7 b kn m=I kn'):Na b bl kn':=by
 unfold F7 at e;split at e
 .rename_i hc;rw[AE]at hc;have hda:=hm ⟨hc.1,BW hc.2⟩;split at e
  .rename_i u hu;injection e with e;subst e;have FR:u∈DI kn (Bg (b:Int) m.nu):=by rw[hu];exact MP u
   obtain⟨h1,h2⟩:=F8.1 FR;have h3:=Lq h1;have hul:u<kn.length:=by rw[h.1];omega
   have hv:EP kn (Bg (b:Int) m.nu) (L m.da)=bl u:=by
    have hp:=auh (n:=4) (bl:=bl) (p:=λk=> !unk kn k) (ks:=Bg (b:Int) m.nu) (u:=u) (λk _=>hb k) (by
     have:(Bg (b:Int) m.nu).filter (λk=> !(!unk kn k))=DI kn (Bg (b:Int) m.nu):=by
      unfold DI;congr 1;funext k;rw[Bool.not_not]
     rw[this,hu])
    rw[← hp,hda,L_B];unfold EP;refine aDT λx k hk=> ?_;obtain c|c:=tf (unk kn k)
    .rw[c];rfl
    .rw[c];have hkb:=Lq hk;obtain h4|h4:=ht k J
     .exact absurd h4 (JV c)
     .rw[h4,L_B];rfl
   intro k hk;rw[Tf _ hul];by_cases ek:k=u
   .rw[A5 ek,hv,ek];exact .inr rfl
   .rw[A9 ek];exact ht k hk
  .cases e
 .cases e
def lF{b:Nat}{bl:Nat->List UInt8}(hb:∀k,(bl k).length=4):∀(list:List AQ) (s:List A1×Bool),(∀m∈list,Iq m->m.da=B (Dr 4 bl<|Bg (b:Int) m.nu))->Ca b s.1->Na b bl s.1->Na b bl (list.foldl (CN b) s).1
 | [],_,_,_,h=>h
 | m::list,s,hm,h,ht=>by
  rw[Du];cases e:F7 b s.1 m with
  | none=>
   rw[show CN b s m=s by unfold CN;rw[e]];exact lF hb list s (λx hx=>hm x<|Ah m hx) h ht
  | some kn=>
   rw[show CN b s m=(kn,Y) by unfold CN;rw[e]];exact lF hb list (kn,Y) (λx hx=>hm x<|Ah m hx) (TV h e).1<|asu hb (hm m Ao) h ht e
def kV{b:Nat}{bl:Nat->List UInt8}(hb:∀k,(bl k).length=4){list:List AQ}(hm:∀m∈list,Iq m->m.da=B (Dr 4 bl<|Bg (b:Int) m.nu)):∀(n:Nat) (kn:List A1),Ca b kn->Na b bl kn->Na b bl (Ge b list n kn)
 | 0,_,_,h=>h
 | n+1,kn,h,ht=>by
  have h1:=(N1 list (kn,A0) h).1;have h2:=lF hb list (kn,A0) hm h ht;unfold Ge;split
  .exact kV hb hm n _ h1 h2
  .exact h2
def aFM{b:Nat}{list:List AQ}:∀(n:Nat) (kn:List A1),Ca b kn->∀k,unk (Ge b list n kn) k=Y->unk kn k=Y
 | 0,_,_,_,h=>h
 | n+1,kn,h,k,hk=>by
  obtain⟨h1,h2,_⟩:=N1 list (kn,A0) h;unfold Ge at hk;split at hk
  .exact h2 k (aFM n _ h1 k hk)
  .exact h2 k hk
def aDU{b:Nat}{k:Nat}:∀(list:List AQ) (s:List A1×Bool),(∃m∈list,Iq m/\Bg (b:Int) m.nu=[k])->Ca b s.1->unk (list.foldl (CN b) s).1 k=A0
 | [],_,h,_=>by
  obtain⟨m,hm,_⟩:=h;cases hm
 | m::list,s,h,hk=>by
  rw[Du];have hs:Ca b (CN b s m).1:=by
   unfold CN;split
   .rename_i kn e;exact(TV hk e).1
   .exact hk
  obtain⟨x,hx,hf,hof⟩:=h;obtain rfl|hx:=Bj.1 hx
  .have h1:unk (CN b s x).1 k=A0:=by
    unfold CN F7;rw[A5 (by rw[AE];exact⟨hf.1,AR hf.2⟩),hof];unfold DI;rw[JY,Zz];obtain c|c:=tf (unk s.1 k)
    .have hul:k<s.1.length:=by
      have h3:=Lq (b:=(b:Int)) (n:=x.nu) (k:=k) (by rw[hof];exact MP k);rw[hk.1];omega
     simp only[c,A2];unfold unk;rw[Tf _ hul,A5 rfl];refine BH λhh=> ?_;have h4:(B<|EP s.1 [k] (L x.da)).size=4:=by
      rw[BP,l6 hk (by have:=hf.2;rw[Ax];omega) λj hj=>by rw[C1.1 hj,← hk.1];exact hul]
     rw[hh]at h4;cases h4
    .simp only[c,A4]
   obtain c|c:=tf (unk (list.foldl (CN b)<|CN b s x).1 k)
   .have:=(N1 list (CN b s x) hs).2.1 k c;rw[h1]at this;cases this
   .exact c
  .exact aDU list _ ⟨x,hx,hf,hof⟩ hs
def aqr{b:Nat}{k:Nat}{list:List AQ}(h:∃m∈list,Iq m/\Bg (b:Int) m.nu=[k])(n:Nat){kn:List A1}(hk:Ca b kn):unk (Ge b list (n+1) kn) k=A0:=by
 have h1:=aDU list (kn,A0) h hk;have h2:=(N1 list (kn,A0) hk).1;unfold Ge;split
 .rcases tf (unk (Ge b list n (Im b list kn).1) k) with c|c
  .have:=aFM n _ h2 k c;rw[h1]at this;cases this
  .exact c
 .exact h1
def aEj{u:Nat}:∀ {l:List A1} {a:A1},u<l.length->bsA l u=noB->G0 l a=G
 | [],_,h,_=>absurd h (Nat.not_lt_zero _)
 | x::l,a,h,e=>by
  unfold G0;split
  .rfl
  .rename_i hx;cases u with
   | zero=>exact absurd e hx
   | succ u=>exact aEj (u:=u) (by simpa using h)<|by simpa[bsA] using e
def nQ:∀ {l:List (List UInt8)} {a:A1},(∀x∈l,x.length=4)->G0 (l.map B) a=I (a++B l.flatten)
 | [],a,_=>by
  show I a=_;congr 1;apply Fu;rw[GG,L_B];simp
 | x::l,a,h=>by
  rw[DV];unfold G0;have hx:=h x Ao;rw[A9 (λe=>by have:(B x).size=0:=(by rw[e];rfl);rw[BP]at this;omega),nQ λy hy=>h y<|Ah x hy];congr 1;apply Fu;simp only[GG,L_B,List.flatten_cons,C7]
def ab2{b:Nat}{bl:Nat->List UInt8}{kn:List A1}(h:Ca b kn)(ht:Na b bl kn)(hu:∀k,k<b->unk kn k=A0):kn=((B1 b).map bl).map B:=by
 apply mU;intro i;by_cases hi:i<b
 .rw[IF,DA,Gj hi];have h1:=hu i hi;obtain h2|h2:=ht i hi
  .exact absurd h2 (JV h1)
  .have hl:i<kn.length:=by rw[h.1];exact hi
   rw[bsA,BG,Av hl]at h2;rw[Av hl];exact congrArg I h2
 .rw[Hm (by rw[h.1];omega),Hm y8]
def aGM(t:List UInt8):∀b:Nat,((B1 b).map<|G1 t).flatten=(B1<|4 * b).map λi=>t.getD i 0
 | 0=>rfl
 | b+1=>by
  rw[Hl,Eg,List.flatten_append,aGM t b];have:B1 (4 * (b+1))=B1 (4 * b)++[4 * b,4 * b+1,4 * b+2,4 * b+3]:=by
   rw[show 4 * (b+1)=4 * b+1+1+1+1 by omega];simp only[Hl,C7];rfl
  rw[this,Eg];rfl
def aw5{s:Int}(h:inB s 1 24=Y):Ay (s+3) 4=(((s.toNat+3) / 4:Nat):Int)/\inB (Ay (s+3) 4) 1 6=Y:=by
 have h:=Aa.1 h;have:Ay (s+3) 4=(((s.toNat+3) / 4:Nat):Int):=by
  rw[Fh J];omega
 refine⟨this,Aa.2 ?_⟩;rw[this];omega
def aFY{s:Int}(h:inB s 1 24=Y)(list:List AQ):Es s list=(match G0 (Ge ((s.toNat+3) / 4) list 7<|BZ ((s.toNat+3) / 4) noB) noB with
  | none=>(noB,A0)
  | some c=>if NC c s.toNat then(c.extract 0 s.toNat,Y) else(noB,A0)):=by
 obtain⟨h1,h2⟩:=aw5 h;unfold Es He;rw[A5 h,A5 h2,h1,Bc]<;>rfl
def aEx{tx:A1}(h:inB tx.size 1 24=Y):(let c:=noB++B ((B1<|(tx.size+3) / 4).map<|G1<|L tx).flatten
  (if NC c tx.size then(c.extract 0 tx.size,Y) else(noB,A0)))=(tx,Y):=by
 have h:=Aa.1 h;have hc:L (noB++B ((B1<|(tx.size+3) / 4).map<|G1<|L tx).flatten)=(B1<|4 * ((tx.size+3) / 4)).map λi=>(L tx).getD i 0:=by
  rw[GG,L_B,aGM];rfl
 generalize noB++B ((B1<|(tx.size+3) / 4).map<|G1<|L tx).flatten=c at hc;have hsz:c.size=4 * ((tx.size+3) / 4):=by rw[← Ax,hc];simp
 have hz:NC c tx.size=Y:=by
  unfold NC;rw[Cq];intro i hi;refine AR ?_;unfold bt;show(((L c).getD (tx.size+i) 0).toNat:Int)=0;rw[hc,BG,DA,Gj J];simp only[Qi,Dd];rw[BG,Hm (by rw[Ax];omega)];rfl
 show(if NC c tx.size then(c.extract 0 tx.size,Y) else(noB,A0))=(tx,Y);rw[A5 hz];congr 1;apply Fu;rw[E9,Iy,hc,Je];apply mU;intro i;rw[Gk];split
 .rename_i hi;rw[DA,Gj J];simp only[Qi];rw[BG,Av (by rw[Ax];exact hi)];rfl
 .rw[Hm (by rw[Ax];omega)]
def PF(tx:A1)(list:List AQ):Prop:=∀m∈list,Iq m->m.da=Fw tx m.nu
def ab4{tx:A1}(h:inB tx.size 1 24=Y):(DJ tx).length=(tx.size+3) / 4:=by
 unfold DJ;rw[A5 h];simp
def aEn{tx:A1}(h:inB tx.size 1 24=Y):inB (((tx.size+3) / 4:Nat):Int) 1 6=Y:=by
 have h:=Aa.1 h;exact Aa.2 J
def aEE{b:Nat}{f:Nat->Bool}:∀(n:Nat) (x:Int),0<b->(∃k,k<b/\f k=Y)->∃k,k<b/\JP b n f x k=Y
 | 0,_,_,h=>h
 | n+1,x,hb,h=>by
  obtain⟨k,hk,e⟩:=h;exact aEE n _ hb ⟨k,hk,by unfold IB;split;rfl;exact e⟩
def aum{b:Nat}{f:Nat->Bool}{n:Nat}{x:Int}(hb:0<b)(hn:0<n):∃k,k<b/\JP b n f x k=Y:=by
 obtain⟨n,rfl⟩:∃m,n=m+1:=⟨n - 1,J⟩;rw[JP];refine aEE n _ hb ⟨_, ?_,by unfold IB;rw[A5 rfl]⟩;refine TO _ _ ?_;have:BJ (Ay (rnd x) 16) (b:Int)<b:=Qs _ J;have h0:0<=BJ (Ay (rnd x) 16) (b:Int):=Qo _<|mv (TP x).1 J;omega
def aFw{b r:Int}(hb:1<=b):∀(ws:List Int) (acc d:Int),1<=d->1<=Mc (LU b r ws acc d)
 | [],_,_,_=>hb
 | w::ws,acc,d,h=>by
  unfold LU;split
  .exact h
  .exact aFw hb ws _ _ J
def awL{b n:Int}(h:Dc b n=Y):1<=Fz b n:=by
 have hb:1<=b:=by
  unfold Dc at h;rw[AE]at h;exact(Aa.1 h.1).1
 unfold Fz;rw[A5 h];split
 .exact Dw _
 .exact aFw hb _ _ _<|Dw _
def aFT{b n:Int}(h:Dc b n=Y):Bg b n≠[]:=by
 have hb:1<=b:=by
  unfold Dc at h;rw[AE]at h;exact(Aa.1 h.1).1
 unfold Bg;rw[A5 h];split
 .simp
 .obtain⟨k,hk,e⟩:=aum (b:=b.toNat) (f:=λ_=>A0) (n:=(Fz b n).toNat) (x:=rnd<|7 * n+1) J (by have:=awL h;omega);intro hh;have:k∈HY (JP b.toNat (Fz b n).toNat (λ_=>A0)<|rnd<|7 * n+1) b.toNat:=F8.2 ⟨Cy.2 hk,e⟩;rw[hh]at this;cases this
def at5{n:Int}(h:inB n 0 999=Y):Bg 1 n=[0]:=by
 have hm:Dc 1 n=Y:=by unfold Dc;rw[h];rfl
 have hne:=aFT hm;unfold Bg at hne ⊢;rw[A5 hm]at hne ⊢;split
 .rename_i hc;rw[A5 hc]at hne;have h1:=BW hc;have h2:=Aa.1 h;rw[show n.toNat=0 by omega]
 .rename_i hc;rw[A9 hc]at hne;unfold HY at hne ⊢;rw[show(1:Int).toNat=1 from rfl,List.range_one]at hne ⊢;rw[JY]at hne ⊢;split
  .rfl
  .rename_i h3;rw[A9 h3]at hne;exact absurd rfl hne
def aF7{tx:A1}(h:inB tx.size 1 24=Y){n:Int}(hn:inB n 0 999=Y):Fw tx n=B (Dr 4 (G1<|L tx)<|Bg (((tx.size+3) / 4:Nat):Int) n):=by
 unfold Fw;rw[ab4 h];have:=aFT (b:=(((tx.size+3) / 4:Nat):Int)) (n:=n) (by unfold Dc;rw[aEn h,hn];rfl);rw[A9 (by rw[List.isEmpty_iff];exact this)]
def lP{tx:A1}(h:inB tx.size 1 24=Y){n:Int}(hn:inB n 0 999=Y):Iq ⟨n,Fw tx n⟩:=by
 refine⟨hn, ?_⟩;show((Fw tx n).size:Int)=4;rw[aF7 h hn,BP,QG λk _=>Oc _ k];rfl
def aFO{tx:A1}(h:inB tx.size 1 24=Y){list:List AQ}(hl:PF tx list):∀m∈list,Iq m->m.da=B (Dr 4 (G1<|L tx)<|Bg (((tx.size+3) / 4:Nat):Int) m.nu):=by
 intro m hm hf;rw[hl m hm hf,aF7 h hf.1]
def ab1(b:Nat)(bl:Nat->List UInt8):Na b bl (BZ b noB):=by
 intro k hk;left;rw[bsA,BG,Zq,A5 hk];rfl
def aEw{tx:A1}(h:inB tx.size 1 24=Y){list:List AQ}(hl:PF tx list)(ht:(Es tx.size list).2=Y):Es tx.size list=(tx,Y):=by
 rw[aFY h,Bc]at ht ⊢;have h1:=Yl list 7 _<|Ca.new<|(tx.size+3) / 4;have h2:=kV (λk=>Oc (L tx) k) (aFO h hl) 7 _ (Ca.new<|(tx.size+3) / 4)<|ab1 _ _;generalize Ge ((tx.size+3) / 4) list 7 (BZ ((tx.size+3) / 4) noB)=kn at *;have h3:∀k,k<(tx.size+3) / 4->unk kn k=A0:=by
  intro k hk;obtain c|c:=tf (unk kn k)
  .rw[aEj (u:=k) (by rw[h1.1];exact hk)<|BW c]at ht;cases ht
  .exact c
 rw[ab2 h1 h2 h3,nQ (by
  intro x hx;obtain⟨k,_,rfl⟩:=C0.1 hx;exact Oc _ _)]
 exact aEx h
def aCe{tx:A1}(h:inB tx.size 1 24=Y){list:List AQ}(hl:PF tx list)(hf:∀k:Nat,k<(tx.size+3) / 4->∃m∈list,Iq m/\Bg (((tx.size+3) / 4:Nat):Int) m.nu=[k]):Es tx.size list=(tx,Y):=by
 rw[aFY h,Bc];have h1:=Yl list 7 _<|Ca.new<|(tx.size+3) / 4;have h2:=kV (λk=>Oc (L tx) k) (aFO h hl) 7 _ (Ca.new<|(tx.size+3) / 4)<|ab1 _ _;have h3:∀k,k<(tx.size+3) / 4->unk (Ge ((tx.size+3) / 4) list 7<|BZ ((tx.size+3) / 4) noB) k=A0:=λk hk=>aqr (hf k hk) 6<|Ca.new<|(tx.size+3) / 4;rw[ab2 h1 h2 h3,nQ (by
  intro x hx;obtain⟨k,_,rfl⟩:=C0.1 hx;exact Oc _ _)]
 exact aEx h
def KO(S:A3->Prop)(f:Frame):Prop:=f.ki=1->∃n,S n/\Aw n=Y/\f.fr=n.fr/\f.nu=n.nu/\f.to=n.to/\f.un=n.un/\f.sz=n.tx.size/\f.da=Fw n.tx f.mix
structure PcI (S:A3->Prop) (p:AK):Prop where
 q9:p.sp=A0->∃f,p.data=BF (Cf f)/\p.src=f.src/\p.dst=f.dst/\(By f=Y->KO S f)
 bad:p.sp=Y->(Cb<|B9 p.data).2=A0
def aCd:(Cb<|B9<|BF []).2=A0:=by rfl
def PcI.frame{S:A3->Prop}{p:AK}(h:PcI S p)(hu:(Cb<|B9 p.data).2=Y):∃f,Cb (B9 p.data)=(f,Y)/\By f=Y/\p.src=f.src/\p.dst=f.dst/\KO S f/\p.data=BF (Cf f):=by
 obtain c|c:=tf p.sp
 .rw[h.bad c]at hu;cases hu
 .obtain⟨f,h1,h2,h3,h4⟩:=h.q9 c;obtain e|e:=tf (By f)
  .refine⟨f, ?_,e,h2,h3,h4 e,h1⟩;rw[h1,OG<|OO f,XX e]
  .rw[h1]at hu;unfold Cf at hu;rw[e,A4,aCd]at hu;cases hu
def PcI.ac2{S:A3->Prop}{p:AK}(h:PcI S p)(hs:p.sp=A0){mix kp:Int}(hm:inB mix 0 ((p.data.size:Int) - 1)=Y)(hk:inB kp 1 255=Y):PcI S (On p mix kp):=by
 obtain⟨f,h1,_,_,_⟩:=h.q9 hs;refine⟨λe=>(by cases e),λ_=> ?_⟩;obtain e|e:=tf (By f)
 .exact ars e h1 hm hk
 .have h2:=Aa.1 hm;rw[h1]at h2;unfold Cf at h2;rw[e,A4,Sx]at h2;simp at h2;omega
def PcI.send{S:A3->Prop}{f:Frame}(h:By f=Y->KO S f):PcI S (pcF f):=⟨λ_=>⟨f,rfl,rfl,rfl,h⟩,λe=>by cases e⟩
def PcI.mono{S T:A3->Prop}{p:AK}(h:PcI S p)(hS:∀n,S n->T n):PcI T p:=by
 refine⟨λe=> ?_,h.bad⟩;obtain⟨f,h1,h2,h3,h4⟩:=h.q9 e;refine⟨f,h1,h2,h3,λhf hk=> ?_⟩;obtain⟨n,h5,h6⟩:=h4 hf hk;exact⟨n,hS n h5,h6⟩
def YW{ra:List AK}{fs:List Frame}{p:AK}(h:p∈CC ra fs):p∈ra\/ ∃f∈fs,p=pcF f:=by
 unfold CC at h;obtain h|h:=BN.1 h
 .exact .inl h
 .obtain⟨f,hf,rfl⟩:=C0.1 h;exact .inr ⟨f,HI hf,rfl⟩
def Yw{ra:List AK}{i:Nat}{p:AK}(h:p∈I8 ra i):p∈ra:=by
 unfold I8 at h;obtain h|h:=BN.1 h
 .exact HI h
 .exact Iz h
def auA{k:A7}{f g:Frame}(h:g∈(C4 k f).2):g=Cs 2 f\/g=Cs 3 f:=by
 unfold C4 at h;split at h
 .unfold HA at h;split at h
  .split at h
   .unfold Dz at h;split at h
    .exact .inr (C1.1 h)
    .split at h
     .exact .inl (C1.1 h)
     .split at h
      .cases h
      .unfold Iv at h;split at h
       .split at h
        .unfold JL at h;split at h
         .exact .inl (C1.1 h)
         .cases h
        .cases h
       .cases h
   .split at h<;>cases h
  .cases h
 .cases h
def axS(S:A3->Prop){k:A7}{f g:Frame}(h:g∈(C4 k f).2):KO S g:=by
 intro hk;obtain rfl|rfl:=auA h
 .exact absurd hk (show ¬(2:Int)=1 by decide)
 .exact absurd hk<|show ¬(3:Int)=1 by decide
def awh{l:List A3}{i:Int}(h0:0<=i)(h1:i.toNat<l.length):nA l i.toNat∈l:=by
 rw[nA,BG,Av h1];exact Ci h1
def au9{st:AL}(h:Au st=Y){n:A3}(hn:n∈st.held):Aw n=Y:=by
 unfold Au at h;simp only[AE]at h;have hh:=h.2.2.2.1.2;obtain⟨j,hj,rfl⟩:=Cz hn;have:=Cq.1 hh j hj;rw[AE,nA,BG,Av hj]at this;exact this.1
def aGa{S:A3->Prop}{k:A7}(h:Ae k=Y)(hS:∀n∈(stT k).held,S n){fr nu mix:Int}(hb:(EC k fr nu mix).2=Y):KO S (EC k fr nu mix).1:=by
 intro _;unfold EC at hb ⊢;split at hb
 .rename_i hc;rw[A5 hc];simp only[AE,CM,decide_eq_false_iff_not]at hc;have h0:=FE<|Qx.1 hc.2.1;have hm:=awh (Qx.1 hc.2.1) h0.1;exact⟨_,hS _ hm,au9 (CQ h).kok hm,rfl,rfl,rfl,rfl,rfl,rfl⟩
 .cases hb
def L4{n:A3}(h:Aw n=Y):inB n.tx.size 1 24=Y:=by
 unfold Aw LN at h;simp only[AE]at h;exact h.2.2.2.2.1
def YJ(hv:List AD)(f:Frame):(∃i,Ap hv f=(hv,i)/\i<hv.length/\(hA hv i).fr=f.fr/\(hA hv i).nu=f.nu/\EF hv f.fr f.nu=(i:Int))\/
  (EF hv f.fr f.nu<0/\ ∃l:List AD,l.Sublist hv/\Ap hv f=(l++[⟨f.fr,f.nu,f.to,f.un,f.sz,[]⟩],l.length)):=by
 unfold Ap;obtain h|⟨i,h1,h2,h3,h4⟩:=Sg hv f.fr f.nu
 .rw[A5 h];refine .inr ⟨h,_, ?_,rfl⟩;split
  .exact Qq _ _
  .exact EW _
 .rw[A9 J];exact .inl ⟨i,by rw[h1];rfl,h2,h3,h4,h1⟩
def TT(l:List AD)(h:AD):hA (l++[h]) l.length=h:=by
 unfold hA;rw[BG,FN<|Ar _];simp
def avR(mix:Int)(da:A1):Cu [] mix da=[⟨mix,da⟩]:=rfl
def awI(l:List AD)(h:AD):ES (l++[h]) l.length=l:=by
 unfold ES;rw[List.take_left,KI aG9,CE]
def awA(l:List AD)(h:AD)(f:Frame):∃g,Co (l++[h]) l.length f=l++[g]:=by
 unfold Co;rw[aDL _ _<|Ar _,LJ];exact⟨_,rfl⟩
def Ol(k:A7)(r:A1)(f:Bool):(wrR k r f).1.AG=k.AG:=by
 unfold wrR;split
 .rfl
 .cases f<;>rfl
def HN(k:A7):Prop:=∀h∈k.AG,5<=h.sz
def aaC{l:List AD}{i:Nat}{f:Frame}(hi:i<l.length)(h:∀x∈l,5<=x.sz):∀x∈Co l i f,5<=x.sz:=by
 intro x hx;unfold Co at hx;obtain h1|h1:=ML hx
 .exact h x h1
 .rw[h1];exact h (hA l i) (by rw[Hc hi];exact Ci hi)
def oB{l:List AD}{i:Nat}{x:AD}(h:x∈ES l i):x∈l:=by
 unfold ES at h;obtain h|h:=BN.1 h
 .exact HI h
 .exact Iz h
def awa{f:Frame}{n:A3}(hn:Aw n=Y)(hs:f.sz=n.tx.size)(hd:f.da=Fw n.tx f.mix)(h4:f.sz<=4)(hm:inB f.mix 0 999=Y):Es f.sz [⟨f.mix,f.da⟩]=(n.tx,Y):=by
 have htx:=L4 hn;have h1:=Aa.1 htx;rw[hs];refine aCe htx ?_ ?_
 .intro m hmm _;rw[C1.1 hmm];exact hd
 .intro k hk;refine⟨_,MP _, ?_, ?_⟩
  .rw[hd];exact lP htx hm
  .have hb:(n.tx.size+3) / 4=1:=J
   rw[hb];have hk0:k=0:=J
   rw[hk0];exact at5 hm
def lp(k:A7)(n:A3)(f:Frame):(JL k n f).1.AG=k.AG:=by
 unfold JL;split
 .exact Ol _ _ _
 .rfl
def aFk(f:Frame):MD ⟨f.fr,f.nu,f.to,f.un,f.sz,[]⟩ f=Y:=by
 unfold MD;simp
def awg{S:A3->Prop}{k:A7}{f:Frame}(hb:HN k)(hf:By f=Y)(h1:f.ki=1)(g:KO S f):HN (Iv k f).1:=by
 obtain⟨n,_,hn,_,_,_,_,hs,hd⟩:=g h1;have hp:=Sq hf h1;have hlt:=N8 (hv:=k.AG) (f:=f);unfold Iv;obtain⟨i,e,hi,_,_,_⟩|⟨_,l,hl,e⟩:=YJ k.AG f
 .rw[e]at hlt ⊢;split
  .have hab:=aaC (f:=f) hi hb;split
   .intro h hh;rw[lp]at hh;exact hab h (oB hh)
   .exact hab
  .exact hb
 .have hlb:∀x∈l,5<=x.sz:=λx hx=>hb x<|hl.subset hx;rw[e]at hlt ⊢;simp only[TT,aFk,A2];obtain⟨g',hg'⟩:=awA l ⟨f.fr,f.nu,f.to,f.un,f.sz,[]⟩ f;by_cases h5:5<=f.sz
  .have hab:=aaC (f:=f) (l:=l++[⟨f.fr,f.nu,f.to,f.un,f.sz,[]⟩]) (i:=l.length) hlt (by
    intro x hx;obtain h|h:=BN.1 hx
    .exact hlb x h
    .rw[C1.1 h];exact h5)
   split
   .intro h hh;rw[lp]at hh;exact hab h (oB hh)
   .exact hab
  .rw[avR,awa hn hs hd J hp.2.1.1];simp only[A2];intro h hh;rw[lp,hg']at hh;rw[show(GA k<|ES (l++[g']) l.length).AG=ES (l++[g']) l.length from rfl,awI]at hh;exact hlb h hh
def avJ{S:A3->Prop}{k:A7}{f:Frame}(hk:Ae k=Y)(hb:HN k)(g:By f=Y->KO S f):HN (C4 k f).1:=by
 unfold C4;rw[A5 hk];unfold HA;split
 .rename_i hc;simp only[AE]at hc;split
  .rename_i h1;unfold Dz;split
   .exact hb
   .split
    .exact hb
    .split
     .exact hb
     .exact awg hb hc.2.1 (BW h1) (g hc.2.1)
  .split
   .intro h hh;rw[Ol]at hh;exact hb h hh
   .exact hb
 .exact hb
structure Jk (S:A3->Prop) (w:AA):Prop where
 p:∀p∈w.AM,PcI S p
 b:∀i,i<4->HN (kA w.A8 i)
def aaq(k:A7)(tt un:Int)(tx:A1):(Dq k tt un tx).1.AG=k.AG:=by
 unfold Dq;split
 .exact Ol _ _ _
 .rfl
def abD(k:A7)(a b:Int):(Db k a b).1.AG=k.AG:=by
 unfold Db;split
 .exact Ol _ _ _
 .rfl
def aGg(k:A7):(FL k).1.AG=k.AG:=by
 unfold FL;split
 .exact Ol _ _ _
 .rfl
def aGy(k:A7):(FM k).1.AG=k.AG:=by unfold FM;split<;>rfl
def aGL(k:A7):(FK k).1.AG=k.AG:=by unfold FK;split<;>rfl
def HN.of{k k':A7}(h:HN k)(e:k'.AG=k.AG):HN k':=λx hx=>h x (by rw[← e];exact hx)
def Jk.put{S:A3->Prop}{w:AA}(h:Jk S w)(hr:B8 w){i:Nat}(hi:i<4){k':A7}(hb:HN k')(li:List Bool)(se go:List A3):Jk S ⟨w.ti,w.A8.set i k',li,w.AM,se,go⟩:=by
 refine⟨h.p,λj hj=> ?_⟩;show HN (kA (w.A8.set i k') j);rw[HV (by rw[hr.kl];exact hi)];split
 .exact hb
 .exact h.b j hj
def oK{l:List AK}{i:Nat}(h:i<l.length):pA l i∈l:=by
 rw[oW h];exact Ci h
def Jk.doM{S:A3->Prop}{w:AA}(h:Jk S w)(hr:B8 w)(hS:∀i,i<4->∀n∈(stT<|kA w.A8 i).held,S n)(e:Event):Jk S (doM w e).1:=by
 unfold Go.VS.doM;split
 .unfold Dx;split
  .rename_i h2;have h2:=Aa.1 h2;have hlt:e.wo.toNat<w.AM.length:=J
   have hpc:=h.p _<|oK hlt;split
   .split
    .rename_i h3;simp only[AE,CM]at h3;refine⟨λp hp=> ?_,h.b⟩;obtain h4|h4:=ML hp
     .exact h.p p h4
     .rw[h4];exact hpc.ac2 h3.1 h3.2.1 h3.2.2
    .exact h
   .split
    .exact⟨λp hp=>h.p p<|Yw hp,h.b⟩
    .split
     .have hra:∀p∈(if e.kp=0 then I8 w.AM e.wo.toNat else w.AM),PcI S p:=by
       intro p hp;split at hp
       .exact h.p p (Yw hp)
       .exact h.p p hp
      unfold Ft;split
      .rename_i hc;simp only[AE,decide_eq_true_eq]at hc;obtain⟨f,hu,hfo,_,hd,hg,_⟩:=hpc.frame hc.1;rw[hu];have hrg:=N4<|OY hr hlt;have hi:(pA w.AM e.wo.toNat).dst.toNat<4:=J
       have hb:HN (C4 (kA w.A8 (pA w.AM e.wo.toNat).dst.toNat) f).1:=avJ (hr.k _ hi).1 (h.b _ hi) (λ_=>hg);refine⟨λp hp=> ?_,(h.put hr hi hb w.An w.AX w.got).b⟩;obtain h4|⟨g,hg',rfl⟩:=YW hp
       .exact hra p h4
       .exact PcI.send λ_=>axS S hg'
      .exact⟨hra,h.b⟩
     .exact h
  .exact h
 .split
  .unfold Fc;split
   .exact⟨h.p,h.b⟩
   .exact h
  .split
   .rename_i h3;have hi:=Qd h3;have hb:=h.b _ hi;unfold Ig;split
    .unfold MY;split
     .exact h
     .split
      .exact h
      .exact h.put hr hi (hb.of<|aaq _ _ _ _) _ _ _
    .split
     .exact h.put hr hi (hb.of<|aGg _) _ _ _
     .split
      .split
       .rename_i hm;refine⟨λp hp=> ?_,h.b⟩;obtain h4|⟨g,hg',rfl⟩:=YW hp
        .exact h.p p h4
        .rw[C1.1 hg'];exact PcI.send λ_=>aGa (hr.k _ hi).1 (hS _ hi) hm
       .exact h
      .split
       .exact h.put hr hi (λx hx=>by cases hx) _ _ _
       .split
        .exact h.put hr hi (k':=riM<|kA w.A8 e.at_.toNat) (hb.of rfl) _ _ _
        .split
         .unfold Mb;split
          .exact h.put hr hi (hb.of<|abD _ _ _) _ _ _
          .exact h
         .split
          .exact h.put hr hi (hb.of<|aGy _) _ _ _
          .split
           .exact h.put hr hi (hb.of<|aGL _) _ _ _
           .exact h
   .exact h
def Jk.sim{S:A3->Prop}{w:AA}(h:Jk S w)(hr:B8 w)(hS:∀i,i<4->∀n∈(stT<|kA w.A8 i).held,S n)(e:Event):Jk S (Cw w e):=by
 have:=h.doM hr hS e;unfold Cw tick;split
 .exact⟨this.p,this.b⟩
 .exact this
def Reach.gen{ev:List Event}{w:AA}(h:Reach ev w):Jk (λ_=>True) w:=
 h.ind (P:=Jk λ_=>True) ⟨λp hp=>(by cases hp),λi hi=>by rw[UO hi];intro x hx;cases hx⟩ λ_ e hr _ hg _=>hg.sim hr (λ_ _ _ _=>trivial) e
def Yh{k:A7}(h:Ae k=Y)(f:Frame):C4 k f=HA k f:=A5 h
def auT:Cn [108,101,116]:=by unfold Cn;decide
def au0(n:A3):L (JK n)=[116,97,107,101]++32::L (wr n):=by unfold JK;simp only[GG,L_B];rfl
def aFA{k:AL}{r:A1}(hk:Au k=Y):BO k r=(GB k r).filter Au:=by
 unfold BO FJ;rw[A5 hk];cases (GB k r).filter Au<;>rfl
def arn{k:AL}{n:A3}(hn:Aw n=Y):Bh k EN (wr n)=if n.fr=k.id then G else Ex k n:=by
 unfold Bh GZ;by_cases h:n.fr=k.id
 .simp[iR,iS,jE,iT,uD,Q6 hn,h]
 .simp[iR,iS,jE,iT,uD,Q6 hn,h]
def kg{k:AL}{n:A3}(hk:Au k=Y)(hn:Aw n=Y):BO k (JK n)=(if n.fr=k.id then G else Ex k n).filter Au:=by
 rw[aFA hk,Ij aDq<|au0 n,B_L];rw[show Bh k (B [116,97,107,101]) (wr n)=_ from arn hn]
def lz{l:List Mark}{f n:Int}{x:Mark}(h:x∈l)(h1:x.mf=f)(h2:x.mn=n):0<=Bt l f n:=by
 obtain h3|h3:=arW l f n
 .exact absurd ⟨h1,h2⟩ (ly J x h)
 .exact h3
structure amh (k o:AL) (n:A3):Prop where
 id:o.id=k.id
 ti:o.ti=k.ti
 nx:o.nx=k.nx
 at_:(n.to=k.id/\o.held=k.held/\o.marks=ED k.marks ⟨n.fr,n.nu,n.un⟩/\o.inbox=Dt k.inbox n)\/(n.to≠k.id/\o.held=Dt k.held n/\o.marks=k.marks/\o.inbox=k.inbox)
structure Safe (k:A7) (st:AL):Prop where
 is:DE k st
 fo:k.fo=(k.log.size:Int)
def aF1{k:A7}{st o:AL}{r:A1}(h:DE k st)(hr:BO st r=I o):Safe (wrR k r Y).1 o/\(wrR k r Y).2=Y:=by
 unfold wrR;rw[h.stT,hr];exact⟨⟨Qc<|Tl h hr,rfl⟩,rfl⟩
def aF0{k:A7}{st:AL}{r:A1}{f:Bool}(h:DE k st)(hr:(wrR k r f).2=Y):∃o,BO st r=I o:=by
 unfold wrR at hr;rw[h.stT]at hr;cases hc:BO st r with
 | none=>rw[hc]at hr;cases hr
 | some o=>exact⟨o,rfl⟩
def abE{k:A7}(h:Ae k=Y)(hu:k.up=Y){f:Frame}(hf:By f=Y)(h1:f.ki=1):DE (GA k<|ES (Co (Ap k.AG f).1 (Ap k.AG f).2 f) (Ap k.AG f).2) (stT k):=by
 have kf:=E7 h;have hv:=oF.1 kf.hv;have hp:=Sq hf h1;have Ej:=N8 (hv:=k.AG) (f:=f);have LV:=TL (hv:=k.AG) (f:=f) kf.hl;have hpf:=aGu hv hf h1;have haf:=aaA hpf Ej hp.2.1;have hal:(Co (Ap k.AG f).1 (Ap k.AG f).2 f).length=(Ap k.AG f).1.length:=by unfold Co;rw[G2]
 exact ZP (CQ h) hu (by unfold ES;simp;omega)<|aaX haf _
def atD{k:AL}{m:Mark}{r:A1}(ht:Gz r=I m):Bh k C3 r=if EE k.held m then I ⟨k.id,k.ti,k.nx,ER k.held (AZ k.held m.mf m.mn).toNat,ED k.marks m,k.inbox⟩ else G:=by
 unfold Bh F6;cases h:EE k.held m<;>simp[jI,jK,ji,jJ,ik,iY,jk,jL,ht,h]
def aE5{k:AL}{a b c:Int}(hk:Au k=Y)(ha:0<=a/\a<=999)(hb:0<=b/\b<=999)(hc:0<=c/\c<=999):
  BO k (Cc C3 a b c)=(if EE k.held ⟨a,b,c⟩ then I ⟨k.id,k.ti,k.nx,ER k.held (AZ k.held a b).toNat,ED k.marks ⟨a,b,c⟩,k.inbox⟩ else G).filter Au:=by
 have h3:=ZD (r:=B<|B6 a++32::(B6 b++32::B6 c)) (a:=a) (b:=b) (c:=c) J J J J J J<|L_B _;rw[aFA hk,Ij auT<|TA C3 a b c];rw[show Bh k (B [108,101,116]) _=_ from atD h3]
structure azY (a b:A3):Prop where
 fr:a.fr=b.fr
 nu:a.nu=b.nu
 to':a.to=b.to
 un:a.un=b.un
 ok:Aw a=Aw b
structure azs (l m:List A3):Prop where
 len:l.length=m.length
 nA:∀i,azY (nA l i)<|nA m i
def RP(hv:List AD):Prop:=∀h∈hv,5<=h.sz\/ ∃n,h.got=[⟨n,B [97,98,99,100]⟩]
def F4(tx:A1)(i:Nat):List AQ:=(B1 i).map λj:Nat=>⟨(j:Int),Fw tx (j:Int)⟩
structure azz (x:A7) (d t:Int) (hv:List AD):Prop where
 ok:Ae x=Y
 up:x.up=Y
 id:x.id=d
 st:stT x=⟨d,t,1,[],[],[]⟩
 hv:x.AG=hv
variable {E:List Event}
def Tot{α:Type}(o:Option α)(P:α->Prop):Prop:=∃a,o=I a/\P a
def Rn{α β:Type}(A:α->Prop)(B:β->Prop):α ⊕ β->Prop
 | .inl a=>A a
 | .inr b=>B b
def Tot.ret{α:Type}{a:α}{P:α->Prop}(h:P a):Tot (I a) P:=⟨a,rfl,h⟩
def Tot.eq{α:Type}{o:Option α}{a:α}(h:o=I a):Tot o (λx=>x=a):=⟨a,h,rfl⟩
def Tot.mono{α:Type}{o:Option α}{P Q:α->Prop}(h:Tot o P)(hq:∀a,P a->Q a):Tot o Q:=by
 obtain⟨a,e,p⟩:=h;exact⟨a,e,hq a p⟩
def Tot.bind{α β:Type}{o:Option α}{f:α->Option β}{P:α->Prop}{Q:β->Prop}(h:Tot o P)(hf:∀a,P a->Tot (f a) Q):Tot (o.bind f) Q:=by
 obtain⟨a,rfl,p⟩:=h;exact hf a p
def Tot.ite{α:Type}{c:Bool}{a b:Option α}{P:α->Prop}(ha:c=Y->Tot a P)(hb:c=A0->Tot b P):Tot (if c=Y then a else b) P:=by
 cases c
 .rw[A4];exact hb rfl
 .rw[A5 rfl];exact ha rfl
def Tot.pos{α:Type}{c:Bool}{a b:Option α}{P:α->Prop}(hc:c=Y)(ha:Tot a P):Tot (if c=Y then a else b) P:=by
 rw[A5 hc];exact ha
def Tot.neg{α:Type}{c:Bool}{a b:Option α}{P:α->Prop}(hc:c=A0)(hb:Tot b P):Tot (if c=Y then a else b) P:=by
 rw[hc,A4];exact hb
def Tot.join{Ω X:Type}{f:X->Option Ω}{m:Option (Ω ⊕ X)}{A:X->Prop}{Q:Ω->Prop}(h:Tot m (Rn Q A))(hf:∀x,A x->Tot (f x) Q):Tot (BU f m) Q:=by
 obtain⟨r,rfl,p⟩:=h;cases r with
 | inl o=>exact⟨o,rfl,p⟩
 | inr x=>exact hf x p
def Tot.sum{A B7 Ω:Type}{m:Option (A ⊕ B7)}{f:A->Option Ω}{g:B7->Option Ω}{P:A->Prop}{Q:B7->Prop}{R:Ω->Prop}(h:Tot m (Rn P Q))
  (hf:∀a,P a->Tot (f a) R)(hg:∀d,Q d->Tot (g d) R):Tot (AP m f g) R:=by
 obtain⟨r,rfl,p⟩:=h;cases r with
 | inl o=>exact hf o p
 | inr x=>exact hg x p
def Tot.loop{σ ρ:Type}{b:σ->Option (σ ⊕ ρ)}(Inv:Nat->σ->Prop)(Nr:ρ->Prop)(n:Nat)
  (h:∀i s,i<=n->Inv i s->Tot (b s) (Rn (λs'=>i<n/\Inv (i+1) s') Nr)){s0:σ}(h0:Inv 0 s0):Tot (AT b s0) Nr:=by
 refine aws Inv Nr n (λi s hi hs=> ?_) (λs hs=> ?_) h0
 .obtain⟨r,e,p⟩:=h i s J hs;cases r with
  | inl s'=>exact .inl ⟨s',e,p.2⟩
  | inr y=>exact .inr ⟨y,e,p⟩
 .obtain⟨r,e,p⟩:=h n s (Ar _) hs;cases r with
  | inl s'=>exact absurd p.1<|Nat.lt_irrefl _
  | inr y=>exact⟨y,e,p⟩
structure CH (N:Nat) (r:List Int×Int×D):Prop where
 l:r.1.length<=2000
 b:BOk r.1
 p0:0<=r.2.1
 p1:r.2.1<=(N:Int)
def CH.up{N M:Nat}{r:List Int×Int×D}(h:CH N r)(hM:N<=M):CH M r:=⟨h.l,h.b,h.p0,by have:=h.p1;omega⟩
def awr{a b:Int}(ha:0<=a)(ha':a<9223372036854775808)(hb:0<=b)(hb':b<9223372036854775808):0<=Ds .i64 a b:=by
 obtain⟨m,rfl⟩:=HG ha;obtain⟨n,rfl⟩:=HG hb;have hm:m<2 ^ 63:=J
 have hn:n<2 ^ 63:=J
 have hx:=Nat.xor_lt_two_pow hm hn;have e:(F9 64 (m:Int) ^^^ F9 64 (n:Int)).toNat=m ^^^ n:=by
  rw[BitVec.toNat_xor,Qn,Qn];congr 1<;>omega
 show 0<=w64 (((F9 64 (m:Int) ^^^ F9 64 (n:Int)).toNat:Int));rw[e,AU J J];omega
def B4{N:Nat}{x:(List Int×Int×D)×Int×D}(h:CH N x.1)(hN:N<=1000000):
  Tot (B0 x) λa=>CH (N+1) a.2.1/\0<=a.1.1/\(1<=x.2.1->a.1.1<x.2.1):=by
 obtain⟨⟨l,p,_⟩,n,_⟩:=x;obtain⟨hl,hb,p0,p1⟩:=h;simp only at hl hb p0 p1;have e1:w64 (p+1)=p+1:=AU J J;have e2:w64 (p+1 - 1)=p:=by rw[AU J J];omega
 have hq:CH (N+1) (l,p+1,()):=⟨hl,hb,by show 0<=p+1;omega,by show p+1<=((N+1:Nat):Int);omega⟩;unfold B0;simp only[e1,e2];refine Tot.ite (λhc=> ?_) (λhc=> ?_)
 .refine Tot.ret ⟨hq,Dw _,λh=>by show(0:Int)<n;omega⟩
 .simp only[NJ,decide_eq_false_iff_not]at hc;have hn:1<=n:=J
  have hln:0<l.length:=J
  have hl0:¬((j8 l:Int)=0):=hc.2;have hn0:(!decide (n=0))=Y:=by simp;omega
  have qK:(!decide ((j8 l:Int)=0))=Y:=by simpa using hl0
  refine Tot.ite (λhc1=> ?_) (λhc1=> ?_)
  .have hc1:=BW hc1;refine Tot.pos (Da p0 hc1) (Tot.pos hn0<|Tot.ret ⟨hq, ?_,λ_=> ?_⟩)
   .have:=hb.rd p;exact Qo _ (by rw[AU J J];exact this.1)
   .exact Qs _ J
  .have hp:0<=BJ p l.length/\BJ p l.length<l.length:=⟨Qo _ p0,Qs _ J⟩;have e3:w64 (w64 (p * 7)+3)=p * 7+3:=by rw[AU (n:=p * 7) J J,AU J J]
   have hp2:0<=BJ (p * 7+3) l.length/\BJ (p * 7+3) l.length<l.length:=⟨Qo _ J,Qs _ J⟩;simp only[e3];refine Tot.pos qK (Tot.pos (Da hp.1 hp.2)<|Tot.pos qK<|Tot.pos (Da hp2.1 hp2.2)<|Tot.pos qK<|Tot.pos hn0<|Tot.ret ⟨hq, ?_,λ_=> ?_⟩)
   .have b1:=hb.rd<|BJ p l.length;have b2:=hb.rd<|BJ (p * 7+3) l.length;have hd:0<=Ay p l.length/\Ay p l.length<=p:=⟨mv p0 J,Int.tdiv_le_self _ p0⟩;generalize @rd Int aHh l (BJ p l.length)=u1 at b1 ⊢;generalize @rd Int aHh l (BJ (p * 7+3) l.length)=u2 at b2 ⊢;generalize Ay p l.length=d at hd ⊢;have w1:w64 u1=u1:=AU J J;have w2:w64 u2=u2:=AU J J;have w3:w64 (u1 * 131)=u1 * 131:=AU J J;have w4:w64 (u2 * 1117)=u2 * 1117:=AU J J;have w5:w64 (p * 29)=p * 29:=AU J J;have w6:w64 d=d:=AU J J;have w7:w64 (d * 53)=d * 53:=AU J J;simp only[w1,w2,w3,w4,w5,w6,w7];have w8:w64 (u1 * 131+u2 * 1117)=u1 * 131+u2 * 1117:=AU J J;rw[w8];have w9:w64 (u1 * 131+u2 * 1117+p * 29)=u1 * 131+u2 * 1117+p * 29:=AU J J;rw[w9];have w10:w64 (u1 * 131+u2 * 1117+p * 29+d * 53)=u1 * 131+u2 * 1117+p * 29+d * 53:=AU J J;rw[w10];have hv:0<=u1 * 131+u2 * 1117+p * 29+d * 53/\u1 * 131+u2 * 1117+p * 29+d * 53<=1000000000:=J
    generalize u1 * 131+u2 * 1117+p * 29+d * 53=v at hv ⊢;have hdv:0<=Ay v 64/\Ay v 64<=v:=⟨mv hv.1 J,Int.tdiv_le_self _ hv.1⟩;have w11:w64 (Ay v 64)=Ay v 64:=AU J J;rw[w11];exact Qo _ (awr hv.1 J hdv.1 J)
   .exact Qs _ J
def as4(l:List A1){i:Int}(h0:0<=i)(h1:i<l.length): @rd A1 aHj l i∈l:=by
 unfold rd;rw[BG,Av (by omega:i.toNat<l.length)];exact Ci _
def NZ{N:Nat}{r:List Int×Int×D}{l:List A1}(h:CH N r)(hN:N<=1000000)(hl:1<=l.length):
  Tot (Kl (r,l,())) λa=>CH (N+1) a.2.1/\a.1.1∈l:=by
 unfold Kl;refine Tot.bind (B4 h hN) λa ha=> ?_;have h1:=ha.2.2 (by show(1:Int)<=(j8 l:Int);omega);exact Tot.pos (Da ha.2.1 h1)<|Tot.ret ⟨ha.1,as4 l ha.2.1 h1⟩
def Lc(E ev:List Event)(w:AA):Prop:=∃l,Reach l w/\(E=[]->l=ev)
def Lc.ok{ev:List Event}{w:AA}(h:Lc E ev w):B8 w:=by
 obtain⟨_,h,_⟩:=h;exact h.ok
def Lc.gen{ev:List Event}{w:AA}(h:Lc E ev w):Jk (λ_=>True) w:=by
 obtain⟨_,h,_⟩:=h;exact h.gen
def Lc.reach{ev:List Event}{w:AA}(h:Lc [] ev w):Reach ev w:=by
 obtain⟨_,h,e⟩:=h;rw[← e rfl];exact h
def Lc.step{ev:List Event}{w:AA}(h:Lc E ev w){e:Event}(ht:e.tx.size<=1048576):Lc E (K8 ev e (doM w e).2) (Cw w e):=by
 obtain⟨l,h,g⟩:=h;exact⟨_,h.step ht,λc=>by rw[g c]⟩
def tc(l:List Event):Nat:=(l.filter λe=>U<|e.ki=2).length
def ayH(l:List Event)(e:Event):tc (l++[e])=tc l+if e.ki=2 then 1 else 0:=by
 unfold tc;rw[P5,Am];by_cases h:e.ki=2<;>simp[h]
def WOk(E:List Event)(N:Nat)(t:Int×List A7×List Bool×List AK×List A3×List A3×List Event×D):Prop:=∃w ev,t=tS w ev/\Lc E ev w/\ev.length+200 * tc ev<=N
structure SOk (E:List Event) (N:Nat) (s:(List Int×Int×D)×Int×List A7×List Bool×List AK×List A3×List A3×List Event×D):Prop where
 r:CH N s.1
 w:WOk E N s.2
def WOk.up{N M:Nat}{t:_}(h:WOk E N t)(hM:N<=M):WOk E M t:=by
 obtain⟨w,ev,e,h1,h2⟩:=h;exact⟨w,ev,e,h1,J⟩
def SOk.up{N M:Nat}{s:_}(h:SOk E N s)(hM:N<=M):SOk E M s:=⟨h.r.up hM,h.w.up hM⟩
def SOk.rd{N M:Nat}{s:_}(h:SOk E N s){r:List Int×Int×D}(hr:CH M r)(hM:N<=M):SOk E M (r,s.2):=⟨hr,h.w.up hM⟩
abbrev zTx(y:Int×Int×Int×Int×Int×Int×Int×Int×Int×A1×D):A1:=y.2.2.2.2.2.2.2.2.2.1
def ov{N:Nat}{s:_}{y:Int×Int×Int×Int×Int×Int×Int×Int×Int×A1×D}(h:SOk E N s)(hN:N<=1000000)(hy:(zTx y).size<=1048576):
  Tot (FP (s,y,())) λa=>SOk E (N+1+if y.1=2 then 200 else 0) a.2.1:=by
 obtain⟨hr,w,ev,e,hw,hev⟩:=h;obtain⟨r,t⟩:=s;obtain⟨a,b,c,d,f,g,i,j,k,tx,_⟩:=y;simp only at e hr;subst e;have:=atQ hw.ok (r:=r) (ev:=ev) J (e:=⟨a,b,c,d,f,g,i,j,k,tx⟩) hy;refine⟨_,this,hr.up J,⟨_,K8 ev ⟨a,b,c,d,f,g,i,j,k,tx⟩ (doM w ⟨a,b,c,d,f,g,i,j,k,tx⟩).2,rfl, ?_, ?_⟩⟩
 .exact hw.step (e:=⟨a,b,c,d,f,g,i,j,k,tx⟩) hy
 unfold K8;split
 .rw[ayH,Am];show ev.length+1+200 * (tc ev+if a=2 then 1 else 0)<=N+1+if a=2 then 200 else 0
  split<;>omega
 .omega
def ID{N:Nat}{s:_}{y:Int×Int×Int×Int×Int×Int×Int×Int×Int×A1×D}(h:SOk E N s)(hN:N<=1000000)(hy:(zTx y).size<=1048576/\y.1≠2):
  Tot (FP (s,y,())) λa=>SOk E (N+1) a.2.1:=(ov h hN hy.1).mono λa ha=>by rw[A9 hy.2]at ha;exact ha
def WOk.has{N:Nat}{t:_}(h:WOk E N t){i:Int}(h0:0<=i)(h1:i<4):Ae (kA t.2.1 i.toNat)=Y/\(kA t.2.1 i.toNat).id=i/\inb i t.2.1.length=Y:=by
 obtain⟨w,ev,rfl,hw,_⟩:=h;have:=hw.ok.k i.toNat J;refine⟨this.1, ?_,Da h0 (by show i<(w.A8.length:Int);rw[hw.ok.kl];exact h1)⟩;rw[this.2];omega
def WOk.big{N:Nat}{t:_}(h:WOk E N t){i:Int}(h0:0<=i)(h1:i<4):HN (kA t.2.1 i.toNat):=by
 obtain⟨w,ev,rfl,hw,_⟩:=h;exact hw.gen.b i.toNat J
def oe{l:List A7}{i:Int}(h:Ae (kA l i.toNat)=Y):
  Tot (FA (((@rd A7 aG8 l i).id,(@rd A7 aG8 l i).up,(@rd A7 aG8 l i).log,(@rd A7 aG8 l i).fo,(@rd A7 aG8 l i).AG,()),()))
   λa=>a=((tK<|stT<|kA l i.toNat,Y,()),()):=Tot.eq<|Mw h
end Go.VS
namespace Go.VS
open Go
variable {E:List Event}
def QX{l:List A1}{s:A1}(h:s∈l)(hl:(l.all λx=>U<|x.size<=1000)=Y):s.size<=1000:=by
 have:=DB.1 hl s h;exact BW this
def abT{N:Nat}{s:_}(h:SOk E N s)(hN:N<=900000):Tot (VB (s,())) λa=>SOk E (N+10) a.2.1:=by
 unfold VB;refine Tot.bind (B4 h.r J) λr1 h1=>Tot.bind (NZ h1.1 J aHd) λr2 h2=>Tot.join (A:=λj=>SOk E (N+2) j.1/\0<=j.2.1/\j.2.1<4/\j.2.2.1.size<=1000) ?_ (λj hj=> ?_)
 .have hz:=QX h2.2 aHd;have hat:r1.1.1<4:=h1.2.2 (show(1:Int)<=4 by decide);refine Tot.ite (λhc=>Tot.pos ?_<|Tot.ret ⟨h.rd h2.1 J,h1.2.1,hat, ?_⟩) (λhc=>Tot.ret ⟨h.rd h2.1 J,h1.2.1,hat,hz⟩)
  .have:=BW hc;simp;omega
  .show(r2.1.1.extract 0 24).size<=1000;rw[Tx];omega
 .obtain⟨hs,a0,a1,hz⟩:=hj;have hk:=hs.w.has a0 a1;refine Tot.pos hk.2.2 (Tot.bind (oe hk.1) λr6 h6=>Tot.bind (B4 hs.r J) λr7 h7=>Tot.bind (B4 h7.1 J) λr8 h8=>
   Tot.bind (ID (hs.rd h8.1 J) J ⟨?_,by show(1:Int)≠2;decide⟩) λr9 h9=>Tot.ret<|h9.up J)
  show j.2.2.1.size<=1048576;omega
def aye{a:Int}(h0:0<=a)(h1:a<4):0<=BJ (w64<|a+1) 4/\BJ (w64<|a+1) 4<4:=by
 rw[AU J J];exact⟨Qo _ J,Qs _ J⟩
def ayL{N:Nat}{s:_}(h:SOk E N s)(hN:N<=900000):Tot (dA (s,())) λa=>SOk E (N+2) a.2.1/\a.2.1.2=s.2/\(a.1.2.2.1=Y->0<=a.1.1/\a.1.1<4/\isN (Bu a.1.1 a.1.2.1.2.2.1)=Y):=by
 unfold dA;refine Tot.bind (B4 h.r J) λr1 h1=>Tot.sum (P:=λy=>SOk E (N+2) y.1/\y.1.2=s.2/\(0<=y.2.1/\y.2.1<4/\isN (Bu y.2.1 y.2.2.1.2.2.1)=Y)) (Q:=λy=>SOk E (N+2) y.1/\y.1.2=s.2) ?_ (λy hy=>Tot.ret ⟨hy.1,hy.2.1,λ_=>hy.2.2⟩) (λy hy=>Tot.ret ⟨hy.1,hy.2,λh=>by cases h⟩);refine Tot.loop (λi x=>SOk E (N+1) x.1/\x.1.2=s.2/\0<=x.2.2.1/\x.2.2.1<4/\x.2.2.2.1=(i:Int)) _ 4 (λi x hi hx=> ?_) ⟨h.rd h1.1 J,rfl,h1.2.1,h1.2.2<|show(1:Int)<=4 by decide,rfl⟩;obtain⟨hs,hw,a0,a1,hx⟩:=hx;have hk:=hs.w.has a0 a1;unfold qu;refine Tot.ite (λhc=> ?_) (λhc=>Tot.ret ⟨hs.up J,hw⟩);have hc:=BW hc;refine Tot.pos hk.2.2 (Tot.bind (oe hk.1) λr6 h6=> ?_);subst h6;refine Tot.ite (λhl=> ?_) (λhl=> ?_)
 .have hl:(0:Int)<((stT<|kA x.1.2.2.1 x.2.2.1.toNat).held.length:Int):=BW hl;refine Tot.bind (B4 hs.r J) λr7 h7=> ?_;have hlt:=h7.2.2 hl;refine Tot.pos (Da h7.2.1 hlt)<|Tot.ret ⟨hs.rd h7.1 J,hw,a0,a1, ?_⟩;have hkk:=CQ hk.1;have hid:=hkk.id;have h9:r7.1.1.toNat<(stT<|kA x.1.2.2.1 x.2.2.1.toNat).held.length:=by
   have:r7.1.1<((stT<|kA x.1.2.2.1 x.2.2.1.toNat).held.length:Int):=hlt;have:=h7.2.1;omega
  have:=lI hkk.kok (n:=nA (stT<|kA x.1.2.2.1 x.2.2.1.toNat).held r7.1.1.toNat) (by rw[nA,BG,Av h9];exact Ci h9);rw[hid,hk.2.1]at this;exact this
 .have hm:=aye a0 a1;refine Tot.ret ⟨?_,hs,hw,hm.1,hm.2, ?_⟩
  .omega
  .show w64 (x.2.2.2.1+1)=_;rw[hx,AU J J];rfl
def TxK(y:Int×Int×Int×Int×Int×Int×Int×Int×Int×A1×D):Prop:=(zTx y).size<=1000/\y.1≠2
def Tg{N:Nat}{s:_}(h:SOk E N s){DN odd:Int}{K:Nat}(hm:DN<=(K:Int))(hK:K<=64)(hN:N<=900000):Tot (Nt (s,DN,odd,())) λa=>SOk E (N+12 * K) a.2.1:=by
 unfold Nt;refine Tot.sum (P:=λ_=>False) (Q:=λy=>SOk E (N+12 * K) y.1) ?_ (λ_ h=>h.elim) (λy hy=>Tot.ret hy);refine Tot.loop (λi x=>SOk E (N+12 * i) x.1/\x.2.1=DN/\x.2.2.2.1=(i:Int)) _ DN.toNat (λi x hi hx=> ?_) ⟨h,rfl,rfl⟩;obtain⟨hs,hx1,hx⟩:=hx;unfold qi;refine Tot.ite (λhc=> ?_) (λhc=>Tot.ret<|show SOk E (N+12 * K) _ from hs.up J);rw[AE,hx1,hx]at hc;have hlt:(i:Int)<DN:=BW hc.1;have hN1:N+12 * i<=950000:=J
 generalize hM:N+12 * i=M at hs hN1;refine Tot.join (A:=λj=>SOk E (M+5) j.1/\j.2.1=DN/\j.2.2.2.1=(i:Int)/\TxK j.2.2.2.2.1) ?_ (λj hj=> ?_)
 .refine Tot.join (A:=λj=>SOk E (M+1) j.1/\j.2.1=DN/\j.2.2.2.1=(i:Int)/\TxK j.2.2.2.2.1) ?_ (λj hj=> ?_)
  .refine Tot.ite (λhc=>Tot.bind (B4 hs.r J) λr1 h1=>Tot.ret ?_) (λhc=>Tot.ret ?_)
   .exact⟨hs.rd h1.1 J,hx1,hx,show TxK _ from⟨show noB.size<=1000 by decide,show(4:Int)≠2 by decide⟩⟩
   .exact⟨hs.up J,hx1,hx,show TxK _ from⟨show noB.size<=1000 by decide,show(4:Int)≠2 by decide⟩⟩
  .obtain⟨hs,hj1,hj2,hj3⟩:=hj;refine Tot.ite (λhc=> ?_) (λhc=>Tot.ret ⟨hs.up J,hj1,hj2,hj3⟩);refine Tot.bind (B4 hs.r J) λr1 h1=> ?_;refine Tot.ite (λhc=>Tot.ret ⟨hs.rd (h1.1.up J) J,hj1,hj2,⟨hj3.1,show(5:Int)≠2 by decide⟩⟩) (λhc=> ?_);refine Tot.ite (λhc=>Tot.ret ⟨hs.rd (h1.1.up J) J,hj1,hj2,hj3⟩) (λhc=> ?_);refine Tot.ite (λhc=> ?_) (λhc=> ?_)
   .exact Tot.bind (B4 h1.1 J) λr2 h2=>Tot.bind (B4 h2.1 J) λr3 h3=>Tot.bind (B4 h3.1 J) λr4 h4=>
     Tot.ret ⟨hs.rd (h4.1.up J) J,hj1,hj2,⟨hj3.1,show(6:Int)≠2 by decide⟩⟩
   .exact Tot.bind (B4 h1.1 J) λr2 h2=>Tot.ret ⟨hs.rd (h2.1.up J) J,hj1,hj2,hj3⟩
 .obtain⟨hs,hj1,hj2,hj3⟩:=hj;have hw:w64 (j.2.2.2.1+1)=((i+1:Nat):Int):=by rw[hj2,AU J J];rfl
  refine Tot.join (A:=λj=>SOk E (M+7) j.1/\j.2.1=DN/\j.2.2.2.1=(i:Int)/\TxK j.2.2.2.2.1) ?_ (λj hj=> ?_)
  .refine Tot.bind (ID hs J ⟨C6 hj3.1 aHd,hj3.2⟩) λr1 h1=>Tot.ite (λhc=> ?_) (λhc=>Tot.ret ⟨h1.up J,hj1,hj2,hj3⟩);exact Tot.bind (ID h1 J ⟨show noB.size<=1048576 by decide,show(5:Int)≠2 by decide⟩) λr2 h2=>Tot.ret ⟨h2.up J,hj1,hj2,hj3⟩
  .obtain⟨hs,hj1,hj2,hj3⟩:=hj;refine Tot.join (A:=λj=>SOk E (M+8) j.1/\j.2.1=DN/\j.2.2.2.1=(i:Int)/\TxK j.2.2.2.2.1) ?_ (λj hj=> ?_)
   .refine Tot.ite (λhc=>Tot.bind (B4 hs.r J) λr1 h1=>Tot.ret ⟨hs.rd h1.1 J,hj1,hj2,hj3⟩) (λhc=>Tot.ret ⟨hs.up J,hj1,hj2,hj3⟩)
   .obtain⟨hs,hj1,hj2,hj3⟩:=hj;have hw:w64 (j.2.2.2.1+1)=((i+1:Nat):Int):=by rw[hj2,AU J J];rfl
    refine Tot.ite (λhc=> ?_) (λhc=>Tot.ret ⟨J, ?_,hj1,hw⟩)
    .refine Tot.bind (B4 hs.r J) λr1 h1=>Tot.bind (B4 h1.1 J) λr2 h2=>Tot.bind (ID (hs.rd h2.1 J) J ?_) λr3 h3=>Tot.ret ⟨J, ?_,hj1,hw⟩
     .exact⟨C6 hj3.1 aHd,hj3.2⟩
     .exact h3.up J
    .exact hs.up J
end Go.VS
namespace Go.VS
open Go
variable {E:List Event}
def nz:noB.size<=1048576:=by decide
def nt{k:Int}(h:U (k=2)=A0:=by rfl):k≠2:=JV h
def WOk.rl{N:Nat}{t:_}(h:WOk E N t):t.2.2.2.1.length<=30:=by
 obtain⟨w,ev,rfl,hw,_⟩:=h;exact hw.ok.rl
def QY{n:Int}{i:Nat}(h:n=(i:Int))(hi:i<=1000000):w64 (n+1)=((i+1:Nat):Int):=by
 rw[h,AU J J];rfl
def TW{N:Nat}{s:_}(h:SOk E N s){DN odd:Int}(h0:0<=DN)(hm:DN<=8)(hN:N<=800000):Tot (Ns (s,DN,odd,())) λa=>SOk E (N+170) a.2.1:=by
 unfold Ns;refine Tot.bind (ayL h J) λr1 h1=>Tot.ite (λhc=>Tot.ret<|h1.1.up J) (λhc=> ?_);refine Tot.bind (B4 h1.1.r J) λr2 h2=>Tot.bind (B4 h2.1 J) λr3 h3=> ?_;refine Tot.sum (P:=λ_=>False) (Q:=λy=>SOk E (N+20) y.1/\y.2.1=DN) ?_ (λ_ h=>h.elim) (λy hy=> ?_)
 .refine Tot.loop (λi x=>SOk E (N+4+i) x.1/\x.2.1=DN/\x.2.2.2.2.2.2.1=(i:Int)) _ DN.toNat (λi x hi hx=> ?_) ⟨h1.1.rd h3.1 J,rfl,rfl⟩;obtain⟨hs,hx1,hx⟩:=hx;unfold qh;refine Tot.ite (λhc=> ?_) (λhc=>Tot.ret ⟨hs.up J,hx1⟩);have hc:=BW hc;exact Tot.bind (ID hs J ⟨nz,nt⟩) λr4 h4=>Tot.ret ⟨J,h4.up J,hx1,QY hx J⟩
 .have hy2:=hy.2;refine Tot.bind (B4 hy.1.r J) λr4 h4=> ?_;have h5:r4.1.1<=((12:Nat):Int):=by
   have:w64 (y.2.1+4)=DN+4:=by rw[hy.2,AU J J]
   have:=h4.2.2 (by show 1<=w64 (y.2.1+4);omega);have:r4.1.1<w64 (y.2.1+4):=this;omega
  exact Tot.bind (Tg (hy.1.rd h4.1 J) h5 aHd J) λr5 h6=>Tot.ret<|h6.up J
def aGv{c a n:Int}(h0:0<=a)(h1:a<n)(hc:3<=c)(hn:c+n<=1000):w64 (c+a)≠2:=by
 rw[AU J J];omega
def ay1{N:Nat}{s:_}(h:SOk E N s)(hN:N<=700000):Tot (cW (s,())) λa=>SOk E (N+3500) a.2.1:=by
 unfold cW;refine Tot.bind (Tg (K:=40) h aHd aHd J) λr1 h1=>Tot.bind (TW h1 aHd aHd J) λr2 h2=> ?_;refine Tot.sum (P:=λ_=>False) (Q:=λy=>SOk E (N+740) y.1) ?_ (λ_ h=>h.elim) (λy hy=> ?_)
 .refine Tot.loop (λi x=>SOk E (N+650+40 * i) x.1/\x.2.1=(i:Int)) _ 2 (λi x hi hx=> ?_) ⟨h2.up J,rfl⟩;obtain⟨hs,hx⟩:=hx;unfold qo;refine Tot.bind (B4 hs.r J) λr3 h3=>Tot.ite (λhc=> ?_) (λhc=>Tot.ret<|show SOk E (N+740) _ from hs.rd (h3.1.up J) J);have hc:=BW hc;have hv:=h3.2.2 (show(1:Int)<=2 by decide);have hv:r3.1.1<2:=hv;have hv0:=h3.2.1;rw[AU J J]at hc;have hrl:=hs.w.rl;refine Tot.sum (P:=λ_=>False) (Q:=λy=>SOk E (N+650+40 * (i+1)) y.1/\y.2.1=(i:Int)) ?_ (λ_ h=>h.elim) (λy hy=>Tot.ret ⟨J,hy.1,QY hy.2 J⟩);refine Tot.loop (λk y=>SOk E (N+650+40 * i+1+k) y.1/\y.2.1=(i:Int)/\y.2.2.1=(j8 x.1.2.2.2.2.1:Int)/\y.2.2.2.1=(k:Int)) _ x.1.2.2.2.2.1.length (λk y hk hy=> ?_) ⟨hs.rd h3.1 J,hx,rfl,rfl⟩;obtain⟨hs,y1,y2,y3⟩:=hy;unfold qn;refine Tot.ite (λhc=> ?_) (λhc=>Tot.ret ⟨hs.up J,y1⟩);have hc:=BW hc;exact Tot.bind (ID hs J ⟨nz,nt⟩) λr4 h4=>Tot.ret ⟨J,h4.up J,y1,y2,QY y3 J⟩
 .refine Tot.bind (B4 (SOk.r hy) J) λr3 h3=>Tot.join (A:=λj=>SOk E (N+2600) j.1) ?_ (λj hj=> ?_)
  .refine Tot.bind (B4 h3.1 J) λr4 h4=>Tot.ite (λhc=> ?_) (λhc=>Tot.ite (λhc=> ?_) λhc=> ?_)
   .exact Tot.bind (B4 h4.1 J) λr5 h5=>Tot.bind (ID (SOk.rd hy h5.1 J) J ⟨nz,nt⟩) λr6 h6=>Tot.bind (ID h6 J ⟨nz,nt⟩) λr7 h7=>Tot.ret (show SOk E (N+2600) _ from h7.up J)
   .refine Tot.bind (B4 h4.1 J) λr5 h5=>Tot.sum (P:=λ_=>False) (Q:=λy=>SOk E (N+2600) y.1) ?_ (λ_ h=>h.elim) (λy hy=>Tot.ret<|show SOk E (N+2600) y.1 from hy);have hv:r5.1.1<9:=h5.2.2 (show(1:Int)<=9 by decide);have hv0:=h5.2.1;refine Tot.loop (λk y=>SOk E (N+744+201 * k) y.1/\y.2.2.1=r5.1.1 - (k:Int)) _ r5.1.1.toNat (λk y hk hy=> ?_) ⟨SOk.rd hy (h5.1.up J) J,by show r5.1.1=r5.1.1 - 0;omega⟩;obtain⟨hs,y1⟩:=hy;unfold qm;refine Tot.ite (λhc=> ?_) (λhc=>Tot.ret<|show SOk E (N+2600) _ from hs.up J);have hc:=BW hc;refine Tot.bind (ov hs J nz) λr6 h6=>Tot.ret ⟨J,SOk.up (show SOk E (N+744+201 * k+1+200) _ from h6) J, ?_⟩;show w64 (y.2.2.1 - 1)=r5.1.1 - ((k+1:Nat):Int);rw[AU J J];omega
   .exact Tot.ret (show SOk E (N+2600) _ from SOk.rd hy (h4.1.up J) J)
  .have hj:SOk E (N+2600) j.1:=hj;refine Tot.bind (TW hj aHd aHd J) λr4 h4=>Tot.sum (P:=λ_=>False) (Q:=λy=>SOk E (N+2800) y.1) ?_ (λ_ h=>h.elim) (λy hy=> ?_)
   .refine Tot.loop (λk y=>SOk E (N+2775+k) y.1/\y.2.2.1=(k:Int)) _ 12 (λk y hk hy=> ?_) ⟨h4.up J,rfl⟩;obtain⟨hs,y1⟩:=hy;unfold qv;refine Tot.ite (λhc=> ?_) (λhc=>Tot.ret<|show SOk E (N+2800) _ from hs.up J);rw[AE]at hc;have hc:=BW hc.1;exact Tot.bind (ID hs J ⟨nz,nt⟩) λr6 h6=>Tot.ret ⟨J,h6.up J,QY y1 J⟩
   .exact Tot.bind (Tg (K:=40) (SOk.up hy<|Ar _) aHd aHd J) λr5 h5=>Tot.ret<|h5.up J
def aau{N:Nat}{s:_}(h:SOk E N s)(odd:Int)(hN:N<=690000):Tot (VD (s,odd,())) λa=>SOk E (N+3600) a.2.1:=by
 unfold VD;refine Tot.bind (B4 h.r J) λr1 h1=>Tot.bind (B4 h1.1 J) λr2 h2=> ?_;have a0:=h1.2.1;have a1:r1.1.1<4:=h1.2.2 (show(1:Int)<=4 by decide);have hs:SOk E (N+2) (r2.2.1,s.2):=h.rd h2.1 J;refine Tot.join (A:=λj=>SOk E (N+2) j.1/\0<=j.2.2.1/\j.2.2.1<4) ?_ (λj hj=> ?_)
 .exact Tot.ite (λ_=>Tot.ret ⟨hs,a0,a1⟩) λ_=>Tot.ite (λ_=>Tot.ret ⟨hs,a0,a1⟩) λ_=>Tot.ret ⟨hs,a0,a1⟩
 clear hs a0 a1;refine Tot.ite (λ_=>Tot.bind (abT hj.1 J) λr4 h4=>Tot.ret<|h4.up J) (λ_=> ?_);refine Tot.join (A:=λj=>SOk E (N+2) j.1/\0<=j.2.2.1/\j.2.2.1<4) ?_ (λj hj=> ?_)
 .exact Tot.ite (λ_=>Tot.ret hj) λ_=>Tot.ite (λ_=>Tot.ret hj) λ_=>Tot.ite (λ_=>Tot.ret hj) λ_=>Tot.ite (λ_=>Tot.ret hj) λ_=>Tot.ite (λ_=>Tot.ret hj) λ_=>Tot.ret hj
 refine Tot.ite (λ_=> ?_) (λ_=> ?_)
 .refine Tot.bind (B4 hj.1.r J) λr3 h3=> ?_;have hv:r3.1.1<7:=h3.2.2 (show(1:Int)<=7 by decide);have hv0:=h3.2.1;have hw:w64 (1+r3.1.1)=1+r3.1.1:=AU J J;exact Tot.bind (TW (hj.1.rd h3.1 J) (by rw[hw];omega) (by rw[hw];omega) J) λr4 h4=>Tot.ret<|h4.up J
 refine Tot.join (A:=λj=>SOk E (N+2) j.1/\0<=j.2.2.1/\j.2.2.1<4) ?_ (λj hj=> ?_)
 .exact Tot.ite (λ_=>Tot.ret hj) λ_=>Tot.ret hj
 refine Tot.ite (λ_=> ?_) (λ_=> ?_)
 .refine Tot.bind (B4 hj.1.r J) λr3 h3=> ?_;have hv:r3.1.1<20:=h3.2.2 (show(1:Int)<=20 by decide);have hv0:=h3.2.1;have hw:w64 (1+r3.1.1)=1+r3.1.1:=AU J J;exact Tot.bind (Tg (K:=20) (hj.1.rd h3.1 J) (by rw[hw];omega) aHd J) λr4 h4=>Tot.ret<|h4.up J
 refine Tot.join (A:=λj=>SOk E (N+2) j.1/\0<=j.2.1/\j.2.1<4) ?_ (λj hj=> ?_)
 .exact Tot.ite (λ_=>Tot.ret hj) λ_=>Tot.ret hj
 refine Tot.ite (λ_=>Tot.bind (ov hj.1 J nz) λr4 h4=>Tot.ret<|SOk.up (show SOk E (N+2+1+200) _ from h4) J) (λ_=> ?_);refine Tot.ite (λ_=>Tot.bind (B4 hj.1.r J) λr3 h3=>Tot.bind (ID (hj.1.rd h3.1 J) J ⟨nz,nt⟩) λr4 h4=>Tot.ret<|h4.up J) (λ_=> ?_);refine Tot.join (A:=λj=>SOk E (N+2) j.1/\0<=j.2.1/\j.2.1<4) ?_ (λj hj=> ?_)
 .exact Tot.ite (λ_=>Tot.ret hj) λ_=>Tot.ret hj
 refine Tot.ite (λ_=>Tot.bind (ID hj.1 J ⟨nz,nt⟩) λr4 h4=>Tot.ret<|h4.up J) (λ_=> ?_);refine Tot.ite (λ_=>Tot.bind (B4 hj.1.r J) λr3 h3=>Tot.bind (B4 h3.1 J) λr4 h4=>Tot.bind (ID (hj.1.rd h4.1 J) J ⟨nz,aGv h3.2.1 (show _<(2:Int) from h3.2.2<|show(1:Int)<=2 by decide) aHd aHd⟩) λr5 h5=>Tot.ret<|h5.up J) (λ_=> ?_);refine Tot.join (A:=λj=>SOk E (N+2) j.1/\0<=j.2.1/\j.2.1<4) ?_ (λj hj=> ?_)
 .exact Tot.ite (λ_=>Tot.ret hj) λ_=>Tot.ret hj
 refine Tot.ite (λ_=> ?_) (λ_=> ?_)
 .have hk:=hj.1.w.has hj.2.1 hj.2.2;refine Tot.pos hk.2.2 (Tot.bind (oe hk.1) λr6 h6=> ?_);subst h6;refine Tot.ite (λhl=> ?_) (λhl=>Tot.ret<|hj.1.up J);have hl:(0:Int)<((stT<|kA j.1.2.2.1 j.2.1.toNat).inbox.length:Int):=BW hl;refine Tot.bind (B4 hj.1.r J) λr7 h7=>Tot.pos (Da h7.2.1<|h7.2.2 hl)<|Tot.bind (ID (hj.1.rd h7.1 J) J ⟨nz,nt⟩) λr8 h8=>Tot.ret<|h8.up J
 refine Tot.ite (λ_=>Tot.bind (B4 hj.1.r J) λr3 h3=>Tot.bind (ID (hj.1.rd h3.1 J) J ⟨nz,aGv h3.2.1 (show _<(2:Int) from h3.2.2<|show(1:Int)<=2 by decide) aHd aHd⟩) λr4 h4=>Tot.ret<|h4.up J) (λ_=> ?_);refine Tot.join (A:=λj=>SOk E (N+2) j.1) ?_ (λj hj=> ?_)
 .exact Tot.ite (λ_=>Tot.ret hj.1) λ_=>Tot.ite (λ_=>Tot.ret hj.1) λ_=>Tot.ret hj.1
 have hj:SOk E (N+2) j.1:=hj;refine Tot.ite (λ_=>Tot.bind (ay1 hj J) λr4 h4=>Tot.ret<|h4.up J) (λ_=> ?_);refine Tot.sum (P:=λ_=>False) (Q:=λy=>SOk E (N+3600) y.1) ?_ (λ_ h=>h.elim) (λy hy=>Tot.ret hy);refine Tot.loop (λk y=>SOk E (N+2+420 * k) y.1/\y.2.1=(k:Int)) _ 4 (λk y hk hy=> ?_) ⟨hj,rfl⟩;unfold qt;refine Tot.ite (λhc=> ?_) (λhc=>Tot.ret<|show SOk E (N+3600) _ from hy.1.up J);have hc:=BW hc;have hy2:=hy.2;exact Tot.bind (TW hy.1 aHd aHd J) λr5 h5=>Tot.bind (Tg (K:=20) h5 aHd aHd J) λr6 h6=>Tot.ret ⟨J,h6.up J,QY hy.2 J⟩
end Go.VS
namespace Go.VS
open Go
variable {E:List Event}
def ax2{i:Int}(h:isN i=Y):VI (i,())=I (((i,Y,noB,0,[],()),()),()):=by
 unfold VI;simp only[Jq,A6,h,AB,A4]
def ax1:dK ()=I (((rv0.ti,rv0.A8,rv0.An,rv0.AM,rv0.AX,rv0.got,()),()),()):=by
 have h0:qX ((0,([]:List A7),([]:List Bool),([]:List AK),([]:List A3),([]:List A3),()),(0,([]:List A7),([]:List Bool),([]:List AK),([]:List A3),([]:List A3),()),0,())
   =I (.inr ((0,[],[],[],[],[],()),(0,[kp0 0,kp0 1,kp0 2,kp0 3],[],[],[],[],()),())):=by
  have st:∀(n:Nat) (l:List A7),n<4->l.length<=4->cj ((0,[],[],[],[],[],()),(0,l,[],[],[],[],()),(n:Int),())=I (.inl ((0,[],[],[],[],[],()),(0,l++[kp0 n],[],[],[],[],()),((n+1:Nat):Int),())):=by
   intro n l hn hl;unfold cj;have hi:isN (n:Int)=Y:=Aa.2 ⟨J,J⟩;rw[A5<|AR<|show(n:Int)<4 by omega];rw[show VI (_,())=_ from ax2 hi];simp only[A6];rw[A5<|BD y8,AU J J];rfl
  exact At (st 0 [] aHd aHd)<|At (st 1 _ aHd aHd)<|At (st 2 _ aHd aHd)<|At (st 3 _ aHd aHd)<|BC<|by rfl
 have h1:qW ((0,([]:List A7),([]:List Bool),([]:List AK),([]:List A3),([]:List A3),()),(0,[kp0 0,kp0 1,kp0 2,kp0 3],[],[],[],[],()),0,())
   =I (.inr ((0,[],[],[],[],[],()),(0,[kp0 0,kp0 1,kp0 2,kp0 3],[Y,Y,Y],[],[],[],()),())):=by
  have st:∀(n:Nat) (l:List Bool),n<3->l.length<=4->VG ((0,[],[],[],[],[],()),(0,[kp0 0,kp0 1,kp0 2,kp0 3],l,[],[],[],()),(n:Int),())=I (.inl ((0,[],[],[],[],[],()),(0,[kp0 0,kp0 1,kp0 2,kp0 3],l++[Y],[],[],[],()),((n+1:Nat):Int),())):=by
   intro n l hn hl;unfold VG;have hw:w64 ((n:Int)+1)=((n+1:Nat):Int):=by rw[AU J J];rfl
   simp only[hw];rw[A5<|AR<|show((n+1:Nat):Int)<4 by omega,A5<|BD y8]
  refine At (st 0 [] aHd aHd) (At (st 1 _ aHd aHd)<|At (st 2 _ aHd aHd)<|BC ?_);unfold VG;have hw:w64 (((2+1:Nat):Int)+1)=4:=by rw[AU J J];rfl
  simp only[hw];rfl
 unfold dK;rw[h0];simp only[CU];rw[h1];rfl
def oI{N M:Nat}{r:List Int×Int×D}(h:CH N r){DN:Int}(hm0:1<=DN)(hm:DN<=(M:Int))(hN:N+3600 * M<=690000):
  Tot (Pq (r,DN,())) λa=>CH (N+12+3600 * M) a.2.1/\WOk [] (N+12+3600 * M) a.1.1.2:=by
 unfold Pq;rw[ax1];simp only[A6];refine Tot.bind (B4 h J) λr2 h2=>Tot.pos (Da h2.2.1<|h2.2.2<|show(1:Int)<=5 by decide) ?_;have hs:SOk [] (N+1) (r2.2.1,rv0.ti,rv0.A8,rv0.An,rv0.AM,rv0.AX,rv0.got,([]:List Event),()):=⟨h2.1,rv0,[],rfl,⟨[],.nil,λ_=>rfl⟩,Ch _⟩;refine Tot.bind (abT hs J) λr4 h4=>Tot.bind (B4 h4.r J) λr9 h9=> ?_;refine Tot.sum (P:=λ_=>False) (Q:=λy=>CH (N+12+3600 * M) y.1/\WOk [] (N+12+3600 * M) y.2.1.2) ?_ (λ_ h=>h.elim) (λy hy=>Tot.ret hy);have hn0:=h9.2.1;have hn:r9.1.1<(M:Int):=by
  have:r9.1.1<DN:=h9.2.2 hm0;omega
 refine Tot.loop (λi y=>CH (N+12+3600 * i) y.1/\WOk [] (N+12+3600 * i) y.2.1.2/\y.2.2.2.1=r9.1.1 - (i:Int)) _ r9.1.1.toNat (λi y hi hy=> ?_) ⟨h9.1.up J,h4.w.up J,by show r9.1.1=r9.1.1 - 0;omega⟩;obtain⟨hr,hw,hy⟩:=hy;unfold tv;refine Tot.ite (λhc=> ?_) (λhc=>Tot.ret ⟨hr.up J,hw.up J⟩);have hc:=BW hc;refine Tot.bind (aau (s:=(y.1,y.2.1.2)) ⟨hr,hw⟩ _ J) λr5 h5=>Tot.ret ⟨J,h5.r.up J,h5.w.up J, ?_⟩;show w64 (y.2.2.2.1 - 1)=r9.1.1 - ((i+1:Nat):Int);rw[AU J J];omega
end Go.VS
namespace Go.VS
open Go
def aaf{l:List Int}(hb:BOk l):Tot (Wt (l,())) λa=>CH 0 a.1.1:=by
 unfold Wt;refine Tot.ite (λhc=> ?_) (λhc=>Tot.ret ⟨?_,hb,Dw _,Dw _⟩)
 .have hc:(2000:Int)<(j8 l:Int):=BW hc;refine Tot.pos y8 (Tot.ret ⟨?_,λx hx=>hb x<|HI hx,Dw _,Dw _⟩);show(BV (AJ 2000) l).length<=2000;rw[DW];omega
 .have:¬(2000:Int)<(j8 l:Int):=JV hc;show l.length<=2000;omega
variable {E:List Event}
def HN.odd{k:A7}(h:HN k):RP k.AG:=λx hx=> .inl<|h x hx
end Go.VS
namespace Go.VS
open Go
abbrev tR(w:AA):YR:=(w.ti,w.A8,w.An,w.AM,w.AX,w.got,())
abbrev zR:AA:=⟨0,[],[],[],[],[]⟩
abbrev SmR(w:AA):Prop:=J8 w.A8 w.An w.AM w.AX w.got
def B8.sm{w:AA}(h:B8 w):SmR w:=by
 have h1:=h.kl;have h2:=h.ll;have h3:=h.rl;have h4:=h.sl;have h5:=h.gl;refine⟨J,λk hk=> ?_,J,J,λp hp=> ?_,J,λn hn=> ?_,J,λn hn=> ?_⟩
 .obtain⟨i,hi,rfl⟩:=Cz hk;have:=(h.k i J).1;rw[kA,BG,Av hi]at this;exact D0 this
 .have:=(N4<|h.p p hp).2.2.1;unfold lb;omega
 .have:=Aa.1<|L4<|h.s n hn;unfold G9;omega
 .have:=Aa.1<|L4<|h.g n hn;unfold G9;omega
def aeM{l:List A7}(hl:l.length<=1048576):cH (l,())=I ((l,()),()):=Lz hl
def afc{l:List Bool}(hl:l.length<=1048576):cw (l,())=I ((l,()),()):=Lz hl
def aeL{l:List AK}(hl:l.length<=1048576):cG (l,())=I ((l,()),()):=Lz hl
def Ry{w:AA}(sm:SmR w):Jn (tR w,())=I ((tR w,()),()):=by
 obtain⟨ti,ks,ls,ra,se,go⟩:=w;have kl:=sm.kl;unfold Jn;rw[show cH ((tR ⟨ti,ks,ls,ra,se,go⟩).2.1,())=_ from aeM sm.kl,show cw ((tR ⟨ti,ks,ls,ra,se,go⟩).2.2.1,())=_ from afc sm.l,show cG ((tR ⟨ti,ks,ls,ra,se,go⟩).2.2.2.1,())=_ from aeL sm.rl,
  show Ny ((tR ⟨ti,ks,ls,ra,se,go⟩).2.2.2.2.1,())=_ from cy sm.sl,show Ny (tR ⟨ti,ks,ls,ra,se,go⟩).2.2.2.2.2=_ from cy sm.gl]
 simp only[A6];have h:cF (tR zR,tR ⟨ti,ks,ls,ra,se,go⟩,(j8 ks:Int),0,())=I (.inr (tR zR,tR ⟨ti,ks,ls,ra,se,go⟩,())):=by
  refine CX (λi=>(tR zR,tR ⟨ti,ks,ls,ra,se,go⟩,(j8 ks:Int),(i:Int),())) ks.length ?_ ?_
  .intro i hi;unfold dM;have hc:=Ke<|MF sm.k i;simp only[IY hi,A2,AY hi,N2,hc,A6,Bc];rw[Dg hi kl,show(⟨(kA ks i).id,(kA ks i).up,(kA ks i).log,(kA ks i).fo,(kA ks i).AG⟩:A7)=kA ks i from rfl,L7]
  .unfold dM;simp only[Gy,A4]
 rw[show cF _=_ from h];rfl
def kH{w:AA}{fs:List Frame}(hr:w.AM.length<=1048000)(hf:fs.length<=40):OE (tR w,fs,())=I ((),(tR ⟨w.ti,w.A8,w.An,CC w.AM fs,w.AX,w.got⟩,())):=by
 obtain⟨ti,ks,ls,ra,se,go⟩:=w;unfold OE;have h0:CC ra (fs.take 0)=ra:=by
  unfold CC;simp
 have h:eh (tR ⟨ti,ks,ls,CC ra<|fs.take 0,se,go⟩,fs,(j8 fs:Int),((0:Nat):Int),())=I (.inr (tR ⟨ti,ks,ls,CC ra fs,se,go⟩,())):=by
  refine CX (λi=>(tR ⟨ti,ks,ls,CC ra<|fs.take i,se,go⟩,fs,(j8 fs:Int),(i:Int),())) fs.length ?_ ?_
  .intro i hi;unfold XN;simp only[IY hi,A2,AY hi,aFD];have hz:(CC ra<|fs.take i).length<=1048100:=by
    unfold CC;simp;have:min (30 - ra.length) (min i fs.length)<=40:=J
    simp only at hr;omega
   have hw:w64 ((i:Int)+1)=((i+1:Nat):Int):=Dg hi J;have hrm:∀p:AK,Ab ((CC ra<|fs.take i).length+[p].length)=Y:=λp=>BD y8;have ht:fs.take (i+1)=fs.take i++[frA fs i]:=by rw[JW,Av hi,aaw hi];rfl
   have hl:(fs.take i).length=i:=by rw[DW];omega
   have hlen:(CC ra<|fs.take i).length=ra.length+min (30 - ra.length) i:=by
    unfold CC;simp;omega
   by_cases h30:(CC ra<|fs.take i).length<30
   .rw[A5<|AR<|show((CC ra<|fs.take i).length:Int)<30 by omega];rw[show Pj ((_,_,_,_,_,_,_,_,_,_,()),())=_ from xf<|frA fs i];simp only[A6,hrm,A2];have e:CC ra (fs.take<|i+1)=CC ra (fs.take i)++[pcF (frA fs i)]:=by
     rw[hlen]at h30;have a1:BV (30 - ra.length) (fs.take i++[frA fs i])=fs.take i++[frA fs i]:=J2 (by rw[Am,hl];simp;omega);have a2:BV (30 - ra.length) (fs.take i)=fs.take i:=J2 (by rw[hl];omega);unfold CC;rw[ht,a1,a2,Eg,← C7];rfl
    rw[e,hw];rfl
   .rw[A9<|nd<|show ¬((CC ra<|fs.take i).length:Int)<30 by omega];have e:CC ra (fs.take<|i+1)=CC ra (fs.take i):=by
     rw[hlen]at h30;unfold CC;rw[ht,List.take_append_of_le_length (by rw[hl];omega)]
    rw[e,hw]
  .unfold XN;simp only[Gy,A4,EG]
 rw[h0]at h;have h':eh (tR ⟨ti,ks,ls,ra,se,go⟩,fs,(j8 fs:Int),0,())=I (.inr (tR ⟨ti,ks,ls,CC ra fs,se,go⟩,())):=h;simp only[h'];rfl
def ai8{l:List AK}{i:Int}(h0:0<=i)(h1:i<l.length)(hl:l.length<=1048576):Vg (l,i,())=I ((I8 l i.toNat,()),()):=by
 unfold Vg;have hw:w64 (i+1)=i+1:=AU J J;have hn:(i+1).toNat=i.toNat+1:=J
 simp only[hw,hn];rw[A5 y8,A5<|BD y8,A5 y8,A5<|BD y8];rfl
def aq3{w:AA}(h:B8 w)(e:Event):((e.ki=9\/e.ki=10)->gZ (tR w,tE e,())=I (((Fc w e).2,()),(tR (Fc w e).1,()))):=by
 intro _;have ll:=h.ll;unfold gZ Fc;simp only[EK,A6,Q9 (J:w.An.length<=1048576),Yj];obtain e0|e0:=tf (inB e.at_ 0<|(w.An.length:Int) - 1)
 .have ha:=Aa.1 e0;have hb:inb e.at_ w.An.length=Y:=Da ha.1 J;rw[e0,hb];simp only[AB,AH,Hz,A2,Bn,AS];obtain c|c:=tfp (bA w.An e.at_.toNat=U (e.ki=9))<;>simp only[c,AW,Ad,AB,AH,A2,A4]
 .rw[e0];simp only[AB,AH,HR,A2,Bw,AO,A4]
def axu(l:List AK)(i:Int){inst:Decidable ((@rd AK aHe l i).dst<(@rd AK aHe l i).src)}:(@ite Int ((@rd AK aHe l i).dst<(@rd AK aHe l i).src) inst (@rd AK aHe l i).dst (@rd AK aHe l i).src)=lnk (pA l i.toNat):=by
 show _=lnk (@rd AK aHe l i);unfold lnk;split<;>split<;>omega
def ak7{w:AA}(h:B8 w)(e:Event):((e.ki=4\/e.ki=5\/e.ki=6)->SA (tR w,tE e,())=I (((Dx w e).2,()),(tR (Dx w e).1,()))):=by
 intro hk;have rl:=h.rl;unfold SA Dx;simp only[↓axu,EK,A6,Q9 (J:w.AM.length<=1048576),aCc];obtain e0|e0:=tf (inB e.wo 0<|(w.AM.length:Int) - 1)
 .have ha:=Aa.1 e0;have hb:inb e.wo w.AM.length=Y:=Da ha.1 J;have hwl:e.wo.toNat<w.AM.length:=J
  have hp:=OY h (i:=e.wo.toNat) hwl;obtain⟨p1,p2,p3,p4,p5⟩:=N4 hp;have F3:=ai8 (l:=w.AM) ha.1 J J;rw[e0,hb];simp only[AB,A4,A2];obtain c5|c5:=tfp (e.ki=5)
  .have c6:¬e.ki=6:=by have:e.ki=5:=of_eq_true c5;omega
   simp only[c5,AW,A2,F3,A6,c6,if_false]
  .rcases tfp (e.ki=6) with c6|c6
   .simp only[c5,c6,AW,Ad,A2,A4,Q9<|show(pA w.AM e.wo.toNat).data.size<=1048576 by omega];obtain e2|e2:=tf (inB e.mix 0<|((pA w.AM e.wo.toNat).data.size:Int) - 1)<;>simp only[e2,AB,AH,A4,A2,AS,AO,BX];obtain e1|e1:=tf (pA w.AM e.wo.toNat).sp<;>simp only[e1,AB,AH,A4,A2,AS,AO];obtain e3|e3:=tf (inB e.kp 1 255)<;>simp only[e3,AB,AH,A4,A2];have hm:=Aa.1 e2;have hmb:inb e.mix (B9 (pA w.AM e.wo.toNat).data).length=Y:=Da hm.1 (by rw[oS];omega);simp only[G2,aGm,aap hwl,hb,A2];rw[A5<|BD J,A5 hmb,A5 hmb];rfl
   .have c4:e.ki=4:=by
     have:¬e.ki=5:=by simpa using c5
     have:¬e.ki=6:=by simpa using c6
     omega
    have hl:inb (lnk<|pA w.AM e.wo.toNat) w.An.length=Y:=by
     have:=h.ll;exact Da p4 (by rw[this];exact p5)
    have hin:inb (pA w.AM e.wo.toNat).dst w.A8.length=Y:=Da p2.1 (by rw[h.kl];omega);have c4':(e.ki=4)=True:=eq_true c4;simp only[c5,c6,c4',AW,Ad,A2,A4,hl,Yj,if_false];obtain e1|e1:=tf (bA w.An (lnk<|pA w.AM e.wo.toNat).toNat)<;>simp only[e1,AB,AH,A4,A2];have hlo:=(TX h e.wo.toNat).1;obtain e5|e5:=tfp (e.kp=0)
    .simp only[e5,AW,A2,F3,A6,Bk];simp only[BD<|show(pA w.AM e.wo.toNat).data.size<=4294967296 by omega,A2,vH<|BOk.str _,A6];unfold Ft;generalize Cb (B9 (pA w.AM e.wo.toNat).data)=u;obtain e2|e2:=tf u.2<;>simp only[e2,A4,A2,AS,AO,Bk];obtain e3|e3:=tf (U (u.1.src=(pA w.AM e.wo.toNat).src)&&U (u.1.dst=(pA w.AM e.wo.toNat).dst))<;>simp only[e3,A4,A2,hin,Sr];rw[show S3 ((_,_,_,_,_,()),_,())=_ from wS (UL h (i:=(pA w.AM e.wo.toNat).dst.toNat) J) u.1];simp only[A6];have hs:=kH (w:=⟨w.ti,w.A8.set (pA w.AM e.wo.toNat).dst.toNat (C4 (kA w.A8 (pA w.AM e.wo.toNat).dst.toNat) u.1).1,w.An,I8 w.AM e.wo.toNat,w.AX,w.got⟩) (fs:=(C4 (kA w.A8 (pA w.AM e.wo.toNat).dst.toNat) u.1).2) (by show(I8 w.AM e.wo.toNat).length<=1048000;omega) (by have:=(YV (kA w.A8 (pA w.AM e.wo.toNat).dst.toNat) u.1).1;omega);rw[show OE _=_ from hs];rfl
    .simp only[e5,Ad,A4,Bk,if_false];simp only[BD<|show(pA w.AM e.wo.toNat).data.size<=4294967296 by omega,A2,vH<|BOk.str _,A6];unfold Ft;generalize Cb (B9 (pA w.AM e.wo.toNat).data)=u;obtain e2|e2:=tf u.2<;>simp only[e2,A4,A2,AS,AO,Bk];obtain e3|e3:=tf (U (u.1.src=(pA w.AM e.wo.toNat).src)&&U (u.1.dst=(pA w.AM e.wo.toNat).dst))<;>simp only[e3,A4,A2,hin,Sr];rw[show S3 ((_,_,_,_,_,()),_,())=_ from wS (UL h (i:=(pA w.AM e.wo.toNat).dst.toNat) J) u.1];simp only[A6];have hs:=kH (w:=⟨w.ti,w.A8.set (pA w.AM e.wo.toNat).dst.toNat (C4 (kA w.A8 (pA w.AM e.wo.toNat).dst.toNat) u.1).1,w.An,w.AM,w.AX,w.got⟩) (fs:=(C4 (kA w.A8 (pA w.AM e.wo.toNat).dst.toNat) u.1).2) (by show(w.AM).length<=1048000;omega) (by have:=(YV (kA w.A8 (pA w.AM e.wo.toNat).dst.toNat) u.1).1;omega);rw[show OE _=_ from hs];rfl
 .rw[e0];simp only[AH,A2,A4]
def aq2{w:AA}(h:B8 w){e:Event}(hk:¬(e.ki=4\/e.ki=5\/e.ki=6))(hk':¬(e.ki=9\/e.ki=10))(ht:e.tx.size<=1048576):
  SW (tR w,tE e,())=I (((doM w e).2,()),(tR (doM w e).1,())):=by
 obtain⟨ki,at_,fr,nu,wo,mix,kp,t',un,tx⟩:=e;simp only at hk hk' ht;have hn:∀(l:List A3) (x:A3),l.length<=6->Ab (l.length+[x].length)=Y:=λl x hl=>BD y8;have rl:=h.rl;unfold SW doM;rw[A9 hk,A9 hk'];simp only[Kk,A6];obtain e0|e0:=tf (isN at_)
 .have ha:=Em e0;have hal:=Qd e0;have hb:inb at_ w.A8.length=Y:=Da ha.1 (by rw[h.kl];omega);have hko:=(h.k _ hal).1;have hks:=UL h hal;simp only[e0,AB,A4,hb,A2,Sr];unfold Ig;obtain e1|e1:=tfp (ki=1)
  .simp only[e1,AW,A2];unfold MY;by_cases hs:6<=w.AX.length
   .rw[A5<|AR (J:6<=(w.AX.length:Int)),A5 hs];rfl
   .rw[A9<|nd (J:¬6<=(w.AX.length:Int)),A9 hs];rw[show Vk ((_,_,_,_,_,()),_,_,_,())=_ from aiG hko t' un ht];simp only[A6];obtain e2|e2:=tfp ((Dq (kA w.A8 at_.toNat) t' un tx).2=0)<;>simp only[e2,AW,Ad,A4,A2,if_false]
    .rfl
    .rw[A5<|hn _ _ h.sl,Bk];simp only[hb,A2]
  .simp only[e1,Ad,A4,if_false];obtain e2|e2:=tfp (ki=2)
   .simp only[e2,AW,A2];rw[show VY ((_,_,_,_,_,()),())=_ from agh hko];simp only[A6,Bk,hb,A2];rfl
   .simp only[e2,Ad,A4,if_false];obtain e3|e3:=tfp (ki=3)
    .simp only[e3,AW,A2];rw[show Vl ((_,_,_,_,_,()),_,_,_,())=_ from aiH hks fr nu mix];simp only[A6];rw[A5 hko];obtain e4|e4:=tf (EC (kA w.A8 at_.toNat) fr nu mix).2<;>simp only[e4,A2,A4]
     .have hs:=kH (w:=w) (fs:=[(EC (kA w.A8 at_.toNat) fr nu mix).1]) J aG9;rw[show OE (_,_,())=_ from hs];simp only[A6,Bk,hb,A2];rw[show(⟨(kA w.A8 at_.toNat).id,(kA w.A8 at_.toNat).up,(kA w.A8 at_.toNat).log,(kA w.A8 at_.toNat).fo,(kA w.A8 at_.toNat).AG⟩:A7)=kA w.A8 at_.toNat from rfl,L7]
     .simp only[Bk,hb,A2];rw[show(⟨(kA w.A8 at_.toNat).id,(kA w.A8 at_.toNat).up,(kA w.A8 at_.toNat).log,(kA w.A8 at_.toNat).fo,(kA w.A8 at_.toNat).AG⟩:A7)=kA w.A8 at_.toNat from rfl,L7]
    .simp only[e3,Ad,A4,if_false];obtain e4|e4:=tfp (ki=7)
     .simp only[e4,AW,A2];rw[show VO ((_,_,_,_,_,()),_,())=_ from agk hks kp];rw[A5 hko];simp only[A6,Bk,hb,A2];rfl
     .simp only[e4,Ad,A4,if_false];obtain e5|e5:=tfp (ki=8)
      .simp only[e5,AW,A2];rw[show VM ((_,_,_,_,_,()),())=_ from agi hko];simp only[A6,Bk,hb,A2];rfl
      .simp only[e5,Ad,A4,if_false];obtain e6|e6:=tfp (ki=11)
       .simp only[e6,AW,A2];unfold Mb;by_cases hs:w.got.length<6
        .rw[A9<|nd (J:¬6<=(j8 w.got:Int))];rw[show Vm ((_,_,_,_,_,()),_,_,())=_ from aiI hko fr nu];simp only[A6];obtain e7|e7:=tf (Db (kA w.A8 at_.toNat) fr nu).2.2<;>simp only[e7,AB,AH,A2,A4,AS,AO]
         .rw[A5<|AR hs,A5<|hn _ _ h.gl,Bk];simp only[hb,A2]
         .rfl
        .rw[A5<|AR (J:6<=(j8 w.got:Int)),BH hs,BX,A4];rfl
       .simp only[e6,Ad,A4,if_false];obtain e7|e7:=tfp (ki=12)
        .simp only[e7,AW,A2];rw[show VN ((_,_,_,_,_,()),())=_ from agj hko];simp only[A6,Bk,hb,A2];rfl
        .simp only[e7,Ad,A4,if_false];obtain e8|e8:=tfp (ki=13)
         .simp only[e8,AW,A2];rw[show V9 ((_,_,_,_,_,()),())=_ from afj hko];simp only[A6,Bk,hb,A2];rfl
         .simp only[e8,Ad,A4,if_false,Bk,hb,A2];rw[show(⟨(kA w.A8 at_.toNat).id,(kA w.A8 at_.toNat).up,(kA w.A8 at_.toNat).log,(kA w.A8 at_.toNat).fo,(kA w.A8 at_.toNat).AG⟩:A7)=kA w.A8 at_.toNat from rfl,L7]
 .simp only[e0,AH,A4,A2]
noncomputable abbrev As(w:AA):Bool:=FW w.ti w.A8 w.An w.AM w.AX w.got
def aFo{l:List A3}(h:HF l=Y):∀n∈l,Aw n=Y:=by
 intro n hn;obtain⟨i,hi,rfl⟩:=Cz hn;have:=Cq.1 h i hi;rw[nA,BG,Av hi]at this;exact this
def FY{w:AA}(h:As w=Y):B8 w/\0<=w.ti/\w.ti<=99999:=by
 unfold As FW at h;simp only[AE,Aa,decide_eq_true_eq,Cq]at h;obtain⟨ht,hk,hl,hr,⟨hs,hs6⟩,⟨hg,hg6⟩,hks,hps⟩:=h;refine⟨⟨J,J,J,J,J,λi hi=> ?_,λp hp=> ?_,aFo hs,aFo hg⟩,ht.1,ht.2⟩
 .have:=hks i J;unfold JS at this;simp only[AE,decide_eq_true_eq]at this;exact⟨this.2,this.1⟩
 .obtain⟨i,hi,rfl⟩:=Cz hp;have:=hps i hi;rw[oW hi]at this;exact this
def aGs{w:AA}(h:B8 w)(h0:0<=w.ti)(h1:w.ti<=99999):As w=Y:=by
 have k1:=h.kl;have k2:=h.ll;have k3:=h.rl;have k4:=h.sl;have k5:=h.gl;unfold As FW;simp only[AE,Aa,decide_eq_true_eq,Cq];refine⟨⟨h0,h1⟩,J,J,J,⟨?_,J⟩,⟨?_,J⟩,λi hi=> ?_,λi hi=> ?_⟩
 .unfold HF;exact Cq.2 λi hi=>h.s _ (by rw[nA,BG,Av hi];exact Ci hi)
 .unfold HF;exact Cq.2 λi hi=>h.g _ (by rw[nA,BG,Av hi];exact Ci hi)
 .unfold JS;have:=h.k i J;rw[this.1,this.2];simp
 .exact OY h hi
def HD(w:AA)(e:Event):AA×Bool:=
 if As w then(if U (99999<=w.ti) then(w,A0) else if(doM w e).2 then(Cw w e,Y) else(w,A0)) else(zR,A0)
def anJ{w:AA}(h:B8 w)(ht0:0<=w.ti)(ht1:w.ti<=99999){e:Event}(ht:e.tx.size<=1048576):
  Jm (tR w,tE e,())=I ((tR (if U (99999<=w.ti) then(w,A0) else if(doM w e).2 then(Cw w e,Y) else(w,A0)).1,(if U (99999<=w.ti) then(w,A0) else if(doM w e).2 then(Cw w e,Y) else(w,A0)).2,()),()):=by
 have hti:=oQ w e;have aml:∀b:Bool,b=U (e.ki=9\/e.ki=10)->(BU (X:=YR×YR×YR×Bool×D) (λj16=>
   (if((!j16.2.2.2.1)||(U<|j16.1.1=99999)) then
   (Jn (j16.1,())).bind λr29=>
   I ((r29.1.1,A0,()),())
   else
   (Jn (((w64<|j16.2.2.1.1+1),j16.2.2.1.2),())).bind λr30=>
   I ((r30.1.1,Y,()),()))) (I<|.inr (tR w,tR zR,tR (doM w e).1,(doM w e).2,())):Option ((YR×Bool×D)×D))=I ((tR (if U (99999<=w.ti) then(w,A0) else if(doM w e).2 then(Cw w e,Y) else(w,A0)).1,(if U (99999<=w.ti) then(w,A0) else if(doM w e).2 then(Cw w e,Y) else(w,A0)).2,()),()):=by
  intro b hb;rw[Bk];have amy:U (w.ti=99999)=U (99999<=w.ti):=decide_eq_decide.2 J;simp only[amy];obtain c|c:=tf (U<|99999<=w.ti)
  .simp only[c,DU,A2,Ry h.sm,A6]
  .rcases tf (doM w e).2 with c2|c2
   .simp only[c,c2,AB,EX,A4,A2];have hs:=Ry (nb h e).sm;have e1:tR (Cw w e)=(w64<|(doM w e).1.ti+1,(doM w e).1.A8,(doM w e).1.An,(doM w e).1.AM,(doM w e).1.AX,(doM w e).1.got,()):=by
     unfold Cw tick;rw[c2,A5 rfl]
    rw[e1]at hs ⊢;rw[show Jn ((w64<|(doM w e).1.ti+1,(doM w e).1.A8,(doM w e).1.An,(doM w e).1.AM,(doM w e).1.AX,(doM w e).1.got,()),())=_ from hs];rfl
   .simp only[c,c2,AH,Bw,A4,A2,Ry h.sm,A6]
 unfold Jm;rw[Ry h.sm];simp only[A6];have IM:=aml _ rfl;by_cases h9:e.ki=9\/e.ki=10
 .have hdo:doM w e=Fc w e:=by
   unfold doM;rw[A9 J,A5 h9]
  have hL:=aq3 h e h9;rw[← hdo]at hL;rw[← IM];congr 1;obtain c|c:=tfp (e.ki=9)
  .simp only[c,AW,A2,Bk,hL,A6]
  .have c10:(e.ki=10)=True:=eq_true (by have:¬e.ki=9:=(by simpa using c);omega);simp only[c,c10,AW,Ad,A4,Bk,A2,hL,A6]
 .have n9:(e.ki=9)=False:=by simp;omega
  have n10:(e.ki=10)=False:=by simp;omega
  simp only[n9,n10,Ad,A4,Bk];rw[← IM];congr 1;by_cases h4:e.ki=4\/e.ki=5\/e.ki=6
  .have hdo:doM w e=Dx w e:=by
    unfold doM;rw[A5 h4]
   have hP:=ak7 h e h4;rw[← hdo]at hP;obtain c|c:=tfp (e.ki=4)
   .simp only[c,AW,A2,hP,A6]
   .rcases tfp (e.ki=5) with c1|c1
    .simp only[c,c1,AW,Ad,A4,A2,hP,A6]
    .have c6:(e.ki=6)=True:=eq_true (by have h4:¬e.ki=4:=(by simpa using c);have h5:¬e.ki=5:=(by simpa using c1);omega);simp only[c,c1,c6,AW,Ad,A4,A2,hP,A6]
  .have n4:(e.ki=4)=False:=by simp;omega
   have n5:(e.ki=5)=False:=by simp;omega
   have n6:(e.ki=6)=False:=by simp;omega
   have hN:=aq2 h h4 h9 ht;simp only[n4,n5,n6,Ad,A4,hN,A6]
def WV{w:AA}(sm:SmR w):Kn (tR w,())=I ((tR w,()),()):=by
 obtain⟨ti,ks,ls,ra,se,go⟩:=w;have k1:=sm.kl;have k2:=sm.l;have k3:=sm.rl;have k4:=sm.sl;have k5:=sm.gl;unfold Kn;simp only at k1 k2 k3 k4 k5;simp only[EV,CL,DM];rw[A5<|BD J,A5<|BD J,A5<|BD J,A5<|BD J];have h:cY (tR ⟨ti,ks,ls,ra,se,go⟩,tR zR,tR ⟨ti,ks.take 0,ls,ra,se,go⟩,((0:Nat):Int),())=I (.inr (tR zR,tR ⟨ti,ks,ls,ra,se,go⟩,())):=by
  refine CX (λi=>(tR ⟨ti,ks,ls,ra,se,go⟩,tR zR,tR ⟨ti,ks.take i,ls,ra,se,go⟩,(i:Int),())) ks.length ?_ ?_
  .intro i hi;unfold eW;have hc:=Lj<|MF sm.k i;simp only[IY hi,A2,AY hi,N2,hc,A6];rw[A5<|BD y8,Dg hi k1];have:ks.take i++[kA ks i]=ks.take (i+1):=by rw[JW,Av hi,kA,BG,Av hi];rfl
   rw[← this]
  .unfold eW;simp only[Gy,A4,EG]
 have h':cY (tR ⟨ti,ks,ls,ra,se,go⟩,tR zR,tR ⟨ti,[],ls,ra,se,go⟩,0,())=I (.inr (tR zR,tR ⟨ti,ks,ls,ra,se,go⟩,())):=h;simp only[h'];rfl
def WY(t:YR):Prop:=∃w:AA,t=tR w/\SmR w/\ ∀k∈w.A8,RP k.AG
def WG(t:YR):Prop:=∃w:AA,t=tR w/\B8 w/\ ∀k∈w.A8,RP k.AG
def WG.y{t:YR}(h:WG t):WY t:=by
 obtain⟨w,e,h1,h2⟩:=h;exact⟨w,e,h1.sm,h2⟩
def WOk.g{E:List Event}{N:Nat}{t:_}(h:WOk E N t):WG (t.1,t.2.1,t.2.2.1,t.2.2.2.1,t.2.2.2.2.1,t.2.2.2.2.2.1,()):=by
 have hb:=h;obtain⟨w,ev,rfl,hw,_⟩:=h;refine⟨w,rfl,hw.ok,λk hk=> ?_⟩;obtain⟨i,hi,rfl⟩:=Cz hk;have hl:=hw.ok.kl;have:=hb.big (i:=(i:Int)) J J;rw[Bc]at this;have e:kA w.A8 i=w.A8[i]:=by rw[kA,BG,Av hi];rfl
 rw[← e];exact HN.odd this
def XM{l:List A3}(hl:l.length<=1048576):Hw (l,l,())=I ((Y,()),()):=by
 have h0:rR (l,l,0,())=I (.inr ()):=
  CX (b:=Vt) (λk=>(l,l,(k:Int),())) l.length (λk hk=>by
   unfold Vt;simp only[AY hk,BK hk,A2,abk,AW,EY,AB,A4,BA hk (by omega:l.length<=9223372036854775807)]) (by
   unfold Vt;rw[A9 aG9])
 unfold Hw;simp only[AW,AB,A4,h0,CU]
def Sc(w:AA)(e:Event):(As w=A0/\HD w e=(zR,A0))\/(As w=Y/\HD w e=(w,A0))\/(As w=Y/\w.ti<99999/\(doM w e).2=Y/\HD w e=(Cw w e,Y)):=by
 unfold HD;obtain c|c:=tf (As w)
 .rw[c,A5 rfl];by_cases h:99999<=w.ti
  .rw[A5<|AR h];exact .inr (.inl ⟨rfl,rfl⟩)
  .rw[A9<|nd h];obtain d|d:=tf (doM w e).2
   .rw[A5 d];exact .inr (.inr ⟨rfl,J,d,rfl⟩)
   .rw[A9 (by rw[d];exact CF)];exact .inr (.inl ⟨rfl,rfl⟩)
 .rw[c,A4];exact .inl ⟨rfl,rfl⟩
def aai{w:AA}{e:Event}(h:(doM w e).2=Y):Cw w e=⟨w64<|w.ti+1,(doM w e).1.A8,(doM w e).1.An,(doM w e).1.AM,(doM w e).1.AX,(doM w e).1.got⟩:=by
 unfold Cw tick;rw[h,A5 rfl,oQ]
def ZL{w:AA}{e:Event}(h:(doM w e).2=Y):(Cw w e).ti=w64 (w.ti+1):=by rw[aai h]
def aFf{w:AA}{e:Event}(h:As w=Y)(ht:w.ti<99999)(hd:(doM w e).2=Y):As (Cw w e)=Y:=by
 obtain⟨h1,h2,h3⟩:=FY h;have e1:w64 (w.ti+1)=w.ti+1:=AU J J;exact aGs (nb h1 e) (by rw[ZL hd,e1];omega) (by rw[ZL hd,e1];omega)
def Tot.val{α:Type}{o:Option α}{a:α}(h:Tot o (λx=>x=a)):o=I a:=by
 obtain⟨b,h1,h2⟩:=h;rw[h1,h2]
def lJ(k:A7)(f:Frame):(C4 k f).2=[]\/(By f=Y/\f.ki=1/\Ae k=Y/\ ∃n,(n=2\/n=3)/\(C4 k f).2=[Cs n f]):=by
 unfold C4;split
 .rename_i hok;unfold HA;split
  .rename_i hc;simp only[AE]at hc;split
   .rename_i h1;have h1:=BW h1;unfold Dz;split
    .exact .inr ⟨hc.2.1,h1,hok,3,.inr rfl,rfl⟩
    .split
     .exact .inr ⟨hc.2.1,h1,hok,2,.inl rfl,rfl⟩
     .split
      .exact .inl rfl
      .unfold Iv;split
       .split
        .unfold JL;split
         .exact .inr ⟨hc.2.1,h1,hok,2,.inl rfl,rfl⟩
         .exact .inl rfl
        .exact .inl rfl
       .exact .inl rfl
   .split<;>exact .inl rfl
  .exact .inl rfl
 .exact .inl rfl
def oU{f:Frame}(h:By f=Y)(h1:f.ki=1){n:Int}(hn:n=2\/n=3):By (Cs n f)=Y:=by
 obtain⟨a,b,c,d,e,g,t⟩:=OW h;have h3:=(Sq h h1).2.2;unfold By K0 Cs;simp only[a,b,c,d,e,g,AS];rw[A9 (by
  obtain rfl|rfl:=hn
  .show ¬(U ((2:Int)=1)=Y);decide
  .show ¬(U ((3:Int)=1)=Y);decide)]
 rw[← h3];obtain rfl|rfl:=hn<;>simp
def aDr:Cn [101,97,116]:=by unfold Cn;decide
def atE{k:AL}{m:Mark}{r:A1}(ht:Gz r=I m):Bh k CO r=if EE k.inbox m then I ⟨k.id,k.ti,k.nx,k.held,k.marks,ER k.inbox (AZ k.inbox m.mf m.mn).toNat⟩ else G:=by
 unfold Bh F6;cases h:EE k.inbox m<;>simp[im,ir,jl,iq,iv,iZ,jm,iu,ht,h]
def aGS{l:List A3}(h:DR l=Y){i:Nat}(hi:i<l.length):nA l i ∉ ER l i:=by
 have irr:∀a b:Int,bef a b a b=A0:=λa b=>by unfold bef;simp
 have at_:∀j (hj:j<l.length),l[j]=nA l j:=λj hj=>by rw[nA,BG,Av hj];rfl
 have dif:∀j,j<l.length->j≠i->nA l j≠nA l i:=λj hj hne e=>by
  obtain h1|h1:=U5 hne
  .have:=Sa h i j h1 hi;rw[e,irr]at this;cases this
  .have:=Sa h j i h1 hj;rw[e,irr]at this;cases this
 intro hm;unfold ER at hm;obtain hm|hm:=BN.1 hm
 .obtain⟨j,hj,e⟩:=Cz hm;rw[DW]at hj;rw[List.getElem_take,at_ j J]at e;exact dif j J J e
 .obtain⟨j,hj,e⟩:=Cz hm;rw[E4]at hj;rw[List.getElem_drop,at_ (i+1+j) J]at e;exact dif _ J J e
structure LtF (d t:AL):Prop where
 id:t.id=d.id
 ti:t.ti=d.ti
 nx:t.nx=d.nx
 box:t.inbox=d.inbox
 held:∀n∈t.held,n∈d.held
 mrk:∀m∈d.marks,m∈t.marks
def LtF.rfl(d:AL):LtF d d:=⟨Hn _,Hn _,Hn _,Hn _,λ_ h=>h,λ_ h=>h⟩
def LtF.trans{a b c:AL}(h:LtF a b)(g:LtF b c):LtF a c:=⟨g.id.trans h.id,g.ti.trans h.ti,g.nx.trans h.nx,g.box.trans h.box,λn hn=>h.held n<|g.held n hn,λm hm=>g.mrk m<|h.mrk m hm⟩
def aW(r:A1):Prop:=∃a b c:Int,(0<=a/\a<=999)/\(0<=b/\b<=999)/\(0<=c/\c<=999)/\r=Cc C3 a b c
def o4{k o:AL}{a b c:Int}(hk:Au k=Y)(ha:0<=a/\a<=999)(hb:0<=b/\b<=999)(hc:0<=c/\c<=999)(h:BO k (Cc C3 a b c)=I o):
  EE k.held ⟨a,b,c⟩=Y/\o=⟨k.id,k.ti,k.nx,ER k.held (AZ k.held a b).toNat,ED k.marks ⟨a,b,c⟩,k.inbox⟩:=by
 rw[aE5 hk ha hb hc]at h;have h:=(Ja.1 h).1;split at h
 .rename_i h1;exact⟨h1,(E5 h).symm⟩
 .cases h
def axv{k o:AL}{r:A1}(hk:Au k=Y)(hr:aW r)(h:BO k r=I o):LtF k o:=by
 obtain⟨a,b,c,ha,hb,hc,rfl⟩:=hr;obtain⟨_,rfl⟩:=o4 hk ha hb hc h;exact⟨rfl,rfl,rfl,rfl,λn hn=>OP hn,λm hm=>L5 _<|.inr hm⟩
def asg{k o:AL}{r:A1}(hk:Au k=Y)(h:BO k r=I o):Au o=Y:=((IZ hk).1 h).2
def ZZ:∀ {ts:List A1} {d t:AL},Au d=Y->(∀r∈ts,aW r)->El d ts=I t->LtF d t
 | [],d,t,_,_,h=>by
  cases h;exact LtF.rfl _
 | r::ts,d,t,hk,hl,h=>by
  have h:(BO d r).bind (λk=>El k ts)=I t:=h;obtain⟨m,h1,h2⟩:=Ag.1 h;exact(axv hk (hl r<|.head _) h1).trans<|ZZ (asg hk h1) (λx hx=>hl x<|.tail _ hx) h2
def LO(k:A7):Prop:=∃rs ts,CB k.log k.fo rs ts/\ ∀r∈ts,aW r
def aH{k:A7}{rs ts:List A1}(l:CB k.log k.fo rs ts):stD k=(Cd k.id rs).getD zK:=by unfold stD;rw[l.abr]
def LO.two{k:A7}(h:Ae k=Y){rs ts:List A1}(l:CB k.log k.fo rs ts):Cd k.id rs=I (stD k)/\Au (stD k)=Y/\El (stD k) ts=I (stT k):=by
 have hs:=(E7 h).st;rw[l.state,XT]at hs;obtain⟨d,h1,h2⟩:=Ag.1 hs;have e:stD k=d:=by rw[aH l,h1];rfl
 rw[e];exact⟨h1,T5 h1,h2⟩
def LO.lf{k:A7}(h:Ae k=Y)(hl:LO k):LtF (stD k) (stT k):=by
 obtain⟨rs,ts,l,g⟩:=hl;obtain⟨_,h2,h3⟩:=LO.two h l;exact ZZ h2 g h3
def aw1{ts:List A1}(h:(cat ts).length=0):ts=[]:=by
 cases ts with
 | nil=>rfl
 | cons r ts=>
  rw[I1,Am,Ax]at h;have:=Xr r;omega
def awV{k:A7}(h:Ae k=Y)(hf:k.fo=(k.log.size:Int)):∃rs,CB k.log k.fo rs []:=by
 obtain⟨rs,ts,l,_⟩:=(CQ h).lg;have h1:=l.fo;have h2:=l.size_eq;have:ts=[]:=aw1 J;subst this;exact⟨rs,l⟩
def Tb{k:A7}(h:Ae k=Y)(hf:k.fo=(k.log.size:Int)):LO k/\stD k=stT k:=by
 obtain⟨rs,l⟩:=awV h hf;refine⟨⟨rs,[],l,λr hr=>by cases hr⟩, ?_⟩;have:=(LO.two h l).2.2;exact E5 this
def aaa{k:A7}(h:Ae k=Y)(hl:LO k){r:A1}(hr:aW r)(h2:(wrR k r A0).2=Y):
  LO (wrR k r A0).1/\Ae (wrR k r A0).1=Y/\BO (stT k) r=I (stT (wrR k r A0).1)/\(stD (wrR k r A0).1=stD k\/stD (wrR k r A0).1=stT k):=by
 have hk:=CQ h;obtain⟨o,ho⟩:=aF0 hk h2;have hi:=Tl hk ho;have e:(wrR k r A0).1=wrM k r:=by unfold wrR;rw[ho];rfl
 rw[e,hi.stT];refine⟨?_,hi.ok,ho, ?_⟩
 all_goals
  obtain⟨rs,ts,l,g⟩:=hl;have hz:=mC hk.kok ho
 .by_cases hc:k.log.size+(CY r).size<=2400
  .refine⟨rs,ts++[r], ?_,λx hx=> ?_⟩
   .show CB (D2 (stT k) k.log k.fo r).1 (D2 (stT k) k.log k.fo r).2 _ _;unfold D2;rw[A5 hc];exact l.add hz.1 hz.2 hc
   .rcases BN.1 hx with hx|hx
    .exact g x hx
    .rw[C1.1 hx];exact hr
  .refine⟨CG<|stT k,[]++[r], ?_,λx hx=> ?_⟩
   .show CB (D2 (stT k) k.log k.fo r).1 (D2 (stT k) k.log k.fo r).2 _ _;unfold D2;rw[A9 hc];refine(QS hk.kok).add hz.1 hz.2 ?_;have h1:=QI hk.kok;have h2:=Mz hz.2;omega
   .rw[EV]at hx;rw[C1.1 hx];exact hr
 .by_cases hc:k.log.size+(CY r).size<=2400
  .left;have l2:CB (wrM k r).log (wrM k r).fo rs (ts++[r]):=by
    show CB (D2 (stT k) k.log k.fo r).1 (D2 (stT k) k.log k.fo r).2 _ _;unfold D2;rw[A5 hc];exact l.add hz.1 hz.2 hc
   rw[aH l2,aH l];rfl
  .right;have l2:CB (wrM k r).log (wrM k r).fo (CG<|stT k) ([]++[r]):=by
    show CB (D2 (stT k) k.log k.fo r).1 (D2 (stT k) k.log k.fo r).2 _ _;unfold D2;rw[A9 hc];refine(QS hk.kok).add hz.1 hz.2 ?_;have h1:=QI hk.kok;have h2:=Mz hz.2;omega
   have l3:CB (pkM k).log (pkM k).fo (CG<|stT k) []:=QS hk.kok;have p:=oJ hk;have:=(LO.two p.ok l3);rw[aH l2];have e1:Cd k.id (CG<|stT k)=I (stT k):=by
    have t:=this.2.2;have t1:stD (pkM k)=stT (pkM k):=E5 t;have t0:=this.1;rw[t1,p.stT]at t0;exact t0
   show(Cd k.id<|CG<|stT k).getD zK=_;rw[e1];rfl
def avs{k:A7}(h:Ae k=Y){r:A1}(h2:(wrR k r Y).2=Y):
  Ae (wrR k r Y).1=Y/\LO (wrR k r Y).1/\stD (wrR k r Y).1=stT (wrR k r Y).1/\BO (stT k) r=I (stT (wrR k r Y).1):=by
 have hk:=CQ h;obtain⟨o,ho⟩:=aF0 hk h2;have hs:=(aF1 hk ho).1;have:=Tb hs.is.ok hs.fo;refine⟨hs.is.ok,this.1,this.2, ?_⟩;rw[hs.is.stT];exact ho
def oA{k:A7}(h:Ae k=Y):Ae (foM k)=Y/\LO (foM k)/\stD (foM k)=stT k/\stT (foM k)=stT k:=by
 have hk:=Qc<|CQ h;have:=Tb (k:=foM k) hk.ok rfl;exact⟨hk.ok,this.1,this.2.trans hk.stT,hk.stT⟩
def axF{k:A7}(h:Ae k=Y):Ae (pkM k)=Y/\LO (pkM k)/\stD (pkM k)=stT k/\stT (pkM k)=stT k:=by
 have hk:=oJ<|CQ h;have:=Tb (k:=pkM k) hk.ok rfl;exact⟨hk.ok,this.1,this.2.trans hk.stT,hk.stT⟩
def axW{k:A7}(h:Ae k=Y)(hl:LO k)(keep:Int):
  Ae (faM k keep)=Y/\LO (faM k keep)/\stD (faM k keep)=stT (faM k keep)/\LtF (stD k) (stT<|faM k keep)/\LtF (stT<|faM k keep) (stT k):=by
 have ok:=oH h keep;obtain⟨rs,ts,l,g⟩:=hl;have hfo:=l.fo;obtain⟨us,vs,e,l2⟩:=l.Uo (k.fo+max 0 (min keep<|(k.log.size:Int) - k.fo)).toNat J;have lf:(faM k keep).fo=((faM k keep).log.size:Int):=by
  have a:(faM k keep).fo=_:=l2.fo;have b:(faM k keep).log.size=_:=l2.size_eq;rw[a,b];simp[Jv]
 have hf:=Tb ok lf;obtain⟨d0,d1,d2⟩:=LO.two h l;have l2:CB (faM k keep).log (faM k keep).fo (rs++us) []:=l2;obtain⟨f0,f1,f2⟩:=LO.two ok l2;rw[hf.2]at f0 f1;have f0:Cd k.id (rs++us)=I (stT<|faM k keep):=f0;rw[XT,d0]at f0;rw[e,Mo,show El (stD k) us=_ from f0]at d2;subst e;exact⟨ok,hf.1,hf.2,ZZ d1 (λr hr=>g r<|Bz _ hr) f0,ZZ f1 (λr hr=>g r<|CW _ hr) d2⟩
inductive Act|non|own (n:A3)|take (n:A3)|eat (n:A3)|lets (m:Mark)
def Act.new(a:Act)(n:A3):Prop:=a= .own n\/a= .take n
structure KF (k o:AL) (a:Act):Prop where
 id:o.id=k.id
 ti:k.ti<=o.ti
 nx:(o.nx=k.nx/\ ∀n,a≠ .own n)\/ ∃n,a= .own n/\n.nu=k.nx/\n.fr=k.id/\o.nx=k.nx+1
 hold:∀n∈k.held,n∈o.held\/n.un<=o.ti\/a= .lets ⟨n.fr,n.nu,n.un⟩
 held:∀n∈o.held,n∈k.held\/a.new n
 box:∀n∈k.inbox,n∈o.inbox\/a= .eat n
 PU:∀n∈o.inbox,(n∈k.inbox/\a≠ .eat n)\/(a.new n/\n.to=k.id)
 mrk:∀m∈o.marks,m∈k.marks\/a= .lets m\/ ∃n,a.new n/\n.to=k.id/\m=⟨n.fr,n.nu,n.un⟩
 mks:∀m∈k.marks,m∈o.marks\/m.mu<=o.ti
 new:∀n,a.new n->k.ti<n.un/\(∀m∈k.marks,¬(m.mf=n.fr/\m.mn=n.nu))/\(if n.to=k.id then n∈o.inbox else n∈o.held)
 eat:∀n,a= .eat n->n∈k.inbox
 lets:∀m,a= .lets m->∃n∈k.held,m=⟨n.fr,n.nu,n.un⟩
def aFU{l:List A3}{i:Nat}{x:A3}(h:x∈l)(hne:x≠nA l i):x∈ER l i:=by
 obtain⟨j,hj,e⟩:=Cz h;have at_:nA l j=x:=by rw[nA,BG,Av hj];exact e
 have hji:j≠i:=λc=>hne (by rw[← c];exact at_.symm);unfold ER;rw[BN];by_cases h1:j<i
 .left;rw[List.mem_take_iff_getElem];exact⟨j,J,e⟩
 .right;rw[List.mem_drop_iff_getElem];exact⟨j - (i+1),J,by rw[← e];congr 1;omega⟩
def awn{l:List Mark}{f n:Int}(h:¬0<=Bt l f n):∀m∈l,¬(m.mf=f/\m.mn=n):=λm hm e=>h<|lz hm e.1 e.2
def ab3{k o:AL}{n:A3}{a:Act}(ha:a.new n)(hu:∀x,a.new x->x=n)(hnx:(o.nx=k.nx/\ ∀n,a≠ .own n)\/ ∃n,a= .own n/\n.nu=k.nx/\n.fr=k.id/\o.nx=k.nx+1)
  {c:Int}(h:Ex ⟨k.id,k.ti,c,k.held,k.marks,k.inbox⟩ n=I o):KF k o a:=by
 have ne:∀x,a≠ .eat x:=λx e=>by obtain h|h:=ha<;>rw[h]at e<;>cases e
 have nl:∀x,a≠ .lets x:=λx e=>by obtain h|h:=ha<;>rw[h]at e<;>cases e
 unfold Ex at h;split at h
 .cases h
 split at h
 .cases h
 split at h
 .cases h
 split at h
 .cases h
 split at h
 .cases h
 split at h
 .cases h
 rename_i _ h1 _ _ h2 _;have h1:k.ti<n.un:=by simpa using h1
 have h2:=awn (l:=k.marks) (f:=n.fr) (n:=n.nu) (by simpa using h2);split at h
 .rename_i ht;have ht:n.to=k.id:=BW ht;cases h;refine⟨rfl,Dw _,hnx,λ_ h=> .inl h,λ_ h=> .inl h,λx h=> .inl<|L5 _<|.inr h,λx h=> ?_,λm h=> ?_,λm h=> .inl<|L5 _<|.inr h,λx h=> ?_,λx e=>absurd e<|ne x,λx e=>absurd e<|nl x⟩
  .rcases GY _ h with rfl|h
   .exact .inr ⟨ha,ht⟩
   .exact .inl ⟨h,ne x⟩
  .rcases GY _ h with rfl|h
   .exact .inr (.inr ⟨n,ha,ht,rfl⟩)
   .exact .inl h
  .rw[hu x h,A5 ht];exact⟨h1,h2,L5 _<|.inl rfl⟩
 .rename_i ht;have ht:¬n.to=k.id:=by simpa using ht
  cases h;refine⟨rfl,Dw _,hnx,λx h=> .inl<|L5 _<|.inr h,λx h=> ?_,λ_ h=> .inl h,λ_ h=> .inl ⟨h,ne _⟩,λ_ h=> .inl h,λ_ h=> .inl h,λx h=> ?_,λx e=>absurd e<|ne x,λx e=>absurd e<|nl x⟩
  .rcases GY _ h with rfl|h
   .exact .inr ha
   .exact .inl h
  .rw[hu x h,A9 ht];exact⟨h1,h2,L5 _<|.inl rfl⟩
def au1(n:A3):L (L8 n)=[111,119,110]++32::L (wr n):=by unfold L8;simp only[GG,L_B];rfl
def atC{k:AL}{n:A3}(hn:Aw n=Y):Bh k Dh (wr n)=if n.fr=k.id/\n.nu=k.nx then Ex ⟨k.id,k.ti,k.nx+1,k.held,k.marks,k.inbox⟩ n else(if 0<=AZ k.held n.fr n.nu\/0<=AZ k.inbox n.fr n.nu then G else G):=by
 unfold Bh;rw[A9 aHd,A5 aHd,Q6 hn];unfold GZ;by_cases h:n.fr=k.id/\n.nu=k.nx
 .simp[h.1,h.2]
 .rw[A9 h];have:(U (n.fr=k.id)&&U (n.nu=k.nx))=A0:=by
   rw[← GK,AE,decide_eq_true_eq,decide_eq_true_eq];exact h
  simp[aAz,aB0,aA5,this]
def ayU{k o:AL}{n:A3}(hk:Au k=Y)(hn:Aw n=Y)(h:BO k (L8 n)=I o):KF k o (.own n):=by
 have h:=((IZ hk).1 h).1;rw[Ij aFQ<|au1 n,show Bh k (B [111,119,110]) (B<|L<|wr n)=Bh k Dh (wr n) by rw[B_L]]at h;rw[atC hn]at h;split at h
 .rename_i hc;have hx:o.nx=k.nx+1:=by
   unfold Ex at h
   (repeat' split at h)<;>first|(cases h;done)|(cases h;rfl)
  exact ab3 (.inl rfl) (λx h=>by obtain h|h:=h<;>cases h;rfl) (.inr ⟨n,rfl,hc.2,hc.1,hx⟩) h
 .split at h<;>cases h
def aGk{k o:AL}{n:A3}(hk:Au k=Y)(hn:Aw n=Y)(h:BO k (JK n)=I o):KF k o (.take n)/\n.fr≠k.id:=by
 rw[kg hk hn]at h;have h:=(Ja.1 h).1;split at h
 .cases h
 rename_i hne;have hx:o.nx=k.nx:=by
  unfold Ex at h
  (repeat' split at h)<;>first|(cases h;done)|(cases h;rfl)
 exact⟨ab3 (.inr rfl) (λx h=>by obtain h|h:=h<;>cases h;rfl) (.inl ⟨hx,λn e=>by cases e⟩) h,hne⟩
def awy{k o:AL}(hk:Au k=Y)(h:BO k (FX<|k.ti+1)=I o):KF k o .non:=by
 have hf:=C2 hk;have t0:=hf.t0;have t1:=hf.t1;have h:=((IZ hk).1 h).1;rw[Ij ko<|YC _,kX J J J]at h;cases h;refine⟨rfl,by show k.ti<=k.ti+1;omega,.inl ⟨rfl,λ_ h=>by cases h⟩,λn h=> ?_,λn h=> .inl (F8.1 h).1,λ_ h=> .inl h,λ_ h=> .inl ⟨h,λe=>by cases e⟩,λm h=> .inl (F8.1 h).1,λm h=> ?_,
  λ_ h=>(by obtain h|h:=h<;>cases h),λ_ h=>(by cases h),λ_ h=>(by cases h)⟩
 .by_cases hc:k.ti+1<n.un
  .exact .inl (F8.2 ⟨h,AR hc⟩)
  .exact .inr (.inl (by show n.un<=k.ti+1;omega))
 .by_cases hc:k.ti+1<m.mu
  .exact .inl (F8.2 ⟨h,AR hc⟩)
  .exact .inr (by show m.mu<=k.ti+1;omega)
def ab0{k o:AL}{a b c:Int}(hk:Au k=Y)(ha:0<=a/\a<=999)(hb:0<=b/\b<=999)(hc:0<=c/\c<=999)(h:BO k (Cc C3 a b c)=I o):KF k o (.lets ⟨a,b,c⟩):=by
 obtain⟨h1,rfl⟩:=o4 hk ha hb hc h;unfold EE at h1;rw[AE,decide_eq_true_eq,decide_eq_true_eq]at h1;obtain⟨i0,i1⟩:=h1;obtain⟨j0,j1,j2,j3⟩:=FE i0;have e:(⟨a,b,c⟩:Mark)=⟨(nA k.held (AZ k.held a b).toNat).fr,(nA k.held (AZ k.held a b).toNat).nu,(nA k.held (AZ k.held a b).toNat).un⟩:=by rw[j2,j3,i1]
 refine⟨rfl,Dw _,.inl ⟨rfl,λ_ h=>by cases h⟩,λn h=> ?_,λn h=> .inl<|OP h,λ_ h=> .inl h,λ_ h=> .inl ⟨h,λe=>by cases e⟩,λm h=> ?_,λm h=> .inl<|L5 _<|.inr h,
  λ_ h=>(by obtain h|h:=h<;>cases h),λ_ h=>(by cases h),λm h=> ?_⟩
 .by_cases hx:n=nA k.held (AZ k.held a b).toNat
  .right;right;rw[e,hx]
  .exact .inl (aFU h hx)
 .rcases GY _ h with rfl|h
  .exact .inr (.inl rfl)
  .exact .inl h
 .cases h;exact⟨_,HU j0,e⟩
def ay3{k o:AL}{n:A3}(hk:Au k=Y)(hn:n=nA k.inbox (AZ k.inbox n.fr n.nu).toNat)(h0:0<=AZ k.inbox n.fr n.nu)(h:BO k (Cc CO n.fr n.nu n.un)=I o):KF k o (.eat n):=by
 have hf:=C2 hk;obtain⟨hlt,bL,hfr,hnu⟩:=FE h0;have hm:n∈k.inbox:=by rw[hn];exact HU hlt
 obtain⟨⟨a0,a1⟩,⟨b0,b1⟩,⟨c0,c1⟩,_⟩:=Q5<|OD hf.i hm;have h3:=ZD (r:=B<|B6 n.fr++32::(B6 n.nu++32::B6 n.un)) (a:=n.fr) (b:=n.nu) (c:=n.un) J J J J J J<|L_B _;have h2:=((IZ hk).1 h).1;rw[Ij aDr<|TA CO _ _ _,show Bh k (B [101,97,116]) _=_ from atE h3]at h2;split at h2
 .cases h2;refine⟨rfl,Dw _,.inl ⟨rfl,λ_ h=>by cases h⟩,λ_ h=> .inl h,λ_ h=> .inl h,λx h=> ?_,λx h=> .inl ⟨OP h,λe=> ?_⟩,λ_ h=> .inl h,λ_ h=> .inl h,
   λ_ h=>(by obtain h|h:=h<;>cases h),λx e=> ?_,λ_ h=>(by cases h)⟩
  .by_cases hx:x=n
   .exact .inr (by rw[hx])
   .exact .inl (aFU h λe=>hx<|e.trans hn.symm)
  .cases e;rw[hn]at h;exact aGS hf.i hlt (by rw[← hn]at h ⊢; exact h)
  .cases e;exact hm
 .cases h2
structure Mvd (k k':A7) (a:Act):Prop where
 lo:LO k'
 id:(stT k').id=(stT k).id
 ti:(stT k).ti<=(stT k').ti
 nx:((stT k').nx=(stT k).nx/\ ∀n,a≠ .own n)\/ ∃n,a= .own n/\n.nu=(stT k).nx/\n.fr=(stT k).id/\(stT k').nx=(stT k).nx+1
 hold:∀n,n∈(stT k).held->n∈(stD k).held->(n∈(stT k').held/\n∈(stD k').held)\/n.un<=(stT k').ti\/a= .lets ⟨n.fr,n.nu,n.un⟩
 held:∀n∈(stD k').held,n∈(stD k).held\/a.new n
 box:∀n∈(stT k).inbox,n∈(stT k').inbox\/a= .eat n
 PU:∀n∈(stT k').inbox,(n∈(stT k).inbox/\a≠ .eat n)\/(a.new n/\n.to=(stT k).id)
 mrk:∀m∈(stT k').marks,m∈(stT k).marks\/a= .lets m\/ ∃n,a.new n/\n.to=(stT k).id/\m=⟨n.fr,n.nu,n.un⟩
 mks:∀m∈(stD k).marks,m∈(stD k').marks\/m.mu<=(stT k').ti
 new:∀n,a.new n->(stT k).ti<n.un/\(∀m∈(stT k).marks,¬(m.mf=n.fr/\m.mn=n.nu))/\(if n.to=(stT k).id then n∈(stT k').inbox else n∈(stT k').held/\n∈(stD k').held)
 eat:∀n,a= .eat n->n∈(stT k).inbox/\ ∀m∈(stT k).marks,m∈(stD k').marks
 lets:∀m,a= .lets m->∃n∈(stT k).held,m=⟨n.fr,n.nu,n.un⟩
def avZ{k k':A7}{a:Act}(h:Ae k=Y)(hl:LO k)(lo:LO k')(e:stD k'=stT k')(f:KF (stT k) (stT k') a)(he:∀n,a= .eat n->∀m∈(stT k).marks,m∈(stT k').marks):Mvd k k' a where
 lo:=lo
 id:=f.id
 ti:=f.ti
 nx:=f.nx
 hold:=λn h1 _=>by
  obtain h|h|h:=f.hold n h1
  .exact .inl ⟨h,by rw[e];exact h⟩
  .exact .inr (.inl h)
  .exact .inr (.inr h)
 held:=λn hn=>by
  rw[e]at hn;obtain h1|h1:=f.held n hn
  .exact .inl ((hl.lf h).held n h1)
  .exact .inr h1
 box:=f.box
 PU:=f.PU
 mrk:=f.mrk
 mks:=λm hm=>by
  rw[e];exact f.mks m ((hl.lf h).mrk m hm)
 new:=λn hn=>by
  obtain⟨a1,a2,a3⟩:=f.new n hn;refine⟨a1,a2, ?_⟩;rw[e];split at a3
  .rename_i hc;rw[A5 hc];exact a3
  .rename_i hc;rw[A9 hc];exact⟨a3,a3⟩
 eat:=λn hn=>⟨f.eat n hn,by rw[e];exact he n hn⟩
 lets:=f.lets
def QF{k k':A7}(h:Ae k=Y)(hl:LO k)(lo:LO k')(et:stT k'=stT k)(ed:stD k'=stD k\/stD k'=stT k):Mvd k k' .non where
 lo:=lo
 id:=by rw[et]
 ti:=by rw[et];exact Dw _
 nx:= .inl ⟨by rw[et],λ_ e=>by cases e⟩
 hold:=λn h1 h2=> .inl (by rw[et];exact⟨h1,by obtain e|e:=ed<;>rw[e]<;>assumption⟩)
 held:=λn hn=> .inl (by
  obtain e|e:=ed<;>rw[e]at hn
  .exact hn
  .exact(hl.lf h).held n hn)
 box:=λn hn=> .inl (by rw[et];exact hn)
 PU:=λn hn=> .inl ⟨by rw[← et];exact hn,λe=>by cases e⟩
 mrk:=λm hm=> .inl (by rw[← et];exact hm)
 mks:=λm hm=> .inl (by
  obtain e|e:=ed<;>rw[e]
  .exact hm
  .exact(hl.lf h).mrk m hm)
 new:=λn hn=>by obtain e|e:=hn<;>cases e
 eat:=λn e=>by cases e
 lets:=λm e=>by cases e
def Oq{k:A7}(h:Ae k=Y)(hl:LO k):Mvd k k .non:=QF h hl hl rfl (.inl rfl)
def ava{k:A7}(h:Ae k=Y)(hl:LO k)(n:Int):Ae (faM k n)=Y/\Mvd k (faM k n) .non:=by
 obtain⟨a0,a1,a2,a3,a4⟩:=axW h hl n;refine⟨a0,⟨a1,a4.id.symm,by rw[a4.ti];exact Dw _,.inl ⟨a4.nx.symm,λ_ e=>by cases e⟩,λn h1 h2=> .inl ⟨a4.held n h1,by rw[a2];exact a4.held n h1⟩,λn hn=> .inl (by rw[a2]at hn;exact a3.held n hn),λn hn=> .inl (by rw[← a4.box];exact hn),
  λn hn=> .inl ⟨by rw[a4.box];exact hn,λe=>(by cases e)⟩,λm hm=> .inl<|a4.mrk m hm,λm hm=> .inl (by rw[a2];exact a3.mrk m hm),λn hn=>(by obtain e|e:=hn<;>cases e),λn e=>(by cases e),λm e=>(by cases e)⟩⟩
def aD{k:A7}{a:Act}(h:Ae k=Y)(hl:LO k){r:A1}(h2:(wrR k r Y).2=Y)(hf:∀o,BO (stT k) r=I o->KF (stT k) o a)(he:∀n,a= .eat n->∀o,BO (stT k) r=I o->∀m∈(stT k).marks,m∈o.marks):
  Ae (wrR k r Y).1=Y/\Mvd k (wrR k r Y).1 a:=by
 obtain⟨a0,a1,a2,a3⟩:=avs h h2;exact⟨a0,avZ h hl a1 a2 (hf _ a3) λn e=>he n e _ a3⟩
def awi{k:A7}{a:Act}(h:Ae k=Y)(hl:LO k){r:A1}(hf:∀o,BO (stT k) r=I o->KF (stT k) o a)(he:∀n,a= .eat n->∀o,BO (stT k) r=I o->∀m∈(stT k).marks,m∈o.marks):
  ((wrR k r Y).2=Y/\Ae (wrR k r Y).1=Y/\Mvd k (wrR k r Y).1 a)\/((wrR k r Y).2=A0/\(wrR k r Y).1=k):=by
 obtain e|e:=tf (wrR k r Y).2
 .exact .inl ⟨e,aD h hl e hf he⟩
 .exact .inr ⟨e,QQ e⟩
def avW{k:A7}(h:Ae k=Y)(hl:LO k):Mvd k (FL k).1 .non:=by
 unfold FL;split
 .rcases awi h hl (r:=FX<|(stT k).ti+1) (a:= .non) (λo ho=>awy (CQ h).kok ho) (λn e=>by cases e) with⟨_,_,m⟩|⟨_,e⟩
  .exact m
  .rw[e];exact Oq h hl
 .exact Oq h hl
def awj{k:A7}(h:Ae k=Y)(hl:LO k){tt un:Int}{tx:A1}(h0:(Dq k tt un tx).2≠0):Mvd k (Dq k tt un tx).1 (.own ⟨k.id,(Dq k tt un tx).2,tt,un,tx⟩):=by
 unfold Dq at h0 ⊢;split at h0
 .rename_i hc;rw[AE]at hc;rw[A5 (by rw[AE];exact hc)];simp only at h0 ⊢;split at h0
  .rename_i h2;rw[A5 h2];exact(aD h hl h2 (λo ho=>ayU (CQ h).kok hc.2 ho) λn e=>by cases e).2
  .exact absurd rfl h0
 .exact absurd rfl h0
def atg{k o:AL}{a b c:Int}(hk:Au k=Y)(h:BO k (Cc CO a b c)=I o):∀m∈k.marks,m∈o.marks:=by
 have h2:=((IZ hk).1 h).1;rw[Ij aDr<|TA CO _ _ _]at h2;unfold Bh at h2;rw[A9 aHd,A9 aHd,A5 aHd]at h2;split at h2
 .unfold F6 at h2;rw[show U (B [101,97,116]=C3)=A0 by decide,AO,A4,show U (B [101,97,116]=D5)=A0 by decide,AO,A4]at h2;split at h2
  .cases h2;exact λm hm=>hm
  .cases h2
 .cases h2
def awl{k:A7}(h:Ae k=Y)(hl:LO k){fr nu:Int}(ok:(Db k fr nu).2.2=Y):Mvd k (Db k fr nu).1 (.eat (Db k fr nu).2.1):=by
 have hk:=CQ h;unfold Db at ok ⊢;split at ok
 .rename_i hc;rw[A5 hc];simp only[AE,CM,decide_eq_false_iff_not]at hc;have h0:0<=AZ (stT k).inbox fr nu:=by have:=hc.2;omega
  obtain⟨_,_,j2,j3⟩:=FE h0;simp only at ok ⊢;rw[A5 ok];refine(aD h hl ok (λo ho=> ?_) λn _ o ho=>atg hk.kok ho).2;refine ay3 hk.kok ?_ ?_ ?_
  .rw[j2,j3]
  .rw[j2,j3];exact h0
  .rw[j2,j3];exact ho
 .cases ok
def avY{k:A7}(h:Ae k=Y)(hl:LO k):Mvd k (FM k).1 .non:=by
 unfold FM;split
 .obtain⟨_,a1,a2,a3⟩:=axF h;exact QF h hl a1 a3 (.inr a2)
 .exact Oq h hl
def at2{k:A7}(h:Ae k=Y)(hl:LO k):Mvd k (FK k).1 .non:=by
 unfold FK;split
 .obtain⟨_,a1,a2,a3⟩:=oA h;exact QF h hl a1 a3 (.inr a2)
 .exact Oq h hl
def LO.bS{k:A7}(hl:LO k):LO (riM k):=hl
def avX{k:A7}(h:Ae k=Y)(hl:LO k):Mvd k (riM k) .non:=QF h hl hl.bS rfl (.inl rfl)
def awk{k:A7}(h:Ae k=Y)(hl:LO k){a b c:Int}(ha:0<=a/\a<=999)(hb:0<=b/\b<=999)(hc:0<=c/\c<=999)(h2:(wrR k (Cc C3 a b c) A0).2=Y):
  Mvd k (wrR k (Cc C3 a b c) A0).1 (.lets ⟨a,b,c⟩):=by
 obtain⟨a0,a1,a2,a3⟩:=aaa h hl ⟨a,b,c,ha,hb,hc,rfl⟩ h2;have f:=ab0 (CQ h).kok ha hb hc a2;have lf:=hl.lf h;have sub:∀n∈(stD (wrR k (Cc C3 a b c) A0).1).held,n∈(stD k).held:=λn hn=>by
  obtain e|e:=a3<;>rw[e]at hn
  .exact hn
  .exact lf.held n hn
 refine⟨a0,f.id,f.ti,f.nx,λn h1 h2=> ?_,λn hn=> .inl<|sub n hn,f.box,f.PU,f.mrk,λm hm=> .inl ?_,λn hn=>(by obtain e|e:=hn<;>cases e),λn e=>(by cases e),f.lets⟩
 .rcases f.hold n h1 with h|h|h
  .refine .inl ⟨h, ?_⟩;obtain e|e:=a3<;>rw[e]<;>assumption
  .exact .inr (.inl h)
  .exact .inr (.inr h)
 .rcases a3 with e|e<;>rw[e]
  .exact hm
  .exact lf.mrk m hm
end Go.VS
end
