/- Part 9. -/
import Derived.Test.YtgjljlpdfceilaaGreatDoorQAR
open BitVec renaming eq_of_toNat_eq->lq,ofInt->FC,toNat_ofInt->QO
open Bool renaming and_eq_true->AD,and_false->BZ,and_self->EW,and_true->Ks,eq_iff_iff->Mz,false->A0,false_and->AM,false_ne_true->CQ,false_or->Bk,not_eq_true'->CE,not_eq_true->GL,not_false->AG,not_true->AB,or_eq_false_iff->Mx,or_eq_true->C1,or_false->EV,or_self->GM,or_true->DL,true->Y,true_and->AP,true_or->Bt
open ByteArray renaming size_extract->aBZ
open Decidable renaming decide->U
open Eq renaming refl->Hg,trans->Kw
open Go.Lib renaming itoa->B3
open Int renaming eq_ofNat_of_zero_le->HB,le_refl->Ct,le_trans->K8,mul_comm->QT,mul_le_mul_of_nonneg_right->lH,mul_nonneg->lr,not_lt->QU,tdiv->B0,tdiv_eq_ediv_of_nonneg->H9,tdiv_nonneg->lL,tmod->BK,tmod_eq_emod_of_nonneg->Ko,tmod_lt_of_pos->QK,tmod_nonneg->QP,toNat->AK,toNat_natCast->Bc,toNat_of_nonneg->lX
open List renaming all_cons->Om,all_eq_true->DK,append_assoc->C2,append_nil->CJ,drop->Bp,drop_append_of_le_length->TJ,drop_drop->Iq,drop_sublist->QH,drop_zero->Ik,eq_nil_of_length_eq_zero->Dw,ext_getElem?->lU,filter_append->QX,filter_cons->Jz,filter_nil->Yc,foldl_append->G1,foldl_cons->Dv,getD_eq_getElem?_getD->B9,getElem?_append_right->FO,getElem?_eq_getElem->Av,getElem?_eq_none->He,getElem?_map->D7,getElem?_range->Gj,getElem?_replicate->Yh,getElem?_set->Of,getElem?_set_self->Yi,getElem?_take->Ge,getElem_mem->Cd,getElem_of_mem->D0,length->j8,length_append->Au,length_cons->Bj,length_drop->EF,length_filter_le->Io,length_map->DV,length_nil->CO,length_set->GP,length_singleton->Im,length_take->Dh,map_append->Eg,map_congr_left->Gi,map_cons->DM,map_id->Yq,map_map->I9,map_nil->JQ,mem_append->BM,mem_append_left->Bv,mem_append_right->CP,mem_cons->Bl,mem_cons_of_mem->Ai,mem_cons_self->An,mem_filter->FP,mem_iff_getElem->Yd,mem_map->Bu,mem_of_getElem?->Ci,mem_of_mem_drop->Kq,mem_of_mem_take->IF,mem_or_eq_of_mem_set->TK,mem_range->Cu,mem_singleton->CL,mem_singleton_self->Og,nil_append->EU,nodup_append->JN,pairwise_append->N1,pairwise_iff_getElem->K3,pairwise_singleton->lK,range->B7,range_succ->IC,replicate->BS,set->Bq,take->BR,take_add_one->JJ,take_append_drop->JK,take_length->E5,take_of_length_le->K4,take_take->Ys
open List.Sublist renaming append->lY,refl->ET
open List.cons renaming injEq->Ly
open Nat renaming add_zero->Hh,le_refl->Ar,le_trans->CV,lt_or_gt_of_ne->TR,lt_succ_self->Od,lt_trans->Yo,lt_trichotomy->IA,min_eq_left->QZ,sub_zero->JR,zero_add->DY,zero_le->D1
open Option renaming bind_eq_some_iff->Ah,bind_some->A6,filter_eq_some_iff->JL,getD_some->DX,isSome_some->Dg,map_some->QV,none->G,some->I
open Option.some renaming inj->Eh
open Or renaming inl->N7,inr->N6
open Prod.mk renaming inj->IH,injEq->CK
set_option linter.all false
noncomputable section
namespace Go.VS
open Go
abbrev tF(f:Frame):Int×Int×Int×Int×Int×Int×Int×Int×Int×A1×D:=(f.ki,f.src,f.dst,f.fr,f.nu,f.to,f.un,f.sz,f.mix,f.da,())
def Jl(f:Frame):Bool:=
 if U (f.ki=1) then inB f.sz 1 24&&(inB f.mix 0 999&&(U ((f.da.size:Int)=4)&&U (f.dst=Br f.src f.to)))
 else(U (f.ki=2)||decide (f.ki=3))&&(U (f.sz=0)&&(U (f.mix=0)&&(U (f.da=noB)&&U (f.src=Br f.dst f.to))))
def Bx(f:Frame):Bool:=isN f.src&&(isN f.dst&&(isN f.fr&&(isN f.to&&(inB f.nu 1 99&&(inB f.un 1 999&&Jl f)))))
def yG(f:Frame):VW (tF f,())=I ((Bx f,()),()):=by
 obtain⟨ki,src,dst,fr,nu,t',un,sz,mix,da⟩:=f;unfold VW Bx;simp only[Je,EJ,A6];obtain e|e:=tf (isN src)<;>simp only[e,AB,AG,A2,A4,AP,AM];obtain e|e:=tf (isN dst)<;>simp only[e,AB,AG,A2,A4,AP,AM];obtain e|e:=tf (isN fr)<;>simp only[e,AB,AG,A2,A4,AP,AM];obtain e|e:=tf (isN t')<;>simp only[e,AB,AG,A2,A4,AP,AM];obtain e|e:=tf (inB nu 1 99)<;>simp only[e,AB,AG,A2,A4,AP,AM];obtain e|e:=tf (inB un 1 999)<;>simp only[e,AB,AG,A2,A4,AP,AM];unfold Jl;simp only[sJ,Dg,DX,Hq,A2];obtain e|e:=tfp (ki=1)<;>simp only[e,AT,Af,A2,A4]
 .rcases tf (inB sz 1 24) with e|e<;>simp only[e,A2,A4,AP,AM];obtain e|e:=tf (inB mix 0 999)<;>simp only[e,A2,A4,AP,AM]
 .rcases tfp (ki=2) with e|e<;>simp only[e,AT,Af,A2,A4,Be,Bt,Bk,AP]
  .rcases tfp (sz=0) with e|e<;>simp only[e,AT,Af,A2,A4,AP,AM];obtain e|e:=tfp (mix=0)<;>simp only[e,AT,Af,A2,A4,AP,AM]
  .rcases tfp (ki=3) with e|e<;>simp only[e,AT,Af,A2,A4,AP,AM];obtain e|e:=tfp (sz=0)<;>simp only[e,AT,Af,A2,A4,AP,AM];obtain e|e:=tfp (mix=0)<;>simp only[e,AT,Af,A2,A4,AP,AM]
def axH{ki:Int}(h1:(ki=1)=False):inB ki 1 3=(U (ki=2)||decide (ki=3)):=by
 have h1:ki≠1:=of_eq_false h1;rw[Mz,Aa,C1,decide_eq_true_iff,decide_eq_true_iff];omega
def xm(f:Frame):VO (tF f,())=I ((Bx f,()),()):=by
 obtain⟨ki,src,dst,fr,nu,t',un,sz,mix,da⟩:=f;unfold VO Bx;simp only[Jd,Hr,A6];have hk:inB ki 1 3=(U (ki=1)||(U (ki=2)||decide (ki=3))):=by
  obtain e|e:=tfp (ki=1)
  .have:ki=1:=of_eq_true e;subst this;rfl
  .rw[axH e];simp only[e,Af,Bk]
 rw[hk];unfold Jl;obtain e0|e0:=tfp (ki=1)<;>simp only[e0,AT,Af,Bt,Bk,AB,AG,A2,A4]
 .rcases tf (isN src) with e|e<;>simp only[e,AB,AG,A2,A4,AP,AM];obtain e|e:=tf (isN dst)<;>simp only[e,AB,AG,A2,A4,AP,AM];obtain e|e:=tf (isN fr)<;>simp only[e,AB,AG,A2,A4,AP,AM];obtain e|e:=tf (isN t')<;>simp only[e,AB,AG,A2,A4,AP,AM];obtain e|e:=tf (inB nu 1 99)<;>simp only[e,AB,AG,A2,A4,AP,AM];obtain e|e:=tf (inB un 1 999)<;>simp only[e,AB,AG,A2,A4,AP,AM];simp only[sA,A6];rw[show U (Br src t'=dst)=U (dst=Br src t') from decide_eq_decide.2 eq_comm];obtain e|e:=tf (inB sz 1 24)<;>obtain e1|e1:=tf (inB mix 0 999)<;>obtain e2|e2:=tf (U<|(da.size:Int)=4)<;>obtain e3|e3:=tfp (dst=Br src t')<;>simp only[e,e1,e2,e3,AT,Af,A2,A4,AP,AM,EW,BZ]
 .rcases tf (U (ki=2)||decide (ki=3)) with e9|e9<;>simp only[e9,AB,AG,A2,A4,AP,AM,BZ];obtain e|e:=tf (isN src)<;>simp only[e,AB,AG,A2,A4,AP,AM];obtain e|e:=tf (isN dst)<;>simp only[e,AB,AG,A2,A4,AP,AM];obtain e|e:=tf (isN fr)<;>simp only[e,AB,AG,A2,A4,AP,AM];obtain e|e:=tf (isN t')<;>simp only[e,AB,AG,A2,A4,AP,AM];obtain e|e:=tf (inB nu 1 99)<;>simp only[e,AB,AG,A2,A4,AP,AM];obtain e|e:=tf (inB un 1 999)<;>simp only[e,AB,AG,A2,A4,AP,AM];simp only[sA,A6];rw[show U (Br dst t'=src)=U (src=Br dst t') from decide_eq_decide.2 eq_comm];obtain e|e:=tfp (sz=0)<;>obtain e1|e1:=tfp (mix=0)<;>obtain e2|e2:=tfp (da=noB)<;>obtain e3|e3:=tfp (src=Br dst t')<;>simp only[e,e1,e2,e3,AT,Af,A2,A4,AP,AM,EW,BZ]
def BOk(l:List Int):Prop:=∀x∈l,0<=x/\x<=255
def BOk.rd{l:List Int}(h:BOk l)(i:Int):0<= @rd Int aFd l i/\ @rd Int aFd l i<=255:=by
 show 0<=l.getD i.toNat 0/\l.getD i.toNat 0<=255;rw[B9];cases e:l[i.toNat]? with
 | none=>exact⟨by decide,by decide⟩
 | some x=>exact h x<|Ci e
def BOk.str(s:A1):BOk (BA s):=by
 intro x hx;obtain⟨b,_,rfl⟩:=Bu.1 hx;have:=b.toNat_lt;omega
def BOk.app{a b:List Int}(ha:BOk a)(hb:BOk b):BOk (a++b):=by
 intro x hx;obtain h|h:=BM.1 hx
 .exact ha x h
 .exact hb x h
def ax5(n:Int):0<=w8 n/\w8 n<=255:=by
 rw[Mp];omega
def BOk.nil:BOk []:=λx hx=>by cases hx
def BOk.cons(n:Int){l:List Int}(h:BOk l):BOk (w8 n::l):=by
 intro x hx;obtain h1|h1:=Bl.1 hx
 .rw[h1];exact ax5 n
 .exact h x h1
def F8:List Int->Nat->Int->Int
 | [],_,n=>n
 | x::r,i,n=>F8 r (i+1) (BK (n+x * ((i % 1000:Nat)+1)) 65521)
def kS:∀ {l:List Int} {i:Nat} {n:Int},BOk l->0<=n->n<65521->0<=F8 l i n/\F8 l i n<65521
 | [],_,_,_,h0,h1=>⟨h0,h1⟩
 | x::r,i,n,hb,h0,h1=>by
  have hx:=hb x An;have hp:0<=x * ((i % 1000:Nat)+1:Int):=lr hx.1 J;unfold F8;rw[Ko J];exact kS (λy hy=>hb y<|Ai x hy) J J
def aaQ{x:Int}(i:Nat)(h:0<=x/\x<=255):0<=x * ((i % 1000:Nat)+1:Int)/\x * ((i % 1000:Nat)+1:Int)<=255000:=by
 refine⟨lr h.1 J, ?_⟩;have h1:x * ((i % 1000:Nat)+1:Int)<=255 * ((i % 1000:Nat)+1:Int):=lH h.2 J;omega
def abX(pre:List Int)(x:Int)(post:List Int): @rd Int aFd (pre++x::post) (j8 pre:Int)=x:=by
 rw[OL,B9,FO<|Ar _];simp
def asz(post:List Int):∀(pre:List Int) (n:Int),BOk post->0<=n->n<65521->(pre++post).length<=1048576->
  av (n,pre++post,((pre++post).length:Int),(j8 pre:Int),())=I (.inr (F8 post pre.length n,())):=by
 induction post with
 | nil=>
  intro pre n _ _ _ _;refine BF ?_;unfold cn;simp only[CJ,show U ((j8 pre:Int)<(j8 pre:Int))=A0 from BE J,A4];rfl
 | cons x post ih=>
  intro pre n hb h0 h1 hl;have hlen:pre.length<(pre++x::post).length:=by simp
  have hw:=DZ hlen hl;have hx:=hb x An;have hm:=aaQ pre.length hx;have ht:BK (j8 pre:Int) 1000=((pre.length % 1000:Nat):Int):=rfl;refine As (x':=(BK (n+x * ((pre.length % 1000:Nat)+1)) 65521,pre++x::post,((pre++x::post).length:Int),((pre++[x]).length:Int),())) ?_ ?_
  .unfold cn;simp only[show U ((j8 pre:Int)<((pre++x::post).length:Int))=Y from AR J,A2,AU hlen,abX,ht];rw[AZ (n:=x) J J,AZ (n:=((pre.length % 1000:Nat):Int)+1) J J,AZ (n:=x * _) J J,AZ (n:=n+_) J J,hw,@Au _ pre [x]];rfl
  .have hr:0<=BK (n+x * ((pre.length % 1000:Nat)+1)) 65521/\BK (n+x * ((pre.length % 1000:Nat)+1)) 65521<65521:=by
    rw[Ko J];omega
   have:=ih (pre++[x]) _ (λy hy=>hb y<|Ai x hy) hr.1 hr.2 (by rw[← snoc];exact hl);rw[← snoc]at this;rw[F8];rw[show(pre++[x]).length=pre.length+1 by simp]at this ⊢;exact this
def arK(post:List Int):∀(pre:List Int) (n:Int),BOk post->0<=n->n<65521->(pre++post).length<=1048576->
  an (pre++post,n,(j8 pre:Int),())=I (.inr (F8 post pre.length n,())):=by
 induction post with
 | nil=>
  intro pre n _ _ _ _;refine BF ?_;unfold cY;simp only[CJ,show U ((j8 pre:Int)<(j8 pre:Int))=A0 from BE J,A4];rfl
 | cons x post ih=>
  intro pre n hb h0 h1 hl;have hlen:pre.length<(pre++x::post).length:=by simp
  have hw:=DZ hlen hl;have hx:=hb x An;have hm:=aaQ pre.length hx;have ht:BK (j8 pre:Int) 1000=((pre.length % 1000:Nat):Int):=rfl;refine As (x':=(pre++x::post,BK (n+x * ((pre.length % 1000:Nat)+1)) 65521,((pre++[x]).length:Int),())) ?_ ?_
  .unfold cY;simp only[show U ((j8 pre:Int)<((pre++x::post).length:Int))=Y from AR J,A2,AU hlen,abX,ht];rw[AZ (n:=x) J J,AZ (n:=((pre.length % 1000:Nat):Int)+1) J J,QT _ x,AZ (n:=x * _) J J,AZ (n:=n+_) J J,hw,@Au _ pre [x]];rfl
  .have hr:0<=BK (n+x * ((pre.length % 1000:Nat)+1)) 65521/\BK (n+x * ((pre.length % 1000:Nat)+1)) 65521<65521:=by
    rw[Ko J];omega
   have:=ih (pre++[x]) _ (λy hy=>hb y<|Ai x hy) hr.1 hr.2 (by rw[← snoc];exact hl);rw[← snoc]at this;rw[F8];rw[show(pre++[x]).length=pre.length+1 by simp]at this ⊢;exact this
def al8{l:List Int}(h:BOk l)(hl:l.length<=1048576):V5 (l,())=I ((F8 l 0 0,()),()):=by
 unfold V5;have h1:av (0,l,(j8 l:Int),0,())=I (.inr (F8 l 0 0,())):=asz l [] 0 h J J hl;rw[h1];rfl
def akP{l:List Int}(h:BOk l)(hl:l.length<=1048576):Ra (l,())=I ((F8 l 0 0,()),()):=by
 unfold Ra;have h1:an (l,0,0,())=I (.inr (F8 l 0 0,())):=arK l [] 0 h J J hl;rw[h1];rfl
abbrev two(n:Int):List Int:=[w8 (w64<|B0 n 256),w8<|BK n 256]
abbrev Ql(f:Frame):List Int:=[w8 f.ki,w8 f.src,w8 f.dst,w8 f.fr,w8 f.nu,w8 f.to,w8<|w64<|B0 f.un 256,w8<|BK f.un 256]
def Et(f:Frame):List Int:=if U (f.ki=1) then(Ql f++[w8 f.sz,w8<|w64<|B0 f.mix 256,w8<|BK f.mix 256])++BA f.da else Ql f
def Cb(f:Frame):List Int:=if Bx f then Et f++two (F8 (Et f) 0 0) else []
def iJ{l:List Int}(n:Int)(hl:l.length<=1048576):Nj (l,n,())=I ((l++two n,()),()):=by
 unfold Nj;rw[A5<|BG y7]
def Xo(f:Frame):BOk (Et f):=by
 unfold Et;split
 .exact BOk.app (.cons _<|.cons _<|.cons _<|.cons _<|.cons _<|.cons _<|.cons _<|.cons _<|.cons _<|.cons _<|.cons _ .nil) (BOk.str _)
 .exact .cons _<|.cons _<|.cons _<|.cons _<|.cons _<|.cons _<|.cons _<|.cons _ .nil
def mW{f:Frame}(h:Bx f=Y)(hk:U (f.ki=1)=Y):f.da.size=4:=by
 unfold Bx Jl at h;simp only[AD]at h;have h:=h.2.2.2.2.2.2;rw[A5 hk]at h;simp only[AD]at h;have:=Bd h.2.2.1;omega
def XK{f:Frame}(h:Bx f=Y):(Et f).length<=15:=by
 unfold Et;split
 .rename_i hk;have:=mW h hk;simp[SN,Aw];omega
 .simp
def vo(f:Frame):PK (tF f,())=I ((Cb f,()),()):=by
 unfold PK Cb;simp only[yG,A6];obtain e|e:=tf (Bx f)
 .simp only[e,AB,A4,A2];have hl:=XK e;have hj:∀ {X Ω:Type} (g:X->Option Ω) (y:X),BT g (I<|.inr y)=g y:=λ_ _=>rfl;have hs:=al8 (Xo f) J;have key:∀l,l=Et f->((V5 (l,())).bind λr4=>if Ac (l.length+(two r4.1.1).length) then(bH ((l++two r4.1.1),())).bind λr5=>I (r5.1,()) else G)=I ((Et f++two (F8 (Et f) 0 0),()),()):=by
   rintro l rfl;simp only[hs,A6];rw[A5<|BG y7,agS y7];rfl
  obtain e1|e1:=tf (U<|f.ki=1)
  .have hd:=mW e e1;have hb:Et f=(Ql f++[w8 f.sz,w8<|w64<|B0 f.mix 256,w8<|BK f.mix 256])++BA f.da:=by unfold Et;rw[A5 e1]
   rw[A5 e1,A5<|BG aE4,A5<|BG (by simp[SN,Aw];omega),hj];exact key _ hb.symm
  .have hb:Et f=Ql f:=by unfold Et;rw[e1,A4]
   rw[A8 (by rw[e1];exact CQ),hj];exact key _ hb.symm
 .simp only[e,AG,A2,A4]
def uq(f:Frame):PH (tF f,())=I ((Cb f,()),()):=by
 unfold PH Cb;simp only[xm,A6];obtain e|e:=tf (Bx f)
 .simp only[e,AB,A4,A2];have hl:=XK e;have hs:=akP (Xo f) J;have key:∀l,l=Et f->((Ra (l,())).bind λr6=>(Nj (l,r6.1)).bind λr7=>I (r7.1,()))=I ((Et f++two (F8 (Et f) 0 0),()),()):=by
   rintro l rfl;simp only[hs,A6];rw[iJ _ J];rfl
  rw[A5<|by rfl,iJ _ aE4];simp only[A6];obtain e1|e1:=tf (U<|f.ki=1)
  .have hd:=mW e e1;have hb:Et f=(Ql f++[w8 f.sz,w8<|w64<|B0 f.mix 256,w8<|BK f.mix 256])++BA f.da:=by unfold Et;rw[A5 e1]
   rw[A5 e1,A5<|by rfl,iJ _ aE4];simp only[A6];rw[A5<|BG J,A5<|BG (by simp[SN,Aw];omega)];exact key _ (by rw[hb];rfl)
  .have hb:Et f=Ql f:=by unfold Et;rw[e1,A4]
   rw[A8 (by rw[e1];exact CQ)];exact key _ (by rw[hb];rfl)
 .simp only[e,AG,A2,A4]
abbrev zF:Frame:=⟨0,0,0,0,0,0,0,0,0,noB⟩
abbrev r8(b:List Int)(i:Int):Int:= @rd Int aFd b i
def Fa(b:List Int):Frame:=
 if U ((j8 b:Int)=17) then⟨r8 b 0,r8 b 1,r8 b 2,r8 b 3,r8 b 4,r8 b 5,256 * r8 b 6+r8 b 7,r8 b 8,256 * r8 b 9+r8 b 10,BH<|Bp 11<|BR 15 b⟩
 else⟨r8 b 0,r8 b 1,r8 b 2,r8 b 3,r8 b 4,r8 b 5,256 * r8 b 6+r8 b 7,0,0,noB⟩
def Cn(b:List Int):Frame×Bool:=
 if U ((j8 b:Int)=10)||decide ((j8 b:Int)=17) then(if U (BH (Cb<|Fa b)=BH b) then(Fa b,Y) else(zF,A0)) else(zF,A0)
def abj{b:List Int}(h:BOk b)(i:Int):w64 (r8 b i)=r8 b i:=by
 have:0<=r8 b i/\r8 b i<=255:=h.rd i;exact AZ J J
def aag{b:List Int}(h:BOk b)(i j:Int):w64 (w64 (256 * r8 b i)+r8 b j)=256 * r8 b i+r8 b j:=by
 have h1:0<=r8 b i/\r8 b i<=255:=h.rd i;have h2:0<=r8 b j/\r8 b j<=255:=h.rd j;rw[AZ (n:=256 * r8 b i) J J,AZ J J]
def ss{b:List Int}(h:BOk b):bQ (b,())=I ((tF (Cn b).1,(Cn b).2,()),()):=by
 unfold bQ Cn;by_cases h1:b.length=10\/b.length=17
 .have hn:10<=b.length:=J
  have hI:∀i:Int,(0<=i/\i<10)->inb i b.length=Y:=λi hi=>by simp[inb];omega
  rw[A8 y7];dsimp only;rw[A5<|hI 0 J,A5<|hI 1 J,A5<|hI 2 J,A5<|hI 3 J,A5<|hI 4 J,A5<|hI 5 J,A5<|hI 6 J,A5<|hI 7 J];rw[A5 (show(U ((j8 b:Int)=10)||decide ((j8 b:Int)=17))=Y by simp;omega)];simp only[abj h,aag h];have fin:∀f:Frame,Fa b=f->((PK (tF f,())).bind λr16=>if(!decide ((BH r16.1.1)=(BH b))) then I ((tF zF,A0,()),()) else I ((tF f,Y,()),()))=
    I ((tF (if U (BH (Cb<|Fa b)=BH b) then(Fa b,Y) else(zF,A0)).1,(if U (BH (Cb<|Fa b)=BH b) then(Fa b,Y) else(zF,A0)).2,()),()):=by
   rintro f rfl;simp only[vo,A6];obtain e|e:=tf (U<|BH (Cb<|Fa b)=BH b)<;>simp only[e,AB,AG,A2,A4]
  obtain e|e:=tf (U<|(j8 b:Int)=17)
  .have e17:b.length=17:=by have:=Bd e;omega
   have hJ:∀i:Int,(0<=i/\i<17)->inb i b.length=Y:=λi hi=>by simp[inb];omega
   rw[A5 e,A5<|hJ 8 J,A5<|hJ 9 J,A5<|hJ 10 J,A5 y7,Be];refine fin ⟨r8 b 0,r8 b 1,r8 b 2,r8 b 3,r8 b 4,r8 b 5,256 * r8 b 6+r8 b 7,r8 b 8,256 * r8 b 9+r8 b 10,BH<|Bp 11<|BR 15 b⟩ ?_;unfold Fa;rw[A5 e]
  .rw[A8 (by rw[e];exact CQ),Be];refine fin ⟨r8 b 0,r8 b 1,r8 b 2,r8 b 3,r8 b 4,r8 b 5,256 * r8 b 6+r8 b 7,0,0,noB⟩ ?_;unfold Fa;rw[A8 (by rw[e];exact CQ)]
 .rw[A5 y7,A8 y7]
def afl{b:List Int}(h:BOk b):bZ (b,())=I ((tF (Cn b).1,(Cn b).2,()),()):=by
 unfold bZ Cn;by_cases h1:b.length=10\/b.length=17
 .have hn:10<=b.length:=J
  have hI:∀i:Int,(0<=i/\i<10)->inb i b.length=Y:=λi hi=>by simp[inb];omega
  rw[A8 y7];dsimp only;rw[A5<|hI 0 J,A5<|hI 1 J,A5<|hI 2 J,A5<|hI 3 J,A5<|hI 4 J,A5<|hI 5 J,A5<|hI 6 J,A5<|hI 7 J];rw[A5 (show(U ((j8 b:Int)=10)||decide ((j8 b:Int)=17))=Y by simp;omega)];simp only[abj h,QT _ 256,aag h];have fin:∀f:Frame,Fa b=f->((PH (tF f,())).bind λr16=>if(!decide ((BH r16.1.1)=(BH b))) then I ((tF zF,A0,()),()) else I ((tF f,Y,()),()))=
    I ((tF (if U (BH (Cb<|Fa b)=BH b) then(Fa b,Y) else(zF,A0)).1,(if U (BH (Cb<|Fa b)=BH b) then(Fa b,Y) else(zF,A0)).2,()),()):=by
   rintro f rfl;simp only[uq,A6];obtain e|e:=tf (U<|BH (Cb<|Fa b)=BH b)<;>simp only[e,AB,AG,A2,A4]
  obtain e|e:=tf (U<|(j8 b:Int)=17)
  .have e17:b.length=17:=by have:=Bd e;omega
   have hJ:∀i:Int,(0<=i/\i<17)->inb i b.length=Y:=λi hi=>by simp[inb];omega
   rw[A5<|AR J,A5<|hJ 8 J,A5<|hJ 9 J,A5<|hJ 10 J,A5 y7,Be];refine fin ⟨r8 b 0,r8 b 1,r8 b 2,r8 b 3,r8 b 4,r8 b 5,256 * r8 b 6+r8 b 7,r8 b 8,256 * r8 b 9+r8 b 10,BH<|Bp 11<|BR 15 b⟩ ?_;unfold Fa;rw[A5 e]
  .have e17:b.length≠17:=by have:=LG e;omega
   rw[A8 y7,Be];refine fin ⟨r8 b 0,r8 b 1,r8 b 2,r8 b 3,r8 b 4,r8 b 5,256 * r8 b 6+r8 b 7,0,0,noB⟩ ?_;unfold Fa;rw[A8 (by rw[e];exact CQ)]
 .rw[A5 y7,A8 y7]
def aqV{b:List Int}(h:(Cn b).2=Y):Bx (Cn b).1=Y:=by
 unfold Cn at h ⊢;split
 .rename_i h1;rw[A5 h1]at h;split
  .rename_i h2;have h2:=Bd h2;unfold Cb at h2;split at h2
   .assumption
   .have h3:(BH b).size=b.length:=by simp[BH,ByteArray.size]
    have h4:(BH ([]:List Int)).size=0:=rfl;rw[← h2,h4]at h3;rw[← h3]at h1;cases h1
  .rename_i h2;rw[A8 h2]at h;cases h
 .rename_i h1;rw[A8 h1]at h;cases h
def OA{n:Int}(h0:0<=n)(k:Nat)(hk:1<=k)(h:n<(10 ^ k:Nat)):(BW n).size<=k:=by
 show(B3 n).length<=k;exact La h0 k hk h
def zg{r:A1}(hr:r.size<=1048576):PY (r,())=I ((Cv r,()),()):=by
 have hd:=OA (n:=(r.size:Int)) J 7 J J;unfold PY;simp only[J8 (n:=(r.size:Int)) J J,A6];rw[A5<|AR (by rw[BQ];simp;omega),A5<|AR (by rw[By,BQ];simp;omega),A5<|AR (by rw[By,By,BQ,BQ];simp;omega)];rfl
def zW{r:A1}(hr:r.size<=1048576):PW (r,())=I ((Cv r,()),()):=by
 have hd:=OA (n:=(r.size:Int)) J 7 J J;unfold PW;simp only[Fm (n:=(r.size:Int)) J J,A6];rw[A5<|AR (by rw[BQ];simp;omega),A5<|AR (by rw[By,BQ];simp;omega),A5<|AR (by rw[By,By,BQ,BQ];simp;omega)];rfl
def X5{r:A1}(hr:r.size<=1048576):(Cv r).size<=r.size+9:=by
 have hd:=OA (n:=(r.size:Int)) J 7 J J;unfold Cv;simp only[By,BQ];simp;omega
def rOk(r:A1):Bool:=inB r.size 1 60
def iq(r:A1):fg (r,())=I ((rOk r,()),()):=rfl
def iR(r:A1):dh (r,())=I ((rOk r,()),()):=rfl
def JI(lg:A1)(fo:Int)(r:A1):(A1×Int)×Bool:=
 if DH lg fo then(if rOk r&&U (lg.size+(Cv r).size<=2400) then((lg++Cv r,fo),Y) else((lg,fo),A0)) else((noB,0),A0)
def aEo{lg st:A1}{fo:Int}(b:Bool)(hl:lg.size<=1048576)(hs:st.size<=1048585):
  (if((!b)||(U<|2400<(w64<|(lg.size:Int)+(st.size:Int)))) then I (((lg,fo,()),A0,()),()) else(if U (lg.size+st.size<=4611686018427387904) then I (((lg++st,fo,()),Y,()),()) else G))=
   I ((((if b&&U (lg.size+st.size<=2400) then((lg++st,fo),Y) else((lg,fo),A0)).1.1,(if b&&U (lg.size+st.size<=2400) then((lg++st,fo),Y) else((lg,fo),A0)).1.2,()),(if b&&U (lg.size+st.size<=2400) then((lg++st,fo),Y) else((lg,fo),A0)).2,()),()):=by
 rw[AZ J J];cases b
 .rfl
 .by_cases h:lg.size+st.size<=2400
  .rw[A8 y7,A5<|AR J,A5 y7]
  .rw[A5 y7,A8 y7]
def wY{lg r:A1}{fo:Int}(hl:lg.size<=1048576)(hr:r.size<=1048576):
  RU ((lg,fo,()),r,())=I ((((JI lg fo r).1.1,(JI lg fo r).1.2,()),(JI lg fo r).2,()),()):=by
 unfold RU JI;simp only[VU hl,A6];obtain e|e:=tf (DH lg fo)
 .simp only[e,AB,A4,A2,iq,zg hr,A6,Dg,DX,Hq];exact aEo (rOk r) hl (by have:=X5 hr;omega)
 .simp only[e,AG,A4,A2]
def xE{lg r:A1}{fo:Int}(hl:lg.size<=1048576)(hr:r.size<=1048576):
  RW ((lg,fo,()),r,())=I ((((JI lg fo r).1.1,(JI lg fo r).1.2,()),(JI lg fo r).2,()),()):=by
 unfold RW JI;simp only[VM hl,A6];obtain e|e:=tf (DH lg fo)
 .simp only[e,AB,A4,A2,iR,zW hr,A6,Dg,DX,Hq];exact aEo (rOk r) hl (by have:=X5 hr;omega)
 .simp only[e,AG,A4,A2]
def Jq(lg:A1)(fo:Int):A1×Int:=if DH lg fo then(lg,(lg.size:Int)) else(noB,0)
def ah8{lg:A1}{fo:Int}(hl:lg.size<=1048576):bw ((lg,fo,()),())=I ((((Jq lg fo).1,(Jq lg fo).2,()),()),()):=by
 unfold bw Jq;simp only[VU hl,A6];obtain e|e:=tf (DH lg fo)<;>simp only[e,AB,AG,A4,A2]
def qg{lg:A1}{fo:Int}(hl:lg.size<=1048576):PD ((lg,fo,()),())=I ((((Jq lg fo).1,(Jq lg fo).2,()),()),()):=by
 unfold PD Jq;simp only[VM hl,A6];obtain e|e:=tf (DH lg fo)<;>simp only[e,AB,AG,A4,A2]
def Ry{lg:A1}{fo:Int}(h:DH lg fo=Y):lg.size<=2400/\0<=fo/\fo<=lg.size:=by
 unfold DH at h;simp only[AD]at h;have h1:=Bd h.1;have h2:=Aa.1 h.2.1;omega
def Ee(lg:A1)(fo keep:Int):Nat:=(fo+max 0 (min keep<|(lg.size:Int) - fo)).toNat
def Lr(lg:A1)(fo keep:Int):A1×Int:=
 if DH lg fo then((lg.extract 0<|Ee lg fo keep).extract 0 (D4<|lg.extract 0<|Ee lg fo keep).2,((D4<|lg.extract 0<|Ee lg fo keep).2:Int)) else(noB,0)
def avy{lg:A1}{fo keep:Int}(h0:0<=fo)(h1:fo<=lg.size)(h2:lg.size<=2400):
  w64 (fo+(if 0<(if w64 ((lg.size:Int) - fo)<keep then w64 ((lg.size:Int) - fo) else keep) then(if w64 ((lg.size:Int) - fo)<keep then w64 ((lg.size:Int) - fo) else keep) else 0))=(Ee lg fo keep:Int)/\Ee lg fo keep<=lg.size:=by
 rw[AZ (n:=(lg.size:Int) - fo) J J];unfold Ee;by_cases h3:(lg.size:Int) - fo<keep
 .rw[A5 h3];by_cases h4:(0:Int)<(lg.size:Int) - fo
  .rw[A5 h4,AZ J J];omega
  .rw[A8 h4,AZ J J];omega
 .rw[A8 h3];by_cases h4:(0:Int)<keep
  .rw[A5 h4,AZ J J];omega
  .rw[A8 h4,AZ J J];omega
def ajA{lg:A1}{fo keep:Int}(hl:lg.size<=1048576):cE ((lg,fo,()),keep,())=I ((((Lr lg fo keep).1,(Lr lg fo keep).2,()),()),()):=by
 unfold cE Lr;simp only[VU hl,A6];obtain e|e:=tf (DH lg fo)
 .have hr:=Ry e;obtain⟨c1,c2⟩:=avy (keep:=keep) hr.2.1 hr.2.2 hr.1;simp only[e,AB,A4,A2,c1,Bc];have hz:(lg.extract 0<|Ee lg fo keep).size=Ee lg fo keep:=by rw[G7 J];omega
  have hg:=Pe<|lg.extract 0<|Ee lg fo keep;rw[A5 y7,cD J];simp only[A6,Bc];rw[A5 y7]
 .simp only[e,AG,A4,A2]
def awM{s:A1}{a b:Nat}(h:b<=a)(ha:a<=s.size):s.extract 0 b=(s.extract 0 a).extract 0 b:=by
 apply Fw;rw[EA,EA,EA,JR,JR,Ik,Ik,Ys,QZ h]
def aiT{lg:A1}{fo keep:Int}(hl:lg.size<=1048576):cN ((lg,fo,()),keep,())=I ((((Lr lg fo keep).1,(Lr lg fo keep).2,()),()),()):=by
 unfold cN Lr;simp only[VM hl,A6];obtain e|e:=tf (DH lg fo)
 .have hr:=Ry e;simp only[e,AB,A4,A2];rw[AZ (n:=(lg.size:Int) - fo) J J];have hz:(lg.extract 0<|Ee lg fo keep).size=Ee lg fo keep:=by rw[G7 (by unfold Ee;omega)];omega
  have hg:=Pe<|lg.extract 0<|Ee lg fo keep;have fin:∀n:Int,n=(Ee lg fo keep:Int)->(if(U (0<=n)&&U (n<=(lg.size:Int))) then(LJ ((lg.extract (0)<|AK n),())).bind λr9=>
    (if(U (0<=r9.1.2.1)&&U (r9.1.2.1<=(lg.size:Int))) then I (((lg.extract (0)<|AK r9.1.2.1,r9.1.2),()),()) else G) else G)=
    I ((((lg.extract 0<|Ee lg fo keep).extract 0 (D4<|lg.extract 0<|Ee lg fo keep).2,((D4<|lg.extract 0<|Ee lg fo keep).2:Int),()),()),()):=by
   rintro n rfl;have hc:Ee lg fo keep<=lg.size:=by unfold Ee;omega
   rw[A5 y7,Bc,Ud J];simp only[A6,Bc];rw[A5 y7,awM (a:=Ee lg fo keep) J hc]
  obtain h3|h3:=tf (U<|(lg.size:Int) - fo<keep)<;>simp only[h3,A2,A4,Be]
  .have h3:=Bd h3;obtain h4|h4:=tf (U<|(0:Int)<(lg.size:Int) - fo)<;>simp only[h4,A2,A4,Be]
   .have h4:=Bd h4;rw[AZ (n:=fo+((lg.size:Int) - fo)) J J];exact fin _ (by unfold Ee;omega)
   .have h4:=LG h4;exact fin _ (by unfold Ee;omega)
  .have h3:=LG h3;obtain h4|h4:=tf (U<|0<keep)<;>simp only[h4,A2,A4,Be]
   .have h4:=Bd h4;rw[AZ (n:=fo+keep) J J];exact fin _ (by unfold Ee;omega)
   .have h4:=LG h4;exact fin _ (by unfold Ee;omega)
 .simp only[e,AG,A4,A2]
def Ff(rs:List A1):Bool:=rs.all rOk
def JD(lg:A1)(fo:Int)(rs:List A1):(A1×Int)×Bool:=
 if DH lg fo then(if Ff rs&&U ((D5 rs).size<=2400) then((D5 rs,((D5 rs).size:Int)),Y) else((lg,fo),A0)) else((noB,0),A0)
def aaf{r:A1}(h:rOk r=Y):1<=r.size/\r.size<=60:=by
 have:=Aa.1 h;omega
def aEQ(pre:List A1)(r:A1):B (cat<|pre++[r])=B (cat pre)++Cv r:=by
 apply Fw;rw[GI,L_B,L_B,KT,Hv,Jh,CJ]
abbrev zS:A1×Int×D:=(noB,0,())
def asw{sl:A1×Int×D}(post:List A1):∀(pre:List A1),(pre++post).length<=1048576->(cat pre).length<=69 * pre.length->
  (RA (sl,zS,B<|cat pre,pre++post,((pre++post).length:Int),(j8 pre:Int),())=I (.inl (sl,A0,()))/\(Ff post=A0\/2400<(cat<|pre++post).length))\/
  (RA (sl,zS,B<|cat pre,pre++post,((pre++post).length:Int),(j8 pre:Int),())=I (.inr (sl,zS,B<|cat<|pre++post,()))/\Ff post=Y):=by
 induction post with
 | nil=>
  intro pre _ _;refine N6 ⟨BF ?_,rfl⟩;unfold RE;simp only[CJ,show U ((j8 pre:Int)<(j8 pre:Int))=A0 from BE J,A4]
 | cons r post ih=>
  intro pre hl hc;have hlen:pre.length<(pre++r::post).length:=by simp
  have hw:=DZ hlen hl;have hb:(U<|(j8 pre:Int)<((pre++r::post).length:Int))=Y:=AR J;by_cases h:rOk r=Y/\(cat pre).length<=2400
  .have hz:=aaf h.1;have hs:=X5 (r:=r) J;have MA:RE (sl,zS,B<|cat pre,pre++r::post,((pre++r::post).length:Int),(j8 pre:Int),())=I (.inl (sl,zS,B<|cat<|pre++[r],(pre++[r])++post,(((pre++[r])++post).length:Int),((pre++[r]).length:Int),())):=by
    unfold RE;simp only[hb,A2,AU hlen,Mq,iq,A6,h.1,AB,Bk];rw[A8 (by rw[BQ];exact λg=>absurd (Bd g) J),zg (r:=r) J];simp only[A6];rw[A5<|AR (by rw[BQ];omega),hw,aEQ,@Au _ pre [r],← snoc];rfl
   have hc2:(cat<|pre++[r]).length<=69 * (pre++[r]).length:=by
    rw[KT,Hv,Jh,CJ,Au,Aw,Au,Im];omega
   have e:Ff (r::post)=Ff post:=by
    unfold Ff;rw[Om,h.1,AP]
   rw[e];rcases ih (pre++[r]) (by rw[← snoc];exact hl) hc2 with⟨h1,h2⟩|⟨h1,h2⟩
   .rw[← snoc]at h2;exact N7 ⟨As MA h1,h2⟩
   .refine N6 ⟨?_,h2⟩;rw[snoc];rw[← snoc]at MA ⊢;rw[snoc pre r post]at MA ⊢;exact As MA h1
  .refine N7 ⟨BF ?_, ?_⟩
   .unfold RE;simp only[hb,A2,AU hlen,Mq,iq,A6];rw[A5];obtain e|e:=tf (rOk r)
    .rw[e,AB,Bk];refine AR ?_;rw[BQ];have:¬(cat pre).length<=2400:=λg=>h ⟨e,g⟩;omega
    .rw[e];rfl
   .rcases tf (rOk r) with e|e
    .have:¬(cat pre).length<=2400:=λg=>h ⟨e,g⟩;refine N6 ?_;rw[KT,Au];omega
    .refine N7 ?_;unfold Ff;rw[Om,e,AM]
def arG{sl:A1×Int×D}(post:List A1):∀(pre:List A1),(pre++post).length<=1048576->(cat pre).length<=69 * pre.length->
  aU (pre++post,sl,zS,B<|cat pre,(j8 pre:Int),())=I (if Ff post then .inr (sl,zS,B<|cat<|pre++post,()) else .inl (sl,A0,())):=by
 induction post with
 | nil=>
  intro pre _ _;refine BF ?_;unfold RJ;simp only[CJ,show U ((j8 pre:Int)<(j8 pre:Int))=A0 from BE J,A4];rfl
 | cons r post ih=>
  intro pre hl hc;have hlen:pre.length<(pre++r::post).length:=by simp
  have hw:=DZ hlen hl;have hb:(U<|(j8 pre:Int)<((pre++r::post).length:Int))=Y:=AR J;obtain h|h:=tf (rOk r)
  .have hz:=aaf h;have hs:=X5 (r:=r) J;have MA:RJ (pre++r::post,sl,zS,B<|cat pre,(j8 pre:Int),())=I (.inl ((pre++[r])++post,sl,zS,B<|cat<|pre++[r],((pre++[r]).length:Int),())):=by
    unfold RJ;simp only[hb,A2,AU hlen,Mq,iR,A6,h,AB,A4];rw[zW (r:=r) J];simp only[A6];rw[A5<|AR (by rw[BQ];simp at hl;omega),hw,aEQ,@Au _ pre [r],← snoc];rfl
   have hc2:(cat<|pre++[r]).length<=69 * (pre++[r]).length:=by
    rw[KT,Hv,Jh,CJ,Au,Aw,Au,Im];omega
   have e:Ff (r::post)=Ff post:=by
    unfold Ff;rw[Om,h,AP]
   rw[e];have:=ih (pre++[r]) (by rw[← snoc];exact hl) hc2;rw[snoc pre r post];rw[snoc pre r post]at MA;exact As MA this
  .refine BF ?_;unfold RJ;simp only[hb,A2,AU hlen,Mq,iR,A6,h,AG];rw[A8 (by unfold Ff;rw[Om,h,AM];exact CQ)]
def kc{lg:A1}{fo:Int}(rs:List A1)(s:(((A1×Int×D)×Bool×D) ⊕ ((A1×Int×D)×(A1×Int×D)×A1×D)))
  (h:(s= .inl ((lg,fo,()),A0,())/\(Ff rs&&U ((D5 rs).size<=2400))=A0)\/(s= .inr ((lg,fo,()),zS,D5 rs,())/\Ff rs=Y)):
  AO (I s) (λy28=>I (y28,())) (λy28=>(if(U<|2400<(y28.2.2.1.size:Int)) then I ((y28.1,A0,()),()) else I (((y28.2.2.1,(y28.2.2.1.size:Int),()),Y,()),())))=
   I ((((if Ff rs&&U ((D5 rs).size<=2400) then((D5 rs,((D5 rs).size:Int)),Y) else((lg,fo),A0)).1.1,(if Ff rs&&U ((D5 rs).size<=2400) then((D5 rs,((D5 rs).size:Int)),Y) else((lg,fo),A0)).1.2,()),(if Ff rs&&U ((D5 rs).size<=2400) then((D5 rs,((D5 rs).size:Int)),Y) else((lg,fo),A0)).2,()),()):=by
 obtain⟨rfl,h⟩|⟨rfl,h⟩:=h
 .rw[h];rfl
 .simp only[AO,A6];by_cases h2:(D5 rs).size<=2400
  .rw[A8 y7,h,AR h2];rfl
  .rw[A5<|AR J,h,BE h2];rfl
def ug{lg:A1}{fo:Int}{rs:List A1}(hl:lg.size<=1048576)(hr:rs.length<=1048576):
  RR ((lg,fo,()),rs,())=I ((((JD lg fo rs).1.1,(JD lg fo rs).1.2,()),(JD lg fo rs).2,()),()):=by
 unfold RR JD;simp only[VU hl,A6];obtain e|e:=tf (DH lg fo)
 .simp only[e,AB,A4,A2];rcases asw (sl:=(lg,fo,())) rs [] hr (by simp[Jh]) with⟨h1,h2⟩|⟨h1,h2⟩
  .rw[show RA ((lg,fo,()),(noB,0,()),noB,rs,(j8 rs:Int),0,())=_ from h1];refine kc rs _<|N7 ⟨rfl, ?_⟩;obtain h2|h2:=h2
   .rw[h2];rfl
   .rw[BE,BZ];show ¬(B<|cat rs).size<=2400;rw[BQ];exact Nat.not_le.2 h2
  .rw[show RA ((lg,fo,()),(noB,0,()),noB,rs,(j8 rs:Int),0,())=_ from h1];exact kc rs _ (N6 ⟨rfl,h2⟩)
 .simp only[e,AG,A4,A2]
def vN{lg:A1}{fo:Int}{rs:List A1}(hl:lg.size<=1048576)(hr:rs.length<=1048576):
  RS ((lg,fo,()),rs,())=I ((((JD lg fo rs).1.1,(JD lg fo rs).1.2,()),(JD lg fo rs).2,()),()):=by
 unfold RS JD;simp only[VM hl,A6];obtain e|e:=tf (DH lg fo)
 .simp only[e,AB,A4,A2];have h1:=arG (sl:=(lg,fo,())) rs [] hr (by simp[Jh]);rw[show aU (rs,(lg,fo,()),(noB,0,()),noB,0,())=_ from h1];refine kc rs _ ?_;obtain h2|h2:=tf (Ff rs)
  .exact N6 ⟨A5 h2,h2⟩
  .exact N7 ⟨A8 (by rw[h2];exact CQ),by rw[h2];rfl⟩
 .simp only[e,AG,A4,A2]
def YP{β:Type}(f:A3->β){l:List A3}{i:Nat}(h:i<l.length):(l.take<|i+1).map f=(l.take i).map f++[f (nA l i)]:=by
 rw[MU h,Eg,DT<|Av h];rfl
def aEi{β:Type}(f:Mark->β){l:List Mark}{i:Nat}(h:i<l.length):(l.take<|i+1).map f=(l.take i).map f++[f (mA l i)]:=by
 rw[MU h,Eg,Fc<|Av h];rfl
def Fo{α:Type}{l m:List α}(hl:l.length<=1048576)(hm:m.length<=1048576):Ac (l.length+m.length)=Y:=BG J
def ZL{n:A3}(h:Ax n=Y):(wr n).size<=4000:=by have:=Qb h;omega
def Q5{n:A3}(h:Ax n=Y):n.tx.size<=1048576:=by
 have h2:=Qb h;by_cases hs:n.tx.size<=1048576
 .exact hs
 .exfalso;unfold Ax at h;simp only[AD]at h;have hx:Ky n.tx=Y:=by simp_all
  unfold Ky at hx;rw[AD]at hx;have:=Aa.1 hx.1;omega
def nw{n:A3}(h:Ax n=Y):(if Ax ⟨n.fr,n.nu,n.to,n.un,n.tx⟩ then wr ⟨n.fr,n.nu,n.to,n.un,n.tx⟩ else noB)=wr n:=by
 rw[show(⟨n.fr,n.nu,n.to,n.un,n.tx⟩:A3)=n from rfl,A5 h]
def H7{n:Int}(h0:0<=n)(h1:n<=999):(BW n).size<=3:=OA h0 3 J J
def ry{w:A1}{a b c:Int}(hw:w.size<=1048576)(ha:0<=a/\a<=999)(hb:0<=b/\b<=999)(hc:0<=c/\c<=999):PI (w,a,b,c,())=I ((CY w a b c,()),()):=by
 have h1:=H7 ha.1 ha.2;have h2:=H7 hb.1 hb.2;have h3:=H7 hc.1 hc.2;unfold PI;simp only[J8 (n:=a) J J,J8 (n:=b) J J,J8 (n:=c) J J,A6];rw[A5<|AR (by simp[BQ];omega),A5<|AR (by simp[By,BQ];omega),A5<|AR (by simp[By,BQ];omega),A5<|AR (by simp[By,BQ];omega),A5<|AR (by simp[By,BQ];omega),A5<|AR (by simp[By,BQ];omega)];rfl
def IS{i n:Nat}(h:i<n):U ((i:Int)<(n:Int))=Y:=AR J
def Gu(n:Nat):U ((n:Int)<(n:Int))=A0:=BE J
section
variable {k:AJ} (hf:Ek k)
include hf
def aqx(o:List A1)(ho:o.length<=100):
  au (tK k,o,k.marks,(j8 k.marks:Int),0,())=I (.inr (tK k,o++k.marks.map λm=>CY D3 m.mf m.mn m.mu,())):=by
 have ml:=hf.ml;refine Kw (congrArg _ ?_) (CS (λi=>(tK k,o++(k.marks.take i).map (λm=>CY D3 m.mf m.mn m.mu),k.marks,(j8 k.marks:Int),(i:Int),())) k.marks.length ?_ ?_)
 .simp
 .intro i hi;have hm:=OC<|SG hf.m hi;unfold ck;simp only[IS hi,A2,AU hi,FJ,ry (w:=D3) aE9 (J:0<=(mA k.marks i).mf/\(mA k.marks i).mf<=999) (J:0<=(mA k.marks i).mn/\(mA k.marks i).mn<=999) (J:0<=(mA k.marks i).mu/\(mA k.marks i).mu<=999),A6];rw[A5<|Fo y7 aE4,aEi _ hi,DZ hi J,C2]
 .unfold ck;simp only[Gu,A4,E5]
def aqw(o:List A1)(ho:o.length<=200):
  aq (tK k,o,k.held,(j8 k.held:Int),0,())=I (.inr (tK k,o++k.held.map Md,())):=by
 have hl:=hf.hl;refine Kw (congrArg _ ?_) (CS (λi=>(tK k,o++(k.held.take i).map Md,k.held,(j8 k.held:Int),(i:Int),())) k.held.length ?_ ?_)
 .simp
 .intro i hi;have hm:=Gs hf.h hi;have hz:=ZL hm;unfold cj;simp only[IS hi,A2,AU hi,Da,Ux<|Q5 hm,nw hm,A6];rw[A5<|AR (by rw[BQ];simp;omega),A5<|Fo y7 aE4,YP _ hi,DZ hi J,C2];rfl
 .unfold cj;simp only[Gu,A4,E5]
def aqv(o:List A1)(ho:o.length<=200):
  ap (o,k.inbox,(j8 k.inbox:Int),0,())=I (.inr (o++k.inbox.map MX,())):=by
 have il:=hf.il;refine Kw (congrArg _ ?_) (CS (λi=>(o++(k.inbox.take i).map MX,k.inbox,(j8 k.inbox:Int),(i:Int),())) k.inbox.length ?_ ?_)
 .simp
 .intro i hi;have hm:=Gs hf.i hi;have hz:=ZL hm;unfold ch;simp only[IS hi,A2,AU hi,Da,Ux<|Q5 hm,nw hm,A6];rw[A5<|AR (by rw[BQ];simp;omega),A5<|Fo y7 aE4,YP _ hi,DZ hi J,C2];rfl
 .unfold ch;simp only[Gu,A4,E5]
def aqB(o:List A1)(ho:o.length<=100):
  al (tK k,o,0,())=I (.inr (tK k,o++k.marks.map λm=>CY D3 m.mf m.mn m.mu,())):=by
 have ml:=hf.ml;refine Kw (congrArg _ ?_) (CS (λi=>(tK k,o++(k.marks.take i).map (λm=>CY D3 m.mf m.mn m.mu),(i:Int),())) k.marks.length ?_ ?_)
 .simp
 .intro i hi;have hm:=OC<|SG hf.m hi;have h1:=H7 (n:=(mA k.marks i).mf) J J;have h2:=H7 (n:=(mA k.marks i).mn) J J;have h3:=H7 (n:=(mA k.marks i).mu) J J;unfold cW;simp only[IS hi,A2,AU hi,FJ,Fm (n:=(mA k.marks i).mf) J J,Fm (n:=(mA k.marks i).mn) J J,Fm (n:=(mA k.marks i).mu) J J,A6];rw[A5<|AR (by simp[By,BQ];omega),A5<|AR (by simp[By,BQ];omega),A5<|AR (by simp[By,BQ];omega),A5<|AR (by simp[By,BQ];omega),A5<|AR (by simp[By,BQ];omega)];rw[A5<|Fo y7 aE4,aEi _ hi,DZ hi J,C2];rfl
 .unfold cW;simp only[Gu,A4,E5]
def aqA(o:List A1)(ho:o.length<=200):
  ak (tK k,o,0,())=I (.inr (tK k,o++k.held.map Md,())):=by
 have hl:=hf.hl;refine Kw (congrArg _ ?_) (CS (λi=>(tK k,o++(k.held.take i).map Md,(i:Int),())) k.held.length ?_ ?_)
 .simp
 .intro i hi;have hm:=Gs hf.h hi;have hz:=ZL hm;unfold cV;simp only[IS hi,A2,AU hi,Da,Ue<|Q5 hm,nw hm,A6];rw[A5<|AR (by rw[BQ];simp;omega),A5<|Fo y7 aE4,YP _ hi,DZ hi J,C2];rfl
 .unfold cV;simp only[Gu,A4,E5]
def aq9(o:List A1)(ho:o.length<=200):
  aj (tK k,o,0,())=I (.inr (o++k.inbox.map MX,())):=by
 have il:=hf.il;refine Kw (congrArg _ ?_) (CS (λi=>(tK k,o++(k.inbox.take i).map MX,(i:Int),())) k.inbox.length ?_ ?_)
 .simp
 .intro i hi;have hm:=Gs hf.i hi;have hz:=ZL hm;unfold cU;simp only[IS hi,A2,AU hi,Da,Ue<|Q5 hm,nw hm,A6];rw[A5<|AR (by rw[BQ];simp;omega),A5<|Fo y7 aE4,YP _ hi,DZ hi J,C2];rfl
 .unfold cU;simp only[Gu,A4,E5]
def Pz:DP k.held k.marks k.inbox:=by
 have hl:=hf.hl;have ml:=hf.ml;have il:=hf.il;refine⟨J,λx hx=> ?_,J,J,λx hx=> ?_⟩
 .obtain⟨i,hi,rfl⟩:=D0 hx;have:=Gs hf.h hi;rw[DT<|Av hi]at this;exact Q5 this
 .obtain⟨i,hi,rfl⟩:=D0 hx;have:=Gs hf.i hi;rw[DT<|Av hi]at this;exact Q5 this
def anv:(AO (au (tK k,(if 0<k.ti then [FX k.ti] else [])++(if 1<k.nx then [KZ k.nx] else []),k.marks,(j8 k.marks:Int),0,()))
  (λ_=>G)
  (λy34=>(AO (aq (y34.1,y34.2.1,y34.1.2.2.2.1,(j8 y34.1.2.2.2.1:Int),0,()))
  (λ_=>G)
  (λy72=>(AO (ap (y72.2.1,y72.1.2.2.2.2.2.1,(j8 y72.1.2.2.2.2.2.1:Int),0,()))
  (λ_=>G)
  (λoh=>(R9 oh).bind λoy=>
  I (oy.1,())))))))=I ((C9 k,()),()):=by
 have hl:=hf.hl;have ml:=hf.ml;have il:=hf.il;have ho:((if 0<k.ti then [FX k.ti] else [])++(if 1<k.nx then [KZ k.nx] else [])).length<=2:=by
  rw[Au];split<;>split<;>simp
 rw[aqx hf _ J];simp only[AO,A6];rw[aqw hf _ (by rw[Au,DV];omega)];simp only[A6];rw[aqv hf _ (by rw[Au,Au,DV,DV];omega)];simp only[A6];rw[pT (by rw[Au,Au,Au,DV,DV,DV];omega)];rfl
def anL:(AO (al (tK k,(if 0<k.ti then [FX k.ti] else [])++(if 1<k.nx then [KZ k.nx] else []),0,()))
  (λ_=>G)
  (λy46=>(AO (ak (y46.1,y46.2.1,0,()))
  (λ_=>G)
  (λy54=>(AO (aj (y54.1,y54.2.1,0,()))
  (λ_=>G)
  (λy62=>I (y62,())))))))=I ((C9 k,()),()):=by
 have hl:=hf.hl;have ml:=hf.ml;have il:=hf.il;have ho:((if 0<k.ti then [FX k.ti] else [])++(if 1<k.nx then [KZ k.nx] else [])).length<=2:=by
  rw[Au];split<;>split<;>simp
 rw[aqB hf _ J];simp only[AO,A6];rw[aqA hf _ (by rw[Au,DV];omega)];simp only[A6];rw[aq9 hf _ (by rw[Au,Au,DV,DV];omega)];rfl
end
def wb{k:AJ}(sm:DP k.held k.marks k.inbox):V4 (tK k,())=I ((if At k then C9 k else [],()),()):=by
 unfold V4;rw[iE sm];simp only[A6];obtain e|e:=tf (At k)
 .have hf:=C3 e;have t0:=hf.t0;have t1:=hf.t1;have n0:=hf.n0;have n1:=hf.n1;have e2:At ⟨k.id,k.ti,k.nx,k.held,k.marks,k.inbox⟩=Y:=e;have d1:=H7 t0 J;have d2:=H7 (n:=k.nx) J J;have fin:=anv hf;simp only[e,e2,AB,A4,A2,J8 (n:=k.ti) J J,J8 (n:=k.nx) J J,A6];have h5:U ((B [116,105,109,101,32]).size+(BW k.ti).size<=4611686018427387904)=Y:=AR (by rw[BQ];simp;omega);have h6:U ((B [110,101,120,116,32]).size+(BW k.nx).size<=4611686018427387904)=Y:=AR (by rw[BQ];simp;omega);have q1:∀a:A1,Ac ([a]:List A1).length=Y:=λ_=>rfl;have q2:∀a b:A1,Ac (([a]:List A1).length+([b]:List A1).length)=Y:=λ_ _=>rfl;have q3:∀b:A1,Ac (([]:List A1).length+([b]:List A1).length)=Y:=λ_=>rfl;have q4:∀a b:A1,Ac ((([]:List A1)++[a]).length+([b]:List A1).length)=Y:=λ_ _=>rfl;by_cases h1:0<k.ti<;>by_cases h2:1<k.nx<;>simp only[h1,h2,AT,Af,A2,A4,if_false]at fin ⊢ <;>simp only[Be,h2,AT,Af,A2,A4,h5,h6,q1,q2,q3,q4,J8 (n:=k.nx) J J,Fm (n:=k.nx) J J,A6]<;>exact fin
 .have e2:At ⟨k.id,k.ti,k.nx,k.held,k.marks,k.inbox⟩=A0:=e;simp only[e,e2,AG,A4,A2]
def xJ{k:AJ}(sm:DP k.held k.marks k.inbox):VC (tK k,())=I ((if At k then C9 k else [],()),()):=by
 unfold VC;rw[iM sm];simp only[A6];obtain e|e:=tf (At k)
 .have hf:=C3 e;have t0:=hf.t0;have t1:=hf.t1;have n0:=hf.n0;have n1:=hf.n1;have e2:At ⟨k.id,k.ti,k.nx,k.held,k.marks,k.inbox⟩=Y:=e;have d1:=H7 t0 J;have d2:=H7 (n:=k.nx) J J;have fin:=anL hf;simp only[e,e2,AB,A4,A2,Fm (n:=k.ti) J J,Fm (n:=k.nx) J J,A6];have h5:U ((B [116,105,109,101,32]).size+(BW k.ti).size<=4611686018427387904)=Y:=AR (by rw[BQ];simp;omega);have h6:U ((B [110,101,120,116,32]).size+(BW k.nx).size<=4611686018427387904)=Y:=AR (by rw[BQ];simp;omega);have q1:∀a:A1,Ac ([a]:List A1).length=Y:=λ_=>rfl;have q2:∀a b:A1,Ac (([a]:List A1).length+([b]:List A1).length)=Y:=λ_ _=>rfl;have q3:∀b:A1,Ac (([]:List A1).length+([b]:List A1).length)=Y:=λ_=>rfl;have q4:∀a b:A1,Ac ((([]:List A1)++[a]).length+([b]:List A1).length)=Y:=λ_ _=>rfl;by_cases h1:0<k.ti<;>by_cases h2:1<k.nx<;>simp only[h1,h2,AT,Af,A2,A4,if_false]at fin ⊢ <;>simp only[Be,h2,AT,Af,A2,A4,h5,h6,q1,q2,q3,q4,J8 (n:=k.nx) J J,Fm (n:=k.nx) J J,A6]<;>exact fin
 .have e2:At ⟨k.id,k.ti,k.nx,k.held,k.marks,k.inbox⟩=A0:=e;simp only[e,e2,AG,A4,A2]
end Go.VS
namespace Go.VS
open Go
def aah{l:List AN}{m:AN}(h:m∈l):∃i,i<l.length/\xA l i=m:=by
 obtain⟨i,hi,rfl⟩:=Yd.1 h;exact⟨i,hi,by rw[xA,B9,Av hi];rfl⟩
def OU{l:List AE}{m:AE}(h:m∈l):∃i,i<l.length/\hA l i=m:=by
 obtain⟨i,hi,rfl⟩:=Yd.1 h;exact⟨i,hi,by rw[hA,B9,Av hi];rfl⟩
def awC{h:AE}(ok:Fs h=Y):OK h:=by
 unfold Fs at ok;simp only[AD]at ok;have h1:=Bd ok.2.2.2.2.2.1;have h2:=Cp.1 ok.2.2.2.2.2.2;refine⟨J,λm hm=> ?_⟩;obtain⟨i,hi,rfl⟩:=aah hm;have:=h2 i hi;unfold I6 at this;simp only[AD]at this;have:=Bd this.1.2;show(xA h.got i).da.size<=1048576;omega
def D2{k:A7}(h:Ae k=Y):FF k:=by
 have hf:=El h;have hr:=Ry hf.sh;have hl:=hf.hl;refine⟨J,J,λx hx=> ?_⟩;obtain⟨i,hi,rfl⟩:=OU hx;have:=hf.hv i hi;unfold Fg at this;rw[AD]at this;exact awC this.1
def agV{l:List AE}(hl:l.length<=1048576):qL (l,())=I ((l,()),()):=Lg hl
def afB{l:List AN}(hl:l.length<=1048576):pj (l,())=I ((l,()),()):=Lg hl
def Lp(l:List AE)(i:Nat): @rd AE aE6 l (i:Int)=hA l i:=rfl
def I5{l:List AE}{i:Nat}(h:i<l.length):hA l i=l[i]:=by
 rw[hA,B9,Av h];rfl
def KP{k:A7}(sm:FF k):Hi (tKp k,())=I ((tKp k,()),()):=by
 obtain⟨id,up,lg,fo,hv⟩:=k;obtain⟨sl,hl,hs⟩:=sm;simp only at sl hl hs;unfold Hi;simp only[agV hl,A6];have h:pJ ((0,A0,noB,0,[],()),(id,up,lg,fo,hv,()),(j8 hv:Int),0,())=I (.inr ((0,A0,noB,0,[],()),(id,up,lg,fo,hv,()),())):=by
  refine CS (λi=>((0,A0,noB,0,[],()),(id,up,lg,fo,hv,()),(j8 hv:Int),(i:Int),())) hv.length ?_ ?_
  .intro i hi;unfold ba;have hg:(hA hv i).got.length<=1048576:=by rw[I5 hi];exact(hs _<|Cd hi).1
   simp only[IS hi,A2,AU hi,Lp,afB hg,A6,Bc];rw[DZ hi hl,show(⟨(hA hv i).fr,(hA hv i).nu,(hA hv i).to,(hA hv i).un,(hA hv i).sz,(hA hv i).got⟩:AE)=hA hv i from rfl,I5 hi,List.set_getElem_self]
  .unfold ba;simp only[Gu,A4]
 rw[h];rfl
def MJ{k:A7}(sm:FF k):Gq (tKp k,())=I ((tKp k,()),()):=by
 obtain⟨id,up,lg,fo,hv⟩:=k;obtain⟨sl,hl,hs⟩:=sm;simp only at sl hl hs;unfold Gq;have h:qA ((id,up,lg,fo,hv,()),(0,A0,noB,0,[],()),[],0,())=I (.inr ((id,up,lg,fo,hv,()),(0,A0,noB,0,[],()),hv,())):=by
  refine CS (λi=>((id,up,lg,fo,hv,()),(0,A0,noB,0,[],()),hv.take i,(i:Int),())) hv.length ?_ ?_
  .intro i hi;unfold dV;have hg:(hA hv i).got.length<=1048576:=by rw[I5 hi];exact(hs _<|Cd hi).1
   have e1:Ac (([]:List AN).length+(hA hv i).got.length)=Y:=Fo aE4 hg;have e2:∀h:AE,Ac ((hv.take i).length+([h]:List AE).length)=Y:=λh=>Fo y7 aE4;simp only[IS hi,A2,AU hi,Lp,EU,e1,e2];rw[DZ hi hl,MU hi,← I5 hi]
  .unfold dV;simp only[Gu,A4,E5]
 rw[h];rfl
structure Hl (k:A7) (st:AJ):Prop where
 sh:DH k.log k.fo=Y
 st:DS k.id k.log=I st
def DB.LA{k:A7}{st:AJ}(h:DB k st):Hl k st:=⟨(El h.ok).sh,h.st⟩
def Hl.kok{k:A7}{st:AJ}(h:Hl k st):At st=Y:=SL h.st
def Hl.sz{k:A7}{st:AJ}(h:Hl k st):k.log.size<=1048576:=by have:=Ry h.sh;omega
def Hl.stT{k:A7}{st:AJ}(h:Hl k st):Go.VS.stT k=st:=by
 unfold Go.VS.stT;rw[h.st];rfl
def Pn{k:AJ}(hk:At k=Y):(D5<|C9 k).size<=800:=by
 have:=(W9 hk).2;unfold D5;rw[BQ];exact this
def XY{k:AJ}(hk:At k=Y):(C9 k).length<=1048576:=by
 have hf:=C3 hk;have h1:=hf.hl;have h2:=hf.ml;have h3:=hf.il;unfold C9;simp only[Au,DV];have a2:(if 0<k.ti then [FX k.ti] else []).length<=1:=by split<;>simp
 have b2:(if 1<k.nx then [KZ k.nx] else []).length<=1:=by split<;>simp
 omega
def Sp{k:A7}{st o:AJ}{r:A1}(h:Hl k st)(hr:BJ st r=I o):
  DH (Cw st k.log k.fo r).1 (Cw st k.log k.fo r).2=Y/\
  (JI k.log k.fo r=(Cw st k.log k.fo r,Y)\/
   (JI k.log k.fo r=((k.log,k.fo),A0)/\JD k.log k.fo (C9 st)=((D5<|C9 st,((D5<|C9 st).size:Int)),Y)/\
    JI (D5<|C9 st) ((D5<|C9 st).size:Int) r=(Cw st k.log k.fo r,Y))):=by
 have hz:=lA h.kok hr;have hrk:rOk r=Y:=Aa.2 J;have hrs:=W9 h.kok;have hps:=Pn h.kok;have hpo:=(Q4 h.kok).oA;have hst:=MV hz.2;obtain⟨rs,ts,hl⟩:=abN h.sh;obtain⟨rs',ts',hl',_⟩:=aaW (id:=k.id) (k:=st) hl (by rw[← hl.state];exact h.st) hr;refine⟨hl'.oA, ?_⟩;unfold Cw JI;rw[A5 h.sh,hrk,AP];by_cases hc:k.log.size+(Cv r).size<=2400
 .rw[A5 hc,A5<|AR hc];exact .inl rfl
 .rw[A8 hc,A8 (by rw[BE hc];exact CQ)];refine .inr ⟨rfl, ?_, ?_⟩
  .unfold JD;rw[A5 h.sh,A5];rw[AD];refine⟨?_,AR J⟩;unfold Ff;rw[DK];exact λx hx=>by
    have:=hrs.1 x hx;exact Aa.2 J
  .rw[A5 hpo,AP,A5<|AR J]
def wrR(k:A7)(r:A1)(f:Bool):A7×Bool:=
 match BJ (stT k) r with
 | none=>(k,A0)
 | some _=>(if f then foM (wrM k r) else wrM k r,Y)
def aCj{k:AJ}{r:A1}:(FL k r).2=(BJ k r).isSome:=by
 unfold BJ;obtain e|e:=tf (FL k r).2<;>rw[e]<;>rfl
def an4{k:AJ}(hk:At k=Y){r:A1}(hr:r.size<=1048576):Rp (tK k,r,())=I ((tK (FL k r).1,(FL k r).2,()),()):=zY (Pz<|C3 hk) hr
def ao7{k:AJ}(hk:At k=Y){r:A1}(hr:r.size<=1048576):Rv (tK k,r,())=I ((tK (FL k r).1,(FL k r).2,()),()):=zo (Pz<|C3 hk) hr
def ax3{k:A7}{st o:AJ}{r:A1}(h:Hl k st)(hr:BJ st r=I o):Jq (Cw st k.log k.fo r).1 (Cw st k.log k.fo r).2=((Cw st k.log k.fo r).1,((Cw st k.log k.fo r).1.size:Int)):=by
 unfold Jq;rw[A5 (Sp h hr).1]
def V7{k:A7}{st:AJ}(h:Hl k st){r:A1}(hr:r.size<=1048576)(f:Bool):KN (tKp k,r,f,())=I ((tKp (wrR k r f).1,(wrR k r f).2,()),()):=by
 have hs:=h.sz;have hk:=h.kok;have hsm:=Pz<|C3 hk;have hrl:=XY hk;have hpz:=Pn hk;unfold KN wrR;rw[h.stT];rw[show G5 (tKp k,())=I ((tK<|(DS k.id k.log).getD zK,(DS k.id k.log).isSome,()),()) from jJ hs];rw[h.st];simp only[A6,DX,an4 hk hr,aCj];cases hc:BJ st r with
 | none=>rfl
 | some o=>
  have hL:=ax3 h hc;have hwr:wrM k r=⟨k.id,k.up,(Cw st k.log k.fo r).1,(Cw st k.log k.fo r).2,k.AH⟩:=by unfold wrM;rw[h.stT]
  have hsz:(Cw st k.log k.fo r).1.size<=1048576:=by have:=Ry (Sp h hc).1;omega
  have hF:=qg (lg:=(Cw st k.log k.fo r).1) (fo:=(Cw st k.log k.fo r).2) hsz;rw[hL]at hF;simp only[Dg,AB,A4,xE hs hr,A6];have fin:BT (X:=Bool×(Int×Bool×A1×Int×List AE×D)×(Int×Bool×A1×Int×List AE×D)×(A1×Int×D)×Bool×D) (λj7=>
    (if(!j7.2.2.2.2.1) then
    I ((j7.2.1,A0,()),())
    else
    (if j7.1 then
    (PD (j7.2.2.2.1,())).bind λr12=>
    I (((j7.2.1.1,j7.2.1.2.1,r12.1.1.1,r12.1.1.2.1,j7.2.1.2.2.2.2),Y,()),())
    else
    I (((j7.2.1.1,j7.2.1.2.1,j7.2.2.2.1.1,j7.2.2.2.1.2.1,j7.2.1.2.2.2.2),Y,()),())))) (I<|.inr (f,tKp k,(0,A0,noB,0,[],()),((Cw st k.log k.fo r).1,(Cw st k.log k.fo r).2,()),Y,()))=
    I ((tKp<|if f then foM (wrM k r) else wrM k r,Y,()),()):=by
   rw[Be,hwr];cases f
   .rfl
   .simp only[AB,A4,A2,hF,A6];rfl
  rcases(Sp h hc).2 with ha|⟨ha,hb,hd⟩
  .rw[ha];simp only[AB,A4];exact fin
  .rw[ha];simp only[AG,A2,xJ hsm,hk,A6];rw[show RS ((k.log,k.fo,()),C9 st,())=_ from vN hs hrl,hb];simp only[A6];rw[show RW ((D5<|C9 st,((D5<|C9 st).size:Int),()),r,())=_ from xE J hr,hd];simp only[A6];exact fin
def WO{k:A7}{st:AJ}(h:Hl k st){r:A1}(hr:r.size<=1048576):Ns (tKp k,r,())=I ((tKp (wrR k r A0).1,(wrR k r A0).2,()),()):=by
 have hs:=h.sz;have hk:=h.kok;have hsm:=Pz<|C3 hk;have hrl:=XY hk;have hpz:=Pn hk;unfold Ns wrR;rw[h.stT];simp only[VQ hs,h.st,A6,DX,ao7 hk hr,aCj];cases hc:BJ st r with
 | none=>rfl
 | some o=>
  have hwr:wrM k r=⟨k.id,k.up,(Cw st k.log k.fo r).1,(Cw st k.log k.fo r).2,k.AH⟩:=by unfold wrM;rw[h.stT]
  simp only[Dg,AB,A4,wY hs hr,A6];rcases(Sp h hc).2 with ha|⟨ha,hb,hd⟩
  .rw[ha];simp only[AB,A4,Be,hwr]
  .rw[ha];simp only[AG,A2,wb hsm,hk,A6];rw[show RR ((k.log,k.fo,()),C9 st,())=_ from ug hs hrl,hb];simp only[A6,AB,A4];rw[show RU ((D5<|C9 st,((D5<|C9 st).size:Int),()),r,())=_ from wY J hr,hd];simp only[A6,Be,AB,A4,hwr]
def fR{k:A7}(h:DH k.log k.fo=Y):Nn (tKp k,())=I ((tKp<|foM k,()),()):=by
 have hs:k.log.size<=1048576:=by have:=Ry h;omega
 unfold Nn;simp only[ah8 hs,A6];unfold Jq;rw[A5 h];rfl
def aaj{k:A7}{st o:AJ}{r:A1}(h:Hl k st)(hr:BJ st r=I o):DH (wrM k r).log (wrM k r).fo=Y:=by
 have:=(Sp h hr).1;unfold wrM;rw[h.stT];exact this
def eO{k:A7}{st:AJ}(h:DB k st){r:A1}(hr:r.size<=1048576):Nd (tKp k,r,())=I ((tKp (wrR k r Y).1,(wrR k r Y).2,()),()):=by
 have hl:=h.LA;unfold Nd;simp only[WO hl hr,A6];unfold wrR;rw[hl.stT];cases hc:BJ st r with
 | none=>
  simp only[AG,A2,KP<|D2 h.ok,A6]
 | some o=>
  simp only[AB,A4,A2];rw[fR<|aaj hl hc];simp only[A6];have hsm:FF (foM<|wrM k r):=D2 (QG<|Q9 h hc).ok;rw[show Hi (tKp<|foM<|wrM k r,())=_ from KP hsm];rfl
abbrev zKp:A7:=⟨0,A0,noB,0,[]⟩
abbrev zN:A3:=⟨0,0,0,0,noB⟩
abbrev tN(n:A3):Int×Int×Int×Int×A1×D:=(n.fr,n.nu,n.to,n.un,n.tx,())
def Pt{k:A7}(h:Ae k=Y):k.log.size<=1048576:=(D2 h).1
def Nu{k:A7}(h:Ae k=Y):G5 (tKp k,())=I ((tK<|stT k,Y,()),()):=by
 have:=jJ (id:=k.id) (fo:=k.fo) (up:=k.up) (hv:=k.AH)<|Pt h;rw[(El h).st]at this;exact this
def LL{k:A7}(h:Ae k=Y):Gk (tKp k,())=I ((tK<|stT k,()),()):=by
 unfold Gk;rw[Jb<|D2 h];simp only[A6,h,AB,A4];rw[show LV (k.id,k.log,())=_ from VQ<|Pt h,(El h).st];rfl
def ZD{w:A1}{n:A3}(hw:w.size<=10)(hn:Ax n=Y):(w++wr n).size<=1048576:=by
 have:=Qb hn;rw[By];omega
def FM(k:A7):A7×Bool:=if k.up then wrR k (FX<|(stT k).ti+1) Y else(k,A0)
def arj{st:AJ}(hk:At st=Y)(h:999<=st.ti):BJ st (FX<|st.ti+1)=G:=by
 have hf:=C3 hk;have h1:=hf.t1;cases hc:BJ st (FX<|st.ti+1) with
 | none=>rfl
 | some o=>
  exfalso;obtain⟨a,b⟩:=(Ht hk).1 hc;rw[Hx jb<|XL _]at a;have c:=jR (k:=st) (t:=st.ti+1) (by have:=hf.t0;omega) J J;rw[show B [116,105,109,101]=E0 from rfl,c]at a;injection a with a;have:=(C3 b).t1;rw[← a]at this;simp only at this;omega
def aB2{t:Int}(h0:0<=t)(h1:t<=1000):(FX t).size<=100:=by
 unfold FX;have:=OA h0 4 J J;rw[By,BQ];simp;omega
def agj{k:A7}(h:Ae k=Y):UX (tKp k,())=I ((tKp (FM k).1,(FM k).2,()),()):=by
 have hk:=C8 h;have hf:=C3 hk.kok;have t0:=hf.t0;have t1:=hf.t1;have hz:=aB2 (t:=(stT k).ti+1) J J;have hd:=OA (n:=(stT k).ti+1) J 4 J J;unfold UX FM;rw[LU<|D2 h];simp only[A6,h,AB,A4,Nu h,MJ<|D2 h];obtain e|e:=tf k.up
 .simp only[e,AB,Bk,A2];rw[AZ J J,Fm J J];simp only[A6];by_cases hc:999<=(stT k).ti
  .rw[A5<|AR hc];unfold wrR;rw[arj hk.kok hc]
  .rw[A8 (by rw[BE hc];exact CQ),A5<|AR (by rw[BQ];simp;omega)];rw[show KN (tKp k,B [116,105,109,101,32]++BW ((stT k).ti+1),Y,())=_ from V7 hk.LA (r:=FX<|(stT k).ti+1) J Y];rfl
 .simp only[e,AG,Bt,A2,A4]
def ahB{k:A7}(h:Ae k=Y):Uk (tKp k,())=I ((tKp (FM k).1,(FM k).2,()),()):=by
 have hk:=C8 h;have hf:=C3 hk.kok;have t0:=hf.t0;have t1:=hf.t1;have hz:=aB2 (t:=(stT k).ti+1) J J;have hd:=OA (n:=(stT k).ti+1) J 4 J J;unfold Uk FM;rw[Jb<|D2 h];simp only[A6,h,AB,A4,LL h,KP<|D2 h];obtain e|e:=tf k.up
 .simp only[e,AB,A4,A2];rw[AZ J J,J8 J J];simp only[A6];rw[A5<|AR (by rw[BQ];simp;omega)];rw[show Nd (tKp k,B [116,105,109,101,32]++BW ((stT k).ti+1),())=_ from eO hk (r:=FX<|(stT k).ti+1) J];rfl
 .simp only[e,AG,A2,A4]
def Kd(n:A3):A1:=B [111,119,110,32]++wr n
def Dq(k:A7)(tt un:Int)(tx:A1):A7×Int:=
 if k.up&&Ax ⟨k.id,(stT k).nx,tt,un,tx⟩ then
  ((wrR k (Kd ⟨k.id,(stT k).nx,tt,un,tx⟩) Y).1,if(wrR k (Kd ⟨k.id,(stT k).nx,tt,un,tx⟩) Y).2 then(stT k).nx else 0)
 else(k,0)
def nI{n:A3}:wr n≠noB:=by
 intro h;have h1:(wr n).size=0:=by rw[h];rfl
 unfold wr at h1;simp only[By,BQ,Bj,CO]at h1;omega
def aAz:DC (B [])=G:=by
 unfold DC;split
 .rename_i h;obtain⟨n,_,h⟩:=h;exact absurd h nI
 .rfl
def aEA:CU [111,119,110]:=by unfold CU;decide
def jc:CU [116,97,107,101]:=by unfold CU;decide
def aBF{st:AJ}{w:List UInt8}(hk:At st=Y)(hw:CU w)(h:B w=Dd\/B w=EM):BJ st (B (w++[32])++noB)=G:=by
 cases hc:BJ st (B (w++[32])++noB) with
 | none=>rfl
 | some o=>
  exfalso;obtain⟨a,_⟩:=(Ht hk).1 hc;rw[Hx (w:=w) (r:=[]) hw (by rw[GI,L_B];simp[L,noB])]at a;have h2:∀v,v=Dd\/v=EM->BX st v (B [])=G:=by
   rintro v (rfl|rfl)
   .unfold BX;rw[A8 aE9,A5 aE9,aAz]
   .unfold BX;rw[A8 aE9,A5 aE9,aAz]
  rw[h2 _ h]at a;cases a
def aDS{k:A7}{r:A1}{f:Bool}(h:BJ (stT k) r=G):wrR k r f=(k,A0):=by
 unfold wrR;rw[h]
def Q0{k:A7}{r:A1}{f:Bool}(h:(wrR k r f).2=A0):(wrR k r f).1=k:=by
 unfold wrR at h ⊢;split at h
 .rfl
 .cases h
def aiW{k:A7}(h:Ae k=Y)(tt un:Int){tx:A1}(ht:tx.size<=1048576):Uf (tKp k,tt,un,tx,())=I ((tKp (Dq k tt un tx).1,(Dq k tt un tx).2,()),()):=by
 have hk:=C8 h;unfold Uf Dq;rw[LU<|D2 h];simp only[A6,h,AB,A4,Nu h,MJ<|D2 h,Ue ht];obtain e|e:=tf k.up
 .rcases tf (Ax ⟨k.id,(stT k).nx,tt,un,tx⟩) with e2|e2
  .have hz:=ZD (w:=B [111,119,110,32]) (by rw[BQ];decide) e2;simp only[e,e2,AB,Bk,EW,A2];rw[A8 (by rw[BE nI];exact CQ),A5<|AR (by rw[By]at hz;omega)];rw[show KN (tKp k,B [111,119,110,32]++wr ⟨k.id,(stT k).nx,tt,un,tx⟩,Y,())=_ from V7 hk.LA (r:=Kd ⟨k.id,(stT k).nx,tt,un,tx⟩) hz Y];simp only[A6];obtain e3|e3:=tf (wrR k (Kd ⟨k.id,(stT k).nx,tt,un,tx⟩) Y).2
   .simp only[e3,AB,A4,A2]
   .simp only[e3,AG,A4,A2,Q0 e3]
  .simp only[e,e2,AB,Bk,BZ,A4,AT,A2]
 .simp only[e,AG,Bt,AM,A2,A4]
def ajE{k:A7}(h:Ae k=Y)(tt un:Int){tx:A1}(ht:tx.size<=1048576):Uy (tKp k,tt,un,tx,())=I ((tKp (Dq k tt un tx).1,(Dq k tt un tx).2,()),()):=by
 have hk:=C8 h;unfold Uy Dq;rw[Jb<|D2 h];simp only[A6,h,AB,A4,LL h,KP<|D2 h,Ux ht];obtain e|e:=tf k.up
 .rcases tf (Ax ⟨k.id,(stT k).nx,tt,un,tx⟩) with e2|e2
  .have hz:=ZD (w:=B [111,119,110,32]) (by rw[BQ];decide) e2;simp only[e,e2,AB,A4,EW,A2];rw[A5<|AR (by rw[By]at hz;omega)];rw[show Nd (tKp k,B [111,119,110,32]++wr ⟨k.id,(stT k).nx,tt,un,tx⟩,())=_ from eO hk (r:=Kd ⟨k.id,(stT k).nx,tt,un,tx⟩) hz];simp only[A6];obtain e3|e3:=tf (wrR k (Kd ⟨k.id,(stT k).nx,tt,un,tx⟩) Y).2
   .simp only[e3,AB,A4,A2]
   .simp only[e3,AG,A4,A2]
  .simp only[e,e2,AB,A4,BZ];have hb:BJ (stT k) (B [111,119,110,32]++noB)=G:=aBF hk.kok aEA<|.inl rfl;have hz0:(B [111,119,110,32]++noB).size<=1048576:=by rw[By,BQ];show 4+0<=1048576;omega
   have hl:=eO hk (r:=B [111,119,110,32]++noB) hz0;rw[aDS hb]at hl;rw[A5<|AR (show(B [111,119,110,32]).size+noB.size<=4611686018427387904 by rw[BQ];show 4+0<=4611686018427387904;omega),hl];rfl
 .simp only[e,AG,AM,A2,A4]
def DU(k:A7)(fr nu:Int):A7×A3×Bool:=
 if k.up&& !decide (AX (stT k).inbox fr nu<0) then
  ((wrR k (CY CH fr nu (nA (stT k).inbox (AX (stT k).inbox fr nu).toNat).un) Y).1,
   (if(wrR k (CY CH fr nu (nA (stT k).inbox (AX (stT k).inbox fr nu).toNat).un) Y).2 then nA (stT k).inbox (AX (stT k).inbox fr nu).toNat else zN),
   (wrR k (CY CH fr nu (nA (stT k).inbox (AX (stT k).inbox fr nu).toNat).un) Y).2)
 else(k,zN,A0)
def Qe(l:List A3)(i:Int): @rd A3 aE3 l i=nA l i.toNat:=rfl
def S4{n:A3}(h:Ax n=Y):(0<=n.fr/\n.fr<=999)/\(0<=n.nu/\n.nu<=999)/\(0<=n.un/\n.un<=999)/\isN n.fr=Y/\isN n.to=Y/\inB n.nu 1 99=Y/\inB n.un 1 999=Y/\n.tx.size<=24/\1<=n.tx.size:=by
 unfold Ax at h;simp only[AD]at h;obtain⟨a,b,c,d,e⟩:=h;have a1:=Aa.1 a;have c1:=Aa.1 c;have d1:=Aa.1 d;unfold Ky at e;rw[AD]at e;have e1:=Aa.1 e.1;exact⟨J,J,J,a,b,c,d,J,J⟩
def Wp{w:A1}{a b c:Int}(hw:w.size<=10)(ha:0<=a/\a<=999)(hb:0<=b/\b<=999)(hc:0<=c/\c<=999):(CY w a b c).size<=100:=by
 have h1:=H7 ha.1 ha.2;have h2:=H7 hb.1 hb.2;have h3:=H7 hc.1 hc.2;unfold CY;simp only[By,BQ,Bj,CO];omega
def aA9{a b c:Int}(ha:0<=a/\a<=999)(hb:0<=b/\b<=999)(hc:0<=c/\c<=999):V8 (a,b,c,())=I ((((((BW a++B [32])++BW b)++B [32])++BW c),()),()):=by
 have h1:=H7 ha.1 ha.2;have h2:=H7 hb.1 hb.2;have h3:=H7 hc.1 hc.2;unfold V8;simp only[Fm (n:=a) J J,Fm (n:=b) J J,Fm (n:=c) J J,A6];rw[A5<|AR (by simp only[By,BQ,Bj,CO];omega),A5<|AR (by simp only[By,BQ,Bj,CO];omega),A5<|AR (by simp only[By,BQ,Bj,CO];omega),A5<|AR (by simp only[By,BQ,Bj,CO];omega)]
def We(w:List UInt8)(a b c:Int):B (w++[32])++((((BW a++B [32])++BW b)++B [32])++BW c)=CY (B w) a b c:=by
 apply Fw;unfold CY;simp only[GI,L_B,C2]
def aiY{k:A7}(h:Ae k=Y)(fr nu:Int):Uh (tKp k,fr,nu,())=I ((tKp (DU k fr nu).1,tN (DU k fr nu).2.1,(DU k fr nu).2.2,()),()):=by
 have hk:=C8 h;have hf:=C3 hk.kok;have il:=hf.il;unfold Uh DU;rw[LU<|D2 h];simp only[A6,h,AB,A4,Nu h,MJ<|D2 h,Ja (l:=(stT k).inbox)<|show(stT k).inbox.length<=1048576 by omega];obtain e|e:=tf k.up
 .by_cases hi:AX (stT k).inbox fr nu<0
  .simp only[e,AB,Bk,AR hi,A2,BZ,A4]
  .have hi':0<=AX (stT k).inbox fr nu:=J
   obtain⟨i1,i2,i3,i4⟩:=FG hi';have hn:=Gs hf.i i1;obtain⟨r1,r2,r3,_⟩:=S4 hn;rw[i3]at r1;rw[i4]at r2;have hz:=Wp (w:=CH) aE9 r1 r2 r3;have hl:=V7 hk.LA (r:=CY CH fr nu (nA (stT k).inbox (AX (stT k).inbox fr nu).toNat).un) J Y;simp only[e,AB,Bk,BE hi,A4,AG,EW,A2,Ma hi',Qe,aA9 r1 r2 r3,A6];rw[A5<|AR (by rw[← We [101,97,116]]at hz;rw[By]at hz;rw[show(B [101,97,116,32]).size=(B<|[101,97,116]++[32]).size from rfl];omega)];rw[show(B [101,97,116,32])=B ([101,97,116]++[32]) from rfl,We [101,97,116],hl];simp only[A6];obtain e3|e3:=tf (wrR k (CY CH fr nu (nA (stT k).inbox (AX (stT k).inbox fr nu).toNat).un) Y).2
   .simp only[e3,AB,A4,A2]
   .simp only[e3,AG,A4,A2,Q0 e3]
 .simp only[e,AG,Bt,AM,A2,A4]
def ajG{k:A7}(h:Ae k=Y)(fr nu:Int):Uo (tKp k,fr,nu,())=I ((tKp (DU k fr nu).1,tN (DU k fr nu).2.1,(DU k fr nu).2.2,()),()):=by
 have hk:=C8 h;have hf:=C3 hk.kok;have il:=hf.il;unfold Uo DU;rw[Jb<|D2 h];simp only[A6,h,AB,A4,LL h,KP<|D2 h,LQ (l:=(stT k).inbox)<|show(stT k).inbox.length<=1048576 by omega];obtain e|e:=tf k.up
 .by_cases hi:AX (stT k).inbox fr nu<0
  .simp only[e,AB,Bk,AR hi,A2,BZ,A4]
  .have hi':0<=AX (stT k).inbox fr nu:=J
   obtain⟨i1,i2,i3,i4⟩:=FG hi';have hn:=Gs hf.i i1;obtain⟨r1,r2,r3,_⟩:=S4 hn;rw[i3]at r1;rw[i4]at r2;have hz:=Wp (w:=CH) aE9 r1 r2 r3;have hl:=eO hk (r:=CY CH fr nu (nA (stT k).inbox (AX (stT k).inbox fr nu).toNat).un) J;simp only[e,AB,Bk,BE hi,A4,AG,EW,A2,Ma hi',Qe,ry (w:=CH) aE9 r1 r2 r3,A6,hl];obtain e3|e3:=tf (wrR k (CY CH fr nu (nA (stT k).inbox (AX (stT k).inbox fr nu).toNat).un) Y).2
   .simp only[e3,AB,A4,A2]
   .simp only[e3,AG,A4,A2]
 .simp only[e,AG,Bt,AM,A2,A4]
def EC(k:A7)(fr nu mix:Int):Frame×Bool:=
 if k.up&&(!decide (AX (stT k).held fr nu<0)&&inB mix 0 999) then
  let n:=nA (stT k).held (AX (stT k).held fr nu).toNat
  (⟨1,k.id,Br k.id n.to,n.fr,n.nu,n.to,n.un,n.tx.size,mix,GG n.tx mix⟩,Y)
 else(zF,A0)
def aiX{k:A7}(sm:FF k)(fr nu mix:Int):Ug (tKp k,fr,nu,mix,())=I ((tF (if Ae k then EC k fr nu mix else(zF,A0)).1,(if Ae k then EC k fr nu mix else(zF,A0)).2,()),()):=by
 unfold Ug EC;rw[LU sm];obtain h|h:=tf (Ae k)
 .have hk:=C8 h;have hf:=C3 hk.kok;have hl:=hf.hl;obtain e|e:=tf k.up
  .simp only[A6,h,e,AB,GM,A4,A2,Nu h,Ja (l:=(stT k).held)<|show(stT k).held.length<=1048576 by omega,Hr,Dg,DX,Hq];by_cases hi:AX (stT k).held fr nu<0
   .simp only[AR hi,Bt,A2,AB,AM,BZ,A4]
   .have hi':0<=AX (stT k).held fr nu:=J
    obtain e2|e2:=tf (inB mix 0 999)
    .simp only[BE hi,e2,AB,GM,A4,AG,EW,A2,Ma hi',Qe,sA,alw,A6]
    .simp only[BE hi,e2,AG,DL,A2,BZ,A4]
  .simp only[A6,h,e,AB,AG,DL,A2,AM,A4]
 .simp only[A6,h,AG,Bt,A2,A4]
def ajF{k:A7}(sm:FF k)(fr nu mix:Int):Uz (tKp k,fr,nu,mix,())=I ((tF (if Ae k then EC k fr nu mix else(zF,A0)).1,(if Ae k then EC k fr nu mix else(zF,A0)).2,()),()):=by
 unfold Uz EC;rw[Jb sm];obtain h|h:=tf (Ae k)
 .have hk:=C8 h;have hf:=C3 hk.kok;have hl:=hf.hl;obtain e|e:=tf k.up
  .simp only[A6,h,e,AB,A4,A2,EJ];obtain e2|e2:=tf (inB mix 0 999)
   .simp only[e2,AB,A4,LL h,LQ (l:=(stT k).held)<|show(stT k).held.length<=1048576 by omega,A6];by_cases hi:AX (stT k).held fr nu<0
    .simp only[AR hi,A2,AB,AM,BZ,A4]
    .have hi':0<=AX (stT k).held fr nu:=J
     simp only[BE hi,A4,AG,EW,A2,Ma hi',Qe,sJ,amu,A6]
   .simp only[e2,AG,A2,BZ,A4]
  .simp only[A6,h,e,AB,AG,A2,AM,A4]
 .simp only[A6,h,AG,A2,A4]
def FN(k:A7):A7×Bool:=if k.up then(pkM k,Y) else(k,A0)
def aat{k:A7}{st:AJ}(h:Hl k st):JD k.log k.fo (C9 st)=((D5<|C9 st,((D5<|C9 st).size:Int)),Y):=by
 have hrs:=W9 h.kok;have hps:=Pn h.kok;unfold JD;rw[A5 h.sh,A5];rw[AD];refine⟨?_,AR J⟩;unfold Ff;rw[DK];exact λx hx=>by
  have:=hrs.1 x hx;exact Aa.2 J
def agl{k:A7}(h:Ae k=Y):UZ (tKp k,())=I ((tKp (FN k).1,(FN k).2,()),()):=by
 have hk:=C8 h;have hsm:=Pz<|C3 hk.kok;have hP:=vN (lg:=k.log) (fo:=k.fo) (rs:=C9<|stT k) (Pt h)<|XY hk.kok;rw[aat hk.LA]at hP;unfold UZ FN;rw[LU<|D2 h];simp only[A6,h,AB,A4,Nu h,MJ<|D2 h,xJ hsm,hk.kok,A2,hP];obtain e|e:=tf k.up
 .simp only[e,AB,GM,A4,A2];unfold pkM;simp only[e]
 .simp only[e,AG,Bt,A2,A4]
def ahD{k:A7}(h:Ae k=Y):Um (tKp k,())=I ((tKp (FN k).1,(FN k).2,()),()):=by
 have hk:=C8 h;have hsm:=Pz<|C3 hk.kok;have hP:=ug (lg:=k.log) (fo:=k.fo) (rs:=C9<|stT k) (Pt h)<|XY hk.kok;rw[aat hk.LA]at hP;unfold Um FN;rw[Jb<|D2 h];simp only[A6,h,AB,A4,KP<|D2 h];obtain e|e:=tf k.up
 .simp only[e,AB,A4,A2,LL h,wb hsm,hk.kok,hP,A6];unfold pkM;simp only[e]
 .simp only[e,AG,A2,A4]
def Db(k:A7):A7×Bool:=if k.up&& !decide (k.fo=(k.log.size:Int)) then(foM k,Y) else(k,A0)
def afk{k:A7}(h:Ae k=Y):UM (tKp k,())=I ((tKp (Db k).1,(Db k).2,()),()):=by
 have hf:=El h;have hF:=qg (lg:=k.log) (fo:=k.fo)<|Pt h;rw[show Jq k.log k.fo=(k.log,(k.log.size:Int)) from A5 hf.sh]at hF;unfold UM Db;rw[LU<|D2 h];simp only[A6,h,AB,A4,MJ<|D2 h];obtain e|e:=tf k.up<;>obtain e2|e2:=tfp (k.fo=(k.log.size:Int))<;>simp only[e,e2,AT,Af,AB,AG,DL,Bt,GM,EW,BZ,AM,A2,A4,hF,A6];unfold foM;simp only[e]
def agb{k:A7}(h:Ae k=Y):US (tKp k,())=I ((tKp (Db k).1,(Db k).2,()),()):=by
 have hf:=El h;unfold US Db;rw[Jb<|D2 h];simp only[A6,h,AB,A4,KP<|D2 h];obtain e|e:=tf k.up<;>obtain e2|e2:=tfp (k.fo=(k.log.size:Int))<;>simp only[e,e2,AT,Af,AB,AG,DL,Bt,GM,EW,BZ,AM,A2,A4];rw[show Nn ((tKp k,()))=_ from fR hf.sh];rfl
def aDs{k:A7}(h:Ae k=Y)(keep:Int):(faM k keep)=⟨k.id,A0,(Lr k.log k.fo keep).1,(Lr k.log k.fo keep).2,[]⟩:=by
 unfold faM Lr Ee;rw[A5 (El h).sh]
def agn{k:A7}(sm:FF k)(keep:Int):Ub (tKp k,keep,())=I ((tKp<|if Ae k then faM k keep else zKp,()),()):=by
 unfold Ub;rw[LU sm];obtain h|h:=tf (Ae k)
 .simp only[A6,h,AB,A4,A2,aiT sm.1,aDs h]
 .simp only[A6,h,AG,A2,A4]
def ahE{k:A7}(sm:FF k)(keep:Int):Un (tKp k,keep,())=I ((tKp<|if Ae k then faM k keep else zKp,()),()):=by
 unfold Un;rw[Jb sm];obtain h|h:=tf (Ae k)
 .simp only[A6,h,AB,A4,A2,ajA sm.1,aDs h]
 .simp only[A6,h,AG,A2,A4]
def aDc{k:A7}(h:Ae k=Y)(hu:k.up=A0):k.AH=[]:=by
 rcases(El h).up with h1|h1
 .rw[hu]at h1;cases h1
 .exact Dw h1
def agk{k:A7}(h:Ae k=Y):UY (tKp k,())=I ((tKp<|riM k,()),()):=by
 unfold UY riM;rw[LU<|D2 h];simp only[A6,h,AB,A4];obtain e|e:=tf k.up
 .simp only[e,A2,MJ<|D2 h,A6];rw[← e]
 .simp only[e,A4,aDc h e]
def ahC{k:A7}(h:Ae k=Y):Ul (tKp k,())=I ((tKp<|riM k,()),()):=by
 unfold Ul riM;rw[Jb<|D2 h];simp only[A6,h,AB,A4,KP<|D2 h]
def ab9{hv:List AE}{i:Nat}(h:i<hv.length)(x:AE):hA (hv.set i x) i=x:=by
 rw[hA,B9,Yi h];rfl
def alp{l:List AE}{f n:Int}(hl:l.length<=1048576):dt (l,f,n,())=I ((EB l f n,()),()):=by
 have h:q9 (l,f,n,0,())=I (if EB l f n<0 then .inr () else .inl (EB l f n,())):=
  Pl (λi=>(l,f,n,(i:Int),())) l.length (λi=>U ((hA l i).fr=f)&&U ((hA l i).nu=n)) (λi=>(i,())) () (λi hi=>by
   unfold dU;simp only[IS hi,AU hi,A2,Lp,Hq,DZ hi hl];obtain e|e:=tfp ((hA l i).fr=f)<;>obtain e2|e2:=tfp ((hA l i).nu=n)<;>simp only[e,e2,AT,Af,EW,BZ,AM,A2,A4]) (by
   unfold dU;simp only[Gu,A4])
 unfold dt;rw[h];by_cases e':EB l f n<0
 .have:EB l f n= -1:=by
   obtain h|⟨i,h,_⟩:=G6 l.length (λi=>U ((hA l i).fr=f)&&U ((hA l i).nu=n))
   .exact h.1
   .have:EB l f n=(i:Int):=h;omega
  rw[A5 e',this];rfl
 .rw[A8 e'];rfl
def S6(l:List AE)(f n:Int):EB l f n<0\/ ∃i:Nat,EB l f n=(i:Int)/\i<l.length/\(hA l i).fr=f/\(hA l i).nu=n:=by
 obtain h|⟨i,h,h2,h3,_⟩:=G6 l.length (λi=>U ((hA l i).fr=f)&&U ((hA l i).nu=n))
 .left;have:EB l f n= -1:=h.1;omega
 .right;rw[AD]at h3;exact⟨i,h,h2,Bd h3.1,Bd h3.2⟩
def Ap(hv:List AE)(f:Frame):List AE×Nat:=
 if EB hv f.fr f.nu<0 then((if 3<=hv.length then hv.drop 1 else hv)++[⟨f.fr,f.nu,f.to,f.un,f.sz,[]⟩],(if 3<=hv.length then hv.drop 1 else hv).length)
 else(hv,(EB hv f.fr f.nu).toNat)
def OH{hv:List AE}{f:Frame}:(Ap hv f).2<(Ap hv f).1.length:=by
 unfold Ap;obtain h|⟨i,h1,h2,_⟩:=S6 hv f.fr f.nu
 .rw[A5 h];simp
 .rw[A8 J];show(EB hv f.fr f.nu).toNat<hv.length;omega
def SX{hv:List AE}{f:Frame}(h:hv.length<=3):(Ap hv f).1.length<=3:=by
 unfold Ap;split
 .simp only[Au,Im];split
  .rw[EF];omega
  .omega
 .exact h
def Dn(mix:Int)(m:AN):Bool:= !decide (m.nu=mix)
def Cr(got:List AN)(mix:Int)(da:A1):List AN:=
 (if 14<=(got.filter<|Dn mix).length then(got.filter<|Dn mix).drop 1 else got.filter (Dn mix))++[⟨mix,da⟩]
def aCK{p:AN->Bool}(pre:List AN)(m:AN):(pre++[m]).filter p=pre.filter p++if p m then [m] else []:=by
 rw[QX];congr 1;simp only[Jz,Yc]
def apF{mix:Int}{da:A1}(post:List AN):∀(pre:List AN),(pre++post).length<=1048576->
  dI ((mix,da,()),pre.filter<|Dn mix,pre++post,((pre++post).length:Int),(j8 pre:Int),())=I (.inr ((mix,da,()),(pre++post).filter<|Dn mix,())):=by
 induction post with
 | nil=>
  intro pre _;refine BF ?_;unfold fh;simp only[CJ,Gu,A4]
 | cons m post ih=>
  intro pre hl;have hlen:pre.length<(pre++m::post).length:=by simp
  have hw:=DZ hlen hl;have hf:(pre.filter<|Dn mix).length<=pre.length:=Io _ _;have:=ih (pre++[m]) (by rw[← snoc];exact hl);rw[← snoc]at this;refine As ?_ this;unfold fh;simp only[IS hlen,A2,AU hlen,Lo,hw,aCK,@Au _ pre [m],Im];obtain e|e:=tfp (m.nu=mix)
  .have:Dn mix m=A0:=by unfold Dn;simp only[e,AT,AB]
   simp only[e,this,AT,AB,A4,CJ]
  .have:Dn mix m=Y:=by unfold Dn;simp only[e,Af,AG]
   simp only[e,this,Af,AG,A2];rw[A5<|BG (by simp at hl ⊢; omega)]
def aph{got:List AN}{mix:Int}{da:A1}(hl:got.length<=1048576):WQ (got,(mix,da,()),())=I ((Cr got mix da,()),()):=by
 have hf:(got.filter<|Dn mix).length<=got.length:=Io _ _;unfold WQ Cr;rw[show dI ((mix,da,()),[],got,(j8 got:Int),0,())=_ from apF got [] hl];simp only[AO,A6,EU];by_cases h:14<=(got.filter<|Dn mix).length
 .rw[A5<|AR J,A5 h,A5 y7,A5<|Fo (by rw[EF];omega) aE4];rfl
 .rw[A8 (by rw[BE J];exact CQ),A8 h,A5<|Fo J aE4]
def apO{k:Int×Bool×A1×Int×List AE×D}{f:Frame}{z:Int×Bool×A1×Int×List AE×D}{i:Int}{h:AE}(post:List AN):∀(pre:List AN),h.got=pre++post->(pre++post).length<=1048576->
  bj (k,tF f,z,i,(h.fr,h.nu,h.to,h.un,h.sz,h.got,()),pre.filter<|Dn f.mix,(j8 pre:Int),())=I (.inr (k,tF f,z,i,(h.fr,h.nu,h.to,h.un,h.sz,h.got,()),h.got.filter<|Dn f.mix,())):=by
 induction post with
 | nil=>
  intro pre hg _;rw[CJ]at hg;refine BF ?_;unfold du;simp only[hg,Gu,A4]
 | cons m post ih=>
  intro pre hg hl;have hlen:pre.length<(pre++m::post).length:=by simp
  have hw:=DZ hlen hl;have hf:(pre.filter<|Dn f.mix).length<=pre.length:=Io _ _;have:=ih (pre++[m]) (by rw[hg,snoc]) (by rw[← snoc];exact hl);refine As ?_ this;unfold du;simp only[hg,IS hlen,A2,AU hlen,Lo,hw,aCK,@Au _ pre [m],Im];obtain e|e:=tfp (m.nu=f.mix)
  .have:Dn f.mix m=A0:=by unfold Dn;simp only[e,AT,AB]
   simp only[e,this,AT,AB,A4,CJ]
  .have:Dn f.mix m=Y:=by unfold Dn;simp only[e,Af,AG]
   simp only[e,this,Af,AG,A2];rw[A5<|BG (by simp at hl ⊢; omega)]
def FB(hv:List AE)(i:Nat):List AE:=hv.take i++hv.drop (i+1)
def xf{hv:List AE}{i:Nat}(hi:i<hv.length)(hl:hv.length<=1048576):PS (hv,(i:Int),())=I ((FB hv i,()),()):=by
 unfold PS FB;simp only[Bc,EU];rw[DZ hi hl,A5 y7,A5<|Fo (l:=([]:List AE)) aE4 y7,A5 y7,A5<|Fo y7 y7,Bc]
def Cz(hv:List AE)(i:Nat)(f:Frame):List AE:=hv.set i ⟨(hA hv i).fr,(hA hv i).nu,(hA hv i).to,(hA hv i).un,(hA hv i).sz,Cr (hA hv i).got f.mix f.da⟩
def Ln(h:AE)(f:Frame):Bool:=U (h.to=f.to)&&(U (h.un=f.un)&&U (h.sz=f.sz))
def an1{k:A7}(sm:FF k)(h3:k.AH.length<=3)(f:Frame):
  fG (tKp k,tF f,())=I ((if Ln (hA (Ap k.AH f).1 (Ap k.AH f).2) f then((k.id,k.up,k.log,k.fo,Cz (Ap k.AH f).1 (Ap k.AH f).2 f,()),((Ap k.AH f).2:Int),()) else((k.id,k.up,k.log,k.fo,(Ap k.AH f).1,()),-1,()),())):=by
 obtain⟨id,up,lg,fo,hv⟩:=k;obtain⟨sl,hl,hs⟩:=sm;simp only at sl hl hs h3;unfold fG;simp only[alp hl,A6];have Ei:=OH (hv:=hv) (f:=f);have L9:=SX (hv:=hv) (f:=f) h3;have U2:(hA (Ap hv f).1 (Ap hv f).2).got.length<=1048576:=by
  unfold Ap;obtain h|⟨i,h1,h2,_⟩:=S6 hv f.fr f.nu
  .rw[A5 h];simp only;rw[hA,B9,FO<|Ar _];simp
  .rw[A8 J];show(hA hv (EB hv f.fr f.nu).toNat).got.length<=1048576;rw[h1,Bc,I5 h2];exact(hs _<|Cd h2).1
 have o9:∀ {Ω:Type} (F:(Int×Bool×A1×Int×List AE×D)×(Int×Int×Int×Int×Int×Int×Int×Int×Int×A1×D)×(Int×Bool×A1×Int×List AE×D)×Int×D->Option Ω),
   BT F ((if(U<|EB hv f.fr f.nu<0) then
    (BT (X:=(Int×Bool×A1×Int×List AE×D)×(Int×Int×Int×Int×Int×Int×Int×Int×Int×A1×D)×(Int×Bool×A1×Int×List AE×D)×D) (λj7=>
    (if Ac (j7.1.2.2.2.2.1.length+([(AE.mk j7.2.1.2.2.2.1 j7.2.1.2.2.2.2.1 j7.2.1.2.2.2.2.2.1 j7.2.1.2.2.2.2.2.2.1 j7.2.1.2.2.2.2.2.2.2.1 ([]:List AN))]:List AE).length) then
    let v9:=(w64<|((j7.1.2.2.2.2.1++([(AE.mk j7.2.1.2.2.2.1 j7.2.1.2.2.2.2.1 j7.2.1.2.2.2.2.2.1 j7.2.1.2.2.2.2.2.2.1 j7.2.1.2.2.2.2.2.2.2.1 ([]:List AN))]:List AE)).length:Int) - 1)
    I (.inr ((j7.1.1,j7.1.2.1,j7.1.2.2.1,j7.1.2.2.2.1,(j7.1.2.2.2.2.1++([(AE.mk j7.2.1.2.2.2.1 j7.2.1.2.2.2.2.1 j7.2.1.2.2.2.2.2.1 j7.2.1.2.2.2.2.2.2.1 j7.2.1.2.2.2.2.2.2.2.1 ([]:List AN))]:List AE)),()),j7.2.1,j7.2.2.1,v9,()))
    else G))
    ((if(U<|3<=(j8 hv:Int)) then
    (PS (hv,0,())).bind λr8=>
    I (.inr ((id,up,lg,fo,r8.1),tF f,(0,A0,noB,0,([]:List AE),()),()))
    else
    I (.inr ((id,up,lg,fo,hv,()),tF f,(0,A0,noB,0,([]:List AE),()),())))))
    else
    I (.inr ((id,up,lg,fo,hv,()),tF f,(0,A0,noB,0,([]:List AE),()),(EB hv f.fr f.nu,())))))=F ((id,up,lg,fo,(Ap hv f).1,()),tF f,(0,A0,noB,0,[],()),((Ap hv f).2:Int),()):=by
  intro Ω F;unfold Ap;obtain h|⟨i,h1,h2,_⟩:=S6 hv f.fr f.nu
  .rw[A5<|AR h,A5 h];by_cases h4:3<=hv.length
   .have hd:=xf (hv:=hv) (i:=0) J hl;rw[A5<|AR J,show PS (hv,0,())=_ from hd];simp only[A6,Be,A5 h4];rw[show FB hv 0=hv.drop 1 from by simp[FB],A5<|Fo y7 aE4,Be,AZ (by first|(simp;done)|(simp;omega)) (by first|(simp;done)|(simp;omega))];congr 1;simp
   .rw[A8 (by rw[BE J];exact CQ)];simp only[Be,A8 h4];rw[A5<|Fo J aE4,Be,AZ (by first|(simp;done)|(simp;omega)) (by first|(simp;done)|(simp;omega))];congr 1;simp
  .rw[A8 (by rw[BE J];exact CQ),A8 (J:¬EB hv f.fr f.nu<0),Be];simp only;rw[h1,Bc]
 rw[o9];revert Ei L9 U2;generalize (Ap hv f).1=l;generalize (Ap hv f).2=i;intro Ei L9 U2;unfold Ln;have hff:((hA l i).got.filter<|Dn f.mix).length<=(hA l i).got.length:=Io _ _;simp only[AU Ei,A2,Lp,Bc];obtain e1|e1:=tfp ((hA l i).to=f.to)<;>simp only[e1,AT,Af,AB,AG,A4,A2,AP,AM];obtain e2|e2:=tfp ((hA l i).un=f.un)<;>simp only[e2,AT,Af,AB,AG,A4,A2,AP,AM];obtain e3|e3:=tfp ((hA l i).sz=f.sz)<;>simp only[e3,AT,Af,AB,AG,A4,A2];have hgo:=apO (k:=(id,up,lg,fo,l,())) (f:=f) (z:=(0,A0,noB,0,[],())) (i:=(i:Int)) (h:=hA l i) (hA l i).got [] rfl U2;rw[show bj ((id,up,lg,fo,l,()),tF f,(0,A0,noB,0,[],()),(i:Int),((hA l i).fr,(hA l i).nu,(hA l i).to,(hA l i).un,(hA l i).sz,(hA l i).got,()),[],0,())=_ from hgo];simp only[AO,A6];unfold Cz Cr;by_cases h:14<=((hA l i).got.filter<|Dn f.mix).length
 .rw[A5<|AR J,A5 h,A5 y7,A5<|Fo (l:=([]:List AN)) aE4 (by rw[EF];omega),Be];simp only[EU,show AK 1=1 from rfl];rw[A5<|Fo (by rw[EF];omega) aE4,A5<|AU Ei];rfl
 .rw[A8 (by rw[BE J];exact CQ),A8 h,Be];dsimp only;rw[A5<|Fo J aE4,A5<|AU Ei];rfl
def Df(kind:Int)(f:Frame):Frame:=⟨kind,f.dst,f.src,f.fr,f.nu,f.to,f.un,0,0,noB⟩
def J6(n:A3):A1:=B [116,97,107,101,32]++wr n
abbrev GZ(k:A7)(hv:List AE):A7:=⟨k.id,k.up,k.log,k.fo,hv⟩
def Kc(k:A7)(n:A3)(f:Frame):A7×List Frame:=
 if Ax n&&(wrR k (J6 n) Y).2 then((wrR k (J6 n) Y).1,[Df 2 f]) else(k,[])
def Jx(k:A7)(f:Frame):A7×List Frame:=
 if Ln (hA (Ap k.AH f).1 (Ap k.AH f).2) f then
  (if(F7 f.sz<|Cr (hA (Ap k.AH f).1 (Ap k.AH f).2).got f.mix f.da).2 then
   Kc (GZ k<|FB (Cz (Ap k.AH f).1 (Ap k.AH f).2 f) (Ap k.AH f).2) ⟨f.fr,f.nu,f.to,f.un,(F7 f.sz<|Cr (hA (Ap k.AH f).1 (Ap k.AH f).2).got f.mix f.da).1⟩ f
  else(GZ k<|Cz (Ap k.AH f).1 (Ap k.AH f).2 f,[]))
 else(GZ k (Ap k.AH f).1,[])
def E8(k:A7)(f:Frame):A7×List Frame:=
 if f.un<=(stT k).ti then(k,[Df 3 f])
 else if 0<=AX (stT k).held f.fr f.nu\/0<=Bo (stT k).marks f.fr f.nu then(foM k,[Df 2 f])
 else if f.fr=k.id then(k,[])
 else Jx k f
def aDa{s:Int}{l:List AN}:(F7 s l).1.size<=24:=by
 unfold F7;split
 .rename_i h;have h1:=Aa.1 h;split
  .exact D1 _
  .rename_i c hc;split
   .have hb:inB (B0 (s+3) 4) 1 6=Y:=by
     have hd:B0 (s+3) 4=(s+3) / 4:=H9 J;exact Aa.2 J
    have hk:=ka hb l;have hz:=XI hk.all hc;have hz0:noB.size=0:=rfl;have hd:B0 (s+3) 4=(s+3) / 4:=H9 J;rw[hk.1,hz0]at hz;rw[G7 J];omega
   .exact D1 _
 .exact D1 _
def aCw(got:List AN)(mix:Int)(da:A1):(Cr got mix da).length<=got.length+1:=by
 have hf:(got.filter<|Dn mix).length<=got.length:=Io _ _;unfold Cr;simp only[Au,Im];split
 .rw[EF];omega
 .omega
def abP{h:AE}(ok:Fs h=Y):h.got.length<=14:=by
 unfold Fs at ok;simp only[AD]at ok;have h1:=Bd ok.2.2.2.2.2.1;omega
def aC9{hv:List AE}{f:Frame}(hs:∀h∈hv,Fs h=Y):(hA (Ap hv f).1 (Ap hv f).2).got.length<=14:=by
 unfold Ap;obtain h|⟨i,h1,h2,_⟩:=S6 hv f.fr f.nu
 .rw[A5 h];simp only;rw[hA,B9,FO<|Ar _];simp
 .rw[A8 J];show(hA hv (EB hv f.fr f.nu).toNat).got.length<=14;rw[h1,Bc,I5 h2];exact abP<|hs _<|Cd h2
def aDT{k:A7}{st:AJ}(h:Hl k st)(hv:List AE):Hl (GZ k hv) st:=⟨h.sh,h.st⟩
def aCu{k:A7}(h:Ae k=Y):∀x∈k.AH,Fs x=Y:=by
 intro x hx;obtain⟨i,hi,rfl⟩:=OU hx;have:=(El h).hv i hi;unfold Fg at this;rw[AD]at this;exact this.1
def apP{k:A7}(h:Ae k=Y){f:Frame}(hf:Bx f=Y)(h1:f.ki=1):V9 (tKp k,tF f,())=I ((tKp (E8 k f).1,(E8 k f).2,()),()):=by
 have hk:=C8 h;have hkf:=C3 hk.kok;have sm:=D2 h;have kf:=El h;have hF:=qg (lg:=k.log) (fo:=k.fo)<|Pt h;rw[show Jq k.log k.fo=(k.log,(k.log.size:Int)) from A5 kf.sh]at hF;have hl:=hkf.hl;have ml:=hkf.ml;have hfr:inB f.sz 1 24=Y/\inB f.mix 0 999=Y:=by
  unfold Bx Jl at hf;simp only[AD]at hf;have:=hf.2.2.2.2.2.2;rw[A5<|AR h1]at this;simp only[AD]at this;exact⟨this.1,this.2.1⟩
 have hsz:=Aa.1 hfr.1;have hmx:Dr (B0 (f.sz+3) 4) f.mix=Y:=by
  have hd:B0 (f.sz+3) 4=(f.sz+3) / 4:=H9 J;unfold Dr;rw[hfr.2,Ks];exact Aa.2 J
 unfold V9 E8;simp only[Nu h,A6];by_cases c1:f.un<=(stT k).ti
 .rw[A5<|AR c1,A5 c1];rfl
 .rw[A8 (by rw[BE c1];exact CQ),A8 c1];simp only[Ja (l:=(stT k).held)<|show(stT k).held.length<=1048576 by omega,Rh (l:=(stT k).marks)<|show(stT k).marks.length<=1048576 by omega,A6,Dg,DX,Hq,A2];by_cases c2:0<=AX (stT k).held f.fr f.nu\/0<=Bo (stT k).marks f.fr f.nu
  .rw[A5 (by rw[C1];exact c2.imp AR AR),A5 c2];simp only[hF,A6];rfl
  .rw[A8 (by rw[C1];exact λh=>c2<|h.imp Bd Bd),A8 c2];simp only[dT (n:=f.sz) J J,WU,hmx,Dg,DX,Hq,A2,AB,EV];by_cases c3:f.fr=k.id
   .rw[A5<|AR c3,A5 c3]
   .rw[A8 (by rw[BE c3];exact CQ),A8 c3];have oW:=an1 sm kf.hl f;rw[oW];simp only[A6];unfold Jx;obtain c4|c4:=tf (Ln (hA (Ap k.AH f).1 (Ap k.AH f).2) f)
    .have Ei:=OH (hv:=k.AH) (f:=f);have L9:=SX (hv:=k.AH) (f:=f) kf.hl;have hal:(Cz (Ap k.AH f).1 (Ap k.AH f).2 f).length=(Ap k.AH f).1.length:=by unfold Cz;rw[GP]
     have oP:=aC9 (f:=f)<|aCu h;have hgl:=aCw (hA (Ap k.AH f).1 (Ap k.AH f).2).got f.mix f.da;have U2:(hA (Cz (Ap k.AH f).1 (Ap k.AH f).2 f) (Ap k.AH f).2).got=Cr (hA (Ap k.AH f).1 (Ap k.AH f).2).got f.mix f.da:=by
      unfold Cz;rw[ab9 Ei]
     simp only[c4,A2];rw[A8 (by rw[BE J];exact CQ),A5<|AU (by rw[hal];exact Ei)];simp only[Lp,U2,alu f.sz _<|show(Cr (hA (Ap k.AH f).1 (Ap k.AH f).2).got f.mix f.da).length<=1048576 by omega,A6];obtain c5|c5:=tf (F7 f.sz<|Cr (hA (Ap k.AH f).1 (Ap k.AH f).2).got f.mix f.da).2
     .simp only[c5,AB,A4,A2];rw[xf (by rw[hal];exact Ei) (by rw[hal];omega)];simp only[A6];rw[Ue (by have:=aDa (s:=f.sz) (l:=Cr (hA (Ap k.AH f).1 (Ap k.AH f).2).got f.mix f.da);omega)];simp only[A6];unfold Kc;generalize hn:(⟨f.fr,f.nu,f.to,f.un,(F7 f.sz<|Cr (hA (Ap k.AH f).1 (Ap k.AH f).2).got f.mix f.da).1⟩:A3)=n;obtain c6|c6:=tf (Ax n)
      .have hz:=ZD (w:=B [116,97,107,101,32]) (by rw[BQ];decide) c6;have hw:=V7 (aDT hk.LA<|FB (Cz (Ap k.AH f).1 (Ap k.AH f).2 f) (Ap k.AH f).2) (r:=J6 n) hz Y;simp only[c6,A2,AP];rw[A8 (by rw[BE nI];exact CQ),A5<|AR (by rw[By]at hz;omega)];rw[show KN ((k.id,k.up,k.log,k.fo,FB (Cz (Ap k.AH f).1 (Ap k.AH f).2 f) (Ap k.AH f).2,()),B [116,97,107,101,32]++wr n,Y,())=_ from hw];simp only[A6];obtain c7|c7:=tf (wrR (GZ k<|FB (Cz (Ap k.AH f).1 (Ap k.AH f).2 f) (Ap k.AH f).2) (J6 n) Y).2
       .simp only[c7,AB,A4,A2];rfl
       .simp only[c7,AG,A4,A2,Q0 c7]
      .simp only[c6,A4,AT,A2,AM]
     .simp only[c5,AG,A4,A2]
    .simp only[c4,A4];rfl
def aj6{k:A7}(h:Ae k=Y){f:Frame}:Uv (tKp k,tF f,())=I ((tKp (E8 k f).1,(E8 k f).2,()),()):=by
 have hk:=C8 h;have hkf:=C3 hk.kok;have sm:=D2 h;have kf:=El h;have hl:=hkf.hl;have ml:=hkf.ml;have hl3:=kf.hl;have hlen:k.AH.length<=1048576:=J
 unfold Uv E8;simp only[LL h,A6];by_cases c1:f.un<=(stT k).ti
 .rw[A5<|AR c1,A5 c1];rfl
 .rw[A8 (by rw[BE c1];exact CQ),A8 c1];simp only[LQ (l:=(stT k).held)<|show(stT k).held.length<=1048576 by omega,Rr (l:=(stT k).marks)<|show(stT k).marks.length<=1048576 by omega,A6,Dg,DX,Hq,A2];by_cases c2:0<=AX (stT k).held f.fr f.nu\/0<=Bo (stT k).marks f.fr f.nu
  .rw[A5 (by rw[C1];exact c2.imp AR AR),A5 c2,fR kf.sh];rfl
  .rw[A8 (by rw[C1];exact λh=>c2<|h.imp Bd Bd),A8 c2];by_cases c3:f.fr=k.id
   .rw[A5<|AR c3,A5 c3]
   .rw[A8 (by rw[BE c3];exact CQ),A8 c3];simp only[zi hlen,A6];have Ei:=OH (hv:=k.AH) (f:=f);have L9:=SX (hv:=k.AH) (f:=f) kf.hl;have oP:=aC9 (f:=f)<|aCu h;have o9:∀ {Ω:Type} (F:(Int×Bool×A1×Int×List AE×D)×(Int×Int×Int×Int×Int×Int×Int×Int×Int×A1×D)×(Int×Bool×A1×Int×List AE×D)×Int×D->Option Ω),
      BT F ((if(U<|EB k.AH f.fr f.nu<0) then
      (if Ac (k.AH.length+([(AE.mk f.fr f.nu f.to f.un f.sz ([]:List AN))]:List AE).length) then
      (if(U<|3<((k.AH++([(AE.mk f.fr f.nu f.to f.un f.sz ([]:List AN))]:List AE)).length:Int)) then
      (if(U (0<=1)&&U (1<=((k.AH++([(AE.mk f.fr f.nu f.to f.un f.sz ([]:List AN))]:List AE)).length:Int))) then
      let v22:=(w64<|((Bp (AK 1)<|k.AH++([(AE.mk f.fr f.nu f.to f.un f.sz ([]:List AN))]:List AE)).length:Int) - 1)
      I (.inr ((k.id,k.up,k.log,k.fo,(Bp (AK 1)<|k.AH++([(AE.mk f.fr f.nu f.to f.un f.sz ([]:List AN))]:List AE)),()),tF f,(0,A0,noB,0,([]:List AE),()),v22,()))
      else G)
      else
      let v23:=(w64<|((k.AH++([(AE.mk f.fr f.nu f.to f.un f.sz ([]:List AN))]:List AE)).length:Int) - 1)
      I (.inr ((k.id,k.up,k.log,k.fo,(k.AH++([(AE.mk f.fr f.nu f.to f.un f.sz ([]:List AN))]:List AE)),()),tF f,(0,A0,noB,0,([]:List AE),()),v23,())))
      else G)
      else
      I (.inr (tKp k,tF f,(0,A0,noB,0,([]:List AE),()),(EB k.AH f.fr f.nu,())))))=F ((k.id,k.up,k.log,k.fo,(Ap k.AH f).1,()),tF f,(0,A0,noB,0,[],()),((Ap k.AH f).2:Int),()):=by
     intro Ω F;unfold Ap;obtain h|⟨i,h1,h2,_⟩:=S6 k.AH f.fr f.nu
     .rw[A5<|AR h,A5 h,A5<|Fo hlen aE4];by_cases h4:3<=k.AH.length
      .rw[A5<|AR y7,A5 y7,A5 h4];have e1:Bp (AK 1) (k.AH++[(⟨f.fr,f.nu,f.to,f.un,f.sz,[]⟩:AE)])=k.AH.drop 1++[⟨f.fr,f.nu,f.to,f.un,f.sz,[]⟩]:=by
        show Bp 1 _=_;rw[TJ J]
       simp only[e1];rw[Be,AZ (by first|(simp;done)|(simp;omega)) (by first|(simp;done)|(simp;omega))];congr 1;simp
      .rw[A8 y7,A8 h4];simp only;rw[Be,AZ (by first|(simp;done)|(simp;omega)) (by first|(simp;done)|(simp;omega))];congr 1;simp
     .rw[A8 (by rw[BE J];exact CQ),A8 (J:¬EB k.AH f.fr f.nu<0),Be];simp only;rw[h1,Bc]
    rw[o9];have hgl:=aCw (hA (Ap k.AH f).1 (Ap k.AH f).2).got f.mix f.da;unfold Jx;have hLg:=λhv=>aDT hk.LA hv;revert Ei L9 oP hgl;generalize (Ap k.AH f).1=l;generalize (Ap k.AH f).2=i;intro Ei L9 oP hgl;have ayn:l.set i ⟨(hA l i).fr,(hA l i).nu,(hA l i).to,(hA l i).un,(hA l i).sz,Cr (hA l i).got f.mix f.da⟩=Cz l i f:=rfl;have hal:(Cz l i f).length=l.length:=by unfold Cz;rw[GP]
    have hat:hA (Cz l i f) i=⟨(hA l i).fr,(hA l i).nu,(hA l i).to,(hA l i).un,(hA l i).sz,Cr (hA l i).got f.mix f.da⟩:=ab9 Ei _;simp only[AU Ei,A2,Lp,Bc];unfold Ln;obtain e1|e1:=tfp ((hA l i).to=f.to)<;>simp only[e1,AT,Af,AB,AG,A4,A2,AP,AM];obtain e2|e2:=tfp ((hA l i).un=f.un)<;>simp only[e2,AT,Af,AB,AG,A4,A2,AP,AM];obtain e3|e3:=tfp ((hA l i).sz=f.sz)<;>simp only[e3,AT,Af,AB,AG,A4,A2];have e3':(hA l i).sz=f.sz:=of_eq_true e3;rw[aph<|show(hA l i).got.length<=1048576 by omega];simp only[A6,ayn,hat];rw[e3'];rw[amI f.sz _<|show(Cr (hA l i).got f.mix f.da).length<=1048576 by omega];simp only[A6];obtain c5|c5:=tf (F7 f.sz<|Cr (hA l i).got f.mix f.da).2
    .simp only[c5,AB,A4,A2];rw[A5 y7,A5<|Fo (l:=([]:List AE)) aE4 y7,DZ (n:=i) (m:=l.length) Ei J,A5 y7,A5<|Fo y7 y7];rw[Ux (by have:=aDa (s:=f.sz) (l:=Cr (hA l i).got f.mix f.da);omega)];simp only[A6,EU,Bc];unfold Kc;generalize hn:(⟨f.fr,f.nu,f.to,f.un,(F7 f.sz<|Cr (hA l i).got f.mix f.da).1⟩:A3)=n;have hL:=hLg<|FB (Cz l i f) i;have hdr:BR i (Cz l i f)++Bp (i+1) (Cz l i f)=FB (Cz l i f) i:=rfl;rw[hdr];obtain c6|c6:=tf (Ax n)
     .have hz:=ZD (w:=B [116,97,107,101,32]) (by rw[BQ];decide) c6;have hw:=WO hL (r:=J6 n) hz;simp only[c6,A2,AP];rw[A5<|AR (by rw[By]at hz;omega)];rw[show Ns ((k.id,k.up,k.log,k.fo,FB (Cz l i f) i,()),B [116,97,107,101,32]++wr n,())=_ from hw];simp only[A6];unfold wrR;rw[hL.stT];cases hc:BJ (stT k) (J6 n) with
      | none=>rfl
      | some o=>
       simp only[AB,A4,A2];rw[fR<|aaj hL hc];rfl
     .have hb:BJ (stT k) (B [116,97,107,101,32]++noB)=G:=aBF hk.kok jc<|.inr rfl;have hz0:(B [116,97,107,101,32]++noB).size<=1048576:=by rw[By,BQ];show 5+0<=1048576;omega
      have hw:=WO hL (r:=B [116,97,107,101,32]++noB) hz0;rw[aDS (by rw[hL.stT];exact hb)]at hw;simp only[c6,A4,AM];rw[A5<|AR (show(B [116,97,107,101,32]).size+noB.size<=4611686018427387904 by rw[BQ];show 5+0<=4611686018427387904;omega)];rw[show Ns ((k.id,k.up,k.log,k.fo,FB (Cz l i f) i,()),B [116,97,107,101,32]++noB,())=_ from hw];rfl
    .simp only[c5,AG,A4,A2]
def fc{α β:Type}[DecidableEq β]{l:List α}{f:α->β}:(l.map f).Nodup↔ ∀(i j:Nat) (hi:i<l.length) (hj:j<l.length),j<i->f l[j]≠f l[i]:=by
 unfold List.Nodup;rw[K3];constructor
 .intro h i j hi hj hlt;have:=h j i (by simpa using hj) (by simpa using hi) hlt;simpa using this
 .intro h i j hi hj hlt;have:=h j i (by simpa using hj) (by simpa using hi) hlt;simpa using this
def ZM{l:List AN}{i:Nat}(h:i<l.length):xA l i=l[i]:=by
 rw[xA,B9,Av h];rfl
def Ig(m:AN):Prop:=inB m.nu 0 999=Y/\(m.da.size:Int)=4
structure Qw (l:List AN):Prop where
 el:∀m∈l,Ig m
 nd:(l.map (·.nu)).Nodup
def aEx{l:List AN}:B6 l.length (I6 l)=Y↔Qw l:=by
 rw[Cp];constructor
 .intro h;refine⟨λm hm=> ?_,fc.2 λi j hi hj hlt=> ?_⟩
  .obtain⟨i,hi,rfl⟩:=aah hm;have:=h i hi;unfold I6 at this;simp only[AD]at this;exact⟨this.1.1,Bd this.1.2⟩
  .have:=h i hi;unfold I6 at this;simp only[AD]at this;have:=Cp.1 this.2 j hlt;rw[ZM hi,ZM hj]at this;simpa using this
 .intro h i hi;unfold I6;simp only[AD];have h1:=h.el l[i] (Cd hi);rw[ZM hi];refine⟨⟨h1.1,AR h1.2⟩,Cp.2 λj hj=> ?_⟩;have:=fc.1 h.nd i j hi J hj;rw[ZM (J:j<l.length)];simpa using this
def aut{l:List AN}(h:Qw l)(hl:l.length<=14){mix:Int}{da:A1}(hm:Ig ⟨mix,da⟩):Qw (Cr l mix da)/\(Cr l mix da).length<=14:=by
 have hf:(l.filter<|Dn mix).length<=l.length:=Io _ _;have LB:∀g:List AN,g.Sublist (l.filter<|Dn mix)->Qw (g++[⟨mix,da⟩]):=by
  intro g hg;refine⟨λm hm'=> ?_, ?_⟩
  .rcases BM.1 hm' with h1|h1
   .exact h.el m (FP.1<|hg.subset h1).1
   .rw[CL.1 h1];exact hm
  .rw[Eg,JN];refine⟨h.nd.sublist<|(hg.trans List.filter_sublist).map _,by simp,λa ha b hb=> ?_⟩;obtain⟨m,h1,rfl⟩:=Bu.1 ha;have h2:=(FP.1<|hg.subset h1).2;have hb:b=mix:=by simpa using hb
   rw[hb];unfold Dn at h2;simpa using h2
 unfold Cr;split
 .refine⟨LB _<|QH _ _, ?_⟩;simp only[Au,Im,EF];omega
 .refine⟨LB _<|ET _, ?_⟩;simp only[Au,Im];omega
abbrev NG(h:AE):Int×Int:=(h.fr,h.nu)
structure JU (l:List AE):Prop where
 el:∀h∈l,Fs h=Y
 nd:(l.map NG).Nodup
def nF{l:List AE}:(∀i,i<l.length->Fg l i=Y)↔JU l:=by
 constructor
 .intro h;refine⟨λm hm=> ?_,fc.2 λi j hi hj hlt=> ?_⟩
  .obtain⟨i,hi,rfl⟩:=OU hm;have:=h i hi;unfold Fg at this;rw[AD]at this;exact this.1
  .have:=h i hi;unfold Fg at this;rw[AD]at this;have:=Cp.1 this.2 j hlt;rw[I5 hi,I5 hj]at this;intro e;simp only[NG,CK]at e;simp[e.1,e.2]at this
 .intro h i hi;unfold Fg;rw[AD];refine⟨by rw[I5 hi];exact h.el _<|Cd hi,Cp.2 λj hj=> ?_⟩;have:=fc.1 h.nd i j hi J hj;rw[I5 hi,I5 (J:j<l.length)];simp only[NG,ne_eq,CK,not_and]at this;by_cases e:l[j].fr=l[i].fr
  .simp[e,this e]
  .simp[e]
def OB{f:Frame}(h:Bx f=Y):isN f.src=Y/\isN f.dst=Y/\isN f.fr=Y/\isN f.to=Y/\inB f.nu 1 99=Y/\inB f.un 1 999=Y/\Jl f=Y:=by
 unfold Bx at h;simp only[AD]at h;exact h
def Wl{f:Frame}(h:Bx f=Y)(h1:f.ki=1):inB f.sz 1 24=Y/\Ig ⟨f.mix,f.da⟩/\f.dst=Br f.src f.to:=by
 have:=(OB h).2.2.2.2.2.2;unfold Jl at this;rw[A5<|AR h1]at this;simp only[AD]at this;exact⟨this.1,⟨this.2.1,Bd this.2.2.1⟩,Bd this.2.2.2⟩
def JU.sub{l g:List AE}(h:JU l)(hg:g.Sublist l):JU g:=⟨λx hx=>h.el x<|hg.subset hx,h.nd.sublist<|hg.map _⟩
def aaL{l:List AE}(h:JU l){f:Frame}(hf:Bx f=Y)(h1:f.ki=1):JU (Ap l f).1:=by
 obtain⟨_,_,r3,r4,r5,r6,_⟩:=OB hf;have hp:=Wl hf h1;unfold Ap;split
 .rename_i hi;have Tv:∀x∈l,NG x≠(f.fr,f.nu):=by
   intro x hx e;obtain⟨i,hi',rfl⟩:=OU hx;simp only[NG,CK]at e;obtain h|⟨i,h,_⟩:=G6 l.length (λi=>U ((hA l i).fr=f.fr)&&U ((hA l i).nu=f.nu))
   .have:=h.2 i hi';simp[e.1,e.2]at this
   .have:EB l f.fr f.nu=(i:Int):=h;omega
  have LB:∀g:List AE,g.Sublist l->JU (g++[⟨f.fr,f.nu,f.to,f.un,f.sz,[]⟩]):=by
   intro g hg;refine⟨λx hx=> ?_, ?_⟩
   .rcases BM.1 hx with h2|h2
    .exact h.el x (hg.subset h2)
    .rw[CL.1 h2];unfold Fs;simp only[r3,r4,r5,r6,hp.1,AP];rfl
   .rw[Eg,JN];refine⟨h.nd.sublist<|hg.map _,by simp,λa ha b hb=> ?_⟩;obtain⟨m,h2,rfl⟩:=Bu.1 ha;have hb:b=(f.fr,f.nu):=by simpa using hb
    rw[hb];exact Tv m<|hg.subset h2
  simp only;split
  .exact LB _ (QH _ _)
  .exact LB _ (ET _)
 .exact h
def ats{h:AE}(ok:Fs h=Y):Qw h.got/\h.got.length<=14:=by
 have h1:=abP ok;unfold Fs at ok;simp only[AD]at ok;exact⟨aEx.1 ok.2.2.2.2.2.2,h1⟩
def atr{h:AE}(ok:Fs h=Y){g:List AN}(hg:Qw g)(hl:g.length<=14):Fs ⟨h.fr,h.nu,h.to,h.un,h.sz,g⟩=Y:=by
 unfold Fs at ok ⊢;simp only[AD]at ok ⊢;exact⟨ok.1,ok.2.1,ok.2.2.1,ok.2.2.2.1,ok.2.2.2.2.1,AR J,aEx.2 hg⟩
def aEn{l:List AE}(h:JU l){i:Nat}(hi:i<l.length){f:Frame}(hm:Ig ⟨f.mix,f.da⟩):JU (Cz l i f):=by
 have hh:=h.el l[i] (Cd hi);have hg:=ats hh;have hn:=aut hg.1 hg.2 hm;unfold Cz;rw[I5 hi];refine⟨λx hx=> ?_, ?_⟩
 .rcases TK hx with h1|h1
  .exact h.el x h1
  .rw[h1];exact atr hh hn.1 hn.2
 .rw[List.map_set];have:(l.map NG).set i (NG ⟨l[i].fr,l[i].nu,l[i].to,l[i].un,l[i].sz,Cr l[i].got f.mix f.da⟩)=l.map NG:=by
   apply List.ext_getElem aE4;intro j h1 h2;rw[List.getElem_set];split
   .rename_i e;subst e;simp
   .rfl
  rw[this];exact h.nd
def aa3{l:List AE}(h:JU l)(i:Nat):JU (FB l i):=by
 refine h.sub ?_;unfold FB;have:(l.take i++l.drop (i+1)).Sublist (l.take i++l.drop i):=lY (ET _) (by rw[← Iq];exact QH _ _);rw[JK]at this;exact this
def YJ{k:A7}{st:AJ}(h:DB k st)(hu:k.up=Y){hv:List AE}(hl:hv.length<=3)(hf:JU hv):DB (GZ k hv) st:=by
 obtain⟨rs,ts,h1,h2⟩:=h.lg;have kf:=El h.ok;exact⟨W8 (k:=GZ k hv) kf.id h1 hl (.inl hu) (by rw[show(GZ k hv).id=k.id from rfl,h2];rfl)<|nF.2 hf,h.st⟩
def T4{k:A7}{st:AJ}(h:DB k st)(r:A1)(b:Bool):∃o,DB (wrR k r b).1 o/\((wrR k r b).2=Y->BJ st r=I o)/\((wrR k r b).2=A0->o=st/\BJ st r=G):=by
 unfold wrR;rw[h.stT];cases hc:BJ st r with
 | none=>exact⟨st,h,(λe=>absurd e CQ),λ_=>⟨rfl,rfl⟩⟩
 | some o=>
  refine⟨o, ?_,(λ_=>rfl),λe=>absurd e.symm CQ⟩;simp only;split
  .exact QG (Q9 h hc)
  .exact Q9 h hc
def jZ{k:A7}(h:Ae k=Y)(hu:k.up=Y){f:Frame}(hf:Bx f=Y)(h1:f.ki=1):Ae (E8 k f).1=Y:=by
 have hk:=C8 h;have kf:=El h;have hv:=nF.1 kf.hv;have hp:=Wl hf h1;have Ei:=OH (hv:=k.AH) (f:=f);have L9:=SX (hv:=k.AH) (f:=f) kf.hl;have hpf:=aaL hv hf h1;have haf:=aEn hpf Ei hp.2.1;have hal:(Cz (Ap k.AH f).1 (Ap k.AH f).2 f).length=(Ap k.AH f).1.length:=by unfold Cz;rw[GP]
 unfold E8;split
 .exact h
 split
 .exact(QG hk).ok
 split
 .exact h
 unfold Jx;split
 .split
  .unfold Kc;have hw:=YJ hk hu (hv:=FB (Cz (Ap k.AH f).1 (Ap k.AH f).2 f) (Ap k.AH f).2) (by unfold FB;simp;omega)<|aa3 haf _;split
   .obtain⟨o,ho,_⟩:=T4 hw (J6 ⟨f.fr,f.nu,f.to,f.un,(F7 f.sz<|Cr (hA (Ap k.AH f).1 (Ap k.AH f).2).got f.mix f.da).1⟩) Y;exact ho.ok
   .exact hw.ok
  .exact(YJ hk hu (by rw[hal];exact L9) haf).ok
 .exact(YJ hk hu L9 hpf).ok
def HU(k:A7)(f:Frame):A7×List Frame:=
 if k.up&&(Bx f&&U (f.dst=k.id)) then
  (if U (f.ki=1) then E8 k f
   else if U (f.ki=2)&&(!decide (AX (stT k).held f.fr f.nu<0)&&(U ((nA (stT k).held (AX (stT k).held f.fr f.nu).toNat).to=f.to)&&U ((nA (stT k).held (AX (stT k).held f.fr f.nu).toNat).un=f.un))) then
    ((wrR k (CY Bw f.fr f.nu f.un) A0).1,[])
   else(k,[]))
 else(k,[])
def CB(k:A7)(f:Frame):A7×List Frame:=if Ae k then HU k f else(zKp,[])
def kF{f:Frame}(h:Bx f=Y):(0<=f.fr/\f.fr<=999)/\(0<=f.nu/\f.nu<=999)/\(0<=f.un/\f.un<=999):=by
 obtain⟨_,_,r3,_,r5,r6,_⟩:=OB h;have a:=Aa.1 r3;have b:=Aa.1 r5;have c:=Aa.1 r6;exact⟨J,J,J⟩
def agm{k:A7}(sm:FF k)(f:Frame):Ua (tKp k,tF f,())=I ((tKp (CB k f).1,(CB k f).2,()),()):=by
 unfold Ua CB;rw[LU sm];obtain h|h:=tf (Ae k)
 .have hk:=C8 h;have hkf:=C3 hk.kok;have hl:=hkf.hl;have hl':(stT k).held.length<=1048576:=J
  unfold HU;simp only[A6,h,AB,A4,A2,MJ sm,xm,Nu h,Ja hl'];obtain e|e:=tf k.up<;>simp only[e,AB,AG,A4,A2,AP,AM];obtain e2|e2:=tf (Bx f)<;>simp only[e2,AB,AG,A4,A2,AP,AM];obtain e3|e3:=tfp (f.dst=k.id)<;>simp only[e3,AT,Af,AB,AG,A4,A2];obtain⟨r1,r2,r3⟩:=kF e2;obtain e4|e4:=tfp (f.ki=1)
  .have e4':=of_eq_true e4;simp only[e4,AT,A2];rw[show V9 (tKp k,tF f,())=_ from apP h e2 e4'];simp only[A6];rw[MJ<|D2<|jZ h e e2 e4'];rfl
  .simp only[e4,Af,A4];obtain e5|e5:=tfp (f.ki=2)<;>simp only[e5,AT,Af,AB,AG,A4,A2,AP,AM];by_cases hi:AX (stT k).held f.fr f.nu<0
   .simp only[AR hi,A2,AB,AM,A4]
   .have hi':0<=AX (stT k).held f.fr f.nu:=J
    simp only[BE hi,A4,AG,AP,A2,Ma hi',Qe];obtain e6|e6:=tfp ((nA (stT k).held (AX (stT k).held f.fr f.nu).toNat).un=f.un)<;>simp only[e6,AT,Af,AB,AG,A4,A2,Ks,BZ];obtain e7|e7:=tfp ((nA (stT k).held (AX (stT k).held f.fr f.nu).toNat).to=f.to)<;>simp only[e7,AT,Af,AB,AG,A4,A2];have hz:=Wp (w:=Bw) aE9 r1 r2 r3;have hw:=V7 hk.LA (r:=CY Bw f.fr f.nu f.un) J A0;rw[aA9 r1 r2 r3];simp only[A6];rw[A5<|AR (by rw[← We [108,101,116]]at hz;rw[By]at hz;rw[show(B [108,101,116,32]).size=(B<|[108,101,116]++[32]).size from rfl];omega)];rw[show(B [108,101,116,32])=B ([108,101,116]++[32]) from rfl,We [108,101,116],hw];rfl
 .simp only[A6,h,AG,A2,A4]
def uD{k:A7}(sm:FF k)(f:Frame):RF (tKp k,tF f,())=I ((tKp (CB k f).1,(CB k f).2,()),()):=by
 unfold RF CB;rw[Jb sm];obtain h|h:=tf (Ae k)
 .have hk:=C8 h;have hkf:=C3 hk.kok;have hl:=hkf.hl;have hl':(stT k).held.length<=1048576:=J
  unfold HU;simp only[A6,h,AB,A4,A2,KP sm,yG,LL h,LQ hl'];obtain e|e:=tf k.up<;>simp only[e,AB,AG,A4,A2,AP,AM];obtain e2|e2:=tf (Bx f)<;>simp only[e2,AB,AG,A4,A2,AP,AM];obtain e3|e3:=tfp (f.dst=k.id)<;>simp only[e3,AT,Af,AB,AG,A4,A2];obtain⟨r1,r2,r3⟩:=kF e2;obtain e4|e4:=tfp (f.ki=1)
  .have e4':=of_eq_true e4;simp only[e4,AT,A2];rw[show Uv (tKp k,tF f,())=_ from aj6 h];simp only[A6];rw[KP<|D2<|jZ h e e2 e4'];rfl
  .simp only[e4,Af,A4];obtain e5|e5:=tfp (f.ki=2)<;>simp only[e5,AT,Af,A4,A2,AP,AM];by_cases hi:AX (stT k).held f.fr f.nu<0
   .rw[A8 (show ¬U (0<=AX (stT k).held f.fr f.nu)=Y by simp;omega)];simp only[AR hi,HJ,A2,Be,AB,AM,A4]
   .have hi':0<=AX (stT k).held f.fr f.nu:=J
    rw[A5<|AR hi'];simp only[BE hi,AG,AP,A2,Ma hi',Qe,Hq,Be];obtain e7|e7:=tfp ((nA (stT k).held (AX (stT k).held f.fr f.nu).toNat).to=f.to)<;>simp only[e7,AT,Af,A4,A2,AP,AM];obtain e6|e6:=tfp ((nA (stT k).held (AX (stT k).held f.fr f.nu).toNat).un=f.un)<;>simp only[e6,AT,Af,A4,A2];have hz:=Wp (w:=Bw) aE9 r1 r2 r3;have hw:=WO hk.LA (r:=CY Bw f.fr f.nu f.un) J;rw[show PI (B [108,101,116],f.fr,f.nu,f.un,())=_ from ry (w:=Bw) aE9 r1 r2 r3];simp only[A6];rw[hw];rfl
 .simp only[A6,h,AG,A2,A4]
def ato{k:A7}(h:Ae k=Y)(f:Frame):Ae (CB k f).1=Y:=by
 have hk:=C8 h;unfold CB HU;rw[A5 h];split
 .rename_i hc;simp only[AD]at hc;split
  .rename_i h1;exact jZ h hc.1 hc.2.1 (Bd h1)
  .split
   .obtain⟨o,ho,_⟩:=T4 hk (CY Bw f.fr f.nu f.un) A0;exact ho.ok
   .exact h
 .exact h
def ath{k:A7}(h:Ae k=Y):Ae (FM k).1=Y:=by
 unfold FM;split
 .obtain⟨o,ho,_⟩:=T4 (C8 h) (FX<|(stT k).ti+1) Y;exact ho.ok
 .exact h
def avQ{k:A7}(h:Ae k=Y)(tt un:Int)(tx:A1):Ae (Dq k tt un tx).1=Y:=by
 unfold Dq;split
 .obtain⟨o,ho,_⟩:=T4 (C8 h) (Kd ⟨k.id,(stT k).nx,tt,un,tx⟩) Y;exact ho.ok
 .exact h
def awS{k:A7}(h:Ae k=Y)(fr nu:Int):Ae (DU k fr nu).1=Y:=by
 unfold DU;split
 .obtain⟨o,ho,_⟩:=T4 (C8 h) (CY CH fr nu (nA (stT k).inbox (AX (stT k).inbox fr nu).toNat).un) Y;exact ho.ok
 .exact h
def auG{k:A7}(h:Ae k=Y):Ae (FN k).1=Y:=by
 unfold FN;split
 .exact(mv<|C8 h).ok
 .exact h
def asP{k:A7}(h:Ae k=Y):Ae (Db k).1=Y:=by
 unfold Db;split
 .exact(QG<|C8 h).ok
 .exact h
def X8(l:List Int):(BH l).size=l.length:=by
 show(List.toArray _).size=_;simp
def arc(f:Frame):(Cb f).length<=17:=by
 unfold Cb;split
 .rename_i h;have:=XK h;simp only[Au,Bj,CO];omega
 .simp
def frA(l:List Frame)(i:Nat):Frame:=l.getD i<|dfl .frame
def aDJ(l:List Frame)(i:Nat): @rd Frame aFg l (i:Int)=frA l i:=rfl
def pcF(f:Frame):AL:=⟨f.src,f.dst,BH<|Cb f,A0⟩
def Bz(ra:List AL)(fs:List Frame):List AL:=ra++(fs.take<|30 - ra.length).map pcF
def abB{l:List Frame}{i:Nat}(h:i<l.length):frA l i=l[i]:=by
 rw[frA,B9,Av h];rfl
def xq{ra:List AL}{fs:List Frame}(hf:fs.length<=1048576):Rf (ra,fs,())=I ((Bz ra fs,()),()):=by
 have Gm:q8 (ra,fs,0,())=I (.inr (Bz ra fs,())):=by
  have h0:=CS (b:=V6) (y:= .inr (Bz ra fs,())) (λi=>(ra++(fs.take i).map pcF,fs,(i:Int),())) (min fs.length<|30 - ra.length) (λi hi=>by
   have h1:i<fs.length:=J
   have h2:(ra++(fs.take i).map pcF).length=ra.length+i:=by simp;omega
   unfold V6;simp only[BL h1,AU h1,aDJ,BC h1 (by omega:fs.length<=9223372036854775807),h2];rw[A5 y7];simp only[A2];rw[show PH ((_,_,_,_,_,_,_,_,_,_,()),())=_ from uq<|frA fs i];simp only[A6];rw[A5<|BG y7];have h3:ra++(fs.take<|i+1).map pcF=(ra++(fs.take i).map pcF)++[pcF (frA fs i)]:=by
    rw[abB h1,C2,← List.map_singleton (f:=pcF),← Eg,List.take_append_getElem h1]
   rw[h3];rfl) (by
   unfold V6;have h2:(ra++(fs.take<|min fs.length<|30 - ra.length).map pcF).length=ra.length+min fs.length (30 - ra.length):=by simp
   simp only[h2];rw[A8 (by simp only[AD,decide_eq_true_eq];omega)];have h3:fs.take (min fs.length<|30 - ra.length)=fs.take (30 - ra.length):=by
    rw[Nat.min_comm,← Ys,E5]
   rw[h3];rfl)
  simp only[List.take_zero,JQ,CJ]at h0;exact h0
 unfold Rf;simp only[Gm,Co]
def OW(f:Frame):Prop:=isN f.src=Y/\isN f.dst=Y/\(f.src - f.dst=1\/f.dst - f.src=1)
def awh{f:Frame}(h:OW f):E3 (pcF f)=Y:=by
 have:=arc f;unfold E3 pcF;simp only[h.1,h.2.1,AP,X8,AD,C1,decide_eq_true_eq];exact⟨h.2.2,J⟩
def aDD{ra:List AL}{fs:List Frame}(h:ra.length<=30):(Bz ra fs).length<=30:=by
 unfold Bz;simp;omega
def aaF{ra:List AL}{fs:List Frame}(h:∀p∈ra,E3 p=Y)(hf:∀f∈fs,OW f):∀p∈Bz ra fs,E3 p=Y:=by
 intro p hp;obtain h1|h1:=BM.1 hp
 .exact h p h1
 .obtain⟨f,h2,rfl⟩:=Bu.1 h1;exact awh<|hf f<|IF h2
def je{a t:Int}(h:isN (Br a t)=Y):isN a=Y/\(a - Br a t=1\/Br a t - a=1):=by
 have h0:=F6 h;revert h0;unfold Br;split
 .omega
 .rename_i h1;intro _;simp only[C1,CE,not_or,Bool.not_eq_false]at h1;refine⟨h1.1, ?_⟩;split<;>omega
def auy{f:Frame}(h:Bx f=Y):OW f:=by
 obtain⟨r1,r2,_,_,_,_,r7⟩:=OB h;refine⟨r1,r2, ?_⟩;unfold Jl at r7;split at r7
 .simp only[AD,decide_eq_true_eq]at r7;have h1:=r7.2.2.2;have:=je (a:=f.src) (t:=f.to) (by rw[← h1];exact r2);rw[← h1]at this;exact this.2
 .simp only[AD,decide_eq_true_eq]at r7;have h1:=r7.2.2.2.2;have:=je (a:=f.dst) (t:=f.to) (by rw[← h1];exact r1);rw[← h1]at this;exact this.2.symm
def aw9{f:Frame}(n:Int)(h:OW f):OW (Df n f):=⟨h.2.1,h.1,h.2.2.symm⟩
def asJ(k:A7)(f:Frame):(CB k f).2=[]\/(Bx f=Y/\ ∃n,(CB k f).2=[Df n f]):=by
 unfold CB;split
 .unfold HU;split
  .rename_i hc;simp only[AD]at hc;split
   .unfold E8;split
    .exact .inr ⟨hc.2.1,3,rfl⟩
    .split
     .exact .inr ⟨hc.2.1,2,rfl⟩
     .split
      .exact .inl rfl
      .unfold Jx;split
       .split
        .unfold Kc;split
         .exact .inr ⟨hc.2.1,2,rfl⟩
         .exact .inl rfl
        .exact .inl rfl
       .exact .inl rfl
   .split<;>exact .inl rfl
  .exact .inl rfl
 .exact .inl rfl
def X3(k:A7)(f:Frame):(CB k f).2.length<=1/\ ∀g∈(CB k f).2,OW g:=by
 obtain h|⟨h,n,h1⟩:=asJ k f
 .rw[h];exact⟨by simp,λg hg=>by cases hg⟩
 .rw[h1];exact⟨by simp,λg hg=>by rw[CL.1 hg];exact aw9 n<|auy h⟩
def atw{k:A7}(h:Ae k=Y){fr nu mix:Int}(hb:(EC k fr nu mix).2=Y):OW (EC k fr nu mix).1:=by
 unfold EC at hb ⊢;split
 .rename_i hc;simp only[AD,CE,decide_eq_false_iff_not]at hc;have hk:=C8 h;have h0:=(FG<|QU.1 hc.2.1).1;have:=kJ hk.kok (n:=nA (stT k).held (AX (stT k).held fr nu).toNat) (by rw[nA,B9,Av h0];exact Cd h0);rw[hk.id]at this;have h2:=je this;exact⟨h2.1,this,h2.2⟩
 .rename_i hc;rw[A8 hc]at hb;cases hb
structure B5 (w:AA):Prop where
 kl:w.A9.length=4
 ll:w.Ao.length=3
 rl:w.AS.length<=30
 sl:w.AY.length<=6
 gl:w.got.length<=6
 k:∀i,i<4->Ae (kA w.A9 i)=Y/\(kA w.A9 i).id=(i:Int)
 p:∀p∈w.AS,E3 p=Y
 s:∀n∈w.AY,Ax n=Y
 g:∀n∈w.got,Ax n=Y
def Eb(w:AA)(p:AL)(ra:List AL):AA:=
 if(Cn<|BA p.data).2&&(U ((Cn<|BA p.data).1.src=p.src)&&U ((Cn<|BA p.data).1.dst=p.dst)) then
  ⟨w.ti,w.A9.set p.dst.toNat (CB (kA w.A9 p.dst.toNat) (Cn<|BA p.data).1).1,w.Ao,Bz ra (CB (kA w.A9 p.dst.toNat) (Cn<|BA p.data).1).2,w.AY,w.got⟩
 else⟨w.ti,w.A9,w.Ao,ra,w.AY,w.got⟩
def OR(p:AL)(mix kp:Int):AL:=⟨p.src,p.dst,BH<|Bq (BA p.data) mix.toNat<|Dt .u8 (@rd Int aFd (BA p.data) mix)<|w8 kp,Y⟩
def JA(ra:List AL)(i:Nat):List AL:=ra.take i++ra.drop (i+1)
def lnk(p:AL):Int:=if p.src<p.dst then p.src else p.dst
def EZ(w:AA)(e:Event):AA×Bool:=
 if inB e.wo 0 ((w.AS.length:Int) - 1) then
  if e.ki=6 then
   if !(pA w.AS e.wo.toNat).sp&&(inB e.mix 0 (((pA w.AS e.wo.toNat).data.size:Int) - 1)&&inB e.kp 1 255) then
    (⟨w.ti,w.A9,w.Ao,w.AS.set e.wo.toNat<|OR (pA w.AS e.wo.toNat) e.mix e.kp,w.AY,w.got⟩,Y)
   else(w,A0)
  else if e.ki=5 then(⟨w.ti,w.A9,w.Ao,JA w.AS e.wo.toNat,w.AY,w.got⟩,Y)
  else if bA w.Ao (lnk<|pA w.AS e.wo.toNat).toNat then(Eb w (pA w.AS e.wo.toNat)<|if e.kp=0 then JA w.AS e.wo.toNat else w.AS,Y)
  else(w,A0)
 else(w,A0)
def G3(w:AA)(i:Nat)(k:A7):AA:=⟨w.ti,w.A9.set i k,w.Ao,w.AS,w.AY,w.got⟩
def N8(w:AA)(e:Event)(k:A7):AA×Bool:=
 if 6<=w.AY.length then(w,A0)
 else if(Dq k e.to e.un e.tx).2=0 then(w,A0)
 else(⟨w.ti,w.A9.set e.at_.toNat (Dq k e.to e.un e.tx).1,w.Ao,w.AS,w.AY++[⟨e.at_,(Dq k e.to e.un e.tx).2,e.to,e.un,e.tx⟩],w.got⟩,Y)
def NA(w:AA)(e:Event)(k:A7):AA×Bool:=
 if(DU k e.fr e.nu).2.2&&U (w.got.length<6) then
  (⟨w.ti,w.A9.set e.at_.toNat (DU k e.fr e.nu).1,w.Ao,w.AS,w.AY,w.got++[(DU k e.fr e.nu).2.1]⟩,Y)
 else(w,A0)
def GW(w:AA)(e:Event)(k:A7):AA×Bool:=
 if e.ki=1 then N8 w e k
 else if e.ki=2 then(G3 w e.at_.toNat (FM k).1,(FM k).2)
 else if e.ki=3 then(if(EC k e.fr e.nu e.mix).2 then(⟨w.ti,w.A9,w.Ao,Bz w.AS [(EC k e.fr e.nu e.mix).1],w.AY,w.got⟩,Y) else(w,A0))
 else if e.ki=7 then(G3 w e.at_.toNat<|faM k e.kp,k.up)
 else if e.ki=8 then(G3 w e.at_.toNat<|riM k,!k.up)
 else if e.ki=11 then NA w e k
 else if e.ki=12 then(G3 w e.at_.toNat (FN k).1,(FN k).2)
 else if e.ki=13 then(G3 w e.at_.toNat (Db k).1,(Db k).2)
 else(w,A0)
def Es(w:AA)(e:Event):AA×Bool:=
 if inB e.at_ 0 ((w.Ao.length:Int) - 1)&& !decide (bA w.Ao e.at_.toNat=U (e.ki=9)) then
  (⟨w.ti,w.A9,w.Ao.set e.at_.toNat<|U<|e.ki=9,w.AS,w.AY,w.got⟩,Y)
 else(w,A0)
def doM(w:AA)(e:Event):AA×Bool:=
 if e.ki=4\/e.ki=5\/e.ki=6 then EZ w e
 else if e.ki=9\/e.ki=10 then Es w e
 else if isN e.at_ then GW w e (kA w.A9 e.at_.toNat)
 else(w,A0)
abbrev tE(e:Event):Int×Int×Int×Int×Int×Int×Int×Int×Int×A1×D:=(e.ki,e.at_,e.fr,e.nu,e.wo,e.mix,e.kp,e.to,e.un,e.tx,())
abbrev tS(w:AA)(ev:List Event):Int×List A7×List Bool×List AL×List A3×List A3×List Event×D:=(w.ti,w.A9,w.Ao,w.AS,w.AY,w.got,ev,())
def tick(w:AA)(b:Bool):AA:=if b then⟨w64<|w.ti+1,w.A9,w.Ao,w.AS,w.AY,w.got⟩ else w
def Cj(w:AA)(e:Event):AA:=tick (doM w e).1 (doM w e).2
def Jo(ev:List Event)(e:Event)(b:Bool):List Event:=if b then ev++[e] else ev
def aB4(l:List AL)(i:Int): @rd AL aFa l i=pA l i.toNat:=rfl
def Xa(l:List Bool)(i:Int): @rd Bool aFj l i=bA l i.toNat:=rfl
def nL{l:List AL}{i:Nat}(h:i<l.length):pA l i=l[i]:=by
 rw[pA,B9,Av h];rfl
def Ft{i:Int}{n:Nat}(h0:0<=i)(h1:i<n):inb i n=Y:=by unfold inb;simp;omega
def MY{p:AL}(h:E3 p=Y):(0<=p.src/\p.src<=3)/\(0<=p.dst/\p.dst<=3)/\p.data.size<=40/\0<=lnk p/\lnk p<3:=by
 unfold E3 at h;simp only[AD,C1,decide_eq_true_eq]at h;have a:=F6 h.1;have b:=F6 h.2.1;refine⟨a,b,J, ?_, ?_⟩<;>unfold lnk<;>split<;>omega
def alo(a b:Int):dp (a,b,())=I ((if a<b then a else b,()),()):=by
 unfold dp;obtain e|e:=tfp (a<b)<;>simp only[e,AT,Af,A2,if_false,A4]
def Pm{w:AA}(h:B5 w){i:Nat}(hi:i<w.AS.length):E3 (pA w.AS i)=Y:=by
 rw[nL hi];exact h.p _<|Cd hi
def Tg{w:AA}(h:B5 w){i:Nat}(hi:i<4):FF (kA w.A9 i):=D2 (h.k i hi).1
def S7{n:Nat}(h:n<=1048576):w64 ((n:Int) - 1)=(n:Int) - 1:=AZ J J
def nd{p:Prop}[Decidable p](h:¬p):¬(U p=Y):=by simpa using h
def aaE{α:Type}(l:List α)(i:Nat)(x y:α):(l.set i x).set i y=l.set i y:=by simp
def aau{l:List AL}{i:Nat}(h:i<l.length)(p:AL):pA (l.set i p) i=p:=by
 rw[pA,B9,Yi h];rfl
def nB(s:A1):(BA s).length=s.size:=by rw[SN,DV,Aw]
def TA{n:Int}(h:isN n=Y):n.toNat<4:=by have:=F6 h;omega
section
variable {Ω:Type} {K2:List A7->List AL->Option Ω} {F:Option Ω}
def ab2{w:AA}(h:B5 w){e:Event}(hk:e.ki≠5){p:AL}(hp:E3 p=Y)(ra:List AL):Qo w.A9 ra (tE e) p K2=K2 (Eb w p ra).A9 (Eb w p ra).AS:=by
 obtain⟨p1,p2,p3,p4,p5⟩:=MY hp;have hin:inb p.dst w.A9.length=Y:=Ft p2.1 (by rw[h.kl];omega);unfold Qo Eb;rw[A8<|nd hk,A5<|BG J,afl<|BOk.str _];generalize Cn (BA p.data)=u;simp only[A6];obtain e2|e2:=tf u.2<;>simp only[e2,AB,AG,A4,A2,AP,AM];obtain e3|e3:=tfp (u.1.src=p.src)<;>simp only[e3,AT,Af,AB,AG,A4,A2,AP,AM];obtain e4|e4:=tfp (u.1.dst=p.dst)<;>simp only[e4,AT,Af,AB,AG,A4,A2];simp only[hin,A2,WD];rw[show Ua ((_,_,_,_,_,()),_,())=_ from agm (Tg h (i:=p.dst.toNat) J) u.1];simp only[A6];rw[xq (by have:=(X3 (kA w.A9 p.dst.toNat) u.1).1;omega)];rfl
def ab3{a:List A7}{ra:List AL}{e:Event}(h0:0<=e.wo)(h1:e.wo<ra.length)(hl:ra.length<=1048576)(p:AL):Zl a ra (tE e) p K2=Qo a (JA ra e.wo.toNat) (tE e) p K2:=by
 have hw:w64 (e.wo+1)=e.wo+1:=AZ J J;have hn:(e.wo+1).toNat=e.wo.toNat+1:=J
 unfold Zl;simp only[hw,hn];rw[A5 y7,A5<|BG y7,A5 y7,A5<|BG y7];rfl
def awd{w:AA}(h:B5 w){e:Event}(hk:e.ki=4\/e.ki=5\/e.ki=6):Qp w.A9 w.Ao w.AS (tE e) K2 F=if(EZ w e).2 then K2 (EZ w e).1.A9 (EZ w e).1.AS else F:=by
 have rl:=h.rl;unfold Qp EZ;simp only[Hr,A6,S7 (J:w.AS.length<=1048576),aB4];obtain e0|e0:=tf (inB e.wo 0<|(w.AS.length:Int) - 1)
 .have ha:=Aa.1 e0;have hb:inb e.wo w.AS.length=Y:=Ft ha.1 J;have hwl:e.wo.toNat<w.AS.length:=J
  have hp:=Pm h (i:=e.wo.toNat) hwl;obtain⟨p1,p2,p3,p4,p5⟩:=MY hp;rw[e0,hb];simp only[AB,A4,A2];obtain c6|c6:=tfp (e.ki=6)
  .simp only[c6,AT,A2,S7<|show(pA w.AS e.wo.toNat).data.size<=1048576 by omega];obtain e1|e1:=tf (pA w.AS e.wo.toNat).sp<;>simp only[e1,AB,AG,A4,A2,AP,AM];obtain e2|e2:=tf (inB e.mix 0<|((pA w.AS e.wo.toNat).data.size:Int) - 1)<;>simp only[e2,AB,AG,A4,A2,AP,AM];obtain e3|e3:=tf (inB e.kp 1 255)<;>simp only[e3,AB,AG,A4,A2];have hm:=Aa.1 e2;have hmb:inb e.mix (BA (pA w.AS e.wo.toNat).data).length=Y:=Ft hm.1 (by rw[nB];omega);simp only[GP,aaE,aau hwl,hb,A2];rw[A5<|BG J,A5 hmb,A5 hmb];rfl
  .simp only[c6,Af,A4,if_false];obtain c4|c4:=tfp (e.ki=4)
   .have c5:¬e.ki=5:=by have:e.ki=4:=of_eq_true c4;omega
    have hl:inb (lnk<|pA w.AS e.wo.toNat) w.Ao.length=Y:=by
     have:=h.ll;exact Ft p4 (by rw[this];exact p5)
    have hlk:∀q:AL,(if q.src<q.dst then q.src else q.dst)=lnk q:=λ_=>rfl;simp only[c4,AT,A2,alo,A6,hlk,hl,Xa,A8 c5];obtain e1|e1:=tf (bA w.Ao (lnk<|pA w.AS e.wo.toNat).toNat)<;>simp only[e1,AB,AG,A4,A2];unfold Zk;rw[A8<|nd c5];by_cases e5:e.kp=0
    .rw[A5<|AR e5,A5 e5,ab3 ha.1 J J,ab2 h c5 hp]
    .rw[A8<|nd e5,A8 e5,ab2 h c5 hp]
   .have c5:e.ki=5:=by
     have:¬e.ki=4:=by simpa using c4
     have:¬e.ki=6:=by simpa using c6
     omega
    simp only[c4,Af,A4,A5 c5];unfold Zk;rw[A5<|AR c5,ab3 ha.1 J J];unfold Qo;rw[A5<|AR c5];rfl
 .rw[e0];simp only[AG,A2,A4]
def awe{w:AA}(h:B5 w){e:Event}{K1:List Bool->Option Ω}:Tn w.Ao (tE e) K1 F=if(Es w e).2 then K1 (Es w e).1.Ao else F:=by
 have ll:=h.ll;unfold Tn Es;simp only[Hr,A6,S7 (J:w.Ao.length<=1048576),Xa];obtain e0|e0:=tf (inB e.at_ 0<|(w.Ao.length:Int) - 1)
 .have ha:=Aa.1 e0;have hb:inb e.at_ w.Ao.length=Y:=Ft ha.1 J;rw[e0,hb];simp only[AB,A4,A2,AP];obtain c|c:=tfp (bA w.Ao e.at_.toNat=U (e.ki=9))<;>simp only[c,AT,Af,AB,AG,A2,A4]
 .rw[e0];simp only[AG,AM,A2,A4]
end
section
variable {Ω:Type} {K:List A7->List Bool->List AL->List A3->List A3->Option Ω} {F:Option Ω} {Kv:List A7->Bool->Option Ω} {Km:List AL->Bool->Option Ω} {Kz:Bool->Option Ω} {R:Option Ω}
def axb{w:AA}(h:B5 w){e:Event}(hk:¬(e.ki=4\/e.ki=5\/e.ki=6))(hk':¬(e.ki=9\/e.ki=10))(ht:e.tx.size<=1048576){B4:AA×Bool}
  (hK:B4.2=Y->K B4.1.A9 B4.1.Ao B4.1.AS B4.1.AY B4.1.got=R)(hF:B4.2=A0->B4.1=w->F=R)(hKv:∀k' b,B4=(G3 w e.at_.toNat k',b)->Kv (w.A9.set e.at_.toNat k') b=R)
  (hKm:∀ra',B4=(⟨w.ti,w.A9,w.Ao,ra',w.AY,w.got⟩,Y)->Km ra' Y=R)(hKz:B4=(w,A0)->Kz A0=R):
  ∀X,nc w.A9 w.AS w.AY w.got (tE e) (λx y z=>K x w.Ao w.AS y z) F Kv Km Kz=X->doM w e=B4->X=R:=by
 intro X;obtain⟨ki,at_,fr,nu,wo,mix,kp,t',un,tx⟩:=e;simp only at hk hk' ht hKv;have hn:∀(l:List A3) (x:A3),l.length<=6->Ac (l.length+[x].length)=Y:=λl x hl=>BG y7;unfold nc doM;rw[A8 hk,A8 hk'];simp only[Jd,A6];obtain e0|e0:=tf (isN at_)
 .have ha:=F6 e0;have hal:=TA e0;have hb:inb at_ w.A9.length=Y:=Ft ha.1 (by rw[h.kl];omega);have hko:=(h.k _ hal).1;have hks:=Tg h hal;simp only[e0,AB,A4,hb,A2,WD];unfold GW;obtain e1|e1:=tfp (ki=1)
  .simp only[e1,AT,A2];unfold N8;by_cases hs:6<=w.AY.length
   .rw[A5<|AR (J:6<=(w.AY.length:Int)),A5 hs];intro hX hd;subst hd;rw[← hX];exact hF rfl rfl
   .rw[A8<|nd (J:¬6<=(w.AY.length:Int)),A8 hs];rw[show Uf ((_,_,_,_,_,()),_,_,_,())=_ from aiW hko t' un ht];simp only[A6];obtain e2|e2:=tfp ((Dq (kA w.A9 at_.toNat) t' un tx).2=0)<;>simp only[e2,AT,Af,A4,A2,if_false]
    .intro hX hd;subst hd;rw[← hX];exact hF rfl rfl
    .rw[A5<|hn _ _ h.sl];intro hX hd;subst hd;rw[← hX];exact hK rfl
  .simp only[e1,Af,A4,if_false];obtain e2|e2:=tfp (ki=2)
   .simp only[e2,AT,A2];rw[show UX ((_,_,_,_,_,()),())=_ from agj hko];simp only[A6];intro hX hd;subst hd;rw[← hX];exact hKv _ _ rfl
   .simp only[e2,Af,A4,if_false];obtain e3|e3:=tfp (ki=3)
    .simp only[e3,AT,A2];rw[show Ug ((_,_,_,_,_,()),_,_,_,())=_ from aiX hks fr nu mix];simp only[A6];rw[A5 hko];obtain e4|e4:=tf (EC (kA w.A9 at_.toNat) fr nu mix).2<;>simp only[e4,A2,A4]
     .rw[show Rf (_,_,())=_ from xq (ra:=w.AS) (fs:=[(EC (kA w.A9 at_.toNat) fr nu mix).1]) aE4];simp only[A6];intro hX hd;subst hd;rw[← hX];exact hKm _ rfl
     .intro hX hd;subst hd;rw[← hX];exact hKz rfl
    .simp only[e3,Af,A4,if_false];obtain e4|e4:=tfp (ki=7)
     .simp only[e4,AT,A2];rw[show Ub ((_,_,_,_,_,()),_,())=_ from agn hks kp];simp only[A6];rw[A5 hko];intro hX hd;subst hd;rw[← hX];exact hKv _ _ rfl
     .simp only[e4,Af,A4,if_false];obtain e5|e5:=tfp (ki=8)
      .simp only[e5,AT,A2];rw[show UY ((_,_,_,_,_,()),())=_ from agk hko];simp only[A6];intro hX hd;subst hd;rw[← hX];exact hKv _ _ rfl
      .simp only[e5,Af,A4,if_false];obtain e6|e6:=tfp (ki=11)
       .simp only[e6,AT,A2];unfold NA;rw[show Uh ((_,_,_,_,_,()),_,_,())=_ from aiY hko fr nu];simp only[A6];obtain e7|e7:=tf (DU (kA w.A9 at_.toNat) fr nu).2.2<;>simp only[e7,A2,A4,AP,AM]
        .by_cases hs:w.got.length<6
         .rw[A5<|AR<|show(j8 w.got:Int)<6 by omega,A5<|AR hs,A5<|hn _ _ h.gl];intro hX hd;subst hd;rw[← hX];exact hK rfl
         .rw[A8<|nd (J:¬(j8 w.got:Int)<6),A8<|nd hs];intro hX hd;subst hd;rw[← hX];exact hF rfl rfl
        .intro hX hd;subst hd;rw[← hX];exact hF rfl rfl
       .simp only[e6,Af,A4,if_false];obtain e7|e7:=tfp (ki=12)
        .simp only[e7,AT,A2];rw[show UZ ((_,_,_,_,_,()),())=_ from agl hko];simp only[A6];intro hX hd;subst hd;rw[← hX];exact hKv _ _ rfl
        .simp only[e7,Af,A4,if_false];obtain e8|e8:=tfp (ki=13)
         .simp only[e8,AT,A2];rw[show UM ((_,_,_,_,_,()),())=_ from afk hko];simp only[A6];intro hX hd;subst hd;rw[← hX];exact hKv _ _ rfl
         .simp only[e8,Af,A4,if_false];intro hX hd;subst hd;rw[← hX];exact hF rfl rfl
 .simp only[e0,AG,A4,A2];intro hX hd;subst hd;rw[← hX];exact hF rfl rfl
def arV{w:AA}{e:Event}(h:(EZ w e).2=A0):(EZ w e).1=w:=by
 unfold EZ at h ⊢;split
 .rename_i h2;rw[A5 h2]at h;split
  .rename_i h3;rw[A5 h3]at h;split
   .rename_i h4;rw[A5 h4]at h;cases h
   .rfl
  .rename_i h3;rw[A8 h3]at h;split
   .rename_i h4;rw[A5 h4]at h;cases h
   .rename_i h4;rw[A8 h4]at h;split
    .rename_i h5;rw[A5 h5]at h;cases h
    .rfl
 .rfl
def aps(w:AA)(e:Event):(EZ w e).1.Ao=w.Ao/\(EZ w e).1.AY=w.AY/\(EZ w e).1.got=w.got:=by
 unfold EZ;split
 .split
  .split<;>exact⟨rfl,rfl,rfl⟩
  .split
   .exact⟨rfl,rfl,rfl⟩
   .split
    .unfold Eb;split<;>exact⟨rfl,rfl,rfl⟩
    .exact⟨rfl,rfl,rfl⟩
 .exact⟨rfl,rfl,rfl⟩
def abQ{w:AA}(h:B5 w){e:Event}(ht:e.tx.size<=1048576)
  (hK:(doM w e).2=Y->K (doM w e).1.A9 (doM w e).1.Ao (doM w e).1.AS (doM w e).1.AY (doM w e).1.got=R)(hF:(doM w e).2=A0->(doM w e).1=w->F=R)(hKv:∀k' b,doM w e=(G3 w e.at_.toNat k',b)->Kv (w.A9.set e.at_.toNat k') b=R)
  (hKm:∀ra',doM w e=(⟨w.ti,w.A9,w.Ao,ra',w.AY,w.got⟩,Y)->Km ra' Y=R)(hKz:doM w e=(w,A0)->Kz A0=R):
  doK w.A9 w.Ao w.AS w.AY w.got (tE e) K F Kv Km Kz=R:=by
 have rad:(e.ki=4\/e.ki=5\/e.ki=6)->Qp w.A9 w.Ao w.AS (tE e) (λx y=>K x w.Ao y w.AY w.got) F=R:=by
  intro hk;have hd:doM w e=EZ w e:=by
   unfold doM;rw[A5 hk]
  rw[awd h hk];rw[hd]at hK hF;obtain⟨r1,r2,r3⟩:=aps w e;obtain c|c:=tf (EZ w e).2
  .have:=hK c;rw[r1,r2,r3]at this;rw[c,A5 rfl];exact this
  .rw[c,A4];exact hF c<|arV c
 have lk:(e.ki=9\/e.ki=10)->Tn w.Ao (tE e) (λy=>K w.A9 y w.AS w.AY w.got) F=R:=by
  intro hk;have hd:doM w e=Es w e:=by
   unfold doM;rw[A8 J,A5 hk]
  rw[awe h];rw[hd]at hK hF;obtain c|c:=tf (Es w e).2
  .have:=hK c;rw[c,A5 rfl,← this];unfold Es;split<;>rfl
  .rw[c,A4];refine hF c ?_;unfold Es at c ⊢;split
   .rename_i h3;rw[A5 h3]at c;cases c
   .rfl
 unfold doK;by_cases h4:e.ki=4
 .rw[A5<|AR h4];exact rad J
 .rw[A8<|nd h4];by_cases h5:e.ki=5
  .rw[A5<|AR h5];exact rad J
  .rw[A8<|nd h5];by_cases h6:e.ki=6
   .rw[A5<|AR h6];exact rad J
   .rw[A8<|nd h6];by_cases h9:e.ki=9
    .rw[A5<|AR h9];exact lk J
    .rw[A8<|nd h9];by_cases h10:e.ki=10
     .rw[A5<|AR h10];exact lk J
     .rw[A8<|nd h10];exact axb h J J ht hK hF hKv hKm hKz _ rfl rfl
end
def aup(w:AA)(p:AL)(ra:List AL):(Eb w p ra).ti=w.ti:=by unfold Eb;split<;>rfl
def ZB(w:AA)(e:Event):(doM w e).1.ti=w.ti:=by
 unfold doM;split
 .unfold EZ;split
  .split
   .split<;>rfl
   .split
    .rfl
    .split
     .exact aup _ _ _
     .rfl
  .rfl
 .split
  .unfold Es;split<;>rfl
  .split
   .unfold GW;split
    .unfold N8;split
     .rfl
     .split<;>rfl
    .split
     .rfl
     .split
      .split<;>rfl
      .split
       .rfl
       .split
        .rfl
        .split
         .unfold NA;split<;>rfl
         .split
          .rfl
          .split<;>rfl
   .rfl
def arL{w:AA}(h:B5 w){r:List Int×Int×D}{ev:List Event}(hev:ev.length<=1048576){e:Event}(ht:e.tx.size<=1048576):
  Fl ((r,tS w ev),tE e,())=I (((doM w e).2,()),((r,tS (Cj w e)<|Jo ev e (doM w e).2),())):=by
 have hr:∀x:Event,Ac (ev.length+[x].length)=Y:=λx=>BG y7;have hti:=ZB w e;unfold Fl;refine abQ (w:=w) h (e:=e) ht (λc=> ?_) (λc c2=> ?_) (λk b c=> ?_) (λra c=> ?_) (λc=> ?_)
 .unfold Cj tick Jo;rw[c,A5<|hr _,A5 rfl,A5 rfl,hti]
 .unfold Cj tick Jo;rw[c,A4,A4,c2]
 .unfold Cj tick Jo;rw[c];cases b
  .rfl
  .show(if Ac _ then _ else _)=_;rw[A5<|hr _];rfl
 .unfold Cj tick Jo;rw[c,A5 rfl,A5<|hr _];rfl
 .unfold Cj tick Jo;rw[c];rfl
end Go.VS
namespace Go.VS
open Go
def T5(k:A7)(r:A1)(f:Bool):(wrR k r f).1.id=k.id:=by
 unfold wrR;split
 .rfl
 .cases f<;>rfl
def atp{k:A7}(h:Ae k=Y)(f:Frame):(CB k f).1.id=k.id:=by
 unfold CB;rw[A5 h];unfold HU;split
 .split
  .unfold E8;split
   .rfl
   .split
    .rfl
    .split
     .rfl
     .unfold Jx;split
      .split
       .unfold Kc;split
        .exact T5 _ _ _
        .rfl
       .rfl
      .rfl
  .split
   .exact T5 _ _ _
   .rfl
 .rfl
def ati(k:A7):(FM k).1.id=k.id:=by
 unfold FM;split
 .exact T5 _ _ _
 .rfl
def avR(k:A7)(tt un:Int)(tx:A1):(Dq k tt un tx).1.id=k.id:=by
 unfold Dq;split
 .exact T5 _ _ _
 .rfl
def awT(k:A7)(fr nu:Int):(DU k fr nu).1.id=k.id:=by
 unfold DU;split
 .exact T5 _ _ _
 .rfl
def auH(k:A7):(FN k).1.id=k.id:=by unfold FN;split<;>rfl
def asQ(k:A7):(Db k).1.id=k.id:=by unfold Db;split<;>rfl
def abD(k:A7)(n:Int):(faM k n).id=k.id:=by unfold faM;rfl
def axF(k:A7):(riM k).id=k.id:=rfl
def axD{k:A7}(h:Ae k=Y):Ae (riM k)=Y:=(axE<|C8 h).ok
def GB{l:List A7}{i j:Nat}(hi:i<l.length)(k:A7):kA (l.set i k) j=if j=i then k else kA l j:=by
 unfold kA;simp only[B9,Of];by_cases h:j=i
 .subst h;simp[hi]
 .have h':¬i=j:=λe=>h e.symm;simp[h,h']
def B5.put{w:AA}(h:B5 w){i:Nat}(hi:i<4){k:A7}(hk:Ae k=Y)(hid:k.id=(kA w.A9 i).id)(ra:List AL)(se go:List A3)
  (rl:ra.length<=30)(sl:se.length<=6)(gl:go.length<=6)(p:∀p∈ra,E3 p=Y)(s:∀n∈se,Ax n=Y)(g:∀n∈go,Ax n=Y):
  B5 ⟨w.ti,w.A9.set i k,w.Ao,ra,se,go⟩:=by
 refine⟨by rw[GP];exact h.kl,h.ll,rl,sl,gl,λj hj=> ?_,p,s,g⟩;show Ae (kA (w.A9.set i k) j)=Y/\(kA (w.A9.set i k) j).id=(j:Int);rw[GB (by rw[h.kl];exact hi)];split
 .rename_i e;rw[e,hid];exact⟨hk,(h.k i hi).2⟩
 .exact h.k j hj
def B5.G3{w:AA}(h:B5 w){i:Nat}(hi:i<4){k:A7}(hk:Ae k=Y)(hid:k.id=(kA w.A9 i).id):B5 (G3 w i k):=
 h.put hi hk hid w.AS w.AY w.got h.rl h.sl h.gl h.p h.s h.g
def B5.ra{w:AA}(h:B5 w){ra:List AL}(rl:ra.length<=30)(p:∀p∈ra,E3 p=Y):B5 ⟨w.ti,w.A9,w.Ao,ra,w.AY,w.got⟩:=
 ⟨h.kl,h.ll,rl,h.sl,h.gl,h.k,p,h.s,h.g⟩
def B5.ti{w:AA}(h:B5 w)(n:Int):B5 ⟨n,w.A9,w.Ao,w.AS,w.AY,w.got⟩:=⟨h.kl,h.ll,h.rl,h.sl,h.gl,h.k,h.p,h.s,h.g⟩
def So{w:AA}(h:B5 w)(i:Nat):(JA w.AS i).length<=30/\ ∀p∈JA w.AS i,E3 p=Y:=by
 have:=h.rl;refine⟨by unfold JA;simp;omega,λp hp=>h.p p ?_⟩;obtain h1|h1:=BM.1 hp
 .exact IF h1
 .exact Kq h1
def asC{w:AA}(h:B5 w){p:AL}(hp:E3 p=Y){ra:List AL}(rl:ra.length<=30)(hra:∀p∈ra,E3 p=Y):B5 (Eb w p ra):=by
 unfold Eb;obtain⟨_,p2,_⟩:=MY hp;split
 .have hi:p.dst.toNat<4:=J
  exact h.put hi (ato (h.k _ hi).1 _) (atp (h.k _ hi).1 _) _ _ _ (aDD rl) h.sl h.gl (aaF hra (X3 _ _).2) h.s h.g
 .exact h.ra rl hra
def as1{p:AL}(hp:E3 p=Y)(mix kp:Int):E3 (OR p mix kp)=Y:=by
 unfold E3 OR at *;simpa[X8,nB] using hp
def arW{w:AA}(h:B5 w)(e:Event):B5 (EZ w e).1:=by
 unfold EZ;split
 .rename_i h0;have h0:=Aa.1 h0;have hlt:e.wo.toNat<w.AS.length:=J
  have hp:=Pm h hlt;split
  .split
   .refine h.ra (by rw[GP];exact h.rl) λp hp'=> ?_;obtain h1|h1:=TK hp'
    .exact h.p p h1
    .rw[h1];exact as1 hp _ _
   .exact h
  .split
   .exact h.ra (So h _).1 (So h _).2
   .split
    .refine asC h hp ?_ ?_<;>split
     .exact(So h _).1
     .exact h.rl
     .exact(So h _).2
     .exact h.p
    .exact h
 .exact h
def au4{w:AA}(h:B5 w)(e:Event):B5 (Es w e).1:=by
 unfold Es;split
 .exact⟨h.kl,by show(w.Ao.set _ _).length=3;rw[GP];exact h.ll,h.rl,h.sl,h.gl,h.k,h.p,h.s,h.g⟩
 .exact h
def aBp{k:A7}{tt un:Int}{tx:A1}(h:(Dq k tt un tx).2≠0):Ax ⟨k.id,(Dq k tt un tx).2,tt,un,tx⟩=Y:=by
 unfold Dq at h ⊢;split
 .rename_i hc;rw[A5 hc]at h;simp only[AD]at hc;simp only at h ⊢;split
  .exact hc.2
  .rename_i h1;rw[A8 h1]at h;exact absurd rfl h
 .rename_i hc;rw[A8 hc]at h;exact absurd rfl h
def asX{k:A7}(hk:Ae k=Y){fr nu:Int}(h:(DU k fr nu).2.2=Y):Ax (DU k fr nu).2.1=Y:=by
 unfold DU at h ⊢;split
 .rename_i hc;rw[A5 hc]at h;simp only at h ⊢;rw[A5 h];simp only[AD,CE,decide_eq_false_iff_not]at hc;exact Gs (C3 (C8 hk).kok).i (FG<|QU.1 hc.2).1
 .rename_i hc;rw[A8 hc]at h;cases h
def l5{α:Type}{l:List α}{P:α->Prop}{a:α}(h:∀x∈l,P x)(ha:P a):∀x∈l++[a],P x:=by
 intro x hx;obtain h1|h1:=BM.1 hx
 .exact h x h1
 .rw[CL.1 h1];exact ha
def aqp{w:AA}(h:B5 w)(e:Event)(ha:isN e.at_=Y):B5 (GW w e<|kA w.A9 e.at_.toNat).1:=by
 have hi:=TA ha;have hr:=F6 ha;obtain⟨hk,hid⟩:=h.k _ hi;unfold GW;split
 .unfold N8;split
  .exact h
  .split
   .exact h
   .rename_i h1 h2;refine h.put hi (avQ hk _ _ _) (avR _ _ _ _) _ _ _ h.rl y7 h.gl h.p (l5 h.s ?_) h.g;have:=aBp h2;rw[hid,lX hr.1]at this;exact this
 .split
  .exact h.G3 hi (ath hk) (ati _)
  .split
   .split
    .rename_i h1;exact h.ra (aDD h.rl) (aaF h.p λf hf=>by rw[CL.1 hf];exact atw hk h1)
    .exact h
   .split
    .exact h.G3 hi (nH hk _) (abD _ _)
    .split
     .exact h.G3 hi (axD hk) (axF _)
     .split
      .unfold NA;split
       .rename_i h1;simp only[AD,decide_eq_true_eq]at h1;exact h.put hi (awS hk _ _) (awT _ _ _) _ _ _ h.rl h.sl y7 h.p h.s (l5 h.g<|asX hk h1.1)
       .exact h
      .split
       .exact h.G3 hi (auG hk) (auH _)
       .split
        .exact h.G3 hi (asP hk) (asQ _)
        .exact h
def n7{w:AA}(h:B5 w)(e:Event):B5 (doM w e).1:=by
 unfold doM;split
 .exact arW h e
 .split
  .exact au4 h e
  .split
   .rename_i h1;exact aqp h e h1
   .exact h
def aEg{w:AA}(h:B5 w)(b:Bool):B5 (tick w b):=by
 unfold tick;split
 .exact h.ti _
 .exact h
def mZ{w:AA}(h:B5 w)(e:Event):B5 (Cj w e):=aEg (n7 h e) _
def kp0(i:Int):A7:=⟨i,Y,noB,0,[]⟩
def rv0:AA:=⟨0,[kp0 0,kp0 1,kp0 2,kp0 3],[Y,Y,Y],[],[],[]⟩
def aww{i:Int}(h:isN i=Y):Ae (kp0 i)=Y:=by
 refine W8 (k:=kp0 i) (rs:=[]) (ts:=[]) h ⟨?_,(show noB.size<=2400 by decide),by rfl,by rfl⟩ (show 0<=3 by decide) (.inl rfl) ?_ (λi hi=>absurd hi<|Nat.not_lt_zero _)
 .intro r hr;cases hr
 .unfold CZ;rw[A5<|show isN (kp0 i).id=Y from h];rfl
def ZU{i:Nat}(hi:i<4):kA rv0.A9 i=kp0 i:=by
 have:i=0\/i=1\/i=2\/i=3:=J
 obtain rfl|rfl|rfl|rfl:=this<;>rfl
def FY{i:Nat}(hi:i<4):isN (i:Int)=Y:=Aa.2 ⟨J,J⟩
def Zm:B5 rv0:=by
 refine⟨rfl,rfl,by decide,by decide,by decide,λi hi=> ?_,(λp hp=>by cases hp),(λp hp=>by cases hp),(λp hp=>by cases hp)⟩;rw[ZU hi];exact⟨aww<|FY hi,rfl⟩
def Oz(k:A7):Prop:=k.up=A0->k.fo=(k.log.size:Int)
def OP(k:A7)(r:A1)(f:Bool):(wrR k r f).1.up=k.up:=by
 unfold wrR;split
 .rfl
 .cases f<;>rfl
def aEv{k:A7}(h:Ae k=Y)(f:Frame):(CB k f).1.up=k.up:=by
 unfold CB;rw[A5 h];unfold HU;split
 .split
  .unfold E8;split
   .rfl
   .split
    .rfl
    .split
     .rfl
     .unfold Jx;split
      .split
       .unfold Kc;split
        .exact OP _ _ _
        .rfl
       .rfl
      .rfl
  .split
   .exact OP _ _ _
   .rfl
 .rfl
def asI{k:A7}(ok:Ae k=Y)(h:k.up=A0)(f:Frame):CB k f=(k,[]):=by
 unfold CB;rw[A5 ok];unfold HU;rw[h,AM,A4]
def auI{k:A7}(h:k.up=A0)(tt un:Int)(tx:A1):Dq k tt un tx=(k,0):=by
 unfold Dq;rw[h,AM,A4]
def auc{k:A7}(h:k.up=A0)(a b:Int):DU k a b=(k,zN,A0):=by
 unfold DU;rw[h,AM,A4]
def ark{k:A7}(h:k.up=A0):FM k=(k,A0):=by
 unfold FM;rw[h,A4]
def arb{k:A7}(h:k.up=A0):FN k=(k,A0):=by
 unfold FN;rw[h,A4]
def ar0{k:A7}(h:k.up=A0):Db k=(k,A0):=by
 unfold Db;rw[h,AM,A4]
def awi(k:A7)(tt un:Int)(tx:A1):(Dq k tt un tx).1.up=k.up:=by
 unfold Dq;split
 .exact OP _ _ _
 .rfl
def awX(k:A7)(a b:Int):(DU k a b).1.up=k.up:=by
 unfold DU;split
 .exact OP _ _ _
 .rfl
def avk(k:A7):(FM k).1.up=k.up:=by
 unfold FM;split
 .exact OP _ _ _
 .rfl
def avO(k:A7):(FN k).1.up=k.up:=by unfold FN;split<;>rfl
def auz(k:A7):(Db k).1.up=k.up:=by unfold Db;split<;>rfl
def Q7{k k':A7}(h:Oz k)(hu:k'.up=k.up)(hd:k.up=A0->k'=k):Oz k':=λe=>by
 rw[hu]at e;rw[hd e];exact h e
def awL(k:A7)(n:Int):Oz (faM k n):=by
 intro _;unfold faM;simp only;have h:=(Pe<|k.log.extract 0 (k.fo+max 0 (min n<|(k.log.size:Int) - k.fo)).toNat).1;rw[@aBZ];omega
def av4{k:A7}(ok:Ae k=Y)(h:k.up=A0)(d:Oz k)(n:Int):faM k n=k:=by
 obtain⟨_,h2,h3⟩:=aBM (C8 ok) (d h) n;have h4:=aDc ok h;have:faM k n=⟨(faM k n).id,(faM k n).up,(faM k n).log,(faM k n).fo,(faM k n).AH⟩:=rfl;rw[this,h2,h3,abD,show(faM k n).up=k.up from by rw[h];rfl,show(faM k n).AH=k.AH from by rw[h4];rfl]
def aaH{k:A7}(h:k.up=Y):riM k=k:=by
 unfold riM;rw[← h]
def Kg{l:List A7}{i:Nat}:l.set i (kA l i)=l:=by
 apply lU;intro j;rw[Of];by_cases h:i=j
 .subst h;by_cases h1:i<l.length
  .rw[A5 rfl,A5 h1,kA,B9,Av h1];rfl
  .rw[A5 rfl,A8 h1,He J]
 .rw[A8 h]
def SJ{w:AA}{i:Nat}{k:A7}(h:k=kA w.A9 i):G3 w i k=w:=by
 subst h;unfold G3;rw[Kg]
structure R8 (w:AA):Prop where
 d:∀i,i<4->Oz (kA w.A9 i)
def awc{w:AA}(h:B5 w)(hd:R8 w){e:Event}(ho:(doM w e).2=A0):(doM w e).1=w:=by
 unfold doM at ho ⊢;split
 .rename_i h1;rw[A5 h1]at ho;unfold EZ at ho ⊢;split
  .rename_i h2;rw[A5 h2]at ho;split
   .rename_i h3;rw[A5 h3]at ho;split
    .rename_i h4;rw[A5 h4]at ho;cases ho
    .rfl
   .rename_i h3;rw[A8 h3]at ho;split
    .rename_i h4;rw[A5 h4]at ho;cases ho
    .rename_i h4;rw[A8 h4]at ho;split
     .rename_i h5;rw[A5 h5]at ho;cases ho
     .rfl
  .rfl
 .rename_i h1;rw[A8 h1]at ho;split
  .rename_i h2;rw[A5 h2]at ho;unfold Es at ho ⊢;split
   .rename_i h3;rw[A5 h3]at ho;cases ho
   .rfl
  .rename_i h2;rw[A8 h2]at ho;split
   .rename_i h3;rw[A5 h3]at ho;have hi:=TA h3;obtain⟨ok,_⟩:=h.k _ hi;have hdk:=hd.d _ hi;unfold GW at ho ⊢;split
    .rename_i c;rw[A5 c]at ho;unfold N8 at ho ⊢;split
     .rfl
     .rename_i c1;rw[A8 c1]at ho;split
      .rfl
      .rename_i c2;rw[A8 c2]at ho;cases ho
    .rename_i c;rw[A8 c]at ho;split
     .rename_i c;rw[A5 c]at ho;refine SJ ?_;unfold FM at ho ⊢;split
      .rename_i c1;rw[A5 c1]at ho;exact Q0 ho
      .rfl
     .rename_i c;rw[A8 c]at ho;split
      .rename_i c;rw[A5 c]at ho;split
       .rename_i c1;rw[A5 c1]at ho;cases ho
       .rfl
      .rename_i c;rw[A8 c]at ho;split
       .rename_i c;rw[A5 c]at ho;exact SJ (av4 ok ho hdk _)
       .rename_i c;rw[A8 c]at ho;split
        .rename_i c;rw[A5 c]at ho;exact SJ (aaH<|by simpa using ho)
        .rename_i c;rw[A8 c]at ho;split
         .rename_i c;rw[A5 c]at ho;unfold NA at ho ⊢;split
          .rename_i c1;rw[A5 c1]at ho;cases ho
          .rfl
         .rename_i c;rw[A8 c]at ho;split
          .rename_i c;rw[A5 c]at ho;refine SJ ?_;unfold FN at ho ⊢;split
           .rename_i c1;rw[A5 c1]at ho;cases ho
           .rfl
          .rename_i c;rw[A8 c]at ho;split
           .rename_i c;rw[A5 c]at ho;refine SJ ?_;unfold Db at ho ⊢;split
            .rename_i c1;rw[A5 c1]at ho;cases ho
            .rfl
           .rfl
   .rfl
inductive KMv (k:A7):A7->Prop
 | acW (f:Frame):KMv k (CB k f).1
 | own (tt un:Int) (tx:A1):KMv k (Dq k tt un tx).1
 | time:KMv k (FM k).1
 | eat (a b:Int):KMv k (DU k a b).1
 | U4 (n:Int):KMv k (faM k n)
 | aA:KMv k (riM k)
 | pack:KMv k (FN k).1
 | force:KMv k (Db k).1
def axJ{w:AA}(h:B5 w)(e:Event):(doM w e).1.A9=w.A9\/ ∃i k',i<4/\KMv (kA w.A9 i) k'/\(doM w e).1.A9=w.A9.set i k':=by
 unfold doM;split
 .unfold EZ;split
  .rename_i h2;split
   .split
    .exact .inl rfl
    .exact .inl rfl
   .split
    .exact .inl rfl
    .split
     .unfold Eb;split
      .refine .inr ⟨_,_, ?_,.acW _,rfl⟩;have:=Aa.1 h2;have:=MY<|Pm h (i:=e.wo.toNat) J;omega
      .exact .inl rfl
     .exact .inl rfl
  .exact .inl rfl
 .split
  .unfold Es;split
   .exact .inl rfl
   .exact .inl rfl
  .split
   .rename_i h3;have hi:=TA h3;unfold GW;split
    .unfold N8;split
     .exact .inl rfl
     .split
      .exact .inl rfl
      .exact .inr ⟨_,_,hi,.own _ _ _,rfl⟩
    .split
     .exact .inr ⟨_,_,hi,.time,rfl⟩
     .split
      .split
       .exact .inl rfl
       .exact .inl rfl
      .split
       .exact .inr ⟨_,_,hi,.U4 _,rfl⟩
       .split
        .exact .inr ⟨_,_,hi,.aA,rfl⟩
        .split
         .unfold NA;split
          .exact .inr ⟨_,_,hi,.eat _ _,rfl⟩
          .exact .inl rfl
         .split
          .exact .inr ⟨_,_,hi,.pack,rfl⟩
          .split
           .exact .inr ⟨_,_,hi,.force,rfl⟩
           .exact .inl rfl
   .exact .inl rfl
def axC{w:AA}(h:B5 w)(e:Event):(Cj w e).A9=w.A9\/ ∃i k',i<4/\KMv (kA w.A9 i) k'/\(Cj w e).A9=w.A9.set i k':=by
 have:=axJ h e;unfold Cj tick;split<;>exact this
def avt{P:A7->Prop}(hP:∀k k',Ae k=Y->P k->KMv k k'->P k'){w:AA}(h:B5 w)(hw:∀i,i<4->P (kA w.A9 i))(e:Event):∀i,i<4->P (kA (Cj w e).A9 i):=by
 intro i hi;obtain e1|⟨j,k',hj,m,e1⟩:=axC h e
 .rw[e1];exact hw i hi
 .rw[e1,GB (by rw[h.kl];exact hj)];split
  .exact hP _ _ (h.k j hj).1 (hw j hj) m
  .exact hw i hi
def KMv.dur{k k':A7}(ok:Ae k=Y)(h:Oz k)(m:KMv k k'):Oz k':=by
 cases m with
 | acW f=>exact Q7 h (aEv ok f) λe=>by rw[asI ok e]
 | own a b c=>exact Q7 h (awi _ _ _ _) λe=>by rw[auI e]
 | time=>exact Q7 h (avk _) λe=>by rw[ark e]
 | eat a b=>exact Q7 h (awX _ _ _) λe=>by rw[auc e]
 | U4 n=>exact awL _ _
 | aA=>intro e;cases e
 | pack=>exact Q7 h (avO _) λe=>by rw[arb e]
 | force=>exact Q7 h (auz _) λe=>by rw[ar0 e]
def R8.sim{w:AA}(hd:R8 w)(h:B5 w)(e:Event):R8 (Cj w e):=⟨avt (λ_ _ ok d m=>m.dur ok d) h hd.d e⟩
inductive Reach:List Event->AA->Prop
 | nil:Reach [] rv0
 | snoc {ev:List Event} {w:AA} {e:Event} :Reach ev w->(doM w e).2=Y->e.tx.size<=1048576->Reach (ev++[e]) (Cj w e)
def Reach.both{ev:List Event}{w:AA}(h:Reach ev w):B5 w/\R8 w:=by
 induction h with
 | nil=>exact⟨Zm,⟨λi hi e=>by rw[ZU hi]at e;cases e⟩⟩
 | snoc _ _ _ ih=>exact⟨mZ ih.1 _,ih.2.sim ih.1 _⟩
def Reach.ok{ev:List Event}{w:AA}(h:Reach ev w):B5 w:=h.both.1
def Reach.dur{ev:List Event}{w:AA}(h:Reach ev w):R8 w:=h.both.2
def Reach.step{ev:List Event}{w:AA}(h:Reach ev w){e:Event}(ht:e.tx.size<=1048576):Reach (Jo ev e (doM w e).2) (Cj w e):=by
 unfold Jo;obtain c|c:=tf (doM w e).2
 .rw[c,A5 rfl];exact h.snoc c ht
 .have:=awc h.ok h.dur c;rw[c,A4];unfold Cj tick;rw[c,A4,this];exact h
def Nt{l:List Int}(h:BOk l):BA (BH l)=l:=by
 unfold BA BH;simp only[I9]
 conv=>rhs;rw[← Yq l]
 refine Gi λn hn=> ?_;have:=h n hn;simp only[Function.comp,id];rw[UInt8.toNat_ofNat'];omega
def atA{a b:List Int}(ha:BOk a)(hb:BOk b)(h:BH a=BH b):a=b:=by
 rw[← Nt ha,h,Nt hb]
def O3(f:Frame):BOk (Cb f):=by
 unfold Cb;split
 .exact BOk.app (Xo f) (.cons _<|.cons _ .nil)
 .exact .nil
def I7{n:Int}(h0:0<=n)(h1:n<=255):w8 n=n:=by
 rw[Mp];omega
def Sy{n:Int}(h0:0<=n)(h1:n<=65535):256 * w8 (w64<|B0 n 256)+w8 (BK n 256)=n:=by
 rw[Mp,Mp,H9 h0,Ko h0,AZ J J];omega
def awI{s:A1}(h:s.size=4):∃a b c d,s=B [a,b,c,d]:=by
 have h':(L s).length=4:=h;rcases hl:L s with _|⟨a,_|⟨b,_|⟨c,_|⟨d,_|⟨e,l⟩⟩⟩⟩⟩<;>rw[hl]at h'<;>simp at h';exact⟨a,b,c,d,Fw (by rw[L_B,hl])⟩
def aDn{a1 a2 a3 a4 a5 a6 a7 a8 a9 b1 b2 b3 b4 b5 b6 b7 b8 b9:Int}{s t:A1}(h1:a1=b1)(h2:a2=b2)(h3:a3=b3)(h4:a4=b4)(h5:a5=b5)(h6:a6=b6)(h7:a7=b7)(h8:a8=b8)(h9:a9=b9)(h:s=t):
  (⟨a1,a2,a3,a4,a5,a6,a7,a8,a9,s⟩:Frame)=⟨b1,b2,b3,b4,b5,b6,b7,b8,b9,t⟩:=by
 subst h1 h2 h3 h4 h5 h6 h7 h8 h9 h;rfl
def WR{f:Frame}(h:Bx f=Y):Cn (Cb f)=(f,Y):=by
 have hr:=OB h;have r1:=Aa.1 hr.1;have r2:=Aa.1 hr.2.1;have r3:=Aa.1 hr.2.2.1;have r4:=Aa.1 hr.2.2.2.1;have r5:=Aa.1 hr.2.2.2.2.1;have r6:=Aa.1 hr.2.2.2.2.2.1;have r7:=hr.2.2.2.2.2.2;have abv:Fa (Cb f)=f/\((Cb f).length=10\/(Cb f).length=17):=by
  obtain⟨ki,src,dst,fr,nu,t',un,sz,mix,da⟩:=f;simp only at r1 r2 r3 r4 r5 r6 r7;unfold Cb;rw[A5 h];unfold Jl at r7;by_cases hk:ki=1
  .subst hk;simp only[AT,A2,AD,decide_eq_true_eq]at r7;obtain⟨q1,q2,q3,q4⟩:=r7;have q1:=Aa.1 q1;have q2:=Aa.1 q2;obtain⟨a,b,c,d,rfl⟩:=awI (s:=da) J;unfold Et;simp only[AT,A2];have hb:BA (B [a,b,c,d])=[(a.toNat:Int),b.toNat,c.toNat,d.toNat]:=rfl;rw[hb];refine⟨?_,.inr rfl⟩;have e1:=Sy (n:=un) J J;have e2:=Sy (n:=mix) J J;unfold Fa;rw[A5<|by rfl];have g1:=I7 (n:=src) J J;have g2:=I7 (n:=dst) J J;have g3:=I7 (n:=fr) J J;have g4:=I7 (n:=nu) J J;have g5:=I7 (n:=t') J J;have g6:=I7 (n:=sz) J J;have g7:=Si [a,b,c,d];exact aDn rfl g1 g2 g3 g4 g5 e1 g6 e2 g7
  .rw[A8<|by simpa using hk]at r7;simp only[AD,C1,decide_eq_true_eq]at r7;obtain⟨q0,q1,q2,q3,q4⟩:=r7;unfold Et;simp only[BE hk,A4];refine⟨?_,.inl rfl⟩;have e1:=Sy (n:=un) J J;unfold Fa;rw[A8 aE4];have g0:=I7 (n:=ki) J J;have g1:=I7 (n:=src) J J;have g2:=I7 (n:=dst) J J;have g3:=I7 (n:=fr) J J;have g4:=I7 (n:=nu) J J;have g5:=I7 (n:=t') J J;exact aDn g0 g1 g2 g3 g4 g5 e1 q1.symm q2.symm q3.symm
 unfold Cn;rw[abv.1,A5,A5<|AR rfl];rw[C1,decide_eq_true_eq,decide_eq_true_eq];have:=abv.2;omega
def N9:List Int->Nat->Int
 | [],_=>0
 | x::r,i=>x * ((i % 1000:Nat)+1)+N9 r (i+1)
def jo:∀ {l:List Int} {i:Nat} {n:Int},BOk l->0<=n->n<65521->F8 l i n=(n+N9 l i) % 65521
 | [],i,n,_,h0,h1=>by
  unfold F8 N9;omega
 | x::r,i,n,hb,h0,h1=>by
  have hx:=hb x An;have hp:0<=x * ((i % 1000:Nat)+1:Int):=lr hx.1 J;unfold F8 N9;rw[Ko J,jo (λy hy=>hb y<|Ai x hy) J J];omega
def aDP:∀ {l:List Int} {j i:Nat} {x:Int} (h:j<l.length),N9 (l.set j x) i=N9 l i+(x - l[j]) * (((i+j) % 1000:Nat)+1)
 | y::r,0,i,x,h=>by
  rw[List.set_cons_zero];unfold N9;simp only[List.getElem_cons_zero,Hh];rw[Int.sub_mul];omega
 | y::r,j+1,i,x,h=>by
  rw[List.set_cons_succ];unfold N9;rw[aDP (j:=j) (i:=i+1)<|by simpa using h,List.getElem_cons_succ,show i+1+j=i+(j+1) by omega];omega
structure Zr (b body:List Int):Prop where
 e:b=body++two (F8 body 0 0)
 ok:BOk body
 len:body.length<=15
def avj{a b:Int}(h0:0<=a/\a<65521)(h1:0<=b/\b<65521)(h:two a=two b):a=b:=by
 have e1:=Sy (n:=a) J J;have e2:=Sy (n:=b) J J;unfold two at h;simp only[Ly,and_true]at h;rw[← e1,← e2,h.1,h.2]
def aqX{b body P5:List Int}{j:Nat}{x:Int}(h:Zr b body)(hj:j<b.length)(hx:x≠b[j])(hr:0<=x/\x<=255):¬Zr (b.set j x) P5:=by
 intro h';have hlb:b.length=body.length+2:=by rw[h.e];simp
 have azY:(b.set j x).length=P5.length+2:=by rw[h'.e];simp
 rw[GP]at azY;have hs:=kS (i:=0) (n:=0) h.ok J J;have hs':=kS (i:=0) (n:=0) h'.ok J J;have e:=h'.e;have hbl:body.length=P5.length:=J
 by_cases hlt:j<body.length
 .have e1:(body.set j x)++two (F8 body 0 0)=P5++two (F8 P5 0 0):=by
   rw[← e,h.e,List.set_append_left _ _ hlt]
  obtain⟨e2,e3⟩:=List.append_inj e1 (by rw[GP];exact hbl);have e4:=avj hs hs' e3;have hbj:b[j]=body[j]:=by simp only[h.e,List.getElem_append_left hlt]
  rw[← e2]at e4 h';rw[jo h.ok J J,jo h'.ok J J,aDP hlt]at e4;have hb1:=h.ok body[j] (Cd hlt);have hlen:=h.len;rw[hbj]at hx;have hm:((0+j) % 1000:Nat)=j:=J
  rw[hm]at e4;have hd:∃d:Int,d=(x - body[j]) * ((j:Int)+1):=⟨_,rfl⟩;obtain⟨d,hd⟩:=hd;rw[← hd]at e4;have h1:d≠0:=by
   rw[hd];exact Int.mul_ne_zero J J
  have h2:d<=255 * 15:=by
   rw[hd];have a1:(x - body[j]) * ((j:Int)+1)<=255 * ((j:Int)+1):=lH J J;omega
  have h3: -(255 * 15)<=d:=by
   rw[hd];have a1:(-255) * ((j:Int)+1)<=(x - body[j]) * ((j:Int)+1):=lH J J;omega
  omega
 .have e1:body++(two<|F8 body 0 0).set (j - body.length) x=P5++two (F8 P5 0 0):=by
   rw[← e,h.e,List.set_append_right _ _ J]
  obtain⟨e2,e3⟩:=List.append_inj e1 hbl;rw[← e2]at e3;have e4:b.set j x=b:=by
   rw[e,← e2];exact h.e.symm
  have:(b.set j x)[j]'(by rw[GP];exact hj)=x:=List.getElem_set_self ..;rw[List.getElem_of_eq e4]at this;exact hx this.symm
def aBo{f:Frame}(h:Bx f=Y):Zr (Cb f) (Et f):=⟨by unfold Cb;rw[A5 h],Xo f,XK h⟩
def aqU{b:List Int}(hb:BOk b)(h:(Cn b).2=Y):Zr b (Et (Cn b).1):=by
 have ok:=aqV h;have:Cb (Cn b).1=b:=by
  unfold Cn at h ⊢;split
  .rename_i h1;rw[A5 h1]at h;split
   .rename_i h2;exact atA (O3 _) hb (Bd h2)
   .rename_i h2;rw[A8 h2]at h;cases h
  .rename_i h1;rw[A8 h1]at h;cases h
 have hs:=aBo ok;rw[this]at hs;exact hs
def ax1{x k:Int}(hx:0<=x/\x<=255)(hk:1<=k/\k<=255):Dt .u8 x (w8 k)≠x/\0<=Dt .u8 x (w8 k)/\Dt .u8 x (w8 k)<=255:=by
 rw[I7 J J];have e:Dt .u8 x k=w8 ((FC 8 x ^^^ FC 8 k).toNat:Int):=rfl;have hlt:=(FC 8 x ^^^ FC 8 k).isLt;rw[e,I7 J J];refine⟨λh=> ?_,J,J⟩;obtain⟨m,rfl⟩:=HB hx.1;obtain⟨n,rfl⟩:=HB (J:0<=k);have e1:(FC 8 (m:Int) ^^^ FC 8 (n:Int))=FC 8 (m:Int):=by
  apply lq;rw[QO];omega
 have e2:FC 8 (n:Int)=0#8:=by
  have:=congrArg (λz=>FC 8 (m:Int) ^^^ z) e1;simpa[← BitVec.xor_assoc] using this
 have e3:=congrArg BitVec.toNat e2;rw[QO]at e3;simp at e3;omega
def aq7{f:Frame}{p:AL}(hf:Bx f=Y)(hd:p.data=BH (Cb f)){mix kp:Int}(hm:inB mix 0 ((p.data.size:Int) - 1)=Y)(hk:inB kp 1 255=Y):(Cn<|BA (OR p mix kp).data).2=A0:=by
 have hm:=Aa.1 hm;have hk:=Aa.1 hk;rw[hd,X8]at hm;obtain h|h:=tf (Cn<|BA (OR p mix kp).data).2
 .exfalso;have hs:=aqU (BOk.str _) h;unfold OR at hs;simp only at hs;rw[hd,Nt<|O3 f]at hs;have hlt:mix.toNat<(Cb f).length:=J
  have hrd: @rd Int aFd (Cb f) mix=(Cb f)[mix.toNat]:=by
   show(Cb f).getD mix.toNat 0=_;rw[B9,Av hlt];rfl
  rw[hrd]at hs;have hx:=O3 f _<|Cd hlt;have hne:=ax1 hx hk;have hb:BOk ((Cb f).set mix.toNat<|Dt .u8 (Cb f)[mix.toNat] (w8 kp)):=by
   intro y hy;obtain h1|h1:=TK hy
   .exact O3 f y h1
   .rw[h1];exact hne.2
  rw[Nt hb]at hs;exact aqX (aBo hf) hlt hne.1 hne.2 hs
 .exact h
def aBK{α β:Type}{f g:α->β->α}:∀ {l:List β} {a:α},(∀a,∀b∈l,f a b=g a b)->l.foldl f a=l.foldl g a
 | [],_,_=>rfl
 | x::l,a,h=>by
  rw[Dv,Dv,h a x An];exact aBK λa b hb=>h a b<|Ai x hb
def NJ(b:Nat)(bl:Nat->List UInt8)(kn:List A1):Prop:=∀k,k<b->bsA kn k=noB\/bsA kn k=B (bl k)
def ar7{b:Nat}{bl:Nat->List UInt8}{kn kn':List A1}{m:AN}(hb:∀k,(bl k).length=4)(hm:Ig m->m.da=B (Ds 4 bl<|Bg (b:Int) m.nu))
  (h:CW b kn)(ht:NJ b bl kn)(e:F9 b kn m=I kn'):NJ b bl kn':=by
 unfold F9 at e;split at e
 .rename_i hc;rw[AD]at hc;have hda:=hm ⟨hc.1,Bd hc.2⟩;split at e
  .rename_i u hu;injection e with e;subst e;have FW:u∈DE kn (Bg (b:Int) m.nu):=by rw[hu];exact Og u
   obtain⟨h1,h2⟩:=FP.1 FW;have h3:=LY h1;have hul:u<kn.length:=by rw[h.1];omega
   have hv:EO kn (Bg (b:Int) m.nu) (L m.da)=bl u:=by
    have hp:=auF (n:=4) (bl:=bl) (p:=λk=> !unk kn k) (ks:=Bg (b:Int) m.nu) (u:=u) (λk _=>hb k) (by
     have:(Bg (b:Int) m.nu).filter (λk=> !(!unk kn k))=DE kn (Bg (b:Int) m.nu):=by
      unfold DE;congr 1;funext k;rw[Bool.not_not]
     rw[this,hu])
    rw[← hp,hda,L_B];unfold EO;refine aBK λx k hk=> ?_;obtain c|c:=tf (unk kn k)
    .rw[c];rfl
    .rw[c];have hkb:=LY hk;obtain h4|h4:=ht k J
     .exact absurd h4 (LG c)
     .rw[h4,L_B];rfl
   intro k hk;rw[Sr _ hul];by_cases ek:k=u
   .rw[A5 ek,hv,ek];exact .inr rfl
   .rw[A8 ek];exact ht k hk
  .cases e
 .cases e
def kG{b:Nat}{bl:Nat->List UInt8}(hb:∀k,(bl k).length=4):∀(list:List AN) (s:List A1×Bool),(∀m∈list,Ig m->m.da=B (Ds 4 bl<|Bg (b:Int) m.nu))->CW b s.1->NJ b bl s.1->NJ b bl (list.foldl (CF b) s).1
 | [],_,_,_,h=>h
 | m::list,s,hm,h,ht=>by
  rw[Dv];cases e:F9 b s.1 m with
  | none=>
   rw[show CF b s m=s by unfold CF;rw[e]];exact kG hb list s (λx hx=>hm x<|Ai m hx) h ht
  | some kn=>
   rw[show CF b s m=(kn,Y) by unfold CF;rw[e]];exact kG hb list (kn,Y) (λx hx=>hm x<|Ai m hx) (Se h e).1<|ar7 hb (hm m An) h ht e
def jM{b:Nat}{bl:Nat->List UInt8}(hb:∀k,(bl k).length=4){list:List AN}(hm:∀m∈list,Ig m->m.da=B (Ds 4 bl<|Bg (b:Int) m.nu)):∀(n:Nat) (kn:List A1),CW b kn->NJ b bl kn->NJ b bl (Gb b list n kn)
 | 0,_,_,h=>h
 | n+1,kn,h,ht=>by
  have h1:=(MT list (kn,A0) h).1;have h2:=kG hb list (kn,A0) hm h ht;unfold Gb;split
  .exact jM hb hm n _ h1 h2
  .exact h2
def aD4{b:Nat}{list:List AN}:∀(n:Nat) (kn:List A1),CW b kn->∀k,unk (Gb b list n kn) k=Y->unk kn k=Y
 | 0,_,_,_,h=>h
 | n+1,kn,h,k,hk=>by
  obtain⟨h1,h2,_⟩:=MT list (kn,A0) h;unfold Gb at hk;split at hk
  .exact h2 k (aD4 n _ h1 k hk)
  .exact h2 k hk
def aBL{b:Nat}{k:Nat}:∀(list:List AN) (s:List A1×Bool),(∃m∈list,Ig m/\Bg (b:Int) m.nu=[k])->CW b s.1->unk (list.foldl (CF b) s).1 k=A0
 | [],_,h,_=>by
  obtain⟨m,hm,_⟩:=h;cases hm
 | m::list,s,h,hk=>by
  rw[Dv];have hs:CW b (CF b s m).1:=by
   unfold CF;split
   .rename_i kn e;exact(Se hk e).1
   .exact hk
  obtain⟨x,hx,hf,hof⟩:=h;obtain rfl|hx:=Bl.1 hx
  .have h1:unk (CF b s x).1 k=A0:=by
    unfold CF F9;rw[A5 (by rw[AD];exact⟨hf.1,AR hf.2⟩),hof];unfold DE;rw[Jz,Yc];obtain c|c:=tf (unk s.1 k)
    .have hul:k<s.1.length:=by
      have h3:=LY (b:=(b:Int)) (n:=x.nu) (k:=k) (by rw[hof];exact Og k);rw[hk.1];omega
     simp only[c,A2];unfold unk;rw[Sr _ hul,A5 rfl];refine BE λhh=> ?_;have h4:(B<|EO s.1 [k] (L x.da)).size=4:=by
      rw[BQ,jt hk (by have:=hf.2;rw[Aw];omega) λj hj=>by rw[CL.1 hj,← hk.1];exact hul]
     rw[hh]at h4;cases h4
    .simp only[c,A4]
   obtain c|c:=tf (unk (list.foldl (CF b)<|CF b s x).1 k)
   .have:=(MT list (CF b s x) hs).2.1 k c;rw[h1]at this;cases this
   .exact c
  .exact aBL list _ ⟨x,hx,hf,hof⟩ hs
def apV{b:Nat}{k:Nat}{list:List AN}(h:∃m∈list,Ig m/\Bg (b:Int) m.nu=[k])(n:Nat){kn:List A1}(hk:CW b kn):unk (Gb b list (n+1) kn) k=A0:=by
 have h1:=aBL list (kn,A0) h hk;have h2:=(MT list (kn,A0) hk).1;unfold Gb;split
 .rcases tf (unk (Gb b list n (Ib b list kn).1) k) with c|c
  .have:=aD4 n _ h2 k c;rw[h1]at this;cases this
  .exact c
 .exact h1
def aCS{u:Nat}:∀ {l:List A1} {a:A1},u<l.length->bsA l u=noB->Fy l a=G
 | [],_,h,_=>absurd h (Nat.not_lt_zero _)
 | x::l,a,h,e=>by
  unfold Fy;split
  .rfl
  .rename_i hx;cases u with
   | zero=>exact absurd e hx
   | succ u=>exact aCS (u:=u) (by simpa using h)<|by simpa[bsA] using e
def mK:∀ {l:List (List UInt8)} {a:A1},(∀x∈l,x.length=4)->Fy (l.map B) a=I (a++B l.flatten)
 | [],a,_=>by
  show I a=_;congr 1;apply Fw;rw[GI,L_B];simp
 | x::l,a,h=>by
  rw[DM];unfold Fy;have hx:=h x An;rw[A8 (λe=>by have:(B x).size=0:=(by rw[e];rfl);rw[BQ]at this;omega),mK λy hy=>h y<|Ai x hy];congr 1;apply Fw;simp only[GI,L_B,List.flatten_cons,C2]
def aas{b:Nat}{bl:Nat->List UInt8}{kn:List A1}(h:CW b kn)(ht:NJ b bl kn)(hu:∀k,k<b->unk kn k=A0):kn=((B7 b).map bl).map B:=by
 apply lU;intro i;by_cases hi:i<b
 .rw[I9,D7,Gj hi];have h1:=hu i hi;obtain h2|h2:=ht i hi
  .exact absurd h2 (LG h1)
  .have hl:i<kn.length:=by rw[h.1];exact hi
   rw[bsA,B9,Av hl]at h2;rw[Av hl];exact congrArg I h2
 .rw[He (by rw[h.1];omega),He y7]
def aDo(t:List UInt8):∀b:Nat,((B7 b).map<|Fz t).flatten=(B7<|4 * b).map λi=>t.getD i 0
 | 0=>rfl
 | b+1=>by
  rw[IC,Eg,List.flatten_append,aDo t b];have:B7 (4 * (b+1))=B7 (4 * b)++[4 * b,4 * b+1,4 * b+2,4 * b+3]:=by
   rw[show 4 * (b+1)=4 * b+1+1+1+1 by omega];simp only[IC,C2];rfl
  rw[this,Eg];rfl
def auV{s:Int}(h:inB s 1 24=Y):B0 (s+3) 4=(((s.toNat+3) / 4:Nat):Int)/\inB (B0 (s+3) 4) 1 6=Y:=by
 have h:=Aa.1 h;have:B0 (s+3) 4=(((s.toNat+3) / 4:Nat):Int):=by
  rw[H9 J];omega
 refine⟨this,Aa.2 ?_⟩;rw[this];omega
def aDb{s:Int}(h:inB s 1 24=Y)(list:List AN):F7 s list=(match Fy (Gb ((s.toNat+3) / 4) list 7<|BS ((s.toNat+3) / 4) noB) noB with
  | none=>(noB,A0)
  | some c=>if Mo c s.toNat then(c.extract 0 s.toNat,Y) else(noB,A0)):=by
 obtain⟨h1,h2⟩:=auV h;unfold F7 HX;rw[A5 h,A5 h2,h1,Bc]<;>rfl
def aDZ{tx:A1}(h:inB tx.size 1 24=Y):(let c:=noB++B ((B7<|(tx.size+3) / 4).map<|Fz<|L tx).flatten
  (if Mo c tx.size then(c.extract 0 tx.size,Y) else(noB,A0)))=(tx,Y):=by
 have h:=Aa.1 h;have hc:L (noB++B ((B7<|(tx.size+3) / 4).map<|Fz<|L tx).flatten)=(B7<|4 * ((tx.size+3) / 4)).map λi=>(L tx).getD i 0:=by
  rw[GI,L_B,aDo];rfl
 generalize noB++B ((B7<|(tx.size+3) / 4).map<|Fz<|L tx).flatten=c at hc;have hsz:c.size=4 * ((tx.size+3) / 4):=by rw[← Aw,hc];simp
 have hz:Mo c tx.size=Y:=by
  unfold Mo;rw[Cp];intro i hi;refine AR ?_;unfold bt;show(((L c).getD (tx.size+i) 0).toNat:Int)=0;rw[hc,B9,D7,Gj J];simp only[QV,DX];rw[B9,He (by rw[Aw];omega)];rfl
 show(if Mo c tx.size then(c.extract 0 tx.size,Y) else(noB,A0))=(tx,Y);rw[A5 hz];congr 1;apply Fw;rw[EA,Ik,hc,JR];apply lU;intro i;rw[Ge];split
 .rename_i hi;rw[D7,Gj J];simp only[QV];rw[B9,Av (by rw[Aw];exact hi)];rfl
 .rw[He (by rw[Aw];omega)]
def Ow(tx:A1)(list:List AN):Prop:=∀m∈list,Ig m->m.da=GG tx m.nu
def ab5{tx:A1}(h:inB tx.size 1 24=Y):(DF tx).length=(tx.size+3) / 4:=by
 unfold DF;rw[A5 h];simp
def aCV{tx:A1}(h:inB tx.size 1 24=Y):inB (((tx.size+3) / 4:Nat):Int) 1 6=Y:=by
 have h:=Aa.1 h;exact Aa.2 J
def apn{b:Nat}{k:Nat}(hb:inB (b:Int) 1 6=Y)(hk:k<b):Bg (b:Int) (k:Int)=[k]:=by
 have h:=Aa.1 hb;unfold Bg Dr;rw[hb,A5 (by rw[AP];exact Aa.2 J),A5<|AR J,Bc]
def aBx{b:Nat}{f:Nat->Bool}:∀(n:Nat) (x:Int),0<b->(∃k,k<b/\f k=Y)->∃k,k<b/\JC b n f x k=Y
 | 0,_,_,h=>h
 | n+1,x,hb,h=>by
  obtain⟨k,hk,e⟩:=h;exact aBx n _ hb ⟨k,hk,by unfold I8;split;rfl;exact e⟩
def atg{b:Nat}{f:Nat->Bool}{n:Nat}{x:Int}(hb:0<b)(hn:0<n):∃k,k<b/\JC b n f x k=Y:=by
 obtain⟨n,rfl⟩:∃m,n=m+1:=⟨n - 1,J⟩;rw[JC];refine aBx n _ hb ⟨_, ?_,by unfold I8;rw[A5 rfl]⟩;refine Sf _ _ ?_;have:BK (B0 (rnd x) 16) (b:Int)<b:=QK _ J;have h0:0<=BK (B0 (rnd x) 16) (b:Int):=QP _<|lL (Sg x).1 J;omega
def aDf{b r:Int}(hb:1<=b):∀(ws:List Int) (acc d:Int),1<=d->1<=M7 (L4 b r ws acc d)
 | [],_,_,_=>hb
 | w::ws,acc,d,h=>by
  unfold L4;split
  .exact h
  .exact aDf hb ws _ _ J
def auf{b n:Int}(h:Dr b n=Y):1<=G0 b n:=by
 have hb:1<=b:=by
  unfold Dr at h;rw[AD]at h;exact(Aa.1 h.1).1
 unfold G0;rw[A5 h];split
 .exact Ct _
 .exact aDf hb _ _ _<|Ct _
def atv{b n:Int}(h:Dr b n=Y):Bg b n≠[]:=by
 have hb:1<=b:=by
  unfold Dr at h;rw[AD]at h;exact(Aa.1 h.1).1
 unfold Bg;rw[A5 h];split
 .simp
 .obtain⟨k,hk,e⟩:=atg (b:=b.toNat) (f:=λ_=>A0) (n:=(G0 b n).toNat) (x:=rnd<|7 * n+1) J (by have:=auf h;omega);intro hh;have:k∈HW (JC b.toNat (G0 b n).toNat (λ_=>A0)<|rnd<|7 * n+1) b.toNat:=FP.2 ⟨Cu.2 hk,e⟩;rw[hh]at this;cases this
def aEK{tx:A1}(h:inB tx.size 1 24=Y){n:Int}(hn:inB n 0 999=Y):GG tx n=B (Ds 4 (Fz<|L tx)<|Bg (((tx.size+3) / 4:Nat):Int) n):=by
 unfold GG;rw[ab5 h];have:=atv (b:=(((tx.size+3) / 4:Nat):Int)) (n:=n) (by unfold Dr;rw[aCV h,hn];rfl);rw[A8 (by rw[List.isEmpty_iff];exact this)]
def aCc{tx:A1}(h:inB tx.size 1 24=Y){n:Int}(hn:inB n 0 999=Y):Ig ⟨n,GG tx n⟩:=by
 refine⟨hn, ?_⟩;show((GG tx n).size:Int)=4;rw[aEK h hn,BQ,Pq λk _=>OD _ k];rfl
def aDy{tx:A1}(h:inB tx.size 1 24=Y){list:List AN}(hl:Ow tx list):∀m∈list,Ig m->m.da=B (Ds 4 (Fz<|L tx)<|Bg (((tx.size+3) / 4:Nat):Int) m.nu):=by
 intro m hm hf;rw[hl m hm hf,aEK h hf.1]
def aar(b:Nat)(bl:Nat->List UInt8):NJ b bl (BS b noB):=by
 intro k hk;left;rw[bsA,B9,Yh,A5 hk];rfl
def aDY{tx:A1}(h:inB tx.size 1 24=Y){list:List AN}(hl:Ow tx list)(ht:(F7 tx.size list).2=Y):F7 tx.size list=(tx,Y):=by
 rw[aDb h,Bc]at ht ⊢;have h1:=Xd list 7 _<|CW.new<|(tx.size+3) / 4;have h2:=jM (λk=>OD (L tx) k) (aDy h hl) 7 _ (CW.new<|(tx.size+3) / 4)<|aar _ _;generalize Gb ((tx.size+3) / 4) list 7 (BS ((tx.size+3) / 4) noB)=kn at *;have h3:∀k,k<(tx.size+3) / 4->unk kn k=A0:=by
  intro k hk;obtain c|c:=tf (unk kn k)
  .rw[aCS (u:=k) (by rw[h1.1];exact hk)<|Bd c]at ht;cases ht
  .exact c
 rw[aas h1 h2 h3,mK (by
  intro x hx;obtain⟨k,_,rfl⟩:=Bu.1 hx;exact OD _ _)]
 exact aDZ h
def aqW{tx:A1}(h:inB tx.size 1 24=Y){list:List AN}(hl:Ow tx list)(hf:∀k:Nat,k<(tx.size+3) / 4->∃m∈list,Ig m/\Bg (((tx.size+3) / 4:Nat):Int) m.nu=[k]):F7 tx.size list=(tx,Y):=by
 rw[aDb h,Bc];have h1:=Xd list 7 _<|CW.new<|(tx.size+3) / 4;have h2:=jM (λk=>OD (L tx) k) (aDy h hl) 7 _ (CW.new<|(tx.size+3) / 4)<|aar _ _;have h3:∀k,k<(tx.size+3) / 4->unk (Gb ((tx.size+3) / 4) list 7<|BS ((tx.size+3) / 4) noB) k=A0:=λk hk=>apV (hf k hk) 6<|CW.new<|(tx.size+3) / 4;rw[aas h1 h2 h3,mK (by
  intro x hx;obtain⟨k,_,rfl⟩:=Bu.1 hx;exact OD _ _)]
 exact aDZ h
def NL(S:A3->Prop)(f:Frame):Prop:=f.ki=1->∃n,S n/\Ax n=Y/\f.fr=n.fr/\f.nu=n.nu/\f.to=n.to/\f.un=n.un/\f.sz=n.tx.size/\f.da=GG n.tx f.mix
structure PcI (S:A3->Prop) (p:AL):Prop where
 oY:p.sp=A0->∃f,p.data=BH (Cb f)/\p.src=f.src/\p.dst=f.dst/\(Bx f=Y->NL S f)
 bad:p.sp=Y->(Cn<|BA p.data).2=A0
def aAs:(Cn<|BA<|BH []).2=A0:=by rfl
def PcI.frame{S:A3->Prop}{p:AL}(h:PcI S p)(hu:(Cn<|BA p.data).2=Y):∃f,Cn (BA p.data)=(f,Y)/\Bx f=Y/\p.src=f.src/\p.dst=f.dst/\NL S f/\p.data=BH (Cb f):=by
 obtain c|c:=tf p.sp
 .rw[h.bad c]at hu;cases hu
 .obtain⟨f,h1,h2,h3,h4⟩:=h.oY c;obtain e|e:=tf (Bx f)
  .refine⟨f, ?_,e,h2,h3,h4 e,h1⟩;rw[h1,Nt<|O3 f,WR e]
  .rw[h1]at hu;unfold Cb at hu;rw[e,A4,aAs]at hu;cases hu
def PcI.ayY{S:A3->Prop}{p:AL}(h:PcI S p)(hs:p.sp=A0){mix kp:Int}(hm:inB mix 0 ((p.data.size:Int) - 1)=Y)(hk:inB kp 1 255=Y):PcI S (OR p mix kp):=by
 obtain⟨f,h1,_,_,_⟩:=h.oY hs;refine⟨λe=>(by cases e),λ_=> ?_⟩;obtain e|e:=tf (Bx f)
 .exact aq7 e h1 hm hk
 .have h2:=Aa.1 hm;rw[h1]at h2;unfold Cb at h2;rw[e,A4,X8]at h2;simp at h2;omega
def PcI.send{S:A3->Prop}{f:Frame}(h:Bx f=Y->NL S f):PcI S (pcF f):=⟨λ_=>⟨f,rfl,rfl,rfl,h⟩,λe=>by cases e⟩
def PcI.mono{S T:A3->Prop}{p:AL}(h:PcI S p)(hS:∀n,S n->T n):PcI T p:=by
 refine⟨λe=> ?_,h.bad⟩;obtain⟨f,h1,h2,h3,h4⟩:=h.oY e;refine⟨f,h1,h2,h3,λhf hk=> ?_⟩;obtain⟨n,h5,h6⟩:=h4 hf hk;exact⟨n,hS n h5,h6⟩
def aDC{ra:List AL}{fs:List Frame}{p:AL}(h:p∈Bz ra fs):p∈ra\/ ∃f∈fs,p=pcF f:=by
 unfold Bz at h;obtain h|h:=BM.1 h
 .exact .inl h
 .obtain⟨f,hf,rfl⟩:=Bu.1 h;exact .inr ⟨f,IF hf,rfl⟩
def aEL{ra:List AL}{i:Nat}{p:AL}(h:p∈JA ra i):p∈ra:=by
 unfold JA at h;obtain h|h:=BM.1 h
 .exact IF h
 .exact Kq h
def avX{l:List A3}{i:Int}(h0:0<=i)(h1:i.toNat<l.length):nA l i.toNat∈l:=by
 rw[nA,B9,Av h1];exact Cd h1
def asH{st:AJ}(h:At st=Y){n:A3}(hn:n∈st.held):Ax n=Y:=by
 unfold At at h;simp only[AD]at h;have hh:=h.2.2.2.1.2;obtain⟨j,hj,rfl⟩:=D0 hn;have:=Cp.1 hh j hj;rw[AD,nA,B9,Av hj]at this;exact this.1
def avc{S:A3->Prop}{k:A7}(h:Ae k=Y)(hS:∀n∈(stT k).held,S n){fr nu mix:Int}(hb:(EC k fr nu mix).2=Y):NL S (EC k fr nu mix).1:=by
 intro _;unfold EC at hb ⊢;split at hb
 .rename_i hc;rw[A5 hc];simp only[AD,CE,decide_eq_false_iff_not]at hc;have h0:=FG<|QU.1 hc.2.1;have hm:=avX (QU.1 hc.2.1) h0.1;exact⟨_,hS _ hm,asH (C8 h).kok hm,rfl,rfl,rfl,rfl,rfl,rfl⟩
 .cases hb
def Me{n:A3}(h:Ax n=Y):inB n.tx.size 1 24=Y:=by
 unfold Ax Ky at h;simp only[AD]at h;exact h.2.2.2.2.1
def jy(hv:List AE)(f:Frame):(∃i,Ap hv f=(hv,i)/\i<hv.length/\(hA hv i).fr=f.fr/\(hA hv i).nu=f.nu/\EB hv f.fr f.nu=(i:Int))\/
  (EB hv f.fr f.nu<0/\ ∃l:List AE,l.Sublist hv/\Ap hv f=(l++[⟨f.fr,f.nu,f.to,f.un,f.sz,[]⟩],l.length)):=by
 unfold Ap;obtain h|⟨i,h1,h2,h3,h4⟩:=S6 hv f.fr f.nu
 .rw[A5 h];refine .inr ⟨h,_, ?_,rfl⟩;split
  .exact QH _ _
  .exact ET _
 .rw[A8 J];exact .inl ⟨i,by rw[h1];rfl,h2,h3,h4,h1⟩
def Xz(l:List AE)(h:AE):hA (l++[h]) l.length=h:=by
 unfold hA;rw[B9,FO<|Ar _];simp
def T6(k:A7)(r:A1)(f:Bool):(wrR k r f).1.AH=k.AH:=by
 unfold wrR;split
 .rfl
 .cases f<;>rfl
def abi(k:A7):Prop:=∀h∈k.AH,5<=h.sz
def awU{l:List AE}{i:Nat}{x:AE}(h:x∈FB l i):x∈l:=by
 unfold FB at h;obtain h|h:=BM.1 h
 .exact IF h
 .exact Kq h
def atP(f:Frame):Ln ⟨f.fr,f.nu,f.to,f.un,f.sz,[]⟩ f=Y:=by
 unfold Ln;simp
structure aEY (S:A3->Prop) (w:AA):Prop where
 p:∀p∈w.AS,PcI S p
 b:∀i,i<4->abi (kA w.A9 i)
def awj(k:A7)(tt un:Int)(tx:A1):(Dq k tt un tx).1.AH=k.AH:=by
 unfold Dq;split
 .exact T6 _ _ _
 .rfl
def awY(k:A7)(a b:Int):(DU k a b).1.AH=k.AH:=by
 unfold DU;split
 .exact T6 _ _ _
 .rfl
def avl(k:A7):(FM k).1.AH=k.AH:=by
 unfold FM;split
 .exact T6 _ _ _
 .rfl
def avP(k:A7):(FN k).1.AH=k.AH:=by unfold FN;split<;>rfl
def av0(k:A7):(Db k).1.AH=k.AH:=by unfold Db;split<;>rfl
def aav{l:List AL}{i:Nat}(h:i<l.length):pA l i∈l:=by
 rw[nL h];exact Cd h
def Xk{k:A7}(h:Ae k=Y)(f:Frame):CB k f=HU k f:=A5 h
def aEB:CU [108,101,116]:=by unfold CU;decide
def aCY(n:A3):L (J6 n)=[116,97,107,101]++32::L (wr n):=by unfold J6;simp only[GI,L_B];rfl
def aEO{k:AJ}{r:A1}(hk:At k=Y):BJ k r=(GC k r).filter At:=by
 unfold BJ FL;rw[A5 hk];cases (GC k r).filter At<;>rfl
def aq3{k:AJ}{n:A3}(hn:Ax n=Y):BX k EM (wr n)=if n.fr=k.id then G else Ed k n:=by
 unfold BX G9;by_cases h:n.fr=k.id
 .simp[gD,gE,gi,gF,sC,Ph hn,h]
 .simp[gD,gE,gi,gF,sC,Ph hn,h]
def jI{k:AJ}{n:A3}(hk:At k=Y)(hn:Ax n=Y):BJ k (J6 n)=(if n.fr=k.id then G else Ed k n).filter At:=by
 rw[aEO hk,Hx jc<|aCY n,B_L];rw[show BX k (B [116,97,107,101]) (wr n)=_ from aq3 hn]
def XQ{l:List A3}{f n:Int}{x:A3}(h:x∈l)(h1:x.fr=f)(h2:x.nu=n):0<=AX l f n:=by
 obtain h3|h3:=aAu l f n
 .exact absurd ⟨h1,h2⟩ (SS J x h)
 .exact h3
def l7{l:List Mark}{f n:Int}{x:Mark}(h:x∈l)(h1:x.mf=f)(h2:x.mn=n):0<=Bo l f n:=by
 obtain h3|h3:=aqo l f n
 .exact absurd ⟨h1,h2⟩ (l6 J x h)
 .exact h3
structure azN (k o:AJ) (n:A3):Prop where
 id:o.id=k.id
 ti:o.ti=k.ti
 nx:o.nx=k.nx
 at_:(n.to=k.id/\o.held=k.held/\o.marks=ED k.marks ⟨n.fr,n.nu,n.un⟩/\o.inbox=Du k.inbox n)\/(n.to≠k.id/\o.held=Du k.held n/\o.marks=k.marks/\o.inbox=k.inbox)
def axQ{k o:AJ}{n:A3}(hk:At k=Y)(hn:Ax n=Y)(h:BJ k (J6 n)=I o):azN k o n:=by
 rw[jI hk hn]at h;have h:=(JL.1 h).1;split at h
 .cases h
 unfold Ed at h;split at h
 .cases h
 split at h
 .cases h
 split at h
 .cases h
 split at h
 .cases h
 split at h
 .cases h
 split at h
 .cases h
 split at h
 .rename_i h1;cases h;exact⟨rfl,rfl,rfl,.inl ⟨Bd h1,rfl,rfl,rfl⟩⟩
 .rename_i h1;cases h;exact⟨rfl,rfl,rfl,.inr ⟨by simpa using h1,rfl,rfl,rfl⟩⟩
structure Safe (k:A7) (st:AJ):Prop where
 is:DB k st
 fo:k.fo=(k.log.size:Int)
def aDR{k:A7}{st o:AJ}{r:A1}(h:DB k st)(hr:BJ st r=I o):Safe (wrR k r Y).1 o/\(wrR k r Y).2=Y:=by
 unfold wrR;rw[h.stT,hr];exact⟨⟨QG<|Q9 h hr,rfl⟩,rfl⟩
def aDQ{k:A7}{st:AJ}{r:A1}{f:Bool}(h:DB k st)(hr:(wrR k r f).2=Y):∃o,BJ st r=I o:=by
 unfold wrR at hr;rw[h.stT]at hr;cases hc:BJ st r with
 | none=>rw[hc]at hr;cases hr
 | some o=>exact⟨o,rfl⟩
def mz{k:A7}(h:Ae k=Y)(hu:k.up=Y){f:Frame}(hf:Bx f=Y)(h1:f.ki=1):DB (GZ k<|FB (Cz (Ap k.AH f).1 (Ap k.AH f).2 f) (Ap k.AH f).2) (stT k):=by
 have kf:=El h;have hv:=nF.1 kf.hv;have hp:=Wl hf h1;have Ei:=OH (hv:=k.AH) (f:=f);have L9:=SX (hv:=k.AH) (f:=f) kf.hl;have hpf:=aaL hv hf h1;have haf:=aEn hpf Ei hp.2.1;have hal:(Cz (Ap k.AH f).1 (Ap k.AH f).2 f).length=(Ap k.AH f).1.length:=by unfold Cz;rw[GP]
 exact YJ (C8 h) hu (by unfold FB;simp;omega)<|aa3 haf _
def arz{k:AJ}{m:Mark}{r:A1}(ht:Gv r=I m):BX k Bw r=if EE k.held m then I ⟨k.id,k.ti,k.nx,ER k.held (AX k.held m.mf m.mn).toNat,ED k.marks m,k.inbox⟩ else G:=by
 unfold BX En;cases h:EE k.held m<;>simp[gq,gu,ig,gr,gw,gK,ij,gv,ht,h]
def aCk{k:AJ}{a b c:Int}(hk:At k=Y)(ha:0<=a/\a<=999)(hb:0<=b/\b<=999)(hc:0<=c/\c<=999):
  BJ k (CY Bw a b c)=(if EE k.held ⟨a,b,c⟩ then I ⟨k.id,k.ti,k.nx,ER k.held (AX k.held a b).toNat,ED k.marks ⟨a,b,c⟩,k.inbox⟩ else G).filter At:=by
 have h3:=YO (r:=B<|B3 a++32::(B3 b++32::B3 c)) (a:=a) (b:=b) (c:=c) J J J J J J<|L_B _;rw[aEO hk,Hx aEB<|SA Bw a b c];rw[show BX k (B [108,101,116]) _=_ from arz h3]
structure ayW (a b:A3):Prop where
 fr:a.fr=b.fr
 nu:a.nu=b.nu
 to':a.to=b.to
 un:a.un=b.un
 ok:Ax a=Ax b
structure azw (l m:List A3):Prop where
 len:l.length=m.length
 nA:∀i,ayW (nA l i)<|nA m i
def O8{st:AJ}(h:At st=Y){n:A3}(hn:n∈st.held):Ec st.id n.fr n.to=Y/\st.ti<n.un/\Bo st.marks n.fr n.nu<0:=by
 obtain⟨j,hj,rfl⟩:=D0 hn;have:=(C3 h).ho j hj;unfold Gx at this;simp only[AD,decide_eq_true_eq]at this;rw[show nA st.held j=st.held[j] by rw[nA,B9,Av hj];rfl]at this;exact⟨this.2.2.1,this.2.1,this.2.2.2⟩
def O6{n:A3}(h:Ax n=Y):isN n.fr=Y/\isN n.to=Y/\inB n.nu 1 99=Y/\inB n.un 1 999=Y/\Ky n.tx=Y:=by
 unfold Ax at h;simp only[AD]at h;exact h
def Pv{a f t:Int}(ha:isN a=Y)(hf:isN f=Y)(ht:isN t=Y)(h:Ec a f t=Y):isN (Br a t)=Y/\Br a t≠f/\(Br a t≠t->Ec (Br a t) f t=Y):=by
 have ra:=F6 ha;have rf:=F6 hf;have rt:=F6 ht;unfold Ec at h;simp only[AD,CE,decide_eq_false_iff_not,C1,Aa]at h;have e:Br a t=if a<t then a+1 else a - 1:=by
  unfold Br;rw[ha,ht,BE h.1];rfl
 rw[e];refine⟨?_, ?_,λhne=> ?_⟩
 .split
  .exact Aa.2 J
  .exact Aa.2 J
 .split<;>omega
 .unfold Ec;simp only[AD,CE,decide_eq_false_iff_not,C1,Aa];refine⟨hne, ?_⟩;split at hne
  .left;rw[A5<|by assumption];omega
  .right;rw[A8<|by assumption];omega
def B8(id:Int)(n:A3)(m:Int):Frame:=⟨1,id,Br id n.to,n.fr,n.nu,n.to,n.un,n.tx.size,m,GG n.tx m⟩
def ja{id:Int}{n:A3}{m:Int}(hi:isN id=Y)(hn:Ax n=Y)(hw:Ec id n.fr n.to=Y)(hm:inB m 0 999=Y):Bx (B8 id n m)=Y:=by
 have r:=O6 hn;have hx:=Pv hi r.1 r.2.1 hw;have hf:=aCc (Me hn) hm;unfold Bx Jl B8;simp only[hi,hx.1,r.1,r.2.1,r.2.2.1,r.2.2.2.1,AT,A2,Me hn,hm,AP];rw[Ks];exact AR hf.2
def F4(tx:A1)(i:Nat):List AN:=(B7 i).map λj:Nat=>⟨(j:Int),GG tx (j:Int)⟩
def ar1{tx:A1}{i:Nat}{m:AN}(h:m∈F4 tx i):∃j:Nat,j<i/\m=⟨(j:Int),GG tx (j:Int)⟩:=by
 obtain⟨j,hj,rfl⟩:=Bu.1 h;exact⟨j,Cu.1 hj,rfl⟩
structure aEZ (x:A7) (d t:Int) (hv:List AE):Prop where
 ok:Ae x=Y
 up:x.up=Y
 id:x.id=d
 st:stT x=⟨d,t,1,[],[],[]⟩
 hv:x.AH=hv
variable {E:List Event}
def Tot{α:Type}(o:Option α)(P:α->Prop):Prop:=∃a,o=I a/\P a
def Rn{α β:Type}(A:α->Prop)(B:β->Prop):α ⊕ β->Prop
 | .inl a=>A a
 | .inr b=>B b
def Tot.ret{α:Type}{a:α}{P:α->Prop}(h:P a):Tot (I a) P:=⟨a,rfl,h⟩
def Tot.eq{α:Type}{o:Option α}{a:α}(h:o=I a):Tot o (λx=>x=a):=⟨a,h,rfl⟩
def Tot.bind{α β:Type}{o:Option α}{f:α->Option β}{P:α->Prop}{Q:β->Prop}(h:Tot o P)(hf:∀a,P a->Tot (f a) Q):Tot (o.bind f) Q:=by
 obtain⟨a,rfl,p⟩:=h;exact hf a p
def Tot.ite{α:Type}{c:Bool}{a b:Option α}{P:α->Prop}(ha:c=Y->Tot a P)(hb:c=A0->Tot b P):Tot (if c=Y then a else b) P:=by
 cases c
 .rw[A4];exact hb rfl
 .rw[A5 rfl];exact ha rfl
def Tot.pos{α:Type}{c:Bool}{a b:Option α}{P:α->Prop}(hc:c=Y)(ha:Tot a P):Tot (if c=Y then a else b) P:=by
 rw[A5 hc];exact ha
def Tot.neg{α:Type}{c:Bool}{a b:Option α}{P:α->Prop}(hc:c=A0)(hb:Tot b P):Tot (if c=Y then a else b) P:=by
 rw[hc,A4];exact hb
def Tot.join{Ω X:Type}{f:X->Option Ω}{m:Option (Ω ⊕ X)}{A:X->Prop}{Q:Ω->Prop}(h:Tot m (Rn Q A))(hf:∀x,A x->Tot (f x) Q):Tot (BT f m) Q:=by
 obtain⟨r,rfl,p⟩:=h;cases r with
 | inl o=>exact⟨o,rfl,p⟩
 | inr x=>exact hf x p
def Tot.sum{A B4 Ω:Type}{m:Option (A ⊕ B4)}{f:A->Option Ω}{g:B4->Option Ω}{P:A->Prop}{Q:B4->Prop}{R:Ω->Prop}(h:Tot m (Rn P Q))
  (hf:∀a,P a->Tot (f a) R)(hg:∀d,Q d->Tot (g d) R):Tot (AO m f g) R:=by
 obtain⟨r,rfl,p⟩:=h;cases r with
 | inl o=>exact hf o p
 | inr x=>exact hg x p
def Tot.loop{σ ρ:Type}{b:σ->Option (σ ⊕ ρ)}(Inv:Nat->σ->Prop)(NT:ρ->Prop)(n:Nat)
  (h:∀i s,i<=n->Inv i s->Tot (b s) (Rn (λs'=>i<n/\Inv (i+1) s') NT)){s0:σ}(h0:Inv 0 s0):Tot (AW b s0) NT:=by
 refine avD Inv NT n (λi s hi hs=> ?_) (λs hs=> ?_) h0
 .obtain⟨r,e,p⟩:=h i s J hs;cases r with
  | inl s'=>exact .inl ⟨s',e,p.2⟩
  | inr y=>exact .inr ⟨y,e,p⟩
 .obtain⟨r,e,p⟩:=h n s (Ar _) hs;cases r with
  | inl s'=>exact absurd p.1<|Nat.lt_irrefl _
  | inr y=>exact⟨y,e,p⟩
structure Hk (N:Nat) (r:List Int×Int×D):Prop where
 l:r.1.length<=2000
 b:BOk r.1
 p0:0<=r.2.1
 p1:r.2.1<=(N:Int)
def Hk.up{N M:Nat}{r:List Int×Int×D}(h:Hk N r)(hM:N<=M):Hk M r:=⟨h.l,h.b,h.p0,by have:=h.p1;omega⟩
def avC{a b:Int}(ha:0<=a)(ha':a<9223372036854775808)(hb:0<=b)(hb':b<9223372036854775808):0<=Dt .i64 a b:=by
 obtain⟨m,rfl⟩:=HB ha;obtain⟨n,rfl⟩:=HB hb;have hm:m<2 ^ 63:=J
 have hn:n<2 ^ 63:=J
 have hx:=Nat.xor_lt_two_pow hm hn;have e:(FC 64 (m:Int) ^^^ FC 64 (n:Int)).toNat=m ^^^ n:=by
  rw[BitVec.toNat_xor,QO,QO];congr 1<;>omega
 show 0<=w64 (((FC 64 (m:Int) ^^^ FC 64 (n:Int)).toNat:Int));rw[e,AZ J J];omega
def Cq{N:Nat}{x:(List Int×Int×D)×Int×D}(h:Hk N x.1)(hN:N<=1000000):
  Tot (Ce x) λa=>Hk (N+1) a.2.1/\0<=a.1.1/\(1<=x.2.1->a.1.1<x.2.1):=by
 obtain⟨⟨l,p,_⟩,n,_⟩:=x;obtain⟨hl,hb,p0,p1⟩:=h;simp only at hl hb p0 p1;have e1:w64 (p+1)=p+1:=AZ J J;have e2:w64 (p+1 - 1)=p:=by rw[AZ J J];omega
 have hq:Hk (N+1) (l,p+1,()):=⟨hl,hb,by show 0<=p+1;omega,by show p+1<=((N+1:Nat):Int);omega⟩;unfold Ce;simp only[e1,e2];refine Tot.ite (λhc=> ?_) (λhc=> ?_)
 .refine Tot.ret ⟨hq,Ct _,λh=>by show(0:Int)<n;omega⟩
 .simp only[Mx,decide_eq_false_iff_not]at hc;have hn:1<=n:=J
  have hln:0<l.length:=J
  have hl0:¬((j8 l:Int)=0):=hc.2;have hn0:(!decide (n=0))=Y:=by simp;omega
  have oN:(!decide ((j8 l:Int)=0))=Y:=by simpa using hl0
  refine Tot.ite (λhc1=> ?_) (λhc1=> ?_)
  .have hc1:=Bd hc1;refine Tot.pos (Ft p0 hc1) (Tot.pos hn0<|Tot.ret ⟨hq, ?_,λ_=> ?_⟩)
   .have:=hb.rd p;exact QP _ (by rw[AZ J J];exact this.1)
   .exact QK _ J
  .have hp:0<=BK p l.length/\BK p l.length<l.length:=⟨QP _ p0,QK _ J⟩;have e3:w64 (w64 (p * 7)+3)=p * 7+3:=by rw[AZ (n:=p * 7) J J,AZ J J]
   have hp2:0<=BK (p * 7+3) l.length/\BK (p * 7+3) l.length<l.length:=⟨QP _ J,QK _ J⟩;simp only[e3];refine Tot.pos oN (Tot.pos (Ft hp.1 hp.2)<|Tot.pos oN<|Tot.pos (Ft hp2.1 hp2.2)<|Tot.pos oN<|Tot.pos hn0<|Tot.ret ⟨hq, ?_,λ_=> ?_⟩)
   .have b1:=hb.rd<|BK p l.length;have b2:=hb.rd<|BK (p * 7+3) l.length;have hd:0<=B0 p l.length/\B0 p l.length<=p:=⟨lL p0 J,Int.tdiv_le_self _ p0⟩;generalize @rd Int aFd l (BK p l.length)=u1 at b1 ⊢;generalize @rd Int aFd l (BK (p * 7+3) l.length)=u2 at b2 ⊢;generalize B0 p l.length=d at hd ⊢;have w1:w64 u1=u1:=AZ J J;have w2:w64 u2=u2:=AZ J J;have w3:w64 (u1 * 131)=u1 * 131:=AZ J J;have w4:w64 (u2 * 1117)=u2 * 1117:=AZ J J;have w5:w64 (p * 29)=p * 29:=AZ J J;have w6:w64 d=d:=AZ J J;have w7:w64 (d * 53)=d * 53:=AZ J J;simp only[w1,w2,w3,w4,w5,w6,w7];have w8:w64 (u1 * 131+u2 * 1117)=u1 * 131+u2 * 1117:=AZ J J;rw[w8];have w9:w64 (u1 * 131+u2 * 1117+p * 29)=u1 * 131+u2 * 1117+p * 29:=AZ J J;rw[w9];have w10:w64 (u1 * 131+u2 * 1117+p * 29+d * 53)=u1 * 131+u2 * 1117+p * 29+d * 53:=AZ J J;rw[w10];have hv:0<=u1 * 131+u2 * 1117+p * 29+d * 53/\u1 * 131+u2 * 1117+p * 29+d * 53<=1000000000:=J
    generalize u1 * 131+u2 * 1117+p * 29+d * 53=v at hv ⊢;have hdv:0<=B0 v 64/\B0 v 64<=v:=⟨lL hv.1 J,Int.tdiv_le_self _ hv.1⟩;have w11:w64 (B0 v 64)=B0 v 64:=AZ J J;rw[w11];exact QP _ (avC hv.1 J hdv.1 J)
   .exact QK _ J
def apr(l:List A1){i:Int}(h0:0<=i)(h1:i<l.length): @rd A1 aFf l i∈l:=by
 unfold rd;rw[B9,Av (by omega:i.toNat<l.length)];exact Cd _
def axS{N:Nat}{r:List Int×Int×D}{l:List A1}(h:Hk N r)(hN:N<=1000000)(hl:1<=l.length):
  Tot (dm (r,l,())) λa=>Hk (N+1) a.2.1/\a.1.1∈l:=by
 unfold dm;refine Tot.bind (Cq h hN) λa ha=> ?_;have h1:=ha.2.2 (by show(1:Int)<=(j8 l:Int);omega);exact Tot.pos (Ft ha.2.1 h1)<|Tot.ret ⟨ha.1,apr l ha.2.1 h1⟩
def NS(E ev:List Event)(w:AA):Prop:=∃l,Reach l w/\(E=[]->l=ev)
def NS.ok{ev:List Event}{w:AA}(h:NS E ev w):B5 w:=by
 obtain⟨_,h,_⟩:=h;exact h.ok
def NS.reach{ev:List Event}{w:AA}(h:NS [] ev w):Reach ev w:=by
 obtain⟨_,h,e⟩:=h;rw[← e rfl];exact h
def NS.step{ev:List Event}{w:AA}(h:NS E ev w){e:Event}(ht:e.tx.size<=1048576):NS E (Jo ev e (doM w e).2) (Cj w e):=by
 obtain⟨l,h,g⟩:=h;exact⟨_,h.step ht,λc=>by rw[g c]⟩
def WOk(E:List Event)(N:Nat)(t:Int×List A7×List Bool×List AL×List A3×List A3×List Event×D):Prop:=∃w ev,t=tS w ev/\NS E ev w/\ev.length<=N
structure SOk (E:List Event) (N:Nat) (s:(List Int×Int×D)×Int×List A7×List Bool×List AL×List A3×List A3×List Event×D):Prop where
 r:Hk N s.1
 w:WOk E N s.2
def WOk.up{N M:Nat}{t:_}(h:WOk E N t)(hM:N<=M):WOk E M t:=by
 obtain⟨w,ev,e,h1,h2⟩:=h;exact⟨w,ev,e,h1,J⟩
def SOk.up{N M:Nat}{s:_}(h:SOk E N s)(hM:N<=M):SOk E M s:=⟨h.r.up hM,h.w.up hM⟩
def SOk.rd{N M:Nat}{s:_}(h:SOk E N s){r:List Int×Int×D}(hr:Hk M r)(hM:N<=M):SOk E M (r,s.2):=⟨hr,h.w.up hM⟩
abbrev zTx(y:Int×Int×Int×Int×Int×Int×Int×Int×Int×A1×D):A1:=y.2.2.2.2.2.2.2.2.2.1
def H6{N:Nat}{s:_}{y:Int×Int×Int×Int×Int×Int×Int×Int×Int×A1×D}(h:SOk E N s)(hN:N<=1000000)(hy:(zTx y).size<=1048576):
  Tot (Fl (s,y,())) λa=>SOk E (N+1) a.2.1:=by
 obtain⟨hr,w,ev,e,hw,hev⟩:=h;obtain⟨r,t⟩:=s;obtain⟨a,b,c,d,f,g,i,j,k,tx,_⟩:=y;simp only at e hr;subst e;have:=arL hw.ok (r:=r) (ev:=ev) J (e:=⟨a,b,c,d,f,g,i,j,k,tx⟩) hy;refine⟨_,this,hr.up J,⟨_,Jo ev ⟨a,b,c,d,f,g,i,j,k,tx⟩ (doM w ⟨a,b,c,d,f,g,i,j,k,tx⟩).2,rfl, ?_, ?_⟩⟩
 .exact hw.step (e:=⟨a,b,c,d,f,g,i,j,k,tx⟩) hy
 unfold Jo;split
 .simp;omega
 .omega
def WOk.has{N:Nat}{t:_}(h:WOk E N t){i:Int}(h0:0<=i)(h1:i<4):Ae (kA t.2.1 i.toNat)=Y/\(kA t.2.1 i.toNat).id=i/\inb i t.2.1.length=Y:=by
 obtain⟨w,ev,rfl,hw,_⟩:=h;have:=hw.ok.k i.toNat J;refine⟨this.1, ?_,Ft h0 (by show i<(w.A9.length:Int);rw[hw.ok.kl];exact h1)⟩;rw[this.2];omega
def nJ{l:List A7}{i:Int}(h:Ae (kA l i.toNat)=Y):
  Tot (G5 (((@rd A7 aE5 l i).id,(@rd A7 aE5 l i).up,(@rd A7 aE5 l i).log,(@rd A7 aE5 l i).fo,(@rd A7 aE5 l i).AH,()),()))
   λa=>a=((tK<|stT<|kA l i.toNat,Y,()),()):=Tot.eq<|Nu h
end Go.VS
namespace Go.VS
open Go
variable {E:List Event}
def awr{l:List A1}{s:A1}(h:s∈l)(hl:(l.all λx=>U<|x.size<=1000)=Y):s.size<=1000:=by
 have:=DK.1 hl s h;exact Bd this
def abY{N:Nat}{s:_}(h:SOk E N s)(hN:N<=900000):Tot (UU (s,())) λa=>SOk E (N+10) a.2.1:=by
 unfold UU;refine Tot.bind (Cq h.r J) λr1 h1=>Tot.bind (axS h1.1 J aE9) λr2 h2=>Tot.join (A:=λj=>SOk E (N+2) j.1/\0<=j.2.1/\j.2.1<4/\j.2.2.1.size<=1000) ?_ (λj hj=> ?_)
 .have hz:=awr h2.2 aE9;have hat:r1.1.1<4:=h1.2.2 (show(1:Int)<=4 by decide);refine Tot.ite (λhc=>Tot.pos ?_<|Tot.ret ⟨h.rd h2.1 J,h1.2.1,hat, ?_⟩) (λhc=>Tot.ret ⟨h.rd h2.1 J,h1.2.1,hat,hz⟩)
  .have:=Bd hc;simp;omega
  .show(r2.1.1.extract 0 24).size<=1000;rw[aBZ];omega
 .obtain⟨hs,a0,a1,hz⟩:=hj;have hk:=hs.w.has a0 a1;refine Tot.pos hk.2.2 (Tot.bind (nJ hk.1) λr6 h6=>Tot.bind (Cq hs.r J) λr7 h7=>Tot.bind (Cq h7.1 J) λr8 h8=>
   Tot.bind (H6 (hs.rd h8.1 J) J ?_) λr9 h9=>Tot.ret<|h9.up J)
  show j.2.2.1.size<=1048576;omega
def axU{a:Int}(h0:0<=a)(h1:a<4):0<=BK (w64<|a+1) 4/\BK (w64<|a+1) 4<4:=by
 rw[AZ J J];exact⟨QP _ J,QK _ J⟩
def axB{N:Nat}{s:_}(h:SOk E N s)(hN:N<=900000):Tot (bG (s,())) λa=>SOk E (N+2) a.2.1/\a.2.1.2=s.2/\(a.1.2.2.1=Y->0<=a.1.1/\a.1.1<4/\isN (Br a.1.1 a.1.2.1.2.2.1)=Y):=by
 unfold bG;refine Tot.bind (Cq h.r J) λr1 h1=>Tot.sum (P:=λy=>SOk E (N+2) y.1/\y.1.2=s.2/\(0<=y.2.1/\y.2.1<4/\isN (Br y.2.1 y.2.2.1.2.2.1)=Y)) (Q:=λy=>SOk E (N+2) y.1/\y.1.2=s.2) ?_ (λy hy=>Tot.ret ⟨hy.1,hy.2.1,λ_=>hy.2.2⟩) (λy hy=>Tot.ret ⟨hy.1,hy.2,λh=>by cases h⟩);refine Tot.loop (λi x=>SOk E (N+1) x.1/\x.1.2=s.2/\0<=x.2.2.1/\x.2.2.1<4/\x.2.2.2.1=(i:Int)) _ 4 (λi x hi hx=> ?_) ⟨h.rd h1.1 J,rfl,h1.2.1,h1.2.2<|show(1:Int)<=4 by decide,rfl⟩;obtain⟨hs,hw,a0,a1,hx⟩:=hx;have hk:=hs.w.has a0 a1;unfold pr;refine Tot.ite (λhc=> ?_) (λhc=>Tot.ret ⟨hs.up J,hw⟩);have hc:=Bd hc;refine Tot.pos hk.2.2 (Tot.bind (nJ hk.1) λr6 h6=> ?_);subst h6;refine Tot.ite (λhl=> ?_) (λhl=> ?_)
 .have hl:(0:Int)<((stT<|kA x.1.2.2.1 x.2.2.1.toNat).held.length:Int):=Bd hl;refine Tot.bind (Cq hs.r J) λr7 h7=> ?_;have hlt:=h7.2.2 hl;refine Tot.pos (Ft h7.2.1 hlt)<|Tot.ret ⟨hs.rd h7.1 J,hw,a0,a1, ?_⟩;have hkk:=C8 hk.1;have hid:=hkk.id;have h9:r7.1.1.toNat<(stT<|kA x.1.2.2.1 x.2.2.1.toNat).held.length:=by
   have:r7.1.1<((stT<|kA x.1.2.2.1 x.2.2.1.toNat).held.length:Int):=hlt;have:=h7.2.1;omega
  have:=kJ hkk.kok (n:=nA (stT<|kA x.1.2.2.1 x.2.2.1.toNat).held r7.1.1.toNat) (by rw[nA,B9,Av h9];exact Cd h9);rw[hid,hk.2.1]at this;exact this
 .have hm:=axU a0 a1;refine Tot.ret ⟨?_,hs,hw,hm.1,hm.2, ?_⟩
  .omega
  .show w64 (x.2.2.2.1+1)=_;rw[hx,AZ J J];rfl
def Ss{N:Nat}{s:_}(h:SOk E N s){Dy odd:Int}(hm:Dy<=64)(hN:N<=900000):Tot (NV (s,Dy,odd,())) λa=>SOk E (N+1000) a.2.1:=by
 unfold NV;refine Tot.sum (P:=λ_=>False) (Q:=λy=>SOk E (N+1000) y.1) ?_ (λ_ h=>h.elim) (λy hy=>Tot.ret hy);refine Tot.loop (λi x=>SOk E (N+12 * i) x.1/\x.2.1=Dy/\x.2.2.2.1=(i:Int)) _ Dy.toNat (λi x hi hx=> ?_) ⟨h,rfl,rfl⟩;obtain⟨hs,hx1,hx⟩:=hx;unfold pY;refine Tot.ite (λhc=> ?_) (λhc=>Tot.ret<|show SOk E (N+1000) _ from hs.up J);rw[AD,hx1,hx]at hc;have hlt:(i:Int)<Dy:=Bd hc.1;have hN1:N+12 * i<=950000:=J
 generalize hM:N+12 * i=M at hs hN1;refine Tot.join (A:=λj=>SOk E (M+5) j.1/\j.2.1=Dy/\j.2.2.2.1=(i:Int)/\(zTx j.2.2.2.2.1).size<=1000) ?_ (λj hj=> ?_)
 .refine Tot.join (A:=λj=>SOk E (M+1) j.1/\j.2.1=Dy/\j.2.2.2.1=(i:Int)/\(zTx j.2.2.2.2.1).size<=1000) ?_ (λj hj=> ?_)
  .refine Tot.ite (λhc=>Tot.bind (Cq hs.r J) λr1 h1=>Tot.ret ?_) (λhc=>Tot.ret ?_)
   .exact⟨hs.rd h1.1 J,hx1,hx,show noB.size<=1000 by decide⟩
   .exact⟨hs.up J,hx1,hx,show noB.size<=1000 by decide⟩
  .obtain⟨hs,hj1,hj2,hj3⟩:=hj;refine Tot.ite (λhc=> ?_) (λhc=>Tot.ret ⟨hs.up J,hj1,hj2,hj3⟩);refine Tot.bind (Cq hs.r J) λr1 h1=> ?_;refine Tot.ite (λhc=>Tot.ret ⟨hs.rd (h1.1.up J) J,hj1,hj2,hj3⟩) (λhc=> ?_);refine Tot.ite (λhc=>Tot.ret ⟨hs.rd (h1.1.up J) J,hj1,hj2,hj3⟩) (λhc=> ?_);refine Tot.ite (λhc=> ?_) (λhc=> ?_)
   .exact Tot.bind (Cq h1.1 J) λr2 h2=>Tot.bind (Cq h2.1 J) λr3 h3=>Tot.bind (Cq h3.1 J) λr4 h4=>
     Tot.ret ⟨hs.rd (h4.1.up J) J,hj1,hj2,hj3⟩
   .exact Tot.bind (Cq h1.1 J) λr2 h2=>Tot.ret ⟨hs.rd (h2.1.up J) J,hj1,hj2,hj3⟩
 .obtain⟨hs,hj1,hj2,hj3⟩:=hj;have hw:w64 (j.2.2.2.1+1)=((i+1:Nat):Int):=by rw[hj2,AZ J J];rfl
  refine Tot.join (A:=λj=>SOk E (M+7) j.1/\j.2.1=Dy/\j.2.2.2.1=(i:Int)/\(zTx j.2.2.2.2.1).size<=1000) ?_ (λj hj=> ?_)
  .refine Tot.bind (H6 hs J<|CV hj3 aE9) λr1 h1=>Tot.ite (λhc=> ?_) (λhc=>Tot.ret ⟨h1.up J,hj1,hj2,hj3⟩);exact Tot.bind (H6 h1 J<|show noB.size<=1048576 by decide) λr2 h2=>Tot.ret ⟨h2.up J,hj1,hj2,hj3⟩
  .obtain⟨hs,hj1,hj2,hj3⟩:=hj;refine Tot.join (A:=λj=>SOk E (M+8) j.1/\j.2.1=Dy/\j.2.2.2.1=(i:Int)/\(zTx j.2.2.2.2.1).size<=1000) ?_ (λj hj=> ?_)
   .refine Tot.ite (λhc=>Tot.bind (Cq hs.r J) λr1 h1=>Tot.ret ⟨hs.rd h1.1 J,hj1,hj2,hj3⟩) (λhc=>Tot.ret ⟨hs.up J,hj1,hj2,hj3⟩)
   .obtain⟨hs,hj1,hj2,hj3⟩:=hj;have hw:w64 (j.2.2.2.1+1)=((i+1:Nat):Int):=by rw[hj2,AZ J J];rfl
    refine Tot.ite (λhc=> ?_) (λhc=>Tot.ret ⟨J, ?_,hj1,hw⟩)
    .refine Tot.bind (Cq hs.r J) λr1 h1=>Tot.bind (Cq h1.1 J) λr2 h2=>Tot.bind (H6 (hs.rd h2.1 J) J ?_) λr3 h3=>Tot.ret ⟨J, ?_,hj1,hw⟩
     .show(zTx j.2.2.2.2.1).size<=1048576;omega
     .exact h3.up J
    .exact hs.up J
end Go.VS
namespace Go.VS
open Go
variable {E:List Event}
def nz:noB.size<=1048576:=by decide
def WOk.rl{N:Nat}{t:_}(h:WOk E N t):t.2.2.2.1.length<=30:=by
 obtain⟨w,ev,rfl,hw,_⟩:=h;exact hw.ok.rl
def Sx{n:Int}{i:Nat}(h:n=(i:Int))(hi:i<=1000000):w64 (n+1)=((i+1:Nat):Int):=by
 rw[h,AZ J J];rfl
def Xs{N:Nat}{s:_}(h:SOk E N s){Dy odd:Int}(h0:0<=Dy)(hm:Dy<=8)(hN:N<=800000):Tot (PF (s,Dy,odd,())) λa=>SOk E (N+1100) a.2.1:=by
 unfold PF;refine Tot.bind (axB h J) λr1 h1=>Tot.ite (λhc=>Tot.ret<|h1.1.up J) (λhc=> ?_);refine Tot.bind (Cq h1.1.r J) λr2 h2=>Tot.bind (Cq h2.1 J) λr3 h3=> ?_;refine Tot.sum (P:=λ_=>False) (Q:=λy=>SOk E (N+20) y.1/\y.2.1=Dy) ?_ (λ_ h=>h.elim) (λy hy=> ?_)
 .refine Tot.loop (λi x=>SOk E (N+4+i) x.1/\x.2.1=Dy/\x.2.2.2.2.2.2.1=(i:Int)) _ Dy.toNat (λi x hi hx=> ?_) ⟨h1.1.rd h3.1 J,rfl,rfl⟩;obtain⟨hs,hx1,hx⟩:=hx;unfold pX;refine Tot.ite (λhc=> ?_) (λhc=>Tot.ret ⟨hs.up J,hx1⟩);have hc:=Bd hc;exact Tot.bind (H6 hs J nz) λr4 h4=>Tot.ret ⟨J,h4.up J,hx1,Sx hx J⟩
 .have hy2:=hy.2;refine Tot.bind (Cq hy.1.r J) λr4 h4=> ?_;have h5:r4.1.1<=64:=by
   have:w64 (y.2.1+4)=Dy+4:=by rw[hy.2,AZ J J]
   have:=h4.2.2 (by show 1<=w64 (y.2.1+4);omega);have:r4.1.1<w64 (y.2.1+4):=this;omega
  exact Tot.bind (Ss (hy.1.rd h4.1 J) h5 J) λr5 h6=>Tot.ret<|h6.up J
def awW{N:Nat}{s:_}(h:SOk E N s)(hN:N<=700000):Tot (bD (s,())) λa=>SOk E (N+4500) a.2.1:=by
 unfold bD;refine Tot.bind (Ss h aE9 J) λr1 h1=>Tot.bind (Xs h1 aE9 aE9 J) λr2 h2=> ?_;refine Tot.sum (P:=λ_=>False) (Q:=λy=>SOk E (N+2220) y.1) ?_ (λ_ h=>h.elim) (λy hy=> ?_)
 .refine Tot.loop (λi x=>SOk E (N+2100+40 * i) x.1/\x.2.1=(i:Int)) _ 2 (λi x hi hx=> ?_) ⟨h2.up J,rfl⟩;obtain⟨hs,hx⟩:=hx;unfold pa;refine Tot.bind (Cq hs.r J) λr3 h3=>Tot.ite (λhc=> ?_) (λhc=>Tot.ret<|show SOk E (N+2220) _ from hs.rd (h3.1.up J) J);have hc:=Bd hc;have hv:=h3.2.2 (show(1:Int)<=2 by decide);have hv:r3.1.1<2:=hv;have hv0:=h3.2.1;rw[AZ J J]at hc;have hrl:=hs.w.rl;refine Tot.sum (P:=λ_=>False) (Q:=λy=>SOk E (N+2100+40 * (i+1)) y.1/\y.2.1=(i:Int)) ?_ (λ_ h=>h.elim) (λy hy=>Tot.ret ⟨J,hy.1,Sx hy.2 J⟩);refine Tot.loop (λk y=>SOk E (N+2100+40 * i+1+k) y.1/\y.2.1=(i:Int)/\y.2.2.1=(j8 x.1.2.2.2.2.1:Int)/\y.2.2.2.1=(k:Int)) _ x.1.2.2.2.2.1.length (λk y hk hy=> ?_) ⟨hs.rd h3.1 J,hx,rfl,rfl⟩;obtain⟨hs,y1,y2,y3⟩:=hy;unfold pZ;refine Tot.ite (λhc=> ?_) (λhc=>Tot.ret ⟨hs.up J,y1⟩);have hc:=Bd hc;exact Tot.bind (H6 hs J nz) λr4 h4=>Tot.ret ⟨J,h4.up J,y1,y2,Sx y3 J⟩
 .refine Tot.bind (Cq (SOk.r hy) J) λr3 h3=>Tot.join (A:=λj=>SOk E (N+2240) j.1) ?_ (λj hj=> ?_)
  .refine Tot.bind (Cq h3.1 J) λr4 h4=>Tot.ite (λhc=> ?_) (λhc=>Tot.ite (λhc=> ?_) λhc=> ?_)
   .exact Tot.bind (Cq h4.1 J) λr5 h5=>Tot.bind (H6 (SOk.rd hy h5.1 J) J nz) λr6 h6=>Tot.bind (H6 h6 J nz) λr7 h7=>Tot.ret (show SOk E (N+2240) _ from h7.up J)
   .refine Tot.bind (Cq h4.1 J) λr5 h5=>Tot.sum (P:=λ_=>False) (Q:=λy=>SOk E (N+2240) y.1) ?_ (λ_ h=>h.elim) (λy hy=>Tot.ret<|show SOk E (N+2240) y.1 from hy);have hv:r5.1.1<9:=h5.2.2 (show(1:Int)<=9 by decide);have hv0:=h5.2.1;refine Tot.loop (λk y=>SOk E (N+2224+k) y.1/\y.2.2.1=r5.1.1 - (k:Int)) _ r5.1.1.toNat (λk y hk hy=> ?_) ⟨SOk.rd hy (h5.1.up J) J,by show r5.1.1=r5.1.1 - 0;omega⟩;obtain⟨hs,y1⟩:=hy;unfold px;refine Tot.ite (λhc=> ?_) (λhc=>Tot.ret<|show SOk E (N+2240) _ from hs.up J);have hc:=Bd hc;refine Tot.bind (H6 hs J nz) λr6 h6=>Tot.ret ⟨J,h6.up J, ?_⟩;show w64 (y.2.2.1 - 1)=r5.1.1 - ((k+1:Nat):Int);rw[AZ J J];omega
   .exact Tot.ret (show SOk E (N+2240) _ from SOk.rd hy (h4.1.up J) J)
  .have hj:SOk E (N+2240) j.1:=hj;refine Tot.bind (Xs hj aE9 aE9 J) λr4 h4=>Tot.sum (P:=λ_=>False) (Q:=λy=>SOk E (N+3400) y.1) ?_ (λ_ h=>h.elim) (λy hy=> ?_)
   .refine Tot.loop (λk y=>SOk E (N+3340+k) y.1/\y.2.2.1=(k:Int)) _ 12 (λk y hk hy=> ?_) ⟨h4.up J,rfl⟩;obtain⟨hs,y1⟩:=hy;unfold pv;refine Tot.ite (λhc=> ?_) (λhc=>Tot.ret<|show SOk E (N+3400) _ from hs.up J);rw[AD]at hc;have hc:=Bd hc.1;exact Tot.bind (H6 hs J nz) λr6 h6=>Tot.ret ⟨J,h6.up J,Sx y1 J⟩
   .exact Tot.bind (Ss (SOk.up hy<|Ar _) aE9 J) λr5 h5=>Tot.ret<|h5.up J
def ax8{N:Nat}{s:_}(h:SOk E N s)(odd:Int)(hN:N<=690000):Tot (bF (s,odd,())) λa=>SOk E (N+25000) a.2.1:=by
 unfold bF;refine Tot.bind (Cq h.r J) λr1 h1=>Tot.bind (Cq h1.1 J) λr2 h2=> ?_;have a0:=h1.2.1;have a1:r1.1.1<4:=h1.2.2 (show(1:Int)<=4 by decide);have hs:SOk E (N+2) (r2.2.1,s.2):=h.rd h2.1 J;refine Tot.join (A:=λj=>SOk E (N+2) j.1/\0<=j.2.2.1/\j.2.2.1<4) ?_ (λj hj=> ?_)
 .exact Tot.ite (λ_=>Tot.ret ⟨hs,a0,a1⟩) λ_=>Tot.ite (λ_=>Tot.ret ⟨hs,a0,a1⟩) λ_=>Tot.ret ⟨hs,a0,a1⟩
 clear hs a0 a1;refine Tot.ite (λ_=>Tot.bind (abY hj.1 J) λr4 h4=>Tot.ret<|h4.up J) (λ_=> ?_);refine Tot.join (A:=λj=>SOk E (N+2) j.1/\0<=j.2.2.1/\j.2.2.1<4) ?_ (λj hj=> ?_)
 .exact Tot.ite (λ_=>Tot.ret hj) λ_=>Tot.ite (λ_=>Tot.ret hj) λ_=>Tot.ite (λ_=>Tot.ret hj) λ_=>Tot.ite (λ_=>Tot.ret hj) λ_=>Tot.ite (λ_=>Tot.ret hj) λ_=>Tot.ret hj
 refine Tot.ite (λ_=> ?_) (λ_=> ?_)
 .refine Tot.bind (Cq hj.1.r J) λr3 h3=> ?_;have hv:r3.1.1<7:=h3.2.2 (show(1:Int)<=7 by decide);have hv0:=h3.2.1;have hw:w64 (1+r3.1.1)=1+r3.1.1:=AZ J J;exact Tot.bind (Xs (hj.1.rd h3.1 J) (by rw[hw];omega) (by rw[hw];omega) J) λr4 h4=>Tot.ret<|h4.up J
 refine Tot.join (A:=λj=>SOk E (N+2) j.1/\0<=j.2.2.1/\j.2.2.1<4) ?_ (λj hj=> ?_)
 .exact Tot.ite (λ_=>Tot.ret hj) λ_=>Tot.ret hj
 refine Tot.ite (λ_=> ?_) (λ_=> ?_)
 .refine Tot.bind (Cq hj.1.r J) λr3 h3=> ?_;have hv:r3.1.1<20:=h3.2.2 (show(1:Int)<=20 by decide);have hv0:=h3.2.1;have hw:w64 (1+r3.1.1)=1+r3.1.1:=AZ J J;exact Tot.bind (Ss (hj.1.rd h3.1 J) (by rw[hw];omega) J) λr4 h4=>Tot.ret<|h4.up J
 refine Tot.join (A:=λj=>SOk E (N+2) j.1/\0<=j.2.1/\j.2.1<4) ?_ (λj hj=> ?_)
 .exact Tot.ite (λ_=>Tot.ret hj) λ_=>Tot.ret hj
 refine Tot.ite (λ_=>Tot.bind (H6 hj.1 J nz) λr4 h4=>Tot.ret<|h4.up J) (λ_=> ?_);refine Tot.ite (λ_=>Tot.bind (Cq hj.1.r J) λr3 h3=>Tot.bind (H6 (hj.1.rd h3.1 J) J nz) λr4 h4=>Tot.ret<|h4.up J) (λ_=> ?_);refine Tot.join (A:=λj=>SOk E (N+2) j.1/\0<=j.2.1/\j.2.1<4) ?_ (λj hj=> ?_)
 .exact Tot.ite (λ_=>Tot.ret hj) λ_=>Tot.ret hj
 refine Tot.ite (λ_=>Tot.bind (H6 hj.1 J nz) λr4 h4=>Tot.ret<|h4.up J) (λ_=> ?_);refine Tot.ite (λ_=>Tot.bind (Cq hj.1.r J) λr3 h3=>Tot.bind (Cq h3.1 J) λr4 h4=>Tot.bind (H6 (hj.1.rd h4.1 J) J nz) λr5 h5=>Tot.ret<|h5.up J) (λ_=> ?_);refine Tot.join (A:=λj=>SOk E (N+2) j.1/\0<=j.2.1/\j.2.1<4) ?_ (λj hj=> ?_)
 .exact Tot.ite (λ_=>Tot.ret hj) λ_=>Tot.ret hj
 refine Tot.ite (λ_=> ?_) (λ_=> ?_)
 .have hk:=hj.1.w.has hj.2.1 hj.2.2;refine Tot.pos hk.2.2 (Tot.bind (nJ hk.1) λr6 h6=> ?_);subst h6;refine Tot.ite (λhl=> ?_) (λhl=>Tot.ret<|hj.1.up J);have hl:(0:Int)<((stT<|kA j.1.2.2.1 j.2.1.toNat).inbox.length:Int):=Bd hl;refine Tot.bind (Cq hj.1.r J) λr7 h7=>Tot.pos (Ft h7.2.1<|h7.2.2 hl)<|Tot.bind (H6 (hj.1.rd h7.1 J) J nz) λr8 h8=>Tot.ret<|h8.up J
 refine Tot.ite (λ_=>Tot.bind (Cq hj.1.r J) λr3 h3=>Tot.bind (H6 (hj.1.rd h3.1 J) J nz) λr4 h4=>Tot.ret<|h4.up J) (λ_=> ?_);refine Tot.join (A:=λj=>SOk E (N+2) j.1) ?_ (λj hj=> ?_)
 .exact Tot.ite (λ_=>Tot.ret hj.1) λ_=>Tot.ite (λ_=>Tot.ret hj.1) λ_=>Tot.ret hj.1
 have hj:SOk E (N+2) j.1:=hj;refine Tot.ite (λ_=>Tot.bind (awW hj J) λr4 h4=>Tot.ret<|h4.up J) (λ_=> ?_);refine Tot.sum (P:=λ_=>False) (Q:=λy=>SOk E (N+25000) y.1) ?_ (λ_ h=>h.elim) (λy hy=>Tot.ret hy);refine Tot.loop (λk y=>SOk E (N+2+2200 * k) y.1/\y.2.1=(k:Int)) _ 4 (λk y hk hy=> ?_) ⟨hj,rfl⟩;unfold pq;refine Tot.ite (λhc=> ?_) (λhc=>Tot.ret<|show SOk E (N+25000) _ from hy.1.up J);have hc:=Bd hc;have hy2:=hy.2;exact Tot.bind (Xs hy.1 aE9 aE9 J) λr5 h5=>Tot.bind (Ss h5 aE9 J) λr6 h6=>Tot.ret ⟨J,h6.up J,Sx hy.2 J⟩
end Go.VS
namespace Go.VS
open Go
variable {E:List Event}
def avo{i:Int}(h:isN i=Y):UL (i,())=I (((i,Y,noB,0,[],()),()),()):=by
 unfold UL;simp only[Jd,A6,h,AB,A4]
def aaD:RO ()=I (((rv0.ti,rv0.A9,rv0.Ao,rv0.AS,rv0.AY,rv0.got,()),()),()):=by
 have h0:pI ((0,([]:List A7),([]:List Bool),([]:List AL),([]:List A3),([]:List A3),()),(0,([]:List A7),([]:List Bool),([]:List AL),([]:List A3),([]:List A3),()),0,())
   =I (.inr ((0,[],[],[],[],[],()),(0,[kp0 0,kp0 1,kp0 2,kp0 3],[],[],[],[],()),())):=by
  have st:∀(n:Nat) (l:List A7),n<4->l.length<=4->bW ((0,[],[],[],[],[],()),(0,l,[],[],[],[],()),(n:Int),())=I (.inl ((0,[],[],[],[],[],()),(0,l++[kp0 n],[],[],[],[],()),((n+1:Nat):Int),())):=by
   intro n l hn hl;unfold bW;have hi:isN (n:Int)=Y:=Aa.2 ⟨J,J⟩;rw[A5<|AR<|show(n:Int)<4 by omega];rw[show UL (_,())=_ from avo hi];simp only[A6];rw[A5<|BG y7,AZ J J];rfl
  exact As (st 0 [] aE9 aE9)<|As (st 1 _ aE9 aE9)<|As (st 2 _ aE9 aE9)<|As (st 3 _ aE9 aE9)<|BF<|by rfl
 have h1:pH ((0,([]:List A7),([]:List Bool),([]:List AL),([]:List A3),([]:List A3),()),(0,[kp0 0,kp0 1,kp0 2,kp0 3],[],[],[],[],()),0,())
   =I (.inr ((0,[],[],[],[],[],()),(0,[kp0 0,kp0 1,kp0 2,kp0 3],[Y,Y,Y],[],[],[],()),())):=by
  have st:∀(n:Nat) (l:List Bool),n<3->l.length<=4->UJ ((0,[],[],[],[],[],()),(0,[kp0 0,kp0 1,kp0 2,kp0 3],l,[],[],[],()),(n:Int),())=I (.inl ((0,[],[],[],[],[],()),(0,[kp0 0,kp0 1,kp0 2,kp0 3],l++[Y],[],[],[],()),((n+1:Nat):Int),())):=by
   intro n l hn hl;unfold UJ;have hw:w64 ((n:Int)+1)=((n+1:Nat):Int):=by rw[AZ J J];rfl
   simp only[hw];rw[A5<|AR<|show((n+1:Nat):Int)<4 by omega,A5<|BG y7]
  refine As (st 0 [] aE9 aE9) (As (st 1 _ aE9 aE9)<|As (st 2 _ aE9 aE9)<|BF ?_);unfold UJ;have hw:w64 (((2+1:Nat):Int)+1)=4:=by rw[AZ J J];rfl
  simp only[hw];rfl
 unfold RO;rw[h0];simp only[Co];rw[h1];rfl
def awg{N M:Nat}{r:List Int×Int×D}(h:Hk N r){Dy:Int}(hm0:1<=Dy)(hm:Dy<=(M:Int))(hN:N+25000 * M<=710000):
  Tot (dk (r,Dy,())) λa=>Hk (N+12+25000 * M) a.2.1/\WOk [] (N+12+25000 * M) a.1.1.2:=by
 unfold dk;rw[aaD];simp only[A6];refine Tot.bind (Cq h J) λr2 h2=>Tot.pos (Ft h2.2.1<|h2.2.2<|show(1:Int)<=5 by decide) ?_;have hs:SOk [] (N+1) (r2.2.1,rv0.ti,rv0.A9,rv0.Ao,rv0.AS,rv0.AY,rv0.got,([]:List Event),()):=⟨h2.1,rv0,[],rfl,⟨[],.nil,λ_=>rfl⟩,D1 _⟩;refine Tot.bind (abY hs J) λr4 h4=>Tot.bind (Cq h4.r J) λr9 h9=> ?_;refine Tot.sum (P:=λ_=>False) (Q:=λy=>Hk (N+12+25000 * M) y.1/\WOk [] (N+12+25000 * M) y.2.1.2) ?_ (λ_ h=>h.elim) (λy hy=>Tot.ret hy);have hn0:=h9.2.1;have hn:r9.1.1<(M:Int):=by
  have:r9.1.1<Dy:=h9.2.2 hm0;omega
 refine Tot.loop (λi y=>Hk (N+12+25000 * i) y.1/\WOk [] (N+12+25000 * i) y.2.1.2/\y.2.2.2.1=r9.1.1 - (i:Int)) _ r9.1.1.toNat (λi y hi hy=> ?_) ⟨h9.1.up J,h4.w.up J,by show r9.1.1=r9.1.1 - 0;omega⟩;obtain⟨hr,hw,hy⟩:=hy;unfold s8;refine Tot.ite (λhc=> ?_) (λhc=>Tot.ret ⟨hr.up J,hw.up J⟩);have hc:=Bd hc;refine Tot.bind (ax8 (s:=(y.1,y.2.1.2)) ⟨hr,hw⟩ _ J) λr5 h5=>Tot.ret ⟨J,h5.r.up J,h5.w.up J, ?_⟩;show w64 (y.2.2.2.1 - 1)=r9.1.1 - ((i+1:Nat):Int);rw[AZ J J];omega
end Go.VS
namespace Go.VS
open Go
def awl{l:List Int}(hb:BOk l):Tot (fD (l,())) λa=>Hk 0 a.1.1:=by
 unfold fD;refine Tot.ite (λhc=> ?_) (λhc=>Tot.ret ⟨?_,hb,Ct _,Ct _⟩)
 .have hc:(2000:Int)<(j8 l:Int):=Bd hc;refine Tot.pos y7 (Tot.ret ⟨?_,λx hx=>hb x<|IF hx,Ct _,Ct _⟩);show(BR (AK 2000) l).length<=2000;rw[Dh];omega
 .have:¬(2000:Int)<(j8 l:Int):=LG hc;show l.length<=2000;omega
abbrev tR(w:AA):YR:=(w.ti,w.A9,w.Ao,w.AS,w.AY,w.got,())
abbrev zR:AA:=⟨0,[],[],[],[],[]⟩
abbrev SmR(w:AA):Prop:=L8 w.A9 w.Ao w.AS w.AY w.got
def B5.sm{w:AA}(h:B5 w):SmR w:=by
 have h1:=h.kl;have h2:=h.ll;have h3:=h.rl;have h4:=h.sl;have h5:=h.gl;refine⟨J,λk hk=> ?_,J,J,λp hp=> ?_,J,λn hn=> ?_,J,λn hn=> ?_⟩
 .obtain⟨i,hi,rfl⟩:=D0 hk;have:=(h.k i J).1;rw[kA,B9,Av hi]at this;exact D2 this
 .have:=(MY<|h.p p hp).2.2.1;unfold aDA;omega
 .have:=Aa.1<|Me<|h.s n hn;unfold GA;omega
 .have:=Aa.1<|Me<|h.g n hn;unfold GA;omega
def aei{l:List A7}(hl:l.length<=1048576):ae (l,())=I ((l,()),()):=Lg hl
def agT{l:List Bool}(hl:l.length<=1048576):bJ (l,())=I ((l,()),()):=Lg hl
def aeh{l:List AL}(hl:l.length<=1048576):ab (l,())=I ((l,()),()):=Lg hl
def RP{w:AA}(sm:SmR w):JZ (tR w,())=I ((tR w,()),()):=by
 obtain⟨ti,ks,ls,ra,se,go⟩:=w;have kl:=sm.kl;unfold JZ;rw[show ae ((tR ⟨ti,ks,ls,ra,se,go⟩).2.1,())=_ from aei sm.kl,show bJ ((tR ⟨ti,ks,ls,ra,se,go⟩).2.2.1,())=_ from agT sm.l,show ab ((tR ⟨ti,ks,ls,ra,se,go⟩).2.2.2.1,())=_ from aeh sm.rl,
  show NY ((tR ⟨ti,ks,ls,ra,se,go⟩).2.2.2.2.1,())=_ from bK sm.sl,show NY (tR ⟨ti,ks,ls,ra,se,go⟩).2.2.2.2.2=_ from bK sm.gl]
 simp only[A6];have h:aZ (tR zR,tR ⟨ti,ks,ls,ra,se,go⟩,(j8 ks:Int),0,())=I (.inr (tR zR,tR ⟨ti,ks,ls,ra,se,go⟩,())):=by
  refine CS (λi=>(tR zR,tR ⟨ti,ks,ls,ra,se,go⟩,(j8 ks:Int),(i:Int),())) ks.length ?_ ?_
  .intro i hi;unfold bp;have hc:=KP<|OY sm.k i;simp only[IS hi,A2,AU hi,Pg,hc,A6,Bc];rw[DZ hi kl,show(⟨(kA ks i).id,(kA ks i).up,(kA ks i).log,(kA ks i).fo,(kA ks i).AH⟩:A7)=kA ks i from rfl,Kg]
  .unfold bp;simp only[Gu,A4]
 rw[show aZ _=_ from h];rfl
def jC{w:AA}{fs:List Frame}(hr:w.AS.length<=1048000)(hf:fs.length<=40):Nr (tR w,fs,())=I ((),(tR ⟨w.ti,w.A9,w.Ao,Bz w.AS fs,w.AY,w.got⟩,())):=by
 obtain⟨ti,ks,ls,ra,se,go⟩:=w;unfold Nr;have h0:Bz ra (fs.take 0)=ra:=by
  unfold Bz;simp
 have h:dE (tR ⟨ti,ks,ls,Bz ra<|fs.take 0,se,go⟩,fs,(j8 fs:Int),((0:Nat):Int),())=I (.inr (tR ⟨ti,ks,ls,Bz ra fs,se,go⟩,())):=by
  refine CS (λi=>(tR ⟨ti,ks,ls,Bz ra<|fs.take i,se,go⟩,fs,(j8 fs:Int),(i:Int),())) fs.length ?_ ?_
  .intro i hi;unfold ff;simp only[IS hi,A2,AU hi,aDJ];have hz:(Bz ra<|fs.take i).length<=1048100:=by
    unfold Bz;simp;have:min (30 - ra.length) (min i fs.length)<=40:=J
    simp only at hr;omega
   have hw:w64 ((i:Int)+1)=((i+1:Nat):Int):=DZ hi J;have hrm:∀p:AL,Ac ((Bz ra<|fs.take i).length+[p].length)=Y:=λp=>BG y7;have ht:fs.take (i+1)=fs.take i++[frA fs i]:=by rw[JJ,Av hi,abB hi];rfl
   have hl:(fs.take i).length=i:=by rw[Dh];omega
   have hlen:(Bz ra<|fs.take i).length=ra.length+min (30 - ra.length) i:=by
    unfold Bz;simp;omega
   by_cases h30:(Bz ra<|fs.take i).length<30
   .rw[A5<|AR<|show((Bz ra<|fs.take i).length:Int)<30 by omega];rw[show PK ((_,_,_,_,_,_,_,_,_,_,()),())=_ from vo<|frA fs i];simp only[A6,hrm,A2];have e:Bz ra (fs.take<|i+1)=Bz ra (fs.take i)++[pcF (frA fs i)]:=by
     rw[hlen]at h30;have a1:BR (30 - ra.length) (fs.take i++[frA fs i])=fs.take i++[frA fs i]:=K4 (by rw[Au,hl];simp;omega);have a2:BR (30 - ra.length) (fs.take i)=fs.take i:=K4 (by rw[hl];omega);unfold Bz;rw[ht,a1,a2,Eg,← C2];rfl
    rw[e,hw];rfl
   .rw[A8<|nd<|show ¬((Bz ra<|fs.take i).length:Int)<30 by omega];have e:Bz ra (fs.take<|i+1)=Bz ra (fs.take i):=by
     rw[hlen]at h30;unfold Bz;rw[ht,List.take_append_of_le_length (by rw[hl];omega)]
    rw[e,hw]
  .unfold ff;simp only[Gu,A4,E5]
 rw[h0]at h;have h':dE (tR ⟨ti,ks,ls,ra,se,go⟩,fs,(j8 fs:Int),0,())=I (.inr (tR ⟨ti,ks,ls,Bz ra fs,se,go⟩,())):=h;simp only[h'];rfl
def aj4{l:List AL}{i:Int}(h0:0<=i)(h1:i<l.length)(hl:l.length<=1048576):Uu (l,i,())=I ((JA l i.toNat,()),()):=by
 unfold Uu;have hw:w64 (i+1)=i+1:=AZ J J;have hn:(i+1).toNat=i.toNat+1:=J
 simp only[hw,hn];rw[A5 y7,A5<|BG y7,A5 y7,A5<|BG y7];rfl
def ao2{w:AA}(h:B5 w)(e:Event):((e.ki=9\/e.ki=10)->fS (tR w,tE e,())=I (((Es w e).2,()),(tR (Es w e).1,()))):=by
 intro _;have ll:=h.ll;unfold fS Es;simp only[EJ,A6,S7 (J:w.Ao.length<=1048576),Xa];obtain e0|e0:=tf (inB e.at_ 0<|(w.Ao.length:Int) - 1)
 .have ha:=Aa.1 e0;have hb:inb e.at_ w.Ao.length=Y:=Ft ha.1 J;rw[e0,hb];simp only[AB,AG,Hq,A2,Bk,AP];obtain c|c:=tfp (bA w.Ao e.at_.toNat=U (e.ki=9))<;>simp only[c,AT,Af,AB,AG,A2,A4]
 .rw[e0];simp only[AB,AG,HJ,A2,Bt,AM,A4]
def awt(l:List AL)(i:Int){inst:Decidable ((@rd AL aFa l i).dst<(@rd AL aFa l i).src)}:(@ite Int ((@rd AL aFa l i).dst<(@rd AL aFa l i).src) inst (@rd AL aFa l i).dst (@rd AL aFa l i).src)=lnk (pA l i.toNat):=by
 show _=lnk (@rd AL aFa l i);unfold lnk;split<;>split<;>omega
def ajr{w:AA}(h:B5 w)(e:Event):((e.ki=4\/e.ki=5\/e.ki=6)->Re (tR w,tE e,())=I (((EZ w e).2,()),(tR (EZ w e).1,()))):=by
 intro hk;have rl:=h.rl;unfold Re EZ;simp only[↓awt,EJ,A6,S7 (J:w.AS.length<=1048576),aB4];obtain e0|e0:=tf (inB e.wo 0<|(w.AS.length:Int) - 1)
 .have ha:=Aa.1 e0;have hb:inb e.wo w.AS.length=Y:=Ft ha.1 J;have hwl:e.wo.toNat<w.AS.length:=J
  have hp:=Pm h (i:=e.wo.toNat) hwl;obtain⟨p1,p2,p3,p4,p5⟩:=MY hp;have F3:=aj4 (l:=w.AS) ha.1 J J;rw[e0,hb];simp only[AB,A4,A2];obtain c5|c5:=tfp (e.ki=5)
  .have c6:¬e.ki=6:=by have:e.ki=5:=of_eq_true c5;omega
   simp only[c5,AT,A2,F3,A6,c6,if_false]
  .rcases tfp (e.ki=6) with c6|c6
   .simp only[c5,c6,AT,Af,A2,A4,S7<|show(pA w.AS e.wo.toNat).data.size<=1048576 by omega];obtain e2|e2:=tf (inB e.mix 0<|((pA w.AS e.wo.toNat).data.size:Int) - 1)<;>simp only[e2,AB,AG,A4,A2,AP,AM,BZ];obtain e1|e1:=tf (pA w.AS e.wo.toNat).sp<;>simp only[e1,AB,AG,A4,A2,AP,AM];obtain e3|e3:=tf (inB e.kp 1 255)<;>simp only[e3,AB,AG,A4,A2];have hm:=Aa.1 e2;have hmb:inb e.mix (BA (pA w.AS e.wo.toNat).data).length=Y:=Ft hm.1 (by rw[nB];omega);simp only[GP,aaE,aau hwl,hb,A2];rw[A5<|BG J,A5 hmb,A5 hmb];rfl
   .have c4:e.ki=4:=by
     have:¬e.ki=5:=by simpa using c5
     have:¬e.ki=6:=by simpa using c6
     omega
    have hl:inb (lnk<|pA w.AS e.wo.toNat) w.Ao.length=Y:=by
     have:=h.ll;exact Ft p4 (by rw[this];exact p5)
    have hin:inb (pA w.AS e.wo.toNat).dst w.A9.length=Y:=Ft p2.1 (by rw[h.kl];omega);have c4':(e.ki=4)=True:=eq_true c4;simp only[c5,c6,c4',AT,Af,A2,A4,hl,Xa,if_false];obtain e1|e1:=tf (bA w.Ao (lnk<|pA w.AS e.wo.toNat).toNat)<;>simp only[e1,AB,AG,A4,A2];have hlo:=(So h e.wo.toNat).1;obtain e5|e5:=tfp (e.kp=0)
    .simp only[e5,AT,A2,F3,A6,Be];simp only[BG<|show(pA w.AS e.wo.toNat).data.size<=4294967296 by omega,A2,ss<|BOk.str _,A6];unfold Eb;generalize Cn (BA (pA w.AS e.wo.toNat).data)=u;obtain e2|e2:=tf u.2<;>simp only[e2,A4,A2,AP,AM,Be];obtain e3|e3:=tf (U (u.1.src=(pA w.AS e.wo.toNat).src)&&U (u.1.dst=(pA w.AS e.wo.toNat).dst))<;>simp only[e3,A4,A2,hin,WD];rw[show RF ((_,_,_,_,_,()),_,())=_ from uD (Tg h (i:=(pA w.AS e.wo.toNat).dst.toNat) J) u.1];simp only[A6];have hs:=jC (w:=⟨w.ti,w.A9.set (pA w.AS e.wo.toNat).dst.toNat (CB (kA w.A9 (pA w.AS e.wo.toNat).dst.toNat) u.1).1,w.Ao,JA w.AS e.wo.toNat,w.AY,w.got⟩) (fs:=(CB (kA w.A9 (pA w.AS e.wo.toNat).dst.toNat) u.1).2) (by show(JA w.AS e.wo.toNat).length<=1048000;omega) (by have:=(X3 (kA w.A9 (pA w.AS e.wo.toNat).dst.toNat) u.1).1;omega);rw[show Nr _=_ from hs];rfl
    .simp only[e5,Af,A4,Be,if_false];simp only[BG<|show(pA w.AS e.wo.toNat).data.size<=4294967296 by omega,A2,ss<|BOk.str _,A6];unfold Eb;generalize Cn (BA (pA w.AS e.wo.toNat).data)=u;obtain e2|e2:=tf u.2<;>simp only[e2,A4,A2,AP,AM,Be];obtain e3|e3:=tf (U (u.1.src=(pA w.AS e.wo.toNat).src)&&U (u.1.dst=(pA w.AS e.wo.toNat).dst))<;>simp only[e3,A4,A2,hin,WD];rw[show RF ((_,_,_,_,_,()),_,())=_ from uD (Tg h (i:=(pA w.AS e.wo.toNat).dst.toNat) J) u.1];simp only[A6];have hs:=jC (w:=⟨w.ti,w.A9.set (pA w.AS e.wo.toNat).dst.toNat (CB (kA w.A9 (pA w.AS e.wo.toNat).dst.toNat) u.1).1,w.Ao,w.AS,w.AY,w.got⟩) (fs:=(CB (kA w.A9 (pA w.AS e.wo.toNat).dst.toNat) u.1).2) (by show(w.AS).length<=1048000;omega) (by have:=(X3 (kA w.A9 (pA w.AS e.wo.toNat).dst.toNat) u.1).1;omega);rw[show Nr _=_ from hs];rfl
 .rw[e0];simp only[AG,A2,A4]
def ao1{w:AA}(h:B5 w){e:Event}(hk:¬(e.ki=4\/e.ki=5\/e.ki=6))(hk':¬(e.ki=9\/e.ki=10))(ht:e.tx.size<=1048576):
  Ru (tR w,tE e,())=I (((doM w e).2,()),(tR (doM w e).1,())):=by
 obtain⟨ki,at_,fr,nu,wo,mix,kp,t',un,tx⟩:=e;simp only at hk hk' ht;have hn:∀(l:List A3) (x:A3),l.length<=6->Ac (l.length+[x].length)=Y:=λl x hl=>BG y7;have rl:=h.rl;unfold Ru doM;rw[A8 hk,A8 hk'];simp only[Je,A6];obtain e0|e0:=tf (isN at_)
 .have ha:=F6 e0;have hal:=TA e0;have hb:inb at_ w.A9.length=Y:=Ft ha.1 (by rw[h.kl];omega);have hko:=(h.k _ hal).1;have hks:=Tg h hal;simp only[e0,AB,A4,hb,A2,WD];unfold GW;obtain e1|e1:=tfp (ki=1)
  .simp only[e1,AT,A2];unfold N8;by_cases hs:6<=w.AY.length
   .rw[A5<|AR (J:6<=(w.AY.length:Int)),A5 hs];rfl
   .rw[A8<|nd (J:¬6<=(w.AY.length:Int)),A8 hs];rw[show Uy ((_,_,_,_,_,()),_,_,_,())=_ from ajE hko t' un ht];simp only[A6];obtain e2|e2:=tfp ((Dq (kA w.A9 at_.toNat) t' un tx).2=0)<;>simp only[e2,AT,Af,A4,A2,if_false]
    .rfl
    .rw[A5<|hn _ _ h.sl,Be];simp only[hb,A2]
  .simp only[e1,Af,A4,if_false];obtain e2|e2:=tfp (ki=2)
   .simp only[e2,AT,A2];rw[show Uk ((_,_,_,_,_,()),())=_ from ahB hko];simp only[A6,Be,hb,A2];rfl
   .simp only[e2,Af,A4,if_false];obtain e3|e3:=tfp (ki=3)
    .simp only[e3,AT,A2];rw[show Uz ((_,_,_,_,_,()),_,_,_,())=_ from ajF hks fr nu mix];simp only[A6];rw[A5 hko];obtain e4|e4:=tf (EC (kA w.A9 at_.toNat) fr nu mix).2<;>simp only[e4,A2,A4]
     .have hs:=jC (w:=w) (fs:=[(EC (kA w.A9 at_.toNat) fr nu mix).1]) J aE4;rw[show Nr (_,_,())=_ from hs];simp only[A6,Be,hb,A2];rw[show(⟨(kA w.A9 at_.toNat).id,(kA w.A9 at_.toNat).up,(kA w.A9 at_.toNat).log,(kA w.A9 at_.toNat).fo,(kA w.A9 at_.toNat).AH⟩:A7)=kA w.A9 at_.toNat from rfl,Kg]
     .simp only[Be,hb,A2];rw[show(⟨(kA w.A9 at_.toNat).id,(kA w.A9 at_.toNat).up,(kA w.A9 at_.toNat).log,(kA w.A9 at_.toNat).fo,(kA w.A9 at_.toNat).AH⟩:A7)=kA w.A9 at_.toNat from rfl,Kg]
    .simp only[e3,Af,A4,if_false];obtain e4|e4:=tfp (ki=7)
     .simp only[e4,AT,A2];rw[show Un ((_,_,_,_,_,()),_,())=_ from ahE hks kp];rw[A5 hko];simp only[A6,Be,hb,A2];rfl
     .simp only[e4,Af,A4,if_false];obtain e5|e5:=tfp (ki=8)
      .simp only[e5,AT,A2];rw[show Ul ((_,_,_,_,_,()),())=_ from ahC hko];simp only[A6,Be,hb,A2];rfl
      .simp only[e5,Af,A4,if_false];obtain e6|e6:=tfp (ki=11)
       .simp only[e6,AT,A2];unfold NA;by_cases hs:w.got.length<6
        .rw[A8<|nd (J:¬6<=(j8 w.got:Int))];rw[show Uo ((_,_,_,_,_,()),_,_,())=_ from ajG hko fr nu];simp only[A6];obtain e7|e7:=tf (DU (kA w.A9 at_.toNat) fr nu).2.2<;>simp only[e7,AB,AG,A2,A4,AP,AM]
         .rw[A5<|AR hs,A5<|hn _ _ h.gl,Be];simp only[hb,A2]
         .rfl
        .rw[A5<|AR (J:6<=(j8 w.got:Int)),BE hs,BZ,A4];rfl
       .simp only[e6,Af,A4,if_false];obtain e7|e7:=tfp (ki=12)
        .simp only[e7,AT,A2];rw[show Um ((_,_,_,_,_,()),())=_ from ahD hko];simp only[A6,Be,hb,A2];rfl
        .simp only[e7,Af,A4,if_false];obtain e8|e8:=tfp (ki=13)
         .simp only[e8,AT,A2];rw[show US ((_,_,_,_,_,()),())=_ from agb hko];simp only[A6,Be,hb,A2];rfl
         .simp only[e8,Af,A4,if_false,Be,hb,A2];rw[show(⟨(kA w.A9 at_.toNat).id,(kA w.A9 at_.toNat).up,(kA w.A9 at_.toNat).log,(kA w.A9 at_.toNat).fo,(kA w.A9 at_.toNat).AH⟩:A7)=kA w.A9 at_.toNat from rfl,Kg]
 .simp only[e0,AG,A4,A2]
noncomputable abbrev Az(w:AA):Bool:=Gt w.ti w.A9 w.Ao w.AS w.AY w.got
def aEU{l:List A3}(h:H8 l=Y):∀n∈l,Ax n=Y:=by
 intro n hn;obtain⟨i,hi,rfl⟩:=D0 hn;have:=Cp.1 h i hi;rw[nA,B9,Av hi]at this;exact this
def F5{w:AA}(h:Az w=Y):B5 w/\0<=w.ti/\w.ti<=99999:=by
 unfold Az Gt at h;simp only[AD,Aa,decide_eq_true_eq,Cp]at h;obtain⟨ht,hk,hl,hr,⟨hs,hs6⟩,⟨hg,hg6⟩,hks,hps⟩:=h;refine⟨⟨J,J,J,J,J,λi hi=> ?_,λp hp=> ?_,aEU hs,aEU hg⟩,ht.1,ht.2⟩
 .have:=hks i J;unfold JF at this;simp only[AD,decide_eq_true_eq]at this;exact⟨this.2,this.1⟩
 .obtain⟨i,hi,rfl⟩:=D0 hp;have:=hps i hi;rw[nL hi]at this;exact this
def aaJ{w:AA}(h:B5 w)(h0:0<=w.ti)(h1:w.ti<=99999):Az w=Y:=by
 have k1:=h.kl;have k2:=h.ll;have k3:=h.rl;have k4:=h.sl;have k5:=h.gl;unfold Az Gt;simp only[AD,Aa,decide_eq_true_eq,Cp];refine⟨⟨h0,h1⟩,J,J,J,⟨?_,J⟩,⟨?_,J⟩,λi hi=> ?_,λi hi=> ?_⟩
 .unfold H8;exact Cp.2 λi hi=>h.s _ (by rw[nA,B9,Av hi];exact Cd hi)
 .unfold H8;exact Cp.2 λi hi=>h.g _ (by rw[nA,B9,Av hi];exact Cd hi)
 .unfold JF;have:=h.k i J;rw[this.1,this.2];simp
 .exact Pm h hi
def Ev(w:AA)(e:Event):AA×Bool:=
 if Az w then(if U (99999<=w.ti) then(w,A0) else if(doM w e).2 then(Cj w e,Y) else(w,A0)) else(zR,A0)
def gM{w:AA}(h:B5 w)(ht0:0<=w.ti)(ht1:w.ti<=99999){e:Event}(ht:e.tx.size<=1048576):
  Hn (tR w,tE e,())=I ((tR (if U (99999<=w.ti) then(w,A0) else if(doM w e).2 then(Cj w e,Y) else(w,A0)).1,(if U (99999<=w.ti) then(w,A0) else if(doM w e).2 then(Cj w e,Y) else(w,A0)).2,()),()):=by
 have hti:=ZB w e;have azW:∀b:Bool,b=U (e.ki=9\/e.ki=10)->(BT (X:=YR×YR×YR×Bool×D) (λj16=>
   (if((!j16.2.2.2.1)||(U<|j16.1.1=99999)) then
   (JZ (j16.1,())).bind λr29=>
   I ((r29.1.1,A0,()),())
   else
   (JZ (((w64<|j16.2.2.1.1+1),j16.2.2.1.2),())).bind λr30=>
   I ((r30.1.1,Y,()),()))) (I<|.inr (tR w,tR zR,tR (doM w e).1,(doM w e).2,())):Option ((YR×Bool×D)×D))=I ((tR (if U (99999<=w.ti) then(w,A0) else if(doM w e).2 then(Cj w e,Y) else(w,A0)).1,(if U (99999<=w.ti) then(w,A0) else if(doM w e).2 then(Cj w e,Y) else(w,A0)).2,()),()):=by
  intro b hb;rw[Be];have azj:U (w.ti=99999)=U (99999<=w.ti):=decide_eq_decide.2 J;simp only[azj];obtain c|c:=tf (U<|99999<=w.ti)
  .simp only[c,DL,A2,RP h.sm,A6]
  .rcases tf (doM w e).2 with c2|c2
   .simp only[c,c2,AB,EV,A4,A2];have hs:=RP (mZ h e).sm;have e1:tR (Cj w e)=(w64<|(doM w e).1.ti+1,(doM w e).1.A9,(doM w e).1.Ao,(doM w e).1.AS,(doM w e).1.AY,(doM w e).1.got,()):=by
     unfold Cj tick;rw[c2,A5 rfl]
    rw[e1]at hs ⊢;rw[show JZ ((w64<|(doM w e).1.ti+1,(doM w e).1.A9,(doM w e).1.Ao,(doM w e).1.AS,(doM w e).1.AY,(doM w e).1.got,()),())=_ from hs];rfl
   .simp only[c,c2,AG,Bt,A4,A2,RP h.sm,A6]
 unfold Hn;rw[RP h.sm];simp only[A6];have IJ:=azW _ rfl;by_cases h9:e.ki=9\/e.ki=10
 .have hdo:doM w e=Es w e:=by
   unfold doM;rw[A8 J,A5 h9]
  have hL:=ao2 h e h9;rw[← hdo]at hL;rw[← IJ];congr 1;obtain c|c:=tfp (e.ki=9)
  .simp only[c,AT,A2,Be,hL,A6]
  .have c10:(e.ki=10)=True:=eq_true (by have:¬e.ki=9:=(by simpa using c);omega);simp only[c,c10,AT,Af,A4,Be,A2,hL,A6]
 .have n9:(e.ki=9)=False:=by simp;omega
  have n10:(e.ki=10)=False:=by simp;omega
  simp only[n9,n10,Af,A4,Be];rw[← IJ];congr 1;by_cases h4:e.ki=4\/e.ki=5\/e.ki=6
  .have hdo:doM w e=EZ w e:=by
    unfold doM;rw[A5 h4]
   have hP:=ajr h e h4;rw[← hdo]at hP;obtain c|c:=tfp (e.ki=4)
   .simp only[c,AT,A2,hP,A6]
   .rcases tfp (e.ki=5) with c1|c1
    .simp only[c,c1,AT,Af,A4,A2,hP,A6]
    .have c6:(e.ki=6)=True:=eq_true (by have h4:¬e.ki=4:=(by simpa using c);have h5:¬e.ki=5:=(by simpa using c1);omega);simp only[c,c1,c6,AT,Af,A4,A2,hP,A6]
  .have n4:(e.ki=4)=False:=by simp;omega
   have n5:(e.ki=5)=False:=by simp;omega
   have n6:(e.ki=6)=False:=by simp;omega
   have hN:=ao1 h h4 h9 ht;simp only[n4,n5,n6,Af,A4,hN,A6]
def amH{w:AA}(sm:SmR w){e:Event}(ht:e.tx.size<=1048576):VJ (tR w,tE e,())=I ((tR (Ev w e).1,(Ev w e).2,()),()):=by
 unfold VJ Ev;rw[show Ng ((tR w,tE e,()).1,())=_ from gN sm];simp only[A6];obtain c|c:=tf (Az w)
 .have hw:=F5 c;rw[gM hw.1 hw.2.1 hw.2.2 ht];simp only[show Gt w.ti w.A9 w.Ao w.AS w.AY w.got=Y from c,AB,A4,A2,A6]
 .simp only[show Gt w.ti w.A9 w.Ao w.AS w.AY w.got=A0 from c,AG,A4,A2]
def sY{w:AA}(sm:SmR w):PQ (tR w,())=I ((tR w,()),()):=by
 obtain⟨ti,ks,ls,ra,se,go⟩:=w;have k1:=sm.kl;have k2:=sm.l;have k3:=sm.rl;have k4:=sm.sl;have k5:=sm.gl;unfold PQ;simp only at k1 k2 k3 k4 k5;simp only[EU,CO,DY];rw[A5<|BG J,A5<|BG J,A5<|BG J,A5<|BG J];have h:bE (tR ⟨ti,ks,ls,ra,se,go⟩,tR zR,tR ⟨ti,ks.take 0,ls,ra,se,go⟩,((0:Nat):Int),())=I (.inr (tR zR,tR ⟨ti,ks,ls,ra,se,go⟩,())):=by
  refine CS (λi=>(tR ⟨ti,ks,ls,ra,se,go⟩,tR zR,tR ⟨ti,ks.take i,ls,ra,se,go⟩,(i:Int),())) ks.length ?_ ?_
  .intro i hi;unfold dS;have hc:=MJ<|OY sm.k i;simp only[IS hi,A2,AU hi,Pg,hc,A6];rw[A5<|BG y7,DZ hi k1];have:ks.take i++[kA ks i]=ks.take (i+1):=by rw[JJ,Av hi,kA,B9,Av hi];rfl
   rw[← this]
  .unfold dS;simp only[Gu,A4,E5]
 have h':bE (tR ⟨ti,ks,ls,ra,se,go⟩,tR zR,tR ⟨ti,[],ls,ra,se,go⟩,0,())=I (.inr (tR zR,tR ⟨ti,ks,ls,ra,se,go⟩,())):=h;simp only[h'];rfl
def apN{w:AA}(h:B5 w){e:Event}(ht:e.tx.size<=1048576):
  Vt (tR w,tE e,())=I ((tR<|tick (doM w e).1 Y,(doM w e).2,()),()):=by
 have hti:=ZB w e;unfold Vt;refine abQ (w:=w) h (e:=e) ht (λc=> ?_) (λc c2=> ?_) (λk b c=> ?_) (λra c=> ?_) (λc=> ?_)
 .rw[c,tick,A5 rfl,hti]<;>rfl
 .rw[c,c2];rfl
 .rw[c];rfl
 .rw[c];rfl
 .rw[c];rfl
def aqC{w:AA}(h:B5 w)(hlt:¬99999<=w.ti)(hrv:Az w=Y){e:Event}(ht:e.tx.size<=1048576):
  Nc (tR w,tE e,())=I ((tR (if(doM w e).2 then(Cj w e,Y) else(w,A0)).1,(if(doM w e).2 then(Cj w e,Y) else(w,A0)).2,()),()):=by
 have hcw:=sY h.sm;have hd:=apN h ht;have hc2:=sY (aEg (n7 h e) Y).sm;unfold Nc;rw[show PT ((tR w,tE e,()).1,())=_ from sa h.sm];simp only[A6,show Gt w.ti w.A9 w.Ao w.AS w.AY w.got=Y from hrv,AB,A4,BE hlt,hcw];rw[show Vt (tR w,(tE e,()))=_ from hd];unfold Cj;obtain c|c:=tf (doM w e).2
 .simp only[A6,c,AB,A4,hc2,A2]
 .simp only[A6,c,AG,A2,A4]
def als{w:AA}(sm:SmR w){e:Event}(ht:e.tx.size<=1048576):Nc (tR w,tE e,())=I ((tR (Ev w e).1,(Ev w e).2,()),()):=by
 unfold Ev;obtain c|c:=tf (Az w)
 .have hw:=F5 c;rw[A5 c];by_cases hlt:99999<=w.ti
  .unfold Nc;rw[show PT (tR w,())=_ from sa sm];simp only[A6,show Gt w.ti w.A9 w.Ao w.AS w.AY w.got=Y from c,AB,A4,AR hlt,A2,sY sm]
  .rw[A8<|nd hlt];exact aqC hw.1 hlt c ht
 .rw[A8 (by rw[c];exact CQ)];unfold Nc;rw[show PT (tR w,())=_ from sa sm];simp only[A6,show Gt w.ti w.A9 w.Ao w.AS w.AY w.got=A0 from c,AG,A2]
def apq{l:List AE}{i:Nat}(hi:i<l.length)(hl:(hA l i).got.length<=1048576):pf (l,l,(i:Int),0,())=I (.inr (l,l,(i:Int),())):=
 CS (b:=Us) (λk=>(l,l,(i:Int),(k:Int),())) (hA l i).got.length (λk hk=>by
  unfold Us;simp only[AU hi,Lp,AU hk,A2,AT,EW,AB,A4,BC hk (by omega:(hA l i).got.length<=9223372036854775807)];rw[A5<|by simpa using hk]) (by
  unfold Us;simp only[AU hi,Lp,A2];rw[A8 aE4])
def aoT{l:List AE}(hl:l.length<=1048576)(hs:∀h∈l,OK h):PN (l,l,())=I ((Y,()),()):=by
 have h0:pg (l,l,0,())=I (.inr ()):=
  CS (b:=Ut) (λk=>(l,l,(k:Int),())) l.length (λk hk=>by
   have hg:(hA l k).got.length<=1048576:=by rw[I5 hk];exact(hs _<|Cd hk).1
   unfold Ut;simp only[AU hk,Lp,BL hk,A2,AT,AB,A4,apq hk hg,Co,BC hk (by omega:l.length<=9223372036854775807)]) (by
   unfold Ut;rw[A8 aE4])
 unfold PN;simp only[AT,AB,A4,h0,Co]
def aoS{k:A7}(sm:FF k):dD (tKp k,tKp k,())=I ((Y,()),()):=by
 unfold dD;simp only[AT,A2,aoT sm.2.1 sm.2.2];rfl
def fe{l:List A3}(hl:l.length<=1048576):Hm (l,l,())=I ((Y,()),()):=by
 have h0:qC (l,l,0,())=I (.inr ()):=
  CS (b:=VG) (λk=>(l,l,(k:Int),())) l.length (λk hk=>by
   unfold VG;simp only[AU hk,BL hk,A2,abg,AT,EW,AB,A4,BC hk (by omega:l.length<=9223372036854775807)]) (by
   unfold VG;rw[A8 aE4])
 unfold Hm;simp only[AT,AB,A4,h0,Co]
def ap9{w:AA}(sm:SmR w):eX (tR w,tR w,())=I ((Y,()),()):=by
 obtain⟨ti,ks,ls,ra,se,go⟩:=w;have k1:ks.length<=1048576:=sm.kl;have k2:ls.length<=1048576:=sm.l;have k3:ra.length<=1048576:=sm.rl;have h0:qd (tR ⟨ti,ks,ls,ra,se,go⟩,tR ⟨ti,ks,ls,ra,se,go⟩,0,())=I (.inr (tR ⟨ti,ks,ls,ra,se,go⟩,tR ⟨ti,ks,ls,ra,se,go⟩,())):=
  CS (b:=VF) (λk=>(tR ⟨ti,ks,ls,ra,se,go⟩,tR ⟨ti,ks,ls,ra,se,go⟩,(k:Int),())) ks.length (λk hk=>by
   unfold VF;have hc:=aoS<|OY sm.k k;simp only[AU hk,BL hk,A2,Pg,hc,A6,AB,A4,BC hk (by omega:ks.length<=9223372036854775807)]) (by
   unfold VF;simp only[Gu,A4])
 have h1:qc (tR ⟨ti,ks,ls,ra,se,go⟩,tR ⟨ti,ks,ls,ra,se,go⟩,0,())=I (.inr (tR ⟨ti,ks,ls,ra,se,go⟩,tR ⟨ti,ks,ls,ra,se,go⟩,())):=
  CS (b:=VE) (λk=>(tR ⟨ti,ks,ls,ra,se,go⟩,tR ⟨ti,ks,ls,ra,se,go⟩,(k:Int),())) ls.length (λk hk=>by
   unfold VE;simp only[AU hk,BL hk,A2,AT,AB,A4,BC hk (by omega:ls.length<=9223372036854775807)]) (by
   unfold VE;simp only[Gu,A4])
 have h2:qb (tR ⟨ti,ks,ls,ra,se,go⟩,tR ⟨ti,ks,ls,ra,se,go⟩,0,())=I (.inr ()):=
  CS (b:=VD) (λk=>(tR ⟨ti,ks,ls,ra,se,go⟩,tR ⟨ti,ks,ls,ra,se,go⟩,(k:Int),())) ra.length (λk hk=>by
   unfold VD;simp only[AU hk,BL hk,A2,AT,EW,AB,A4,BC hk (by omega:ra.length<=9223372036854775807)]) (by
   unfold VD;simp only[Gu,A4])
 unfold eX;rw[show Hm ((tR ⟨ti,ks,ls,ra,se,go⟩,tR ⟨ti,ks,ls,ra,se,go⟩,()).1.2.2.2.2.2.1,(tR ⟨ti,ks,ls,ra,se,go⟩,tR ⟨ti,ks,ls,ra,se,go⟩,()).2.1.2.2.2.2.2)=_ from fe sm.gl];simp only[AT,AB,A4,fe sm.sl,A6,h0,h1,h2,Co]
def WC(w:AA)(e:Event):(Az w=A0/\Ev w e=(zR,A0))\/(Az w=Y/\Ev w e=(w,A0))\/(Az w=Y/\w.ti<99999/\(doM w e).2=Y/\Ev w e=(Cj w e,Y)):=by
 unfold Ev;obtain c|c:=tf (Az w)
 .rw[c,A5 rfl];by_cases h:99999<=w.ti
  .rw[A5<|AR h];exact .inr (.inl ⟨rfl,rfl⟩)
  .rw[A8<|nd h];obtain d|d:=tf (doM w e).2
   .rw[A5 d];exact .inr (.inr ⟨rfl,J,d,rfl⟩)
   .rw[A8 (by rw[d];exact CQ)];exact .inr (.inl ⟨rfl,rfl⟩)
 .rw[c,A4];exact .inl ⟨rfl,rfl⟩
def mw{w:AA}{e:Event}(h:(doM w e).2=Y):Cj w e=⟨w64<|w.ti+1,(doM w e).1.A9,(doM w e).1.Ao,(doM w e).1.AS,(doM w e).1.AY,(doM w e).1.got⟩:=by
 unfold Cj tick;rw[h,A5 rfl,ZB]
def mY{w:AA}{e:Event}(h:(doM w e).2=Y):(Cj w e).ti=w64 (w.ti+1):=by rw[mw h]
def aDB{w:AA}{e:Event}(h:Az w=Y)(ht:w.ti<99999)(hd:(doM w e).2=Y):Az (Cj w e)=Y:=by
 obtain⟨h1,h2,h3⟩:=F5 h;have e1:w64 (w.ti+1)=w.ti+1:=AZ J J;exact aaJ (mZ h1 e) (by rw[mY hd,e1];omega) (by rw[mY hd,e1];omega)
def Tot.val{α:Type}{o:Option α}{a:α}(h:Tot o (λx=>x=a)):o=I a:=by
 obtain⟨b,h1,h2⟩:=h;rw[h1,h2]
def apA{l:List Mark}(hl:l.length<=1000):VP (l,l,())=I ((Y,()),()):=by
 have h0:qD (l,l,0,())=I (.inr ()):=
  CS (b:=VH) (λk=>(l,l,(k:Int),())) l.length (λk hk=>by
   unfold VH;simp only[AU hk,BL hk,A2,AT,EW,AB,A4,BC hk (by omega:l.length<=9223372036854775807)]) (by
   unfold VH;rw[A8 aE4])
 unfold VP;simp only[AT,AB,A4,h0,Co]
def apo{k:AJ}(h:At k=Y):Vk (tK k,tK k,())=I ((Y,()),()):=by
 have hf:=C3 h;have h1:=hf.hl;have h2:=hf.ml;have h3:=hf.il;unfold Vk;rw[show Hm ((tK k).2.2.2.1,(tK k).2.2.2.1,())=_ from fe (l:=k.held) J,show VP ((tK k).2.2.2.2.1,(tK k).2.2.2.2.1,())=_ from apA (l:=k.marks) J,
  show Hm ((tK k).2.2.2.2.2.1,(tK k).2.2.2.2.2)=_ from fe (l:=k.inbox) J]
 simp only[AT,A2,A6,Dg,Hq,DX,EW]
def k8(k:A7)(f:Frame):(CB k f).2=[]\/(Bx f=Y/\f.ki=1/\Ae k=Y/\ ∃n,(n=2\/n=3)/\(CB k f).2=[Df n f]):=by
 unfold CB;split
 .rename_i hok;unfold HU;split
  .rename_i hc;simp only[AD]at hc;split
   .rename_i h1;have h1:=Bd h1;unfold E8;split
    .exact .inr ⟨hc.2.1,h1,hok,3,.inr rfl,rfl⟩
    .split
     .exact .inr ⟨hc.2.1,h1,hok,2,.inl rfl,rfl⟩
     .split
      .exact .inl rfl
      .unfold Jx;split
       .split
        .unfold Kc;split
         .exact .inr ⟨hc.2.1,h1,hok,2,.inl rfl,rfl⟩
         .exact .inl rfl
        .exact .inl rfl
       .exact .inl rfl
   .split<;>exact .inl rfl
  .exact .inl rfl
 .exact .inl rfl
def nC{f:Frame}(h:Bx f=Y)(h1:f.ki=1){n:Int}(hn:n=2\/n=3):Bx (Df n f)=Y:=by
 obtain⟨a,b,c,d,e,g,t⟩:=OB h;have h3:=(Wl h h1).2.2;unfold Bx Jl Df;simp only[a,b,c,d,e,g,AP];rw[A8 (by
  obtain rfl|rfl:=hn
  .show ¬(U ((2:Int)=1)=Y);decide
  .show ¬(U ((3:Int)=1)=Y);decide)]
 rw[← h3];obtain rfl|rfl:=hn<;>simp
noncomputable abbrev tiK(k:A7):Int:=(stT k).ti
def abH{k o:AJ}{n:A3}(h:Ed k n=I o):o.ti=k.ti:=by
 unfold Ed at h
 (repeat' split at h)<;>first|(cases h;done)|(cases h;rfl)
def atC{k o:AJ}{w r:A1}(hw:w≠E0)(h:BX k w r=I o):o.ti=k.ti:=by
 unfold BX at h;split at h
 .split at h
  .unfold Hb at h;rw[BE hw,AM,A4]at h;split at h<;>cases h;rfl
  .cases h
 .split at h
  .split at h
   .unfold G9 at h;split at h
    .have:=abH h;exact this
    .split at h
     .exact abH h
     ·(repeat' split at h)<;>first|(cases h;done)|(cases h;rfl)
   .cases h
  .split at h
   .split at h
    .unfold En at h
     (repeat' split at h)<;>first|(cases h;done)|(cases h;rfl)
    .cases h
   .cases h
def au7{k o:AJ}(hk:At k=Y){rec:A1}{w r:List UInt8}(hn:CU w)(e:L rec=w++32::r)(hw:B w≠E0)(h:BJ k rec=I o):o.ti=k.ti:=by
 have:=((Ht hk).1 h).1;rw[Hx hn e]at this;exact atC hw this
def abT{x:A7}{rec:A1}{w r:List UInt8}{b:Bool}(hx:Ae x=Y)(hn:CU w)(e:L rec=w++32::r)(hw:B w≠E0):tiK (wrR x rec b).1=tiK x:=by
 have hk:=C8 hx;unfold wrR;split
 .rfl
 .rename_i o ho;have h1:=(Q9 hk ho).stT;have h2:=au7 hk.kok hn e hw ho;split
  .show(stT<|wrM x rec).ti=_;rw[h1];exact h2
  .show(stT<|wrM x rec).ti=_;rw[h1];exact h2
def aBs:CU [101,97,116]:=by unfold CU;decide
def awB{k:A7}(h:Ae k=Y)(f:Frame):tiK (CB k f).1=tiK k:=by
 unfold CB HU;rw[A5 h];split
 .rename_i hc;simp only[AD]at hc;split
  .rename_i h1;unfold E8;split
   .rfl
   split
   .rfl
   split
   .rfl
   unfold Jx;split
   .split
    .unfold Kc;have hd:=(mz h hc.1 hc.2.1<|Bd h1).ok;split
     .exact abT hd jc (aCY _) aE9
     .rfl
    .rfl
   .rfl
  .split
   .exact abT h aEB (SA _ _ _ _) aE9
   .rfl
 .rfl
def as0{k:AJ}{m:Mark}{r:A1}(ht:Gv r=I m):BX k CH r=if EE k.inbox m then I ⟨k.id,k.ti,k.nx,k.held,k.marks,ER k.inbox (AX k.inbox m.mf m.mn).toNat⟩ else G:=by
 unfold BX En;cases h:EE k.inbox m<;>simp[gx,gz,ik,gy,iA,gL,im,hY,ht,h]
def aaN{l:List A3}(h:DI l=Y){i:Nat}(hi:i<l.length):nA l i ∉ ER l i:=by
 have irr:∀a b:Int,bef a b a b=A0:=λa b=>by unfold bef;simp
 have at_:∀j (hj:j<l.length),l[j]=nA l j:=λj hj=>by rw[nA,B9,Av hj];rfl
 have dif:∀j,j<l.length->j≠i->nA l j≠nA l i:=λj hj hne e=>by
  obtain h1|h1:=TR hne
  .have:=Rz h i j h1 hi;rw[e,irr]at this;cases this
  .have:=Rz h j i h1 hj;rw[e,irr]at this;cases this
 intro hm;unfold ER at hm;obtain hm|hm:=BM.1 hm
 .obtain⟨j,hj,e⟩:=D0 hm;rw[Dh]at hj;rw[List.getElem_take,at_ j J]at e;exact dif j J J e
 .obtain⟨j,hj,e⟩:=D0 hm;rw[EF]at hj;rw[List.getElem_drop,at_ (i+1+j) J]at e;exact dif _ J J e
structure LtF (d t:AJ):Prop where
 id:t.id=d.id
 ti:t.ti=d.ti
 nx:t.nx=d.nx
 box:t.inbox=d.inbox
 held:∀n∈t.held,n∈d.held
 mrk:∀m∈d.marks,m∈t.marks
def LtF.rfl(d:AJ):LtF d d:=⟨Hg _,Hg _,Hg _,Hg _,λ_ h=>h,λ_ h=>h⟩
def LtF.trans{a b c:AJ}(h:LtF a b)(g:LtF b c):LtF a c:=⟨g.id.trans h.id,g.ti.trans h.ti,g.nx.trans h.nx,g.box.trans h.box,λn hn=>h.held n<|g.held n hn,λm hm=>g.mrk m<|h.mrk m hm⟩
def ZN(r:A1):Prop:=∃a b c:Int,(0<=a/\a<=999)/\(0<=b/\b<=999)/\(0<=c/\c<=999)/\r=CY Bw a b c
def mS{k o:AJ}{a b c:Int}(hk:At k=Y)(ha:0<=a/\a<=999)(hb:0<=b/\b<=999)(hc:0<=c/\c<=999)(h:BJ k (CY Bw a b c)=I o):
  EE k.held ⟨a,b,c⟩=Y/\o=⟨k.id,k.ti,k.nx,ER k.held (AX k.held a b).toNat,ED k.marks ⟨a,b,c⟩,k.inbox⟩:=by
 rw[aCk hk ha hb hc]at h;have h:=(JL.1 h).1;split at h
 .rename_i h1;exact⟨h1,(Eh h).symm⟩
 .cases h
def awv{k o:AJ}{r:A1}(hk:At k=Y)(hr:ZN r)(h:BJ k r=I o):LtF k o:=by
 obtain⟨a,b,c,ha,hb,hc,rfl⟩:=hr;obtain⟨_,rfl⟩:=mS hk ha hb hc h;exact⟨rfl,rfl,rfl,rfl,λn hn=>O4 hn,λm hm=>Ka _<|.inr hm⟩
def asr{k o:AJ}{r:A1}(hk:At k=Y)(h:BJ k r=I o):At o=Y:=((Ht hk).1 h).2
def Xx:∀ {ts:List A1} {d t:AJ},At d=Y->(∀r∈ts,ZN r)->Em d ts=I t->LtF d t
 | [],d,t,_,_,h=>by
  cases h;exact LtF.rfl _
 | r::ts,d,t,hk,hl,h=>by
  have h:(BJ d r).bind (λk=>Em k ts)=I t:=h;obtain⟨m,h1,h2⟩:=Ah.1 h;exact(awv hk (hl r<|.head _) h1).trans<|Xx (asr hk h1) (λx hx=>hl x<|.tail _ hx) h2
def LO(k:A7):Prop:=∃rs ts,C6 k.log k.fo rs ts/\ ∀r∈ts,ZN r
def Yv{k:A7}{rs ts:List A1}(l:C6 k.log k.fo rs ts):stD k=(CZ k.id rs).getD zK:=by unfold stD;rw[l.abo]
def LO.two{k:A7}(h:Ae k=Y){rs ts:List A1}(l:C6 k.log k.fo rs ts):CZ k.id rs=I (stD k)/\At (stD k)=Y/\Em (stD k) ts=I (stT k):=by
 have hs:=(El h).st;rw[l.state,WN]at hs;obtain⟨d,h1,h2⟩:=Ah.1 hs;have e:stD k=d:=by rw[Yv l,h1];rfl
 rw[e];exact⟨h1,SL h1,h2⟩
def LO.lf{k:A7}(h:Ae k=Y)(hl:LO k):LtF (stD k) (stT k):=by
 obtain⟨rs,ts,l,g⟩:=hl;obtain⟨_,h2,h3⟩:=LO.two h l;exact Xx h2 g h3
def aun{ts:List A1}(h:(cat ts).length=0):ts=[]:=by
 cases ts with
 | nil=>rfl
 | cons r ts=>
  rw[Hv,Au,Aw]at h;have:=Wf r;omega
def awH{k:A7}(h:Ae k=Y)(hf:k.fo=(k.log.size:Int)):∃rs,C6 k.log k.fo rs []:=by
 obtain⟨rs,ts,l,_⟩:=(C8 h).lg;have h1:=l.fo;have h2:=l.size_eq;have:ts=[]:=aun J;subst this;exact⟨rs,l⟩
def Sl{k:A7}(h:Ae k=Y)(hf:k.fo=(k.log.size:Int)):LO k/\stD k=stT k:=by
 obtain⟨rs,l⟩:=awH h hf;refine⟨⟨rs,[],l,λr hr=>by cases hr⟩, ?_⟩;have:=(LO.two h l).2.2;exact Eh this
def aai{k:A7}(h:Ae k=Y)(hl:LO k){r:A1}(hr:ZN r)(h2:(wrR k r A0).2=Y):
  LO (wrR k r A0).1/\Ae (wrR k r A0).1=Y/\BJ (stT k) r=I (stT (wrR k r A0).1)/\(stD (wrR k r A0).1=stD k\/stD (wrR k r A0).1=stT k):=by
 have hk:=C8 h;obtain⟨o,ho⟩:=aDQ hk h2;have hi:=Q9 hk ho;have e:(wrR k r A0).1=wrM k r:=by unfold wrR;rw[ho];rfl
 rw[e,hi.stT];refine⟨?_,hi.ok,ho, ?_⟩
 all_goals
  obtain⟨rs,ts,l,g⟩:=hl;have hz:=lA hk.kok ho
 .by_cases hc:k.log.size+(Cv r).size<=2400
  .refine⟨rs,ts++[r], ?_,λx hx=> ?_⟩
   .show C6 (Cw (stT k) k.log k.fo r).1 (Cw (stT k) k.log k.fo r).2 _ _;unfold Cw;rw[A5 hc];exact l.add hz.1 hz.2 hc
   .rcases BM.1 hx with hx|hx
    .exact g x hx
    .rw[CL.1 hx];exact hr
  .refine⟨C9<|stT k,[]++[r], ?_,λx hx=> ?_⟩
   .show C6 (Cw (stT k) k.log k.fo r).1 (Cw (stT k) k.log k.fo r).2 _ _;unfold Cw;rw[A8 hc];refine(Q4 hk.kok).add hz.1 hz.2 ?_;have h1:=Pn hk.kok;have h2:=MV hz.2;omega
   .rw[EU]at hx;rw[CL.1 hx];exact hr
 .by_cases hc:k.log.size+(Cv r).size<=2400
  .left;have l2:C6 (wrM k r).log (wrM k r).fo rs (ts++[r]):=by
    show C6 (Cw (stT k) k.log k.fo r).1 (Cw (stT k) k.log k.fo r).2 _ _;unfold Cw;rw[A5 hc];exact l.add hz.1 hz.2 hc
   rw[Yv l2,Yv l];rfl
  .right;have l2:C6 (wrM k r).log (wrM k r).fo (C9<|stT k) ([]++[r]):=by
    show C6 (Cw (stT k) k.log k.fo r).1 (Cw (stT k) k.log k.fo r).2 _ _;unfold Cw;rw[A8 hc];refine(Q4 hk.kok).add hz.1 hz.2 ?_;have h1:=Pn hk.kok;have h2:=MV hz.2;omega
   have l3:C6 (pkM k).log (pkM k).fo (C9<|stT k) []:=Q4 hk.kok;have p:=mv hk;have:=(LO.two p.ok l3);rw[Yv l2];have e1:CZ k.id (C9<|stT k)=I (stT k):=by
    have t:=this.2.2;have t1:stD (pkM k)=stT (pkM k):=Eh t;have t0:=this.1;rw[t1,p.stT]at t0;exact t0
   show(CZ k.id<|C9<|stT k).getD zK=_;rw[e1];rfl
def avf{k:A7}(h:Ae k=Y){r:A1}(h2:(wrR k r Y).2=Y):
  Ae (wrR k r Y).1=Y/\LO (wrR k r Y).1/\stD (wrR k r Y).1=stT (wrR k r Y).1/\BJ (stT k) r=I (stT (wrR k r Y).1):=by
 have hk:=C8 h;obtain⟨o,ho⟩:=aDQ hk h2;have hs:=(aDR hk ho).1;have:=Sl hs.is.ok hs.fo;refine⟨hs.is.ok,this.1,this.2, ?_⟩;rw[hs.is.stT];exact ho
def YB{k:A7}(h:Ae k=Y):Ae (foM k)=Y/\LO (foM k)/\stD (foM k)=stT k/\stT (foM k)=stT k:=by
 have hk:=QG<|C8 h;have:=Sl (k:=foM k) hk.ok rfl;exact⟨hk.ok,this.1,this.2.trans hk.stT,hk.stT⟩
def avN{k:A7}(h:Ae k=Y):Ae (pkM k)=Y/\LO (pkM k)/\stD (pkM k)=stT k/\stT (pkM k)=stT k:=by
 have hk:=mv<|C8 h;have:=Sl (k:=pkM k) hk.ok rfl;exact⟨hk.ok,this.1,this.2.trans hk.stT,hk.stT⟩
def awK{k:A7}(h:Ae k=Y)(hl:LO k)(keep:Int):
  Ae (faM k keep)=Y/\LO (faM k keep)/\stD (faM k keep)=stT (faM k keep)/\LtF (stD k) (stT<|faM k keep)/\LtF (stT<|faM k keep) (stT k):=by
 have ok:=nH h keep;obtain⟨rs,ts,l,g⟩:=hl;have hfo:=l.fo;obtain⟨us,vs,e,l2⟩:=l.U4 (k.fo+max 0 (min keep<|(k.log.size:Int) - k.fo)).toNat J;have lf:(faM k keep).fo=((faM k keep).log.size:Int):=by
  have a:(faM k keep).fo=_:=l2.fo;have b:(faM k keep).log.size=_:=l2.size_eq;rw[a,b];simp[Jh]
 have hf:=Sl ok lf;obtain⟨d0,d1,d2⟩:=LO.two h l;have l2:C6 (faM k keep).log (faM k keep).fo (rs++us) []:=l2;obtain⟨f0,f1,f2⟩:=LO.two ok l2;rw[hf.2]at f0 f1;have f0:CZ k.id (rs++us)=I (stT<|faM k keep):=f0;rw[WN,d0]at f0;rw[e,ML,show Em (stD k) us=_ from f0]at d2;subst e;exact⟨ok,hf.1,hf.2,Xx d1 (λr hr=>g r<|Bv _ hr) f0,Xx f1 (λr hr=>g r<|CP _ hr) d2⟩
inductive Act|non|own (n:A3)|take (n:A3)|eat (n:A3)|lets (m:Mark)
def Act.new(a:Act)(n:A3):Prop:=a= .own n\/a= .take n
structure KF (k o:AJ) (a:Act):Prop where
 id:o.id=k.id
 ti:k.ti<=o.ti
 nx:(o.nx=k.nx/\ ∀n,a≠ .own n)\/ ∃n,a= .own n/\n.nu=k.nx/\n.fr=k.id/\o.nx=k.nx+1
 hold:∀n∈k.held,n∈o.held\/n.un<=o.ti\/a= .lets ⟨n.fr,n.nu,n.un⟩
 held:∀n∈o.held,n∈k.held\/a.new n
 box:∀n∈k.inbox,n∈o.inbox\/a= .eat n
 P9:∀n∈o.inbox,(n∈k.inbox/\a≠ .eat n)\/(a.new n/\n.to=k.id)
 mrk:∀m∈o.marks,m∈k.marks\/a= .lets m\/ ∃n,a.new n/\n.to=k.id/\m=⟨n.fr,n.nu,n.un⟩
 mks:∀m∈k.marks,m∈o.marks\/m.mu<=o.ti
 new:∀n,a.new n->k.ti<n.un/\(∀m∈k.marks,¬(m.mf=n.fr/\m.mn=n.nu))/\(if n.to=k.id then n∈o.inbox else n∈o.held)
 eat:∀n,a= .eat n->n∈k.inbox
 lets:∀m,a= .lets m->∃n∈k.held,m=⟨n.fr,n.nu,n.un⟩
def aEE{l:List A3}{i:Nat}{x:A3}(h:x∈l)(hne:x≠nA l i):x∈ER l i:=by
 obtain⟨j,hj,e⟩:=D0 h;have at_:nA l j=x:=by rw[nA,B9,Av hj];exact e
 have hji:j≠i:=λc=>hne (by rw[← c];exact at_.symm);unfold ER;rw[BM];by_cases h1:j<i
 .left;rw[List.mem_take_iff_getElem];exact⟨j,J,e⟩
 .right;rw[List.mem_drop_iff_getElem];exact⟨j - (i+1),J,by rw[← e];congr 1;omega⟩
def av7{l:List Mark}{f n:Int}(h:¬0<=Bo l f n):∀m∈l,¬(m.mf=f/\m.mn=n):=λm hm e=>h<|l7 hm e.1 e.2
def abI{k o:AJ}{n:A3}{a:Act}(ha:a.new n)(hu:∀x,a.new x->x=n)(hnx:(o.nx=k.nx/\ ∀n,a≠ .own n)\/ ∃n,a= .own n/\n.nu=k.nx/\n.fr=k.id/\o.nx=k.nx+1)
  {c:Int}(h:Ed ⟨k.id,k.ti,c,k.held,k.marks,k.inbox⟩ n=I o):KF k o a:=by
 have ne:∀x,a≠ .eat x:=λx e=>by obtain h|h:=ha<;>rw[h]at e<;>cases e
 have nl:∀x,a≠ .lets x:=λx e=>by obtain h|h:=ha<;>rw[h]at e<;>cases e
 unfold Ed at h;split at h
 .cases h
 split at h
 .cases h
 split at h
 .cases h
 split at h
 .cases h
 split at h
 .cases h
 split at h
 .cases h
 rename_i _ h1 _ _ h2 _;have h1:k.ti<n.un:=by simpa using h1
 have h2:=av7 (l:=k.marks) (f:=n.fr) (n:=n.nu) (by simpa using h2);split at h
 .rename_i ht;have ht:n.to=k.id:=Bd ht;cases h;refine⟨rfl,Ct _,hnx,λ_ h=> .inl h,λ_ h=> .inl h,λx h=> .inl<|Ka _<|.inr h,λx h=> ?_,λm h=> ?_,λm h=> .inl<|Ka _<|.inr h,λx h=> ?_,λx e=>absurd e<|ne x,λx e=>absurd e<|nl x⟩
  .rcases GX _ h with rfl|h
   .exact .inr ⟨ha,ht⟩
   .exact .inl ⟨h,ne x⟩
  .rcases GX _ h with rfl|h
   .exact .inr (.inr ⟨n,ha,ht,rfl⟩)
   .exact .inl h
  .rw[hu x h,A5 ht];exact⟨h1,h2,Ka _<|.inl rfl⟩
 .rename_i ht;have ht:¬n.to=k.id:=by simpa using ht
  cases h;refine⟨rfl,Ct _,hnx,λx h=> .inl<|Ka _<|.inr h,λx h=> ?_,λ_ h=> .inl h,λ_ h=> .inl ⟨h,ne _⟩,λ_ h=> .inl h,λ_ h=> .inl h,λx h=> ?_,λx e=>absurd e<|ne x,λx e=>absurd e<|nl x⟩
  .rcases GX _ h with rfl|h
   .exact .inr ha
   .exact .inl h
  .rw[hu x h,A8 ht];exact⟨h1,h2,Ka _<|.inl rfl⟩
def ata(n:A3):L (Kd n)=[111,119,110]++32::L (wr n):=by unfold Kd;simp only[GI,L_B];rfl
def ary{k:AJ}{n:A3}(hn:Ax n=Y):BX k Dd (wr n)=if n.fr=k.id/\n.nu=k.nx then Ed ⟨k.id,k.ti,k.nx+1,k.held,k.marks,k.inbox⟩ n else(if 0<=AX k.held n.fr n.nu\/0<=AX k.inbox n.fr n.nu then G else G):=by
 unfold BX;rw[A8 aE9,A5 aE9,Ph hn];unfold G9;by_cases h:n.fr=k.id/\n.nu=k.nx
 .simp[h.1,h.2]
 .rw[A8 h];have:(U (n.fr=k.id)&&U (n.nu=k.nx))=A0:=by
   rw[← GL,AD,decide_eq_true_eq,decide_eq_true_eq];exact h
  simp[zc,zd,xo,this]
def awk{k o:AJ}{n:A3}(hk:At k=Y)(hn:Ax n=Y)(h:BJ k (Kd n)=I o):KF k o (.own n):=by
 have h:=((Ht hk).1 h).1;rw[Hx aEA<|ata n,show BX k (B [111,119,110]) (B<|L<|wr n)=BX k Dd (wr n) by rw[B_L]]at h;rw[ary hn]at h;split at h
 .rename_i hc;have hx:o.nx=k.nx+1:=by
   unfold Ed at h
   (repeat' split at h)<;>first|(cases h;done)|(cases h;rfl)
  exact abI (.inl rfl) (λx h=>by obtain h|h:=h<;>cases h;rfl) (.inr ⟨n,rfl,hc.2,hc.1,hx⟩) h
 .split at h<;>cases h
def aEj{k o:AJ}{n:A3}(hk:At k=Y)(hn:Ax n=Y)(h:BJ k (J6 n)=I o):KF k o (.take n)/\n.fr≠k.id:=by
 rw[jI hk hn]at h;have h:=(JL.1 h).1;split at h
 .cases h
 rename_i hne;have hx:o.nx=k.nx:=by
  unfold Ed at h
  (repeat' split at h)<;>first|(cases h;done)|(cases h;rfl)
 exact⟨abI (.inr rfl) (λx h=>by obtain h|h:=h<;>cases h;rfl) (.inl ⟨hx,λn e=>by cases e⟩) h,hne⟩
def avm{k o:AJ}(hk:At k=Y)(h:BJ k (FX<|k.ti+1)=I o):KF k o .non:=by
 have hf:=C3 hk;have t0:=hf.t0;have t1:=hf.t1;have h:=((Ht hk).1 h).1;rw[Hx jb<|XL _,jR J J J]at h;cases h;refine⟨rfl,by show k.ti<=k.ti+1;omega,.inl ⟨rfl,λ_ h=>by cases h⟩,λn h=> ?_,λn h=> .inl (FP.1 h).1,λ_ h=> .inl h,λ_ h=> .inl ⟨h,λe=>by cases e⟩,λm h=> .inl (FP.1 h).1,λm h=> ?_,
  λ_ h=>(by obtain h|h:=h<;>cases h),λ_ h=>(by cases h),λ_ h=>(by cases h)⟩
 .by_cases hc:k.ti+1<n.un
  .exact .inl (FP.2 ⟨h,AR hc⟩)
  .exact .inr (.inl (by show n.un<=k.ti+1;omega))
 .by_cases hc:k.ti+1<m.mu
  .exact .inl (FP.2 ⟨h,AR hc⟩)
  .exact .inr (by show m.mu<=k.ti+1;omega)
def aaq{k o:AJ}{a b c:Int}(hk:At k=Y)(ha:0<=a/\a<=999)(hb:0<=b/\b<=999)(hc:0<=c/\c<=999)(h:BJ k (CY Bw a b c)=I o):KF k o (.lets ⟨a,b,c⟩):=by
 obtain⟨h1,rfl⟩:=mS hk ha hb hc h;unfold EE at h1;rw[AD,decide_eq_true_eq,decide_eq_true_eq]at h1;obtain⟨i0,i1⟩:=h1;obtain⟨j0,j1,j2,j3⟩:=FG i0;have e:(⟨a,b,c⟩:Mark)=⟨(nA k.held (AX k.held a b).toNat).fr,(nA k.held (AX k.held a b).toNat).nu,(nA k.held (AX k.held a b).toNat).un⟩:=by rw[j2,j3,i1]
 refine⟨rfl,Ct _,.inl ⟨rfl,λ_ h=>by cases h⟩,λn h=> ?_,λn h=> .inl<|O4 h,λ_ h=> .inl h,λ_ h=> .inl ⟨h,λe=>by cases e⟩,λm h=> ?_,λm h=> .inl<|Ka _<|.inr h,
  λ_ h=>(by obtain h|h:=h<;>cases h),λ_ h=>(by cases h),λm h=> ?_⟩
 .by_cases hx:n=nA k.held (AX k.held a b).toNat
  .right;right;rw[e,hx]
  .exact .inl (aEE h hx)
 .rcases GX _ h with rfl|h
  .exact .inr (.inl rfl)
  .exact .inl h
 .cases h;exact⟨_,I3 j0,e⟩
def awZ{k o:AJ}{n:A3}(hk:At k=Y)(hn:n=nA k.inbox (AX k.inbox n.fr n.nu).toNat)(h0:0<=AX k.inbox n.fr n.nu)(h:BJ k (CY CH n.fr n.nu n.un)=I o):KF k o (.eat n):=by
 have hf:=C3 hk;obtain⟨hlt,Zz,hfr,hnu⟩:=FG h0;have hm:n∈k.inbox:=by rw[hn];exact I3 hlt
 obtain⟨⟨a0,a1⟩,⟨b0,b1⟩,⟨c0,c1⟩,_⟩:=S4<|Pc hf.i hm;have h3:=YO (r:=B<|B3 n.fr++32::(B3 n.nu++32::B3 n.un)) (a:=n.fr) (b:=n.nu) (c:=n.un) J J J J J J<|L_B _;have h2:=((Ht hk).1 h).1;rw[Hx aBs<|SA CH _ _ _,show BX k (B [101,97,116]) _=_ from as0 h3]at h2;split at h2
 .cases h2;refine⟨rfl,Ct _,.inl ⟨rfl,λ_ h=>by cases h⟩,λ_ h=> .inl h,λ_ h=> .inl h,λx h=> ?_,λx h=> .inl ⟨O4 h,λe=> ?_⟩,λ_ h=> .inl h,λ_ h=> .inl h,
   λ_ h=>(by obtain h|h:=h<;>cases h),λx e=> ?_,λ_ h=>(by cases h)⟩
  .by_cases hx:x=n
   .exact .inr (by rw[hx])
   .exact .inl (aEE h λe=>hx<|e.trans hn.symm)
  .cases e;rw[hn]at h;exact aaN hf.i hlt (by rw[← hn]at h ⊢; exact h)
  .cases e;exact hm
 .cases h2
structure Mvd (k k':A7) (a:Act):Prop where
 lo:LO k'
 id:(stT k').id=(stT k).id
 ti:(stT k).ti<=(stT k').ti
 nx:((stT k').nx=(stT k).nx/\ ∀n,a≠ .own n)\/ ∃n,a= .own n/\n.nu=(stT k).nx/\n.fr=(stT k).id/\(stT k').nx=(stT k).nx+1
 hold:∀n,n∈(stT k).held->n∈(stD k).held->(n∈(stT k').held/\n∈(stD k').held)\/n.un<=(stT k').ti\/a= .lets ⟨n.fr,n.nu,n.un⟩
 held:∀n∈(stD k').held,n∈(stD k).held\/a.new n
 box:∀n∈(stT k).inbox,n∈(stT k').inbox\/a= .eat n
 P9:∀n∈(stT k').inbox,(n∈(stT k).inbox/\a≠ .eat n)\/(a.new n/\n.to=(stT k).id)
 mrk:∀m∈(stT k').marks,m∈(stT k).marks\/a= .lets m\/ ∃n,a.new n/\n.to=(stT k).id/\m=⟨n.fr,n.nu,n.un⟩
 mks:∀m∈(stD k).marks,m∈(stD k').marks\/m.mu<=(stT k').ti
 new:∀n,a.new n->(stT k).ti<n.un/\(∀m∈(stT k).marks,¬(m.mf=n.fr/\m.mn=n.nu))/\(if n.to=(stT k).id then n∈(stT k').inbox else n∈(stT k').held/\n∈(stD k').held)
 eat:∀n,a= .eat n->n∈(stT k).inbox/\ ∀m∈(stT k).marks,m∈(stD k').marks
 lets:∀m,a= .lets m->∃n∈(stT k).held,m=⟨n.fr,n.nu,n.un⟩
def auS{k k':A7}{a:Act}(h:Ae k=Y)(hl:LO k)(lo:LO k')(e:stD k'=stT k')(f:KF (stT k) (stT k') a)(he:∀n,a= .eat n->∀m∈(stT k).marks,m∈(stT k').marks):Mvd k k' a where
 lo:=lo
 id:=f.id
 ti:=f.ti
 nx:=f.nx
 hold:=λn h1 _=>by
  obtain h|h|h:=f.hold n h1
  .exact .inl ⟨h,by rw[e];exact h⟩
  .exact .inr (.inl h)
  .exact .inr (.inr h)
 held:=λn hn=>by
  rw[e]at hn;obtain h1|h1:=f.held n hn
  .exact .inl ((hl.lf h).held n h1)
  .exact .inr h1
 box:=f.box
 P9:=f.P9
 mrk:=f.mrk
 mks:=λm hm=>by
  rw[e];exact f.mks m ((hl.lf h).mrk m hm)
 new:=λn hn=>by
  obtain⟨a1,a2,a3⟩:=f.new n hn;refine⟨a1,a2, ?_⟩;rw[e];split at a3
  .rename_i hc;rw[A5 hc];exact a3
  .rename_i hc;rw[A8 hc];exact⟨a3,a3⟩
 eat:=λn hn=>⟨f.eat n hn,by rw[e];exact he n hn⟩
 lets:=f.lets
def Pp{k k':A7}(h:Ae k=Y)(hl:LO k)(lo:LO k')(et:stT k'=stT k)(ed:stD k'=stD k\/stD k'=stT k):Mvd k k' .non where
 lo:=lo
 id:=by rw[et]
 ti:=by rw[et];exact Ct _
 nx:= .inl ⟨by rw[et],λ_ e=>by cases e⟩
 hold:=λn h1 h2=> .inl (by rw[et];exact⟨h1,by obtain e|e:=ed<;>rw[e]<;>assumption⟩)
 held:=λn hn=> .inl (by
  obtain e|e:=ed<;>rw[e]at hn
  .exact hn
  .exact(hl.lf h).held n hn)
 box:=λn hn=> .inl (by rw[et];exact hn)
 P9:=λn hn=> .inl ⟨by rw[← et];exact hn,λe=>by cases e⟩
 mrk:=λm hm=> .inl (by rw[← et];exact hm)
 mks:=λm hm=> .inl (by
  obtain e|e:=ed<;>rw[e]
  .exact hm
  .exact(hl.lf h).mrk m hm)
 new:=λn hn=>by obtain e|e:=hn<;>cases e
 eat:=λn e=>by cases e
 lets:=λm e=>by cases e
def ON{k:A7}(h:Ae k=Y)(hl:LO k):Mvd k k .non:=Pp h hl hl rfl (.inl rfl)
def auT{k:A7}(h:Ae k=Y)(hl:LO k)(n:Int):Ae (faM k n)=Y/\Mvd k (faM k n) .non:=by
 obtain⟨a0,a1,a2,a3,a4⟩:=awK h hl n;refine⟨a0,⟨a1,a4.id.symm,by rw[a4.ti];exact Ct _,.inl ⟨a4.nx.symm,λ_ e=>by cases e⟩,λn h1 h2=> .inl ⟨a4.held n h1,by rw[a2];exact a4.held n h1⟩,λn hn=> .inl (by rw[a2]at hn;exact a3.held n hn),λn hn=> .inl (by rw[← a4.box];exact hn),
  λn hn=> .inl ⟨by rw[a4.box];exact hn,λe=>(by cases e)⟩,λm hm=> .inl<|a4.mrk m hm,λm hm=> .inl (by rw[a2];exact a3.mrk m hm),λn hn=>(by obtain e|e:=hn<;>cases e),λn e=>(by cases e),λm e=>(by cases e)⟩⟩
def ZI{k:A7}{a:Act}(h:Ae k=Y)(hl:LO k){r:A1}(h2:(wrR k r Y).2=Y)(hf:∀o,BJ (stT k) r=I o->KF (stT k) o a)(he:∀n,a= .eat n->∀o,BJ (stT k) r=I o->∀m∈(stT k).marks,m∈o.marks):
  Ae (wrR k r Y).1=Y/\Mvd k (wrR k r Y).1 a:=by
 obtain⟨a0,a1,a2,a3⟩:=avf h h2;exact⟨a0,auS h hl a1 a2 (hf _ a3) λn e=>he n e _ a3⟩
def avY{k:A7}{a:Act}(h:Ae k=Y)(hl:LO k){r:A1}(hf:∀o,BJ (stT k) r=I o->KF (stT k) o a)(he:∀n,a= .eat n->∀o,BJ (stT k) r=I o->∀m∈(stT k).marks,m∈o.marks):
  ((wrR k r Y).2=Y/\Ae (wrR k r Y).1=Y/\Mvd k (wrR k r Y).1 a)\/((wrR k r Y).2=A0/\(wrR k r Y).1=k):=by
 obtain e|e:=tf (wrR k r Y).2
 .exact .inl ⟨e,ZI h hl e hf he⟩
 .exact .inr ⟨e,Q0 e⟩
def auP{k:A7}(h:Ae k=Y)(hl:LO k):Mvd k (FM k).1 .non:=by
 unfold FM;split
 .rcases avY h hl (r:=FX<|(stT k).ti+1) (a:= .non) (λo ho=>avm (C8 h).kok ho) (λn e=>by cases e) with⟨_,_,m⟩|⟨_,e⟩
  .exact m
  .rw[e];exact ON h hl
 .exact ON h hl
def avZ{k:A7}(h:Ae k=Y)(hl:LO k){tt un:Int}{tx:A1}(h0:(Dq k tt un tx).2≠0):Mvd k (Dq k tt un tx).1 (.own ⟨k.id,(Dq k tt un tx).2,tt,un,tx⟩):=by
 unfold Dq at h0 ⊢;split at h0
 .rename_i hc;rw[AD]at hc;rw[A5 (by rw[AD];exact hc)];simp only at h0 ⊢;split at h0
  .rename_i h2;rw[A5 h2];exact(ZI h hl h2 (λo ho=>awk (C8 h).kok hc.2 ho) λn e=>by cases e).2
  .exact absurd rfl h0
 .exact absurd rfl h0
def asW{k o:AJ}{a b c:Int}(hk:At k=Y)(h:BJ k (CY CH a b c)=I o):∀m∈k.marks,m∈o.marks:=by
 have h2:=((Ht hk).1 h).1;rw[Hx aBs<|SA CH _ _ _]at h2;unfold BX at h2;rw[A8 aE9,A8 aE9,A5 aE9]at h2;split at h2
 .unfold En at h2;rw[show U (B [101,97,116]=Bw)=A0 by decide,AM,A4,show U (B [101,97,116]=D3)=A0 by decide,AM,A4]at h2;split at h2
  .cases h2;exact λm hm=>hm
  .cases h2
 .cases h2
def avb{k:A7}(h:Ae k=Y)(hl:LO k){fr nu:Int}(ok:(DU k fr nu).2.2=Y):Mvd k (DU k fr nu).1 (.eat (DU k fr nu).2.1):=by
 have hk:=C8 h;unfold DU at ok ⊢;split at ok
 .rename_i hc;rw[A5 hc];simp only[AD,CE,decide_eq_false_iff_not]at hc;have h0:0<=AX (stT k).inbox fr nu:=by have:=hc.2;omega
  obtain⟨_,_,j2,j3⟩:=FG h0;simp only at ok ⊢;rw[A5 ok];refine(ZI h hl ok (λo ho=> ?_) λn _ o ho=>asW hk.kok ho).2;refine awZ hk.kok ?_ ?_ ?_
  .rw[j2,j3]
  .rw[j2,j3];exact h0
  .rw[j2,j3];exact ho
 .cases ok
def auR{k:A7}(h:Ae k=Y)(hl:LO k):Mvd k (FN k).1 .non:=by
 unfold FN;split
 .obtain⟨_,a1,a2,a3⟩:=avN h;exact Pp h hl a1 a3 (.inr a2)
 .exact ON h hl
def asf{k:A7}(h:Ae k=Y)(hl:LO k):Mvd k (Db k).1 .non:=by
 unfold Db;split
 .obtain⟨_,a1,a2,a3⟩:=YB h;exact Pp h hl a1 a3 (.inr a2)
 .exact ON h hl
def LO.aA{k:A7}(hl:LO k):LO (riM k):=hl
def auQ{k:A7}(h:Ae k=Y)(hl:LO k):Mvd k (riM k) .non:=Pp h hl hl.aA rfl (.inl rfl)
def ava{k:A7}(h:Ae k=Y)(hl:LO k){a b c:Int}(ha:0<=a/\a<=999)(hb:0<=b/\b<=999)(hc:0<=c/\c<=999)(h2:(wrR k (CY Bw a b c) A0).2=Y):
  Mvd k (wrR k (CY Bw a b c) A0).1 (.lets ⟨a,b,c⟩):=by
 obtain⟨a0,a1,a2,a3⟩:=aai h hl ⟨a,b,c,ha,hb,hc,rfl⟩ h2;have f:=aaq (C8 h).kok ha hb hc a2;have lf:=hl.lf h;have sub:∀n∈(stD (wrR k (CY Bw a b c) A0).1).held,n∈(stD k).held:=λn hn=>by
  obtain e|e:=a3<;>rw[e]at hn
  .exact hn
  .exact lf.held n hn
 refine⟨a0,f.id,f.ti,f.nx,λn h1 h2=> ?_,λn hn=> .inl<|sub n hn,f.box,f.P9,f.mrk,λm hm=> .inl ?_,λn hn=>(by obtain e|e:=hn<;>cases e),λn e=>(by cases e),f.lets⟩
 .rcases f.hold n h1 with h|h|h
  .refine .inl ⟨h, ?_⟩;obtain e|e:=a3<;>rw[e]<;>assumption
  .exact .inr (.inl h)
  .exact .inr (.inr h)
 .rcases a3 with e|e<;>rw[e]
  .exact hm
  .exact lf.mrk m hm
def Dif(a b:A3):Prop:=¬(a.fr=b.fr/\a.nu=b.nu)
def dsN(n:A3)(i:Int):Nat:=(n.to - i).natAbs
def onW(n:A3)(i:Int):Prop:=(n.fr<=i/\i<=n.to)\/(n.to<=i/\i<=n.fr)
noncomputable abbrev sT(w:AA)(i:Nat):AJ:=stT<|kA w.A9 i
noncomputable abbrev sD(w:AA)(i:Nat):AJ:=stD<|kA w.A9 i
def L3(w:AA)(n:A3):Prop:=n∈w.got\/n∈(sT w n.to.toNat).inbox
def Jv(w:AA)(n:A3):Prop:=∃i:Nat,i<4/\onW n i/\n.un<=(sT w i).ti
def Jk(w:AA)(n:A3)(i:Nat):Prop:=i<4/\n∈(sT w i).held/\n∈(sD w i).held
def Bey(w:AA)(i:Int)(n:A3):Prop:=L3 w n\/Jv w n\/ ∃j:Nat,Jk w n j/\dsN n j<dsN n i
def HvF(w:AA)(f:Frame):Prop:=f.ki=2->∃n∈w.AY,n.fr=f.fr/\n.nu=f.nu/\Bey w f.dst n
def HfG(se:List A3)(h:AE):Prop:=∃n∈se,h.fr=n.fr/\h.nu=n.nu/\h.to=n.to/\h.un=n.un/\h.sz=n.tx.size/\Ow n.tx h.got
structure Inv (w:AA):Prop where
 lo:∀i,i<4->LO (kA w.A9 i)
 hs:∀i,i<4->∀n∈(sD w i).held,n∈w.AY
 bx:∀i,i<4->∀n∈(sT w i).inbox,n∈w.AY/\ ∀g∈w.got,Dif g n
 nx:∀n∈w.AY,n.nu<(sT w n.fr.toNat).nx
 sp:w.AY.Pairwise Dif
 gp:w.got.Pairwise Dif
 gs:∀g∈w.got,g∈w.AY/\(g.un<=(sT w g.to.toNat).ti\/ ∃m∈(sD w g.to.toNat).marks,m.mf=g.fr/\m.mn=g.nu/\m.mu=g.un)
 cu:∀n∈w.AY,L3 w n\/Jv w n\/ ∃j,Jk w n j
 mrk:∀i,i<4->∀m∈(sT w i).marks,∃n∈w.AY,m=⟨n.fr,n.nu,n.un⟩/\Bey w i n
 ra:∀p∈w.AS,PcI (λn=>n∈w.AY) p
 hv:∀p∈w.AS,∀f,Cn (BA p.data)=(f,Y)->HvF w f
 hf:∀i,i<4->∀h∈(kA w.A9 i).AH,HfG w.AY h
def Ic{l:List A3}(h:l.Pairwise Dif):∀ {a b:A3},a∈l->b∈l->a.fr=b.fr->a.nu=b.nu->a=b:=by
 intro a b ha hb h1 h2;obtain⟨i,hi,ei⟩:=D0 ha;obtain⟨j,hj,ej⟩:=D0 hb;obtain c|c|c:=IA i j
 .have:=K3.1 h i j hi hj c;rw[ei,ej]at this;exact absurd ⟨h1,h2⟩ this
 .subst c;rw[← ei,← ej]
 .have:=K3.1 h j i hj hi c;rw[ei,ej]at this;exact absurd ⟨h1.symm,h2.symm⟩ this
def aaK{l:List A3}{n:A3}(h:l.Pairwise Dif)(hn:∀a∈l,Dif a n):(l++[n]).Pairwise Dif:=by
 rw[N1];exact⟨h,lK _ _,λa ha b hb=>by rw[CL.1 hb];exact hn a ha⟩
def ZJ{l:List A3}{x:A3}(h:x∈l):∃i,i<l.length/\nA l i=x:=by
 obtain⟨i,hi,e⟩:=D0 h;exact⟨i,hi,by rw[nA,B9,Av hi];exact e⟩
def aws{l:List Mark}{x:Mark}(h:x∈l):∃i,i<l.length/\mA l i=x:=by
 obtain⟨i,hi,e⟩:=D0 h;exact⟨i,hi,by rw[mA,B9,Av hi];exact e⟩
def atm{k:AJ}(h:At k=Y){n:A3}(hn:n∈k.held):k.ti<n.un/\onW n k.id/\n.to≠k.id:=by
 obtain⟨i,hi,e⟩:=ZJ hn;have:=(C3 h).ho i hi;unfold Gx Ec at this;rw[e]at this;simp only[AD,C1,decide_eq_true_eq,Aa,CE,decide_eq_false_iff_not]at this;obtain⟨_,h1,⟨h2,h3⟩,_⟩:=this;unfold onW;exact⟨h1,J,λe=>h2 e.symm⟩
def mm{k:AJ}(h:At k=Y){n:A3}(hn:n∈k.inbox):n.to=k.id/\(n.un<=k.ti\/ ∃m∈k.marks,m.mf=n.fr/\m.mn=n.nu):=by
 obtain⟨i,hi,e⟩:=ZJ hn;have:=(C3 h).io i hi;unfold IY at this;rw[e]at this;simp only[AD,C1,decide_eq_true_eq,CE,decide_eq_false_iff_not]at this;obtain⟨h1,_,h2⟩:=this;refine⟨h1, ?_⟩;obtain h2|h2:=h2
 .exact .inl J
 .obtain⟨j0,_,j2,j3⟩:=Xw h2;refine .inr ⟨mA k.marks (Bo k.marks n.fr n.nu).toNat, ?_,j2,j3⟩;rw[mA,B9,Av j0];exact Cd j0
def HN{w:AA}(ok:B5 w){i:Nat}(hi:i<4):(sT w i).id=(i:Int):=(C8 (ok.k i hi).1).id.trans (ok.k i hi).2
def FZ{w:AA}(ok:B5 w){i:Nat}(hi:i<4):At (sT w i)=Y:=(C8 (ok.k i hi).1).kok
def arB{n:A3}(h:Ax n=Y):(0<=n.fr/\n.fr<=3)/\(0<=n.to/\n.to<=3):=by
 unfold Ax at h;simp only[AD]at h;exact⟨Aa.1 h.1,Aa.1 h.2.1⟩
def auX{w w':AA}{i:Nat}{a:Act}{k':A7}(ok:B5 w)(hi:i<4)(m:Mvd (kA w.A9 i) k' a)(ek:w'.A9=w.A9.set i k')
  (eg:∀n,n∈w.got\/a= .eat n->n∈w'.got){n:A3}(nok:Ax n=Y)(lets:a= .lets ⟨n.fr,n.nu,n.un⟩->Bey w i n){d:Nat}
  (h:L3 w n\/Jv w n\/ ∃j:Nat,Jk w n j/\dsN n j<d):L3 w' n\/Jv w' n\/ ∃j:Nat,Jk w' n j/\dsN n j<d:=by
 have kl:=ok.kl;have kA':∀j,kA w'.A9 j=if j=i then k' else kA w.A9 j:=λj=>by rw[ek,GB J]
 have up:∀j:Nat,(sT w j).ti<=(sT w' j).ti:=λj=>by
  unfold sT;rw[kA' j];split
  .rename_i e;rw[e];exact m.ti
  .exact Ct _
 have cam:L3 w n->L3 w' n:=λh=>by
  obtain h|h:=h
  .exact .inl (eg n<|.inl h)
  .by_cases e:n.to.toNat=i
   .rw[e]at h;obtain h1|h1:=m.box n h
    .right;unfold sT;rw[kA' n.to.toNat,A5 e];exact h1
    .exact .inl (eg n<|.inr h1)
   .right;unfold sT;rw[kA' n.to.toNat,A8 e];exact h
 have ove:Jv w n->Jv w' n:=fun⟨j,h1,h2,h3⟩=>⟨j,h1,h2,K8 h3<|up j⟩;have oth:∀j:Nat,j≠i->Jk w n j->Jk w' n j:=λj hj h=>by
  unfold Jk sT sD;rw[kA' j,A8 hj];exact h
 obtain h|h|⟨j,h,hd⟩:=h
 .exact .inl (cam h)
 .exact .inr (.inl<|ove h)
 .by_cases e:j=i
  .subst e;obtain⟨_,h1,h2⟩:=h;obtain c|c|c:=m.hold n h1 h2
   .exact .inr (.inr ⟨j,by unfold Jk sT sD;rw[kA' j,A5 rfl];exact⟨hi,c⟩,hd⟩)
   .have hw:=(atm (FZ ok hi) h1).2.1;rw[HN ok hi]at hw;exact .inr (.inl ⟨j,hi,hw,by unfold sT;rw[kA' j,A5 rfl];exact c⟩)
   .rcases lets c with h|h|⟨x,hx,hx2⟩
    .exact .inl (cam h)
    .exact .inr (.inl<|ove h)
    .exact .inr (.inr ⟨x,oth x (λe=>by subst e;omega) hx,J⟩)
  .exact .inr<|.inr ⟨j,oth j e h,hd⟩
def HvF.up{w w':AA}{f:Frame}(hs:∀n∈w.AY,n∈w'.AY)(hb:∀n∈w.AY,∀i,Bey w i n->Bey w' i n)(h:HvF w f):HvF w' f:=λe=>by
 obtain⟨n,h1,h2,h3,h4⟩:=h e;exact⟨n,hs n h1,h2,h3,hb n h1 _ h4⟩
def HfG.up{se se':List A3}{h:AE}(hs:∀n∈se,n∈se')(g:HfG se h):HfG se' h:=by
 obtain⟨n,h1,h2⟩:=g;exact⟨n,hs n h1,h2⟩
def RaN(w w':AA)(p:AL):Prop:=p∈w.AS\/(PcI (λn=>n∈w'.AY) p/\ ∀f,Cn (BA p.data)=(f,Y)->HvF w' f)
structure NQ (w w':AA) (i:Nat) (k':A7) (a:Act):Prop where
 hi:i<4
 m:Mvd (kA w.A9 i) k' a
 ek:w'.A9=w.A9.set i k'
 se:(w'.AY=w.AY/\ ∀n,a≠ .own n)\/ ∃n,a= .own n/\w'.AY=w.AY++[n]/\Ax n=Y
 go:(w'.got=w.got/\ ∀n,a≠ .eat n)\/ ∃n,a= .eat n/\w'.got=w.got++[n]
 tk:∀n,a= .take n->n∈w.AY
 lt:∀m,a= .lets m->∃n∈w.AY,n.fr=m.mf/\n.nu=m.mn/\Bey w i n
 ra:∀p∈w'.AS,RaN w w' p
 hf:∀h∈k'.AH,HfG w'.AY h
def NQ.bey{w w':AA}{i:Nat}{k':A7}{a:Act}(s:NQ w w' i k' a)(v:Inv w)(ok:B5 w){n:A3}(hn:n∈w.AY){d:Nat}
  (h:L3 w n\/Jv w n\/ ∃j:Nat,Jk w n j/\dsN n j<d):L3 w' n\/Jv w' n\/ ∃j:Nat,Jk w' n j/\dsN n j<d:=by
 refine auX ok s.hi s.m s.ek (λx hx=> ?_) (ok.s n hn) (λe=> ?_) h
 .rcases s.go with⟨e,h1⟩|⟨y,e1,e2⟩
  .rw[e];obtain hx|hx:=hx
   .exact hx
   .exact absurd hx (h1 x)
  .rw[e2,BM,CL];obtain hx|hx:=hx
   .exact .inl hx
   .rw[e1]at hx;cases hx;exact .inr rfl
 .obtain⟨x,h1,h2,h3,h4⟩:=s.lt _ e;have:=Ic v.sp h1 hn h2 h3;rw[← this];exact h4
def Inv.step{w w':AA}{i:Nat}{k':A7}{a:Act}(v:Inv w)(ok:B5 w)(s:NQ w w' i k' a):Inv w':=by
 have kl:=ok.kl;have hi:=s.hi;have m:=s.m;have kA':∀j,kA w'.A9 j=if j=i then k' else kA w.A9 j:=λj=>by rw[s.ek,GB J]
 have eT:sT w' i=stT k':=by unfold sT;rw[kA' i,A5 rfl]
 have eD:sD w' i=stD k':=by unfold sD;rw[kA' i,A5 rfl]
 have oT:∀j,j≠i->sT w' j=sT w j:=λj hj=>by unfold sT;rw[kA' j,A8 hj]
 have oD:∀j,j≠i->sD w' j=sD w j:=λj hj=>by unfold sD;rw[kA' j,A8 hj]
 have id':(stT<|kA w.A9 i).id=(i:Int):=HN ok hi;have ses:∀n∈w.AY,n∈w'.AY:=λn hn=>by
  obtain⟨e,_⟩|⟨x,_,e,_⟩:=s.se<;>rw[e]
  .exact hn
  .exact Bv _ hn
 have sen:∀n,n∈w'.AY->n∈w.AY\/a= .own n:=λn hn=>by
  obtain⟨e,_⟩|⟨x,e1,e,_⟩:=s.se<;>rw[e]at hn
  .exact .inl hn
  .rcases BM.1 hn with hn|hn
   .exact .inl hn
   .rw[CL.1 hn];exact .inr e1
 have azE:∀n,a= .own n->n∈w'.AY:=λn hn=>by
  obtain⟨_,e⟩|⟨x,e1,e,_⟩:=s.se
  .exact absurd hn (e n)
  .rw[e1]at hn;cases hn;rw[e];exact CP _<|Og _
 have aC:∀n,a.new n->n∈w'.AY:=λn hn=>by
  obtain hn|hn:=hn
  .exact azE n hn
  .exact ses n<|s.tk n hn
 have gos:∀n∈w.got,n∈w'.got:=λn hn=>by
  obtain⟨e,_⟩|⟨x,_,e⟩:=s.go<;>rw[e]
  .exact hn
  .exact Bv _ hn
 have acJ:∀n,a= .own n->n.fr=(i:Int)/\n.nu=(sT w i).nx/\(stT k').nx=(sT w i).nx+1:=λn hn=>by
  obtain⟨_,h⟩|⟨x,h1,h2,h3,h4⟩:=m.nx
  .exact absurd hn (h n)
  .rw[h1]at hn;cases hn;exact⟨h3.trans id',h2,h4⟩
 have nxu:∀j,(sT w j).nx<=(sT w' j).nx:=λj=>by
  by_cases e:j=i
  .subst e;rw[eT];obtain⟨h,_⟩|⟨_,_,_,_,h⟩:=m.nx<;>unfold sT<;>omega
  .rw[oT j e];exact Ct _
 have tiu:∀j,(sT w j).ti<=(sT w' j).ti:=λj=>by
  by_cases e:j=i
  .subst e;rw[eT];exact m.ti
  .rw[oT j e];exact Ct _
 have b0:∀n∈w.AY,∀j,Bey w j n->Bey w' j n:=λn hn j h=>s.bey v ok hn h;have ayh:∀n,a= .own n->∀x∈w.AY,Dif x n:=λn hn x hx c=>by
  obtain⟨h1,h2,_⟩:=acJ n hn;have:=v.nx x hx;rw[c.1,h1,Bc]at this;have:=c.2;omega
 have sp':w'.AY.Pairwise Dif:=by
  obtain⟨e,_⟩|⟨x,e1,e,_⟩:=s.se<;>rw[e]
  .exact v.sp
  .exact aaK v.sp<|ayh x e1
 have azL:∀n,a.new n->n.to=(i:Int)->∀g∈w.got,Dif g n:=λn hn ht g hg c=>by
  obtain⟨g1,g2⟩:=v.gs g hg;have e:g=n:=Ic sp' (ses g g1) (aC n hn) c.1 c.2;obtain⟨h1,h2,_⟩:=m.new n hn;subst e;rw[ht,Bc]at g2;obtain g2|⟨y,y1,y2,y3,_⟩:=g2
  .unfold sT at g2;omega
  .exact h2 y (((v.lo i hi).lf (ok.k i hi).1).mrk y y1) ⟨y2,y3⟩
 have acM:∀n,a.new n->L3 w' n\/Jv w' n\/ ∃j:Nat,Jk w' n j/\(n.to≠(i:Int)/\j=i):=λn hn=>by
  obtain⟨_,_,h⟩:=m.new n hn;rw[id']at h;split at h
  .rename_i ht;refine .inl<|.inr ?_;rw[ht,Bc,eT];exact h
  .rename_i ht;exact .inr<|.inr ⟨i,by unfold Jk;rw[eT,eD];exact⟨hi,h⟩,ht,rfl⟩
 have azt:∀n∈w'.AY,Ax n=Y:=λn hn=>by
  obtain⟨e,_⟩|⟨x,_,e,h⟩:=s.se<;>rw[e]at hn
  .exact ok.s n hn
  .rcases BM.1 hn with hn|hn
   .exact ok.s n hn
   .rw[CL.1 hn];exact h
 refine⟨λj hj=> ?_,λj hj n hn=> ?_,λj hj n hn=> ?_,λn hn=> ?_,sp', ?_,λg hg=> ?_,λn hn=> ?_,λj hj y hy=> ?_,λp hp=> ?_,λp hp f hu=> ?_,λj hj h hh=> ?_⟩
 .rw[kA' j];split
  .exact m.lo
  .exact v.lo j hj
 .by_cases e:j=i
  .subst e;rw[eD]at hn;obtain h|h:=m.held n hn
   .exact ses n (v.hs j hj n h)
   .exact aC n h
  .rw[oD j e]at hn;exact ses n (v.hs j hj n hn)
 .by_cases e:j=i
  .subst e;rw[eT]at hn;obtain⟨h,ne⟩|⟨h,ht⟩:=m.P9 n hn
   .obtain⟨h1,h2⟩:=v.bx j hj n h;refine⟨ses n h1,λg hg=> ?_⟩;obtain⟨e,_⟩|⟨x,e1,e⟩:=s.go<;>rw[e]at hg
    .exact h2 g hg
    .rcases BM.1 hg with hg|hg
     .exact h2 g hg
     .rw[CL.1 hg];intro c;have:=Ic v.sp ((v.bx j hj x (m.eat x e1).1).1) h1 c.1 c.2;rw[this]at e1;exact ne e1
   .rw[id']at ht;refine⟨aC n h,λg hg=> ?_⟩;obtain⟨e,_⟩|⟨x,e1,e⟩:=s.go
    .rw[e]at hg;exact azL n h ht g hg
    .rcases h with h|h<;>rw[h]at e1<;>cases e1
  .rw[oT j e]at hn;obtain⟨h1,h2⟩:=v.bx j hj n hn;refine⟨ses n h1,λg hg=> ?_⟩;obtain⟨e,_⟩|⟨x,e1,e2⟩:=s.go
   .rw[e]at hg;exact h2 g hg
   .rw[e2]at hg;obtain hg|hg:=BM.1 hg
    .exact h2 g hg
    .rw[CL.1 hg];intro c;have hx:=(m.eat x e1).1;have:=Ic v.sp ((v.bx i hi x hx).1) h1 c.1 c.2;subst this;have a1:=(mm (FZ ok hi) hx).1;have a2:=(mm (FZ ok hj) hn).1;rw[HN ok hi]at a1;rw[HN ok hj]at a2;omega
 .rcases sen n hn with h|h
  .exact Int.lt_of_lt_of_le (v.nx n h) (nxu _)
  .obtain⟨h1,h2,h3⟩:=acJ n h;rw[h1,Bc,eT];omega
 .rcases s.go with⟨e,_⟩|⟨x,e1,e⟩<;>rw[e]
  .exact v.gp
  .exact aaK v.gp (λg hg=>(v.bx i hi x (m.eat x e1).1).2 g hg)
 .have old:g∈w.got->g∈w'.AY/\(g.un<=(sT w' g.to.toNat).ti\/ ∃m∈(sD w' g.to.toNat).marks,m.mf=g.fr/\m.mn=g.nu/\m.mu=g.un):=λhg=>by
   obtain⟨h1,h2⟩:=v.gs g hg;refine⟨ses g h1, ?_⟩;obtain h2|⟨y,y1,y2,y3,y4⟩:=h2
   .exact .inl (K8 h2<|tiu _)
   .by_cases e:g.to.toNat=i
    .rw[e]at y1 ⊢;rw[eT,eD];obtain c|c:=m.mks y y1
     .exact .inr ⟨y,c,y2,y3,y4⟩
     .exact .inl J
    .rw[oD _ e];exact .inr ⟨y,y1,y2,y3,y4⟩
  obtain⟨e,_⟩|⟨x,e1,e⟩:=s.go<;>rw[e]at hg
  .exact old hg
  .rcases BM.1 hg with hg|hg
   .exact old hg
   .rw[CL.1 hg];obtain⟨hx,hm⟩:=m.eat x e1;obtain⟨b1,b2⟩:=mm (FZ ok hi) hx;rw[HN ok hi]at b1;refine⟨ses x (v.bx i hi x hx).1, ?_⟩;rw[b1,Bc,eT,eD];obtain b2|⟨y,y1,y2,y3⟩:=b2
    .exact .inl (K8 b2 m.ti)
    .obtain⟨z,z1,z2,_⟩:=v.mrk i hi y y1;have:z=x:=Ic v.sp z1 (v.bx i hi x hx).1 (by rw[← y2,z2]) (by rw[← y3,z2]);exact .inr ⟨y,hm y y1,y2,y3,by rw[z2,this]⟩
 .rcases sen n hn with h|h
  .rcases v.cu n h with c|c|⟨j,c⟩
   .rcases s.bey v ok h (d:=0) (.inl c) with c|c|⟨j,c,_⟩
    .exact .inl c
    .exact .inr (.inl c)
    .exact .inr (.inr ⟨j,c⟩)
   .rcases s.bey v ok h (d:=0) (.inr<|.inl c) with c|c|⟨j,c,_⟩
    .exact .inl c
    .exact .inr (.inl c)
    .exact .inr (.inr ⟨j,c⟩)
   .rcases s.bey v ok h (.inr<|.inr ⟨j,c,Od _⟩) with c|c|⟨j,c,_⟩
    .exact .inl c
    .exact .inr (.inl c)
    .exact .inr (.inr ⟨j,c⟩)
  .rcases acM n (.inl h) with c|c|⟨j,c,_⟩
   .exact .inl c
   .exact .inr (.inl c)
   .exact .inr (.inr ⟨j,c⟩)
 .have old:∀j,j<4->y∈(sT w j).marks->∃n∈w'.AY,y=⟨n.fr,n.nu,n.un⟩/\Bey w' j n:=λj hj hy=>by
   obtain⟨n,h1,h2,h3⟩:=v.mrk j hj y hy;exact⟨n,ses n h1,h2,b0 n h1 _ h3⟩
  by_cases e:j=i
  .subst e;rw[eT]at hy;obtain h|h|⟨n,h,ht,rfl⟩:=m.mrk y hy
   .exact old j hj h
   .obtain⟨n,h1,h2,h3,h4⟩:=s.lt y h;obtain⟨x,x1,x2⟩:=m.lets y h;have:x=n:=Ic v.sp (v.hs j hj x<|((v.lo j hj).lf (ok.k j hj).1).held x x1) h1 (by rw[h2,x2]) (by rw[h3,x2]);subst this;exact⟨x,ses x h1,x2,b0 x h1 _ h4⟩
   .refine⟨n,aC n h,rfl, ?_⟩;rw[id']at ht;obtain c|c|⟨_,_,c,_⟩:=acM n h
    .exact .inl c
    .exact .inr (.inl c)
    .exact absurd ht c
  .rw[oT j e]at hy;exact old j hj hy
 .rcases s.ra p hp with h|h
  .exact(v.ra p h).mono ses
  .exact h.1
 .rcases s.ra p hp with h|h
  .exact(v.hv p h f hu).up ses b0
  .exact h.2 f hu
 .rw[kA' j]at hh;split at hh
  .exact s.hf h hh
  .exact(v.hf j hj h hh).up ses
def aDM{w w':AA}{f:Frame}(h:Bx f=Y->NL (λn=>n∈w'.AY) f/\HvF w' f):RaN w w' (pcF f):=by
 refine .inr ⟨PcI.send λe=>(h e).1,λg hg=> ?_⟩;have hg:Cn (BA<|BH<|Cb f)=(g,Y):=hg;obtain e|e:=tf (Bx f)
 .rw[Nt<|O3 f,WR e]at hg;rw[← (IH hg).1];exact(h e).2
 .unfold Cb at hg;rw[e,A4]at hg;have:=aAs;rw[hg]at this;cases this
def Zh(e:Event)(w w':AA):Prop:=∃i k' a,NQ w w' i k' a/\((∃m,a= .lets m)->e.ki=4)/\((∃n,a= .own n)->e.ki=1)
def Pd{e:Event}{w w':AA}(v:Inv w)(ok:B5 w)(ek:w'.A9=w.A9)(es:w'.AY=w.AY)(eg:w'.got=w.got)(hr:∀p∈w'.AS,RaN w w' p):Zh e w w':=
 ⟨0,kA w.A9 0,.non,⟨J,ON (ok.k 0 J).1<|v.lo 0 J,by rw[ek,Kg],.inl ⟨es,λ_ e=>by cases e⟩,.inl ⟨eg,λ_ e=>by cases e⟩,
  λ_ e=>(by cases e),λ_ e=>(by cases e),hr,λh hh=>(by rw[es];exact v.hf 0 J h hh)⟩,fun⟨_,e⟩=>(by cases e),fun⟨_,e⟩=>(by cases e)⟩
def Le{e:Event}{w:AA}(v:Inv w)(ok:B5 w):Zh e w w:=Pd v ok rfl rfl rfl λ_ h=> .inl h
def aqn{a t:Int}(h:isN (Br a t)=Y)(n:A3)(ht:n.to=t):dsN n (Br a t)<dsN n a:=by
 have h0:=F6 h;revert h0;unfold Br dsN;split
 .omega
 .rename_i h1;intro _;simp only[C1,CE,not_or,Bool.not_eq_false,decide_eq_true_eq]at h1;have:=h1.2.2;split<;>omega
def apv{f:Frame}(h:Bx f=Y)(h1:f.ki=1){n:A3}(ht:f.to=n.to):dsN n f.dst<dsN n f.src:=by
 obtain⟨_,r2,_,_,_,_,r7⟩:=OB h;unfold Jl at r7;rw[A5<|AR h1]at r7;simp only[AD,decide_eq_true_eq]at r7;have e:=r7.2.2.2;rw[e]at r2 ⊢;exact aqn r2 n ht.symm
def aus{got:List AN}{mix:Int}{da:A1}{m:AN}(h:m∈Cr got mix da):m∈got\/m=⟨mix,da⟩:=by
 unfold Cr at h;obtain h|h:=BM.1 h
 .left;split at h
  .exact(FP.1<|Kq h).1
  .exact(FP.1 h).1
 .exact .inr<|CL.1 h
def aac{w:AA}{hv:List AE}{f:Frame}{n:A3}(g:∀h∈hv,HfG w.AY h)(hn:n∈w.AY)(h1:f.fr=n.fr)(h2:f.nu=n.nu)(h3:f.to=n.to)(h4:f.un=n.un)(h5:f.sz=n.tx.size):
  (∀h∈(Ap hv f).1,HfG w.AY h)/\(hA (Ap hv f).1 (Ap hv f).2).fr=f.fr/\(hA (Ap hv f).1 (Ap hv f).2).nu=f.nu:=by
 obtain⟨i,e,hi,e1,e2,_⟩|⟨_,l,sub,e⟩:=jy hv f
 .rw[e];exact⟨g,e1,e2⟩
 .rw[e];refine⟨λh hh=> ?_,by rw[Xz],by rw[Xz]⟩;obtain hh|hh:=BM.1 hh
  .exact g h (sub.subset hh)
  .rw[CL.1 hh];exact⟨n,hn,h1,h2,h3,h4,h5,λm hm=>by cases hm⟩
def nO{l:List AE}{i:Nat}(h:i<l.length):hA l i∈l:=by
 rw[I5 h];exact Cd h
def abG{w:AA}(v:Inv w){hv:List AE}{i:Nat}(hi:i<hv.length){f:Frame}{n:A3}(g:∀h∈hv,HfG w.AY h)(hn:n∈w.AY)(h1:f.fr=n.fr)(h2:f.nu=n.nu)(h6:f.da=GG n.tx f.mix)
  (e1:(hA hv i).fr=f.fr)(e2:(hA hv i).nu=f.nu):(∀h∈Cz hv i f,HfG w.AY h)/\Ow n.tx (Cr (hA hv i).got f.mix f.da):=by
 obtain⟨x,x1,x2,x3,x4,x5,x6,x7⟩:=g _<|nO hi;have e:x=n:=Ic v.sp x1 hn (by rw[← x2,e1,h1]) (by rw[← x3,e2,h2]);subst e;have ht:Ow x.tx (Cr (hA hv i).got f.mix f.da):=λm hm fit=>by
  obtain c|c:=aus hm
  .exact x7 m c fit
  .rw[c];exact h6
 refine⟨λh hh=> ?_,ht⟩;unfold Cz at hh;obtain c|c:=TK hh
 .exact g h c
 .rw[c];exact⟨x,x1,x2,x3,x4,x5,x6,ht⟩
def axh{w w':AA}(hg:w'.got=w.got){n:A3}{i:Int}(hT:∀j,sT w' j=sT w j)(hD:∀j,sD w' j=sD w j\/sD w' j=sT w j)(h:Bey w i n):Bey w' i n:=by
 obtain h|⟨j,h1,h2,h3⟩|⟨j,⟨h1,h2,h3⟩,h4⟩:=h
 .exact .inl (by unfold L3;rw[hg,hT];exact h)
 .exact .inr (.inl ⟨j,h1,h2,by rw[hT];exact h3⟩)
 .refine .inr (.inr ⟨j,⟨h1,by rw[hT];exact h2, ?_⟩,h4⟩);obtain e|e:=hD j<;>rw[e]<;>assumption
def Mvd.ofH{k k':A7}{hv:List AE}{a:Act}(m:Mvd (GZ k hv) k' a):Mvd k k' a:=⟨m.lo,m.id,m.ti,m.nx,m.hold,m.held,m.box,m.P9,m.mrk,m.mks,m.new,m.eat,m.lets⟩
def atn{w:AA}(v:Inv w)(ok:B5 w){i:Nat}(hi:i<4){f:Frame}(hf:Bx f=Y)(hd:f.dst=(i:Int))(g:NL (λn=>n∈w.AY) f)(hv:HvF w f){ra:List AL}(hra:∀p∈ra,p∈w.AS):
  ∃a,NQ w ⟨w.ti,w.A9.set i (CB (kA w.A9 i) f).1,w.Ao,Bz ra (CB (kA w.A9 i) f).2,w.AY,w.got⟩ i (CB (kA w.A9 i) f).1 a/\ ∀n,a≠ .own n:=by
 have hok:=(ok.k i hi).1;have hid:=(ok.k i hi).2;have kl:=ok.kl;have lo:=v.lo i hi;have mkS:∀(k':A7) (fs:List Frame) (a:Act),Mvd (kA w.A9 i) k' a->(∀n,a≠ .own n)->(∀n,a≠ .eat n)->(∀n,a= .take n->n∈w.AY)->(∀m,a= .lets m->∃n∈w.AY,n.fr=m.mf/\n.nu=m.mn/\Bey w i n)->(∀h∈k'.AH,HfG w.AY h)->
   (∀x∈fs,NL (λn=>n∈w.AY) x/\HvF ⟨w.ti,w.A9.set i k',w.Ao,Bz ra fs,w.AY,w.got⟩ x)->∃a,NQ w ⟨w.ti,w.A9.set i k',w.Ao,Bz ra fs,w.AY,w.got⟩ i k' a/\ ∀n,a≠ .own n:=λk' fs a m n1 n2 n3 n4 n5 n6=>
  ⟨a,⟨hi,m,rfl,.inl ⟨rfl,n1⟩,.inl ⟨rfl,n2⟩,n3,n4,λp hp=>by
   obtain hp|⟨x,hx,rfl⟩:=aDC hp
   .exact .inl (hra p hp)
   .exact aDM λ_=>n6 x hx,n5⟩,n1⟩
 have stay:∃a,NQ w ⟨w.ti,w.A9.set i<|kA w.A9 i,w.Ao,Bz ra [],w.AY,w.got⟩ i (kA w.A9 i) a/\ ∀n,a≠ .own n:=mkS _ _ .non (ON hok lo) (λ_ e=>by cases e) (λ_ e=>by cases e) (λ_ e=>by cases e) (λ_ e=>by cases e) (v.hf i hi) (λx hx=>by cases hx);have non:∀(k':A7) (fs:List Frame),Mvd (kA w.A9 i) k' .non->(∀h∈k'.AH,HfG w.AY h)->(∀x∈fs,NL (λn=>n∈w.AY) x/\HvF ⟨w.ti,w.A9.set i k',w.Ao,Bz ra fs,w.AY,w.got⟩ x)->∃a,NQ w ⟨w.ti,w.A9.set i k',w.Ao,Bz ra fs,w.AY,w.got⟩ i k' a/\ ∀n,a≠ .own n:=
  λk' fs m h1 h2=>mkS k' fs .non m (λ_ e=>by cases e) (λ_ e=>by cases e) (λ_ e=>by cases e) (λ_ e=>by cases e) h1 h2
 rw[Xk hok];unfold HU;split
 .rename_i hc;simp only[AD]at hc;split
  .rename_i h1;have h1:f.ki=1:=Bd h1;obtain⟨n,hn,nok,g1,g2,g3,g4,g5,g6⟩:=g h1;have hds:=apv hf h1 g3;rw[hd]at hds;unfold E8;split
   .exact non _ _ (ON hok lo) (v.hf i hi) (λx hx=>by
     rw[CL.1 hx];exact⟨λe=>(by cases e),λe=>(by cases e)⟩)
   split
   .rename_i hh;obtain⟨_,a1,a2,a3⟩:=YB hok;refine non _ _ (Pp hok lo a1 a3<|.inr a2) (v.hf i hi) (λx hx=> ?_);rw[CL.1 hx];refine⟨λe=>(by cases e),λ_=>⟨n,hn,g1.symm,g2.symm, ?_⟩⟩;obtain hh|hh:=hh
    .obtain⟨j0,_,j2,j3⟩:=FG hh;have hm:=I3 j0;have hs:=v.hs i hi _<|(lo.lf hok).held _ hm;have e:=Ic v.sp hs hn (by rw[j2,g1]) (by rw[j3,g2]);rw[e]at hm;refine .inr (.inr ⟨i,⟨hi, ?_, ?_⟩,hds⟩)
     .show n∈(stT<|kA (w.A9.set i _) i).held;rw[GB J,A5 rfl,a3];exact hm
     .show n∈(stD<|kA (w.A9.set i _) i).held;rw[GB J,A5 rfl,a2];exact hm
    .obtain⟨j0,_,j2,j3⟩:=Xw hh;have hm:mA (stT<|kA w.A9 i).marks (Bo (stT<|kA w.A9 i).marks f.fr f.nu).toNat∈(stT<|kA w.A9 i).marks:=by
      rw[mA,B9,Av j0];exact Cd j0
     obtain⟨z,z1,z2,z3⟩:=v.mrk i hi _ hm;have e:=Ic v.sp z1 hn (by rw[← g1,← j2,z2]) (by rw[← g2,← j3,z2]);subst e;have z4:=axh (w:=w) (w':=⟨w.ti,w.A9.set i<|foM<|kA w.A9 i,w.Ao,Bz ra [Df 2 f],w.AY,w.got⟩) rfl (n:=z) (i:=(i:Int)) (λj=>by
       show stT (kA (w.A9.set i _) j)=_;rw[GB J];split
       .rename_i e;rw[e,a3]
       .rfl) (λj=>by
       show stD (kA (w.A9.set i _) j)=_\/stD (kA (w.A9.set i _) j)=_;rw[GB J];split
       .rename_i e;rw[e,a2];exact .inr rfl
       .exact .inl rfl) z3
     obtain c|c|⟨j,c1,c2⟩:=z4
     .exact .inl c
     .exact .inr (.inl c)
     .exact .inr<|.inr ⟨j,c1,Yo c2 hds⟩
   split
   .exact stay
   .obtain⟨p1,p2,p3⟩:=aac (v.hf i hi) hn g1 g2 g3 g4 g5;have plt:=OH (hv:=(kA w.A9 i).AH) (f:=f);obtain⟨q1,q2⟩:=abG v plt p1 hn g1 g2 g6 p2 p3;have mH:∀hv,Mvd (kA w.A9 i) (GZ (kA w.A9 i) hv) .non:=λhv=>Pp hok lo lo rfl (.inl rfl);unfold Jx;split
    .split
     .rename_i ht;rw[g5]at ht;have ht:=aDY (Me nok) q2 ht;have e:(⟨f.fr,f.nu,f.to,f.un,(F7 f.sz<|Cr (hA (Ap (kA w.A9 i).AH f).1 (Ap (kA w.A9 i).AH f).2).got f.mix f.da).1⟩:A3)=n:=by
       rw[g5,ht,g1,g2,g3,g4]
      rw[e];have hdr:=(mz hok hc.1 hc.2.1 h1).ok;have hh:∀h∈FB (Cz (Ap (kA w.A9 i).AH f).1 (Ap (kA w.A9 i).AH f).2 f) (Ap (kA w.A9 i).AH f).2,HfG w.AY h:=λh hh=>q1 h<|awU hh;unfold Kc;split
      .rename_i hw;rw[AD]at hw;have mt:=(ZI hdr (show LO (GZ (kA w.A9 i) _) from lo) hw.2 (a:= .take n) (λo ho=>(aEj (C8 hdr).kok nok ho).1) λ_ e=>by cases e).2;have mt:=mt.ofH;refine mkS _ _ (.take n) mt (λ_ e=>by cases e) (λ_ e=>by cases e) (λx e=>by cases e;exact hn) (λ_ e=>by cases e) (λh hx=>hh h (by rw[T6]at hx;exact hx)) (λx hx=> ?_);rw[CL.1 hx];refine⟨λe=>(by cases e),λ_=>⟨n,hn,g1.symm,g2.symm, ?_⟩⟩;obtain⟨_,_,hnw⟩:=mt.new n<|.inr rfl;rw[HN ok hi]at hnw;split at hnw
       .rename_i hto;refine .inl<|.inr ?_;show n∈(stT<|kA (w.A9.set i _) n.to.toNat).inbox;rw[hto,Bc,GB J,A5 rfl];exact hnw
       .refine .inr (.inr ⟨i,⟨hi, ?_, ?_⟩,hds⟩)
        .show n∈(stT<|kA (w.A9.set i _) i).held;rw[GB J,A5 rfl];exact hnw.1
        .show n∈(stD<|kA (w.A9.set i _) i).held;rw[GB J,A5 rfl];exact hnw.2
      .exact non _ _ (mH _) hh (λx hx=>by cases hx)
     .exact non _ _ (mH _) q1 (λx hx=>by cases hx)
    .exact non _ _ (mH _) p1 (λx hx=>by cases hx)
  .split
   .rename_i h2;rw[AD]at h2;have h2:f.ki=2:=Bd h2.1;obtain⟨r1,r2,r3⟩:=kF hf;obtain e|e:=tf (wrR (kA w.A9 i) (CY Bw f.fr f.nu f.un) A0).2
    .refine mkS _ _ _ (ava hok lo r1 r2 r3 e) (λ_ e=>by cases e) (λ_ e=>by cases e) (λ_ e=>by cases e) (λm em=> ?_) (λh hx=>v.hf i hi h (by rw[T6]at hx;exact hx)) (λx hx=>by cases hx);cases em;obtain⟨n,n1,n2,n3,n4⟩:=hv h2;rw[hd]at n4;exact⟨n,n1,n2,n3,n4⟩
    .have:=Q0 e;simp only[this];exact stay
   .exact stay
 .exact stay
def awq{k:A7}{fr nu mix:Int}(hb:(EC k fr nu mix).2=Y):(EC k fr nu mix).1.ki=1:=by
 unfold EC at hb ⊢;split at hb
 .rename_i hc;rw[A5 hc]
 .cases hb
def aud{w:AA}(v:Inv w)(ok:B5 w)(e:Event):Zh e w (doM w e).1:=by
 have kl:=ok.kl;have old:∀ {w':AA} {p:AL},p∈w.AS->RaN w w' p:=λh=> .inl h;unfold doM;split
 .rename_i hk;unfold EZ;split
  .rename_i h2;have h2:=Aa.1 h2;have hlt:e.wo.toNat<w.AS.length:=J
   have hpc:=v.ra _<|aav hlt;split
   .split
    .rename_i h3;simp only[AD,CE]at h3;refine Pd v ok rfl rfl rfl (λp hp=> ?_);obtain h4|h4:=TK hp
     .exact old h4
     .rw[h4];have:=hpc.ayY h3.1 h3.2.1 h3.2.2;refine .inr ⟨this,λf hu=> ?_⟩;have hb:=this.bad rfl;rw[hu]at hb;cases hb
    .exact Le v ok
   .split
    .exact Pd v ok rfl rfl rfl (λp hp=>old<|aEL hp)
    .split
     .have hra:∀p∈(if e.kp=0 then JA w.AS e.wo.toNat else w.AS),p∈w.AS:=by
       intro p hp;split at hp
       .exact aEL hp
       .exact hp
      unfold Eb;split
      .rename_i hc;simp only[AD,decide_eq_true_eq]at hc;obtain⟨f,hu,hfo,_,hd,hg,_⟩:=hpc.frame hc.1;have hv:=v.hv _ (aav hlt) f hu;obtain⟨_,⟨d0,d1⟩,_⟩:=MY<|Pm ok hlt;rw[hu];obtain⟨a,s,na⟩:=atn v ok (i:=(pA w.AS e.wo.toNat).dst.toNat) J hfo (by rw[← hd];omega) hg hv hra;exact⟨_,_,a,s,λ_=>by omega,fun⟨n,e⟩=>absurd e<|na n⟩
      .exact Pd v ok rfl rfl rfl (λp hp=>old<|hra p hp)
     .exact Le v ok
  .exact Le v ok
 split
 .unfold Es;split
  .exact Pd v ok rfl rfl rfl (λp hp=>old hp)
  .exact Le v ok
 split
 .rename_i ha;have ha:=F6 ha;have hi:e.at_.toNat<4:=J
  have hok:=(ok.k _ hi).1;have lo:=v.lo _ hi;have one:∀ {k':A7},Mvd (kA w.A9 e.at_.toNat) k' .non->(∀h∈k'.AH,h∈(kA w.A9 e.at_.toNat).AH)->Zh e w (G3 w e.at_.toNat k'):=λm hh=>
   ⟨_,_,_,⟨hi,m,rfl,.inl ⟨rfl,λ_ e=>(by cases e)⟩,.inl ⟨rfl,λ_ e=>(by cases e)⟩,λ_ e=>(by cases e),λ_ e=>(by cases e),λp hp=>old hp,λh hx=>v.hf _ hi h<|hh h hx⟩,fun⟨_,e⟩=>(by cases e),fun⟨_,e⟩=>(by cases e)⟩
  unfold GW;split
  .rename_i h1;unfold N8;split
   .exact Le v ok
   .split
    .exact Le v ok
    .rename_i h0;have hid:=(ok.k _ hi).2;have hn:=aBp (k:=kA w.A9 e.at_.toNat) h0;have m:=avZ hok lo (tt:=e.to) (un:=e.un) (tx:=e.tx) h0;have eid:(kA w.A9 e.at_.toNat).id=e.at_:=J
     rw[eid]at hn m;refine⟨_,_,_,⟨hi,m,rfl,.inr ⟨_,rfl,rfl,hn⟩,.inl ⟨rfl,λ_ e=>(by cases e)⟩,λ_ e=>(by cases e),λ_ e=>(by cases e),λp hp=>old hp,λh hx=> ?_⟩,fun⟨_,e⟩=>(by cases e),λ_=>h1⟩;rw[awj]at hx;exact(v.hf _ hi h hx).up (λn hn=>Bv _ hn)
  .split
   .exact one (auP hok lo) (λh hx=>by rw[avl]at hx;exact hx)
   .split
    .split
     .rename_i hb;refine Pd v ok rfl rfl rfl (λp hp=> ?_);obtain hp|⟨x,hx,rfl⟩:=aDC hp
      .exact old hp
      .rw[CL.1 hx];exact aDM λ_=>⟨avc hok (λn hn=>v.hs _ hi n<|(lo.lf hok).held n hn) hb,λe=>by rw[awq hb]at e;cases e⟩
     .exact Le v ok
    .split
     .exact one (auT hok lo _).2 (λh hx=>by cases hx)
     .split
      .exact one (auQ hok lo) (λh hx=>hx)
      .split
       .unfold NA;split
        .rename_i hc;rw[AD]at hc;exact⟨_,_,_,⟨hi,avb hok lo hc.1,rfl,.inl ⟨rfl,λ_ e=>(by cases e)⟩,.inr ⟨_,rfl,rfl⟩,λ_ e=>(by cases e),λ_ e=>(by cases e),λp hp=>old hp,λh hx=>v.hf _ hi h (by rw[awY]at hx;exact hx)⟩,fun⟨_,e⟩=>(by cases e),fun⟨_,e⟩=>(by cases e)⟩
        .exact Le v ok
       .split
        .exact one (auR hok lo) (λh hx=>by rw[avP]at hx;exact hx)
        .split
         .exact one (asf hok lo) (λh hx=>by rw[av0]at hx;exact hx)
         .exact Le v ok
 .exact Le v ok
def Inv.doM{w:AA}(v:Inv w)(ok:B5 w)(e:Event):Inv (doM w e).1:=by
 obtain⟨_,_,_,s,_⟩:=aud v ok e;exact v.step ok s
def Inv.tick{w:AA}(v:Inv w)(ok:B5 w)(b:Bool):Inv (tick w b):=by
 unfold Go.VS.tick;cases b
 .exact v
 .obtain⟨_,_,_,s,_⟩:=Pd (e:=⟨0,0,0,0,0,0,0,0,0,noB⟩) (w':=⟨w64<|w.ti+1,w.A9,w.Ao,w.AS,w.AY,w.got⟩) v ok rfl rfl rfl (λp hp=> .inl hp);exact v.step ok s
def Inv.sim{w:AA}(v:Inv w)(ok:B5 w)(e:Event):Inv (Cj w e):=(v.doM ok e).tick (n7 ok e) _
def ZC{i:Nat}(hi:i<4):stT (kA rv0.A9 i)=⟨(i:Int),0,1,[],[],[]⟩/\LO (kA rv0.A9 i)/\stD (kA rv0.A9 i)=⟨(i:Int),0,1,[],[],[]⟩:=by
 have hk:=(Zm.k i hi).1;have e:=ZU hi;have hf:(kA rv0.A9 i).fo=((kA rv0.A9 i).log.size:Int):=by rw[e];rfl
 have h1:=Sl hk hf;have h2:stT (kA rv0.A9 i)=⟨(i:Int),0,1,[],[],[]⟩:=by
  have l:C6 (kA rv0.A9 i).log (kA rv0.A9 i).fo [] []:=by
   rw[e];exact⟨λr hr=>(by cases hr),(by show noB.size<=2400;decide),rfl,rfl⟩
  have:=(El hk).st;rw[l.state]at this;rw[e]at this;unfold CZ kp0 at this;rw[A5<|FY hi]at this;rw[e];exact(Eh this).symm
 exact⟨h2,h1.1,h1.2.trans h2⟩
def nV:Inv rv0:=by
 refine⟨λi hi=>(ZC hi).2.1,λi hi n hn=> ?_,λi hi n hn=> ?_,λn hn=>(by cases hn),.nil,.nil,λg hg=>(by cases hg),λn hn=>(by cases hn),λi hi m hm=> ?_,λp hp=>(by cases hp),λp hp=>(by cases hp),λi hi h hh=> ?_⟩
 .unfold sD at hn;rw[(ZC hi).2.2]at hn;cases hn
 .unfold sT at hn;rw[(ZC hi).1]at hn;cases hn
 .unfold sT at hm;rw[(ZC hi).1]at hm;cases hm
 .rw[ZU hi]at hh;cases hh
def Ab(w:AA)(e:Event):AA:=(Ev w e).1
def Dm(w:AA)(l:List Event):AA:=l.foldl Ab w
def HO(l:List Event):AA:=if 2000<l.length then rv0 else Dm rv0 l
def YT:Az rv0=Y:=aaJ Zm aE9<|by decide
def aCE{P:AA->Prop}{Q:Event->Prop}(hs:∀w e,Az w=Y->P w->Q e->(doM w e).2=Y->P (Cj w e)):∀(l:List Event) {w:AA},Az w=Y->P w->(∀e∈l,Q e)->Az (Dm w l)=Y/\P (Dm w l)
 | [],w,h,p,_=>⟨h,p⟩
 | e::l,w,h,p,q=>by
  have hq:=q e<|.head _;refine aCE hs l (w:=Ab w e) ?_ ?_ λx hx=>q x<|.tail _ hx
  all_goals
   unfold Ab;obtain⟨h0,_⟩|⟨_,h0⟩|⟨_,h1,h2,h0⟩:=WC w e
   .rw[h]at h0;cases h0
   .rw[h0];assumption
   .rw[h0]
    first|exact aDB h h1 h2|exact hs w e h p hq h2
def aCF(w:AA)(l m:List Event):Dm w (l++m)=Dm (Dm w l) m:=G1
def jY{l:List Event}{w:AA}(h:Az w=Y)(v:Inv w):Az (Dm w l)=Y/\Inv (Dm w l):=
 aCE (Q:=λ_=>True) (λw e h v _ _=>v.sim (F5 h).1 e) l h v (λ_ _=>trivial)
def aCD(l:List Event):Az (HO l)=Y/\Inv (HO l):=by
 unfold HO;split
 .exact⟨YT,nV⟩
 .exact jY YT nV
end Go.VS
end
