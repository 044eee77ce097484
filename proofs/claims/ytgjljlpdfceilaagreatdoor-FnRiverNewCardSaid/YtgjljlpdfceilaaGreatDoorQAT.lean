/- Part 9. -/
import Derived.Test.YtgjljlpdfceilaaGreatDoorQAR
open BitVec renaming eq_of_toNat_eq->l7,ofInt->FH,toNat_ofInt->QQ
open Bool renaming and_eq_true->AD,and_false->BY,and_self->EZ,and_true->Kr,false->A0,false_and->AM,false_ne_true->CM,false_or->Bq,not_eq_true'->CE,not_eq_true->GL,not_false->AG,not_true->AA,or_eq_false_iff->Mv,or_eq_true->C0,or_false->EY,or_self->GM,or_true->DN,true->Y,true_and->AR,true_or->Bt
open ByteArray renaming size_extract->aBM
open Decidable renaming decide->U
open Eq renaming refl->Hd,trans->L3
open Go.Lib renaming itoa->B2
open Int renaming eq_ofNat_of_zero_le->HD,le_refl->D0,le_trans->Ks,mul_comm->QK,mul_le_mul_of_nonneg_right->YV,mul_nonneg->Yd,not_lt->QY,tdiv->Ay,tdiv_eq_ediv_of_nonneg->HC,tdiv_nonneg->lS,tmod->BJ,tmod_eq_emod_of_nonneg->Kq,tmod_lt_of_pos->QI,tmod_nonneg->QR,toNat->AK,toNat_natCast->Bf,toNat_of_nonneg->TJ
open List renaming all_cons->Ok,all_eq_true->DM,append_assoc->C3,append_nil->CK,drop->Bo,drop_append_of_le_length->TS,drop_drop->Il,drop_sublist->QT,drop_zero->Io,eq_nil_of_length_eq_zero->Du,ext_getElem?->lJ,filter_append->Oi,filter_cons->K9,filter_nil->Yh,foldl_append->G3,foldl_cons->Dr,getD_eq_getElem?_getD->B8,getElem?_append_right->F1,getElem?_eq_getElem->Au,getElem?_eq_none->Hc,getElem?_map->D5,getElem?_range->Gh,getElem?_replicate->YQ,getElem?_set->Oj,getElem?_set_self->YS,getElem?_take->Gi,getElem_mem->Cg,getElem_of_mem->Ct,length->j8,length_append->Aq,length_cons->Bl,length_drop->EI,length_filter_le->Ij,length_map->DL,length_nil->CR,length_set->GP,length_singleton->JJ,length_take->Dg,map_append->Ek,map_congr_left->Gg,map_cons->DO,map_id->Yk,map_map->IE,map_nil->JM,mem_append->BL,mem_append_left->Bw,mem_append_right->CS,mem_cons->Bm,mem_cons_of_mem->Ai,mem_cons_self->Am,mem_filter->FQ,mem_iff_getElem->YO,mem_map->Bv,mem_of_mem_drop->Ku,mem_of_mem_take->I9,mem_or_eq_of_mem_set->TF,mem_range->Cs,mem_singleton->CN,mem_singleton_self->Od,nil_append->Eb,nodup_append->JR,pairwise_append->My,pairwise_iff_getElem->K5,pairwise_singleton->lQ,range->B7,range_succ->ID,replicate->BS,set->Bp,set_eq_of_length_le->lP,take->BR,take_add_one->JP,take_append_drop->JO,take_length->E4,take_of_length_le->K6,take_take->Yc
open List.Sublist renaming append->lG,refl->Ea
open List.cons renaming injEq->Lt
open Nat renaming add_zero->He,le_refl->Ar,le_trans->CP,lt_or_ge->GN,lt_or_gt_of_ne->TX,lt_succ_self->OX,lt_trans->Yb,lt_trichotomy->I6,min_eq_left->QM,not_lt_zero->lR,sub_zero->JN,zero_add->DZ,zero_le->Cz
open Option renaming bind_eq_some_iff->Ag,bind_some->A6,filter_eq_some_iff->Ii,getD_some->Df,isSome_some->Dt,map_some->QW,none->G,some->I
open Option.some renaming inj->Ei
open Or renaming inl->N9,inr->N8
open Prod.mk renaming inj->Hg,injEq->CL
set_option linter.all false
noncomputable section
namespace Go.VS
open Go
abbrev two(n:Int):List Int:=[w8 (w64<|Ay n 256),w8<|BJ n 256]
abbrev Qe(f:Frame):List Int:=[w8 f.ki,w8 f.src,w8 f.dst,w8 f.fr,w8 f.nu,w8 f.to,w8<|w64<|Ay f.un 256,w8<|BJ f.un 256]
def Ex(f:Frame):List Int:=if U (f.ki=1) then(Qe f++[w8 f.sz,w8<|w64<|Ay f.mix 256,w8<|BJ f.mix 256])++BA f.da else Qe f
def Ca(f:Frame):List Int:=if By f then Ex f++two (FD (Ex f) 0 0) else []
def fu{l:List Int}(n:Int)(hl:l.length<=1048576):Nh (l,n,())=I ((l++two n,()),()):=by
 unfold Nh;rw[A5<|BD o5]
def Xk(f:Frame):BOk (Ex f):=by
 unfold Ex;split
 .exact BOk.app (.cons _<|.cons _<|.cons _<|.cons _<|.cons _<|.cons _<|.cons _<|.cons _<|.cons _<|.cons _<|.cons _ .nil) (BOk.str _)
 .exact .cons _<|.cons _<|.cons _<|.cons _<|.cons _<|.cons _<|.cons _<|.cons _ .nil
def mG{f:Frame}(h:By f=Y)(hk:U (f.ki=1)=Y):f.da.size=4:=by
 unfold By Jl at h;simp only[AD]at h;have h:=h.2.2.2.2.2.2;rw[A5 hk]at h;simp only[AD]at h;have:=Bc h.2.2.1;omega
def X5{f:Frame}(h:By f=Y):(Ex f).length<=15:=by
 unfold Ex;split
 .rename_i hk;have:=mG h hk;simp[SL,Aw];omega
 .simp
def vC(f:Frame):PJ (tF f,())=I ((Ca f,()),()):=by
 unfold PJ Ca;simp only[yK,A6];obtain e|e:=tf (By f)
 .simp only[e,AA,A4,A2];have hl:=X5 e;have hj:∀ {X Ω:Type} (g:X->Option Ω) (y:X),BT g (I<|.inr y)=g y:=λ_ _=>rfl;have hs:=akM (Xk f) J;have key:∀l,l=Ex f->((Uz (l,())).bind λr4=>if Ab (l.length+(two r4.1.1).length) then(bM ((l++two r4.1.1),())).bind λr5=>I (r5.1,()) else G)=I ((Ex f++two (FD (Ex f) 0 0),()),()):=by
   rintro l rfl;simp only[hs,A6];rw[A5<|BD o5,ag1 o5];rfl
  obtain e1|e1:=tf (U<|f.ki=1)
  .have hd:=mG e e1;have hb:Ex f=(Qe f++[w8 f.sz,w8<|w64<|Ay f.mix 256,w8<|BJ f.mix 256])++BA f.da:=by unfold Ex;rw[A5 e1]
   rw[A5 e1,A5<|BD y9,A5<|BD (by simp[SL,Aw];omega),hj];exact key _ hb.symm
  .have hb:Ex f=Qe f:=by unfold Ex;rw[e1,A4]
   rw[A9 (by rw[e1];exact CM),hj];exact key _ hb.symm
 .simp only[e,AG,A2,A4]
def vK(f:Frame):PG (tF f,())=I ((Ca f,()),()):=by
 unfold PG Ca;simp only[xc,A6];obtain e|e:=tf (By f)
 .simp only[e,AA,A4,A2];have hl:=X5 e;have hs:=ajy (Xk f) J;have key:∀l,l=Ex f->((RW (l,())).bind λr6=>(Nh (l,r6.1)).bind λr7=>I (r7.1,()))=I ((Ex f++two (FD (Ex f) 0 0),()),()):=by
   rintro l rfl;simp only[hs,A6];rw[fu _ J];rfl
  rw[A5<|by rfl,fu _ y9];simp only[A6];obtain e1|e1:=tf (U<|f.ki=1)
  .have hd:=mG e e1;have hb:Ex f=(Qe f++[w8 f.sz,w8<|w64<|Ay f.mix 256,w8<|BJ f.mix 256])++BA f.da:=by unfold Ex;rw[A5 e1]
   rw[A5 e1,A5<|by rfl,fu _ y9];simp only[A6];rw[A5<|BD J,A5<|BD (by simp[SL,Aw];omega)];exact key _ (by rw[hb];rfl)
  .have hb:Ex f=Qe f:=by unfold Ex;rw[e1,A4]
   rw[A9 (by rw[e1];exact CM)];exact key _ (by rw[hb];rfl)
 .simp only[e,AG,A2,A4]
abbrev zF:Frame:=⟨0,0,0,0,0,0,0,0,0,noB⟩
abbrev r8(b:List Int)(i:Int):Int:= @rd Int aEt b i
def Fc(b:List Int):Frame:=
 if U ((j8 b:Int)=17) then⟨r8 b 0,r8 b 1,r8 b 2,r8 b 3,r8 b 4,r8 b 5,256 * r8 b 6+r8 b 7,r8 b 8,256 * r8 b 9+r8 b 10,BF<|Bo 11<|BR 15 b⟩
 else⟨r8 b 0,r8 b 1,r8 b 2,r8 b 3,r8 b 4,r8 b 5,256 * r8 b 6+r8 b 7,0,0,noB⟩
def Co(b:List Int):Frame×Bool:=
 if U ((j8 b:Int)=10)||decide ((j8 b:Int)=17) then(if U (BF (Ca<|Fc b)=BF b) then(Fc b,Y) else(zF,A0)) else(zF,A0)
def ac3{b:List Int}(h:BOk b)(i:Int):w64 (r8 b i)=r8 b i:=by
 have:0<=r8 b i/\r8 b i<=255:=h.rd i;exact Aa J J
def abC{b:List Int}(h:BOk b)(i j:Int):w64 (w64 (256 * r8 b i)+r8 b j)=256 * r8 b i+r8 b j:=by
 have h1:0<=r8 b i/\r8 b i<=255:=h.rd i;have h2:0<=r8 b j/\r8 b j<=255:=h.rd j;rw[Aa (n:=256 * r8 b i) J J,Aa J J]
def sZ{b:List Int}(h:BOk b):bB (b,())=I ((tF (Co b).1,(Co b).2,()),()):=by
 unfold bB Co;by_cases h1:b.length=10\/b.length=17
 .have hn:10<=b.length:=J
  have hI:∀i:Int,(0<=i/\i<10)->inb i b.length=Y:=λi hi=>by simp[inb];omega
  rw[A9 o5];dsimp only;rw[A5<|hI 0 J,A5<|hI 1 J,A5<|hI 2 J,A5<|hI 3 J,A5<|hI 4 J,A5<|hI 5 J,A5<|hI 6 J,A5<|hI 7 J];rw[A5 (show(U ((j8 b:Int)=10)||decide ((j8 b:Int)=17))=Y by simp;omega)];simp only[ac3 h,abC h];have fin:∀f:Frame,Fc b=f->((PJ (tF f,())).bind λr16=>if(!decide ((BF r16.1.1)=(BF b))) then I ((tF zF,A0,()),()) else I ((tF f,Y,()),()))=
    I ((tF (if U (BF (Ca<|Fc b)=BF b) then(Fc b,Y) else(zF,A0)).1,(if U (BF (Ca<|Fc b)=BF b) then(Fc b,Y) else(zF,A0)).2,()),()):=by
   rintro f rfl;simp only[vC,A6];obtain e|e:=tf (U<|BF (Ca<|Fc b)=BF b)<;>simp only[e,AA,AG,A2,A4]
  obtain e|e:=tf (U<|(j8 b:Int)=17)
  .have e17:b.length=17:=by have:=Bc e;omega
   have hJ:∀i:Int,(0<=i/\i<17)->inb i b.length=Y:=λi hi=>by simp[inb];omega
   rw[A5 e,A5<|hJ 8 J,A5<|hJ 9 J,A5<|hJ 10 J,A5 o5,Bd];refine fin ⟨r8 b 0,r8 b 1,r8 b 2,r8 b 3,r8 b 4,r8 b 5,256 * r8 b 6+r8 b 7,r8 b 8,256 * r8 b 9+r8 b 10,BF<|Bo 11<|BR 15 b⟩ ?_;unfold Fc;rw[A5 e]
  .rw[A9 (by rw[e];exact CM),Bd];refine fin ⟨r8 b 0,r8 b 1,r8 b 2,r8 b 3,r8 b 4,r8 b 5,256 * r8 b 6+r8 b 7,0,0,noB⟩ ?_;unfold Fc;rw[A9 (by rw[e];exact CM)]
 .rw[A5 o5,A9 o5]
def agK{b:List Int}(h:BOk b):bJ (b,())=I ((tF (Co b).1,(Co b).2,()),()):=by
 unfold bJ Co;by_cases h1:b.length=10\/b.length=17
 .have hn:10<=b.length:=J
  have hI:∀i:Int,(0<=i/\i<10)->inb i b.length=Y:=λi hi=>by simp[inb];omega
  rw[A9 o5];dsimp only;rw[A5<|hI 0 J,A5<|hI 1 J,A5<|hI 2 J,A5<|hI 3 J,A5<|hI 4 J,A5<|hI 5 J,A5<|hI 6 J,A5<|hI 7 J];rw[A5 (show(U ((j8 b:Int)=10)||decide ((j8 b:Int)=17))=Y by simp;omega)];simp only[ac3 h,QK _ 256,abC h];have fin:∀f:Frame,Fc b=f->((PG (tF f,())).bind λr16=>if(!decide ((BF r16.1.1)=(BF b))) then I ((tF zF,A0,()),()) else I ((tF f,Y,()),()))=
    I ((tF (if U (BF (Ca<|Fc b)=BF b) then(Fc b,Y) else(zF,A0)).1,(if U (BF (Ca<|Fc b)=BF b) then(Fc b,Y) else(zF,A0)).2,()),()):=by
   rintro f rfl;simp only[vK,A6];obtain e|e:=tf (U<|BF (Ca<|Fc b)=BF b)<;>simp only[e,AA,AG,A2,A4]
  obtain e|e:=tf (U<|(j8 b:Int)=17)
  .have e17:b.length=17:=by have:=Bc e;omega
   have hJ:∀i:Int,(0<=i/\i<17)->inb i b.length=Y:=λi hi=>by simp[inb];omega
   rw[A5<|AQ J,A5<|hJ 8 J,A5<|hJ 9 J,A5<|hJ 10 J,A5 o5,Bd];refine fin ⟨r8 b 0,r8 b 1,r8 b 2,r8 b 3,r8 b 4,r8 b 5,256 * r8 b 6+r8 b 7,r8 b 8,256 * r8 b 9+r8 b 10,BF<|Bo 11<|BR 15 b⟩ ?_;unfold Fc;rw[A5 e]
  .have e17:b.length≠17:=by have:=It e;omega
   rw[A9 o5,Bd];refine fin ⟨r8 b 0,r8 b 1,r8 b 2,r8 b 3,r8 b 4,r8 b 5,256 * r8 b 6+r8 b 7,0,0,noB⟩ ?_;unfold Fc;rw[A9 (by rw[e];exact CM)]
 .rw[A5 o5,A9 o5]
def aq2{b:List Int}(h:(Co b).2=Y):By (Co b).1=Y:=by
 unfold Co at h ⊢;split
 .rename_i h1;rw[A5 h1]at h;split
  .rename_i h2;have h2:=Bc h2;unfold Ca at h2;split at h2
   .assumption
   .have h3:(BF b).size=b.length:=by simp[BF,ByteArray.size]
    have h4:(BF ([]:List Int)).size=0:=rfl;rw[← h2,h4]at h3;rw[← h3]at h1;cases h1
  .rename_i h2;rw[A9 h2]at h;cases h
 .rename_i h1;rw[A9 h1]at h;cases h
def O8{n:Int}(h0:0<=n)(k:Nat)(hk:1<=k)(h:n<(10 ^ k:Nat)):(BX n).size<=k:=by
 show(B2 n).length<=k;exact Lc h0 k hk h
def ym{r:A1}(hr:r.size<=1048576):PY (r,())=I ((Cu r,()),()):=by
 have hd:=O8 (n:=(r.size:Int)) J 7 J J;unfold PY;simp only[J8 (n:=(r.size:Int)) J J,A6];rw[A5<|AQ (by rw[BP];simp;omega),A5<|AQ (by rw[Bz,BP];simp;omega),A5<|AQ (by rw[Bz,Bz,BP,BP];simp;omega)];rfl
def yd{r:A1}(hr:r.size<=1048576):PW (r,())=I ((Cu r,()),()):=by
 have hd:=O8 (n:=(r.size:Int)) J 7 J J;unfold PW;simp only[Fm (n:=(r.size:Int)) J J,A6];rw[A5<|AQ (by rw[BP];simp;omega),A5<|AQ (by rw[Bz,BP];simp;omega),A5<|AQ (by rw[Bz,Bz,BP,BP];simp;omega)];rfl
def X7{r:A1}(hr:r.size<=1048576):(Cu r).size<=r.size+9:=by
 have hd:=O8 (n:=(r.size:Int)) J 7 J J;unfold Cu;simp only[Bz,BP];simp;omega
def rOk(r:A1):Bool:=inB r.size 1 60
def iF(r:A1):fU (r,())=I ((rOk r,()),()):=rfl
def gx(r:A1):dF (r,())=I ((rOk r,()),()):=rfl
def JH(lg:A1)(fo:Int)(r:A1):(A1×Int)×Bool:=
 if DI lg fo then(if rOk r&&U (lg.size+(Cu r).size<=2400) then((lg++Cu r,fo),Y) else((lg,fo),A0)) else((noB,0),A0)
def aat{lg st:A1}{fo:Int}(b:Bool)(hl:lg.size<=1048576)(hs:st.size<=1048585):
  (if((!b)||(U<|2400<(w64<|(lg.size:Int)+(st.size:Int)))) then I (((lg,fo,()),A0,()),()) else(if U (lg.size+st.size<=4611686018427387904) then I (((lg++st,fo,()),Y,()),()) else G))=
   I ((((if b&&U (lg.size+st.size<=2400) then((lg++st,fo),Y) else((lg,fo),A0)).1.1,(if b&&U (lg.size+st.size<=2400) then((lg++st,fo),Y) else((lg,fo),A0)).1.2,()),(if b&&U (lg.size+st.size<=2400) then((lg++st,fo),Y) else((lg,fo),A0)).2,()),()):=by
 rw[Aa J J];cases b
 .rfl
 .by_cases h:lg.size+st.size<=2400
  .rw[A9 o5,A5<|AQ J,A5 o5]
  .rw[A5 o5,A9 o5]
def wZ{lg r:A1}{fo:Int}(hl:lg.size<=1048576)(hr:r.size<=1048576):
  Rb ((lg,fo,()),r,())=I ((((JH lg fo r).1.1,(JH lg fo r).1.2,()),(JH lg fo r).2,()),()):=by
 unfold Rb JH;simp only[VK hl,A6];obtain e|e:=tf (DI lg fo)
 .simp only[e,AA,A4,A2,iF,ym hr,A6,Dt,Df,IM];exact aat (rOk r) hl (by have:=X7 hr;omega)
 .simp only[e,AG,A4,A2]
def vz{lg r:A1}{fo:Int}(hl:lg.size<=1048576)(hr:r.size<=1048576):
  RS ((lg,fo,()),r,())=I ((((JH lg fo r).1.1,(JH lg fo r).1.2,()),(JH lg fo r).2,()),()):=by
 unfold RS JH;simp only[VU hl,A6];obtain e|e:=tf (DI lg fo)
 .simp only[e,AA,A4,A2,gx,yd hr,A6,Dt,Df,IM];exact aat (rOk r) hl (by have:=X7 hr;omega)
 .simp only[e,AG,A4,A2]
def Js(lg:A1)(fo:Int):A1×Int:=if DI lg fo then(lg,(lg.size:Int)) else(noB,0)
def ahs{lg:A1}{fo:Int}(hl:lg.size<=1048576):bZ ((lg,fo,()),())=I ((((Js lg fo).1,(Js lg fo).2,()),()),()):=by
 unfold bZ Js;simp only[VK hl,A6];obtain e|e:=tf (DI lg fo)<;>simp only[e,AA,AG,A4,A2]
def qF{lg:A1}{fo:Int}(hl:lg.size<=1048576):PC ((lg,fo,()),())=I ((((Js lg fo).1,(Js lg fo).2,()),()),()):=by
 unfold PC Js;simp only[VU hl,A6];obtain e|e:=tf (DI lg fo)<;>simp only[e,AA,AG,A4,A2]
def Rx{lg:A1}{fo:Int}(h:DI lg fo=Y):lg.size<=2400/\0<=fo/\fo<=lg.size:=by
 unfold DI at h;simp only[AD]at h;have h1:=Bc h.1;have h2:=AY.1 h.2.1;omega
def Eh(lg:A1)(fo keep:Int):Nat:=(fo+max 0 (min keep<|(lg.size:Int) - fo)).toNat
def Lq(lg:A1)(fo keep:Int):A1×Int:=
 if DI lg fo then((lg.extract 0<|Eh lg fo keep).extract 0 (D4<|lg.extract 0<|Eh lg fo keep).2,((D4<|lg.extract 0<|Eh lg fo keep).2:Int)) else(noB,0)
def avb{lg:A1}{fo keep:Int}(h0:0<=fo)(h1:fo<=lg.size)(h2:lg.size<=2400):
  w64 (fo+(if 0<(if w64 ((lg.size:Int) - fo)<keep then w64 ((lg.size:Int) - fo) else keep) then(if w64 ((lg.size:Int) - fo)<keep then w64 ((lg.size:Int) - fo) else keep) else 0))=(Eh lg fo keep:Int)/\Eh lg fo keep<=lg.size:=by
 rw[Aa (n:=(lg.size:Int) - fo) J J];unfold Eh;by_cases h3:(lg.size:Int) - fo<keep
 .rw[A5 h3];by_cases h4:(0:Int)<(lg.size:Int) - fo
  .rw[A5 h4,Aa J J];omega
  .rw[A9 h4,Aa J J];omega
 .rw[A9 h3];by_cases h4:(0:Int)<keep
  .rw[A5 h4,Aa J J];omega
  .rw[A9 h4,Aa J J];omega
def aih{lg:A1}{fo keep:Int}(hl:lg.size<=1048576):cG ((lg,fo,()),keep,())=I ((((Lq lg fo keep).1,(Lq lg fo keep).2,()),()),()):=by
 unfold cG Lq;simp only[VK hl,A6];obtain e|e:=tf (DI lg fo)
 .have hr:=Rx e;obtain⟨c1,c2⟩:=avb (keep:=keep) hr.2.1 hr.2.2 hr.1;simp only[e,AA,A4,A2,c1,Bf];have hz:(lg.extract 0<|Eh lg fo keep).size=Eh lg fo keep:=by rw[G8 J];omega
  have hg:=Pe<|lg.extract 0<|Eh lg fo keep;rw[A5 o5,cF J];simp only[A6,Bf];rw[A5 o5]
 .simp only[e,AG,A4,A2]
def avq{s:A1}{a b:Nat}(h:b<=a)(ha:a<=s.size):s.extract 0 b=(s.extract 0 a).extract 0 b:=by
 apply Fy;rw[EB,EB,EB,JN,JN,Io,Io,Yc,QM h]
def ai5{lg:A1}{fo keep:Int}(hl:lg.size<=1048576):cR ((lg,fo,()),keep,())=I ((((Lq lg fo keep).1,(Lq lg fo keep).2,()),()),()):=by
 unfold cR Lq;simp only[VU hl,A6];obtain e|e:=tf (DI lg fo)
 .have hr:=Rx e;simp only[e,AA,A4,A2];rw[Aa (n:=(lg.size:Int) - fo) J J];have hz:(lg.extract 0<|Eh lg fo keep).size=Eh lg fo keep:=by rw[G8 (by unfold Eh;omega)];omega
  have hg:=Pe<|lg.extract 0<|Eh lg fo keep;have fin:∀n:Int,n=(Eh lg fo keep:Int)->(if(U (0<=n)&&U (n<=(lg.size:Int))) then(LH ((lg.extract (0)<|AK n),())).bind λr9=>
    (if(U (0<=r9.1.2.1)&&U (r9.1.2.1<=(lg.size:Int))) then I (((lg.extract (0)<|AK r9.1.2.1,r9.1.2),()),()) else G) else G)=
    I ((((lg.extract 0<|Eh lg fo keep).extract 0 (D4<|lg.extract 0<|Eh lg fo keep).2,((D4<|lg.extract 0<|Eh lg fo keep).2:Int),()),()),()):=by
   rintro n rfl;have hc:Eh lg fo keep<=lg.size:=by unfold Eh;omega
   rw[A5 o5,Bf,Ud J];simp only[A6,Bf];rw[A5 o5,avq (a:=Eh lg fo keep) J hc]
  obtain h3|h3:=tf (U<|(lg.size:Int) - fo<keep)<;>simp only[h3,A2,A4,Bd]
  .have h3:=Bc h3;obtain h4|h4:=tf (U<|(0:Int)<(lg.size:Int) - fo)<;>simp only[h4,A2,A4,Bd]
   .have h4:=Bc h4;rw[Aa (n:=fo+((lg.size:Int) - fo)) J J];exact fin _ (by unfold Eh;omega)
   .have h4:=It h4;exact fin _ (by unfold Eh;omega)
  .have h3:=It h3;obtain h4|h4:=tf (U<|0<keep)<;>simp only[h4,A2,A4,Bd]
   .have h4:=Bc h4;rw[Aa (n:=fo+keep) J J];exact fin _ (by unfold Eh;omega)
   .have h4:=It h4;exact fin _ (by unfold Eh;omega)
 .simp only[e,AG,A4,A2]
def Fh(rs:List A1):Bool:=rs.all rOk
def JD(lg:A1)(fo:Int)(rs:List A1):(A1×Int)×Bool:=
 if DI lg fo then(if Fh rs&&U ((D1 rs).size<=2400) then((D1 rs,((D1 rs).size:Int)),Y) else((lg,fo),A0)) else((noB,0),A0)
def abB{r:A1}(h:rOk r=Y):1<=r.size/\r.size<=60:=by
 have:=AY.1 h;omega
def aEa(pre:List A1)(r:A1):B (cat<|pre++[r])=B (cat pre)++Cu r:=by
 apply Fy;rw[Fz,L_B,L_B,KW,Ho,Jj,CK]
abbrev zS:A1×Int×D:=(noB,0,())
def as3{sl:A1×Int×D}(post:List A1):∀(pre:List A1),(pre++post).length<=1048576->(cat pre).length<=69 * pre.length->
  (R7 (sl,zS,B<|cat pre,pre++post,((pre++post).length:Int),(j8 pre:Int),())=I (.inl (sl,A0,()))/\(Fh post=A0\/2400<(cat<|pre++post).length))\/
  (R7 (sl,zS,B<|cat pre,pre++post,((pre++post).length:Int),(j8 pre:Int),())=I (.inr (sl,zS,B<|cat<|pre++post,()))/\Fh post=Y):=by
 induction post with
 | nil=>
  intro pre _ _;refine N8 ⟨BH ?_,rfl⟩;unfold RA;simp only[CK,show U ((j8 pre:Int)<(j8 pre:Int))=A0 from B1 J,A4]
 | cons r post ih=>
  intro pre hl hc;have hlen:pre.length<(pre++r::post).length:=by simp
  have hw:=Db hlen hl;have hb:(U<|(j8 pre:Int)<((pre++r::post).length:Int))=Y:=AQ J;by_cases h:rOk r=Y/\(cat pre).length<=2400
  .have hz:=abB h.1;have hs:=X7 (r:=r) J;have MA:RA (sl,zS,B<|cat pre,pre++r::post,((pre++r::post).length:Int),(j8 pre:Int),())=I (.inl (sl,zS,B<|cat<|pre++[r],(pre++[r])++post,(((pre++[r])++post).length:Int),((pre++[r]).length:Int),())):=by
    unfold RA;simp only[hb,A2,AW hlen,Ms,iF,A6,h.1,AA,Bq];rw[A9 (by rw[BP];exact λg=>absurd (Bc g) J),ym (r:=r) J];simp only[A6];rw[A5<|AQ (by rw[BP];omega),hw,aEa,@Aq _ pre [r],← snoc];rfl
   have hc2:(cat<|pre++[r]).length<=69 * (pre++[r]).length:=by
    rw[KW,Ho,Jj,CK,Aq,Aw,Aq,JJ];omega
   have e:Fh (r::post)=Fh post:=by
    unfold Fh;rw[Ok,h.1,AR]
   rw[e];rcases ih (pre++[r]) (by rw[← snoc];exact hl) hc2 with⟨h1,h2⟩|⟨h1,h2⟩
   .rw[← snoc]at h2;exact N9 ⟨Av MA h1,h2⟩
   .refine N8 ⟨?_,h2⟩;rw[snoc];rw[← snoc]at MA ⊢;rw[snoc pre r post]at MA ⊢;exact Av MA h1
  .refine N9 ⟨BH ?_, ?_⟩
   .unfold RA;simp only[hb,A2,AW hlen,Ms,iF,A6];rw[A5];obtain e|e:=tf (rOk r)
    .rw[e,AA,Bq];refine AQ ?_;rw[BP];have:¬(cat pre).length<=2400:=λg=>h ⟨e,g⟩;omega
    .rw[e];rfl
   .rcases tf (rOk r) with e|e
    .have:¬(cat pre).length<=2400:=λg=>h ⟨e,g⟩;refine N8 ?_;rw[KW,Aq];omega
    .refine N9 ?_;unfold Fh;rw[Ok,e,AM]
def arX{sl:A1×Int×D}(post:List A1):∀(pre:List A1),(pre++post).length<=1048576->(cat pre).length<=69 * pre.length->
  aK (pre++post,sl,zS,B<|cat pre,(j8 pre:Int),())=I (if Fh post then .inr (sl,zS,B<|cat<|pre++post,()) else .inl (sl,A0,())):=by
 induction post with
 | nil=>
  intro pre _ _;refine BH ?_;unfold RG;simp only[CK,show U ((j8 pre:Int)<(j8 pre:Int))=A0 from B1 J,A4];rfl
 | cons r post ih=>
  intro pre hl hc;have hlen:pre.length<(pre++r::post).length:=by simp
  have hw:=Db hlen hl;have hb:(U<|(j8 pre:Int)<((pre++r::post).length:Int))=Y:=AQ J;obtain h|h:=tf (rOk r)
  .have hz:=abB h;have hs:=X7 (r:=r) J;have MA:RG (pre++r::post,sl,zS,B<|cat pre,(j8 pre:Int),())=I (.inl ((pre++[r])++post,sl,zS,B<|cat<|pre++[r],((pre++[r]).length:Int),())):=by
    unfold RG;simp only[hb,A2,AW hlen,Ms,gx,A6,h,AA,A4];rw[yd (r:=r) J];simp only[A6];rw[A5<|AQ (by rw[BP];simp at hl;omega),hw,aEa,@Aq _ pre [r],← snoc];rfl
   have hc2:(cat<|pre++[r]).length<=69 * (pre++[r]).length:=by
    rw[KW,Ho,Jj,CK,Aq,Aw,Aq,JJ];omega
   have e:Fh (r::post)=Fh post:=by
    unfold Fh;rw[Ok,h,AR]
   rw[e];have:=ih (pre++[r]) (by rw[← snoc];exact hl) hc2;rw[snoc pre r post];rw[snoc pre r post]at MA;exact Av MA this
  .refine BH ?_;unfold RG;simp only[hb,A2,AW hlen,Ms,gx,A6,h,AG];rw[A9 (by unfold Fh;rw[Ok,h,AM];exact CM)]
def js{lg:A1}{fo:Int}(rs:List A1)(s:(((A1×Int×D)×Bool×D) ⊕ ((A1×Int×D)×(A1×Int×D)×A1×D)))
  (h:(s= .inl ((lg,fo,()),A0,())/\(Fh rs&&U ((D1 rs).size<=2400))=A0)\/(s= .inr ((lg,fo,()),zS,D1 rs,())/\Fh rs=Y)):
  AP (I s) (λy28=>I (y28,())) (λy28=>(if(U<|2400<(y28.2.2.1.size:Int)) then I ((y28.1,A0,()),()) else I (((y28.2.2.1,(y28.2.2.1.size:Int),()),Y,()),())))=
   I ((((if Fh rs&&U ((D1 rs).size<=2400) then((D1 rs,((D1 rs).size:Int)),Y) else((lg,fo),A0)).1.1,(if Fh rs&&U ((D1 rs).size<=2400) then((D1 rs,((D1 rs).size:Int)),Y) else((lg,fo),A0)).1.2,()),(if Fh rs&&U ((D1 rs).size<=2400) then((D1 rs,((D1 rs).size:Int)),Y) else((lg,fo),A0)).2,()),()):=by
 obtain⟨rfl,h⟩|⟨rfl,h⟩:=h
 .rw[h];rfl
 .simp only[AP,A6];by_cases h2:(D1 rs).size<=2400
  .rw[A9 o5,h,AQ h2];rfl
  .rw[A5<|AQ J,h,B1 h2];rfl
def uq{lg:A1}{fo:Int}{rs:List A1}(hl:lg.size<=1048576)(hr:rs.length<=1048576):
  RJ ((lg,fo,()),rs,())=I ((((JD lg fo rs).1.1,(JD lg fo rs).1.2,()),(JD lg fo rs).2,()),()):=by
 unfold RJ JD;simp only[VK hl,A6];obtain e|e:=tf (DI lg fo)
 .simp only[e,AA,A4,A2];rcases as3 (sl:=(lg,fo,())) rs [] hr (by simp[Jj]) with⟨h1,h2⟩|⟨h1,h2⟩
  .rw[show R7 ((lg,fo,()),(noB,0,()),noB,rs,(j8 rs:Int),0,())=_ from h1];refine js rs _<|N9 ⟨rfl, ?_⟩;obtain h2|h2:=h2
   .rw[h2];rfl
   .rw[B1,BY];show ¬(B<|cat rs).size<=2400;rw[BP];exact Nat.not_le.2 h2
  .rw[show R7 ((lg,fo,()),(noB,0,()),noB,rs,(j8 rs:Int),0,())=_ from h1];exact js rs _ (N8 ⟨rfl,h2⟩)
 .simp only[e,AG,A4,A2]
def uE{lg:A1}{fo:Int}{rs:List A1}(hl:lg.size<=1048576)(hr:rs.length<=1048576):
  RP ((lg,fo,()),rs,())=I ((((JD lg fo rs).1.1,(JD lg fo rs).1.2,()),(JD lg fo rs).2,()),()):=by
 unfold RP JD;simp only[VU hl,A6];obtain e|e:=tf (DI lg fo)
 .simp only[e,AA,A4,A2];have h1:=arX (sl:=(lg,fo,())) rs [] hr (by simp[Jj]);rw[show aK (rs,(lg,fo,()),(noB,0,()),noB,0,())=_ from h1];refine js rs _ ?_;obtain h2|h2:=tf (Fh rs)
  .exact N8 ⟨A5 h2,h2⟩
  .exact N9 ⟨A9 (by rw[h2];exact CM),by rw[h2];rfl⟩
 .simp only[e,AG,A4,A2]
def YE{β:Type}(f:A3->β){l:List A3}{i:Nat}(h:i<l.length):(l.take<|i+1).map f=(l.take i).map f++[f (nA l i)]:=by
 rw[MU h,Ek,DW<|Au h];rfl
def aaZ{β:Type}(f:Mark->β){l:List Mark}{i:Nat}(h:i<l.length):(l.take<|i+1).map f=(l.take i).map f++[f (mA l i)]:=by
 rw[MU h,Ek,Fe<|Au h];rfl
def Fo{α:Type}{l m:List α}(hl:l.length<=1048576)(hm:m.length<=1048576):Ab (l.length+m.length)=Y:=BD J
def ZK{n:A3}(h:At n=Y):(wr n).size<=4000:=by have:=Qb h;omega
def Q9{n:A3}(h:At n=Y):n.tx.size<=1048576:=by
 have h2:=Qb h;by_cases hs:n.tx.size<=1048576
 .exact hs
 .exfalso;unfold At at h;simp only[AD]at h;have hx:Jw n.tx=Y:=by simp_all
  unfold Jw at hx;rw[AD]at hx;have:=AY.1 hx.1;omega
def nw{n:A3}(h:At n=Y):(if At ⟨n.fr,n.nu,n.to,n.un,n.tx⟩ then wr ⟨n.fr,n.nu,n.to,n.un,n.tx⟩ else noB)=wr n:=by
 rw[show(⟨n.fr,n.nu,n.to,n.un,n.tx⟩:A3)=n from rfl,A5 h]
def HB{n:Int}(h0:0<=n)(h1:n<=999):(BX n).size<=3:=O8 h0 3 J J
def qt{w:A1}{a b c:Int}(hw:w.size<=1048576)(ha:0<=a/\a<=999)(hb:0<=b/\b<=999)(hc:0<=c/\c<=999):PH (w,a,b,c,())=I ((CX w a b c,()),()):=by
 have h1:=HB ha.1 ha.2;have h2:=HB hb.1 hb.2;have h3:=HB hc.1 hc.2;unfold PH;simp only[J8 (n:=a) J J,J8 (n:=b) J J,J8 (n:=c) J J,A6];rw[A5<|AQ (by simp[BP];omega),A5<|AQ (by simp[Bz,BP];omega),A5<|AQ (by simp[Bz,BP];omega),A5<|AQ (by simp[Bz,BP];omega),A5<|AQ (by simp[Bz,BP];omega),A5<|AQ (by simp[Bz,BP];omega)];rfl
def IN{i n:Nat}(h:i<n):U ((i:Int)<(n:Int))=Y:=AQ J
def Gv(n:Nat):U ((n:Int)<(n:Int))=A0:=B1 J
section
variable {k:AJ} (hf:El k)
include hf
def aqS(o:List A1)(ho:o.length<=100):
  ah (tK k,o,k.marks,(j8 k.marks:Int),0,())=I (.inr (tK k,o++k.marks.map λm=>CX D3 m.mf m.mn m.mu,())):=by
 have ml:=hf.ml;refine L3 (congrArg _ ?_) (Ch (λi=>(tK k,o++(k.marks.take i).map (λm=>CX D3 m.mf m.mn m.mu),k.marks,(j8 k.marks:Int),(i:Int),())) k.marks.length ?_ ?_)
 .simp
 .intro i hi;have hm:=Pp<|W9 hf.m hi;unfold bj;simp only[IN hi,A2,AW hi,FL,qt (w:=D3) aEp (J:0<=(mA k.marks i).mf/\(mA k.marks i).mf<=999) (J:0<=(mA k.marks i).mn/\(mA k.marks i).mn<=999) (J:0<=(mA k.marks i).mu/\(mA k.marks i).mu<=999),A6];rw[A5<|Fo o5 y9,aaZ _ hi,Db hi J,C3]
 .unfold bj;simp only[Gv,A4,E4]
def aqR(o:List A1)(ho:o.length<=200):
  af (tK k,o,k.held,(j8 k.held:Int),0,())=I (.inr (tK k,o++k.held.map Me,())):=by
 have hl:=hf.hl;refine L3 (congrArg _ ?_) (Ch (λi=>(tK k,o++(k.held.take i).map Me,k.held,(j8 k.held:Int),(i:Int),())) k.held.length ?_ ?_)
 .simp
 .intro i hi;have hm:=Gs hf.h hi;have hz:=ZK hm;unfold bh;simp only[IN hi,A2,AW hi,Dc,Uv<|Q9 hm,nw hm,A6];rw[A5<|AQ (by rw[BP];simp;omega),A5<|Fo o5 y9,YE _ hi,Db hi J,C3];rfl
 .unfold bh;simp only[Gv,A4,E4]
def aqQ(o:List A1)(ho:o.length<=200):
  ae (o,k.inbox,(j8 k.inbox:Int),0,())=I (.inr (o++k.inbox.map Ma,())):=by
 have il:=hf.il;refine L3 (congrArg _ ?_) (Ch (λi=>(o++(k.inbox.take i).map Ma,k.inbox,(j8 k.inbox:Int),(i:Int),())) k.inbox.length ?_ ?_)
 .simp
 .intro i hi;have hm:=Gs hf.i hi;have hz:=ZK hm;unfold cM;simp only[IN hi,A2,AW hi,Dc,Uv<|Q9 hm,nw hm,A6];rw[A5<|AQ (by rw[BP];simp;omega),A5<|Fo o5 y9,YE _ hi,Db hi J,C3];rfl
 .unfold cM;simp only[Gv,A4,E4]
def aqc(o:List A1)(ho:o.length<=100):
  aY (tK k,o,0,())=I (.inr (tK k,o++k.marks.map λm=>CX D3 m.mf m.mn m.mu,())):=by
 have ml:=hf.ml;refine L3 (congrArg _ ?_) (Ch (λi=>(tK k,o++(k.marks.take i).map (λm=>CX D3 m.mf m.mn m.mu),(i:Int),())) k.marks.length ?_ ?_)
 .simp
 .intro i hi;have hm:=Pp<|W9 hf.m hi;have h1:=HB (n:=(mA k.marks i).mf) J J;have h2:=HB (n:=(mA k.marks i).mn) J J;have h3:=HB (n:=(mA k.marks i).mu) J J;unfold bz;simp only[IN hi,A2,AW hi,FL,Fm (n:=(mA k.marks i).mf) J J,Fm (n:=(mA k.marks i).mn) J J,Fm (n:=(mA k.marks i).mu) J J,A6];rw[A5<|AQ (by simp[Bz,BP];omega),A5<|AQ (by simp[Bz,BP];omega),A5<|AQ (by simp[Bz,BP];omega),A5<|AQ (by simp[Bz,BP];omega),A5<|AQ (by simp[Bz,BP];omega)];rw[A5<|Fo o5 y9,aaZ _ hi,Db hi J,C3];rfl
 .unfold bz;simp only[Gv,A4,E4]
def aqb(o:List A1)(ho:o.length<=200):
  aX (tK k,o,0,())=I (.inr (tK k,o++k.held.map Me,())):=by
 have hl:=hf.hl;refine L3 (congrArg _ ?_) (Ch (λi=>(tK k,o++(k.held.take i).map Me,(i:Int),())) k.held.length ?_ ?_)
 .simp
 .intro i hi;have hm:=Gs hf.h hi;have hz:=ZK hm;unfold bw;simp only[IN hi,A2,AW hi,Dc,Ue<|Q9 hm,nw hm,A6];rw[A5<|AQ (by rw[BP];simp;omega),A5<|Fo o5 y9,YE _ hi,Db hi J,C3];rfl
 .unfold bw;simp only[Gv,A4,E4]
def aps(o:List A1)(ho:o.length<=200):
  aW (tK k,o,0,())=I (.inr (o++k.inbox.map Ma,())):=by
 have il:=hf.il;refine L3 (congrArg _ ?_) (Ch (λi=>(tK k,o++(k.inbox.take i).map Ma,(i:Int),())) k.inbox.length ?_ ?_)
 .simp
 .intro i hi;have hm:=Gs hf.i hi;have hz:=ZK hm;unfold bu;simp only[IN hi,A2,AW hi,Dc,Ue<|Q9 hm,nw hm,A6];rw[A5<|AQ (by rw[BP];simp;omega),A5<|Fo o5 y9,YE _ hi,Db hi J,C3];rfl
 .unfold bu;simp only[Gv,A4,E4]
def Q2:DQ k.held k.marks k.inbox:=by
 have hl:=hf.hl;have ml:=hf.ml;have il:=hf.il;refine⟨J,λx hx=> ?_,J,J,λx hx=> ?_⟩
 .obtain⟨i,hi,rfl⟩:=Ct hx;have:=Gs hf.h hi;rw[DW<|Au hi]at this;exact Q9 this
 .obtain⟨i,hi,rfl⟩:=Ct hx;have:=Gs hf.i hi;rw[DW<|Au hi]at this;exact Q9 this
def anV:(AP (ah (tK k,(if 0<k.ti then [FZ k.ti] else [])++(if 1<k.nx then [Kc k.nx] else []),k.marks,(j8 k.marks:Int),0,()))
  (λ_=>G)
  (λy34=>(AP (af (y34.1,y34.2.1,y34.1.2.2.2.1,(j8 y34.1.2.2.2.1:Int),0,()))
  (λ_=>G)
  (λy72=>(AP (ae (y72.2.1,y72.1.2.2.2.2.2.1,(j8 y72.1.2.2.2.2.2.1:Int),0,()))
  (λ_=>G)
  (λnv=>(R6 nv).bind λo8=>
  I (o8.1,())))))))=I ((C9 k,()),()):=by
 have hl:=hf.hl;have ml:=hf.ml;have il:=hf.il;have ho:((if 0<k.ti then [FZ k.ti] else [])++(if 1<k.nx then [Kc k.nx] else [])).length<=2:=by
  rw[Aq];split<;>split<;>simp
 rw[aqS hf _ J];simp only[AP,A6];rw[aqR hf _ (by rw[Aq,DL];omega)];simp only[A6];rw[aqQ hf _ (by rw[Aq,Aq,DL,DL];omega)];simp only[A6];rw[oh (by rw[Aq,Aq,Aq,DL,DL,DL];omega)];rfl
def ao7:(AP (aY (tK k,(if 0<k.ti then [FZ k.ti] else [])++(if 1<k.nx then [Kc k.nx] else []),0,()))
  (λ_=>G)
  (λy46=>(AP (aX (y46.1,y46.2.1,0,()))
  (λ_=>G)
  (λy54=>(AP (aW (y54.1,y54.2.1,0,()))
  (λ_=>G)
  (λy62=>I (y62,())))))))=I ((C9 k,()),()):=by
 have hl:=hf.hl;have ml:=hf.ml;have il:=hf.il;have ho:((if 0<k.ti then [FZ k.ti] else [])++(if 1<k.nx then [Kc k.nx] else [])).length<=2:=by
  rw[Aq];split<;>split<;>simp
 rw[aqc hf _ J];simp only[AP,A6];rw[aqb hf _ (by rw[Aq,DL];omega)];simp only[A6];rw[aps hf _ (by rw[Aq,Aq,DL,DL];omega)];rfl
end
def we{k:AJ}(sm:DQ k.held k.marks k.inbox):VG (tK k,())=I ((if As k then C9 k else [],()),()):=by
 unfold VG;rw[gn sm];simp only[A6];obtain e|e:=tf (As k)
 .have hf:=Bu e;have t0:=hf.t0;have t1:=hf.t1;have n0:=hf.n0;have n1:=hf.n1;have e2:As ⟨k.id,k.ti,k.nx,k.held,k.marks,k.inbox⟩=Y:=e;have d1:=HB t0 J;have d2:=HB (n:=k.nx) J J;have fin:=anV hf;simp only[e,e2,AA,A4,A2,J8 (n:=k.ti) J J,J8 (n:=k.nx) J J,A6];have h5:U ((B [116,105,109,101,32]).size+(BX k.ti).size<=4611686018427387904)=Y:=AQ (by rw[BP];simp;omega);have h6:U ((B [110,101,120,116,32]).size+(BX k.nx).size<=4611686018427387904)=Y:=AQ (by rw[BP];simp;omega);have q1:∀a:A1,Ab ([a]:List A1).length=Y:=λ_=>rfl;have q2:∀a b:A1,Ab (([a]:List A1).length+([b]:List A1).length)=Y:=λ_ _=>rfl;have q3:∀b:A1,Ab (([]:List A1).length+([b]:List A1).length)=Y:=λ_=>rfl;have q4:∀a b:A1,Ab ((([]:List A1)++[a]).length+([b]:List A1).length)=Y:=λ_ _=>rfl;by_cases h1:0<k.ti<;>by_cases h2:1<k.nx<;>simp only[h1,h2,AT,Ae,A2,A4,if_false]at fin ⊢ <;>simp only[Bd,h2,AT,Ae,A2,A4,h5,h6,q1,q2,q3,q4,J8 (n:=k.nx) J J,Fm (n:=k.nx) J J,A6]<;>exact fin
 .have e2:As ⟨k.id,k.ti,k.nx,k.held,k.marks,k.inbox⟩=A0:=e;simp only[e,e2,AG,A4,A2]
def wE{k:AJ}(sm:DQ k.held k.marks k.inbox):V7 (tK k,())=I ((if As k then C9 k else [],()),()):=by
 unfold V7;rw[fy sm];simp only[A6];obtain e|e:=tf (As k)
 .have hf:=Bu e;have t0:=hf.t0;have t1:=hf.t1;have n0:=hf.n0;have n1:=hf.n1;have e2:As ⟨k.id,k.ti,k.nx,k.held,k.marks,k.inbox⟩=Y:=e;have d1:=HB t0 J;have d2:=HB (n:=k.nx) J J;have fin:=ao7 hf;simp only[e,e2,AA,A4,A2,Fm (n:=k.ti) J J,Fm (n:=k.nx) J J,A6];have h5:U ((B [116,105,109,101,32]).size+(BX k.ti).size<=4611686018427387904)=Y:=AQ (by rw[BP];simp;omega);have h6:U ((B [110,101,120,116,32]).size+(BX k.nx).size<=4611686018427387904)=Y:=AQ (by rw[BP];simp;omega);have q1:∀a:A1,Ab ([a]:List A1).length=Y:=λ_=>rfl;have q2:∀a b:A1,Ab (([a]:List A1).length+([b]:List A1).length)=Y:=λ_ _=>rfl;have q3:∀b:A1,Ab (([]:List A1).length+([b]:List A1).length)=Y:=λ_=>rfl;have q4:∀a b:A1,Ab ((([]:List A1)++[a]).length+([b]:List A1).length)=Y:=λ_ _=>rfl;by_cases h1:0<k.ti<;>by_cases h2:1<k.nx<;>simp only[h1,h2,AT,Ae,A2,A4,if_false]at fin ⊢ <;>simp only[Bd,h2,AT,Ae,A2,A4,h5,h6,q1,q2,q3,q4,J8 (n:=k.nx) J J,Fm (n:=k.nx) J J,A6]<;>exact fin
 .have e2:As ⟨k.id,k.ti,k.nx,k.held,k.marks,k.inbox⟩=A0:=e;simp only[e,e2,AG,A4,A2]
end Go.VS
namespace Go.VS
open Go
def aax{l:List AN}{m:AN}(h:m∈l):∃i,i<l.length/\xA l i=m:=by
 obtain⟨i,hi,rfl⟩:=YO.1 h;exact⟨i,hi,by rw[xA,B8,Au hi];rfl⟩
def OK{l:List AE}{m:AE}(h:m∈l):∃i,i<l.length/\hA l i=m:=by
 obtain⟨i,hi,rfl⟩:=YO.1 h;exact⟨i,hi,by rw[hA,B8,Au hi];rfl⟩
def avh{h:AE}(ok:Ft h=Y):OL h:=by
 unfold Ft at ok;simp only[AD]at ok;have h1:=Bc ok.2.2.2.2.2.1;have h2:=DB.1 ok.2.2.2.2.2.2;refine⟨J,λm hm=> ?_⟩;obtain⟨i,hi,rfl⟩:=aax hm;have:=h2 i hi;unfold I3 at this;simp only[AD]at this;have:=Bc this.1.2;show(xA h.got i).da.size<=1048576;omega
def D2{k:A8}(h:Ad k=Y):FY k:=by
 have hf:=FJ h;have hr:=Rx hf.sh;have hl:=hf.hl;refine⟨J,J,λx hx=> ?_⟩;obtain⟨i,hi,rfl⟩:=OK hx;have:=hf.hv i hi;unfold Ff at this;rw[AD]at this;exact avh this.1
def ag4{l:List AE}(hl:l.length<=1048576):pb (l,())=I ((l,()),()):=Lg hl
def afN{l:List AN}(hl:l.length<=1048576):pL (l,())=I ((l,()),()):=Lg hl
def Lp(l:List AE)(i:Nat): @rd AE aEl l (i:Int)=hA l i:=rfl
def I2{l:List AE}{i:Nat}(h:i<l.length):hA l i=l[i]:=by
 rw[hA,B8,Au h];rfl
def KO{k:A8}(sm:FY k):Hh (tKp k,())=I ((tKp k,()),()):=by
 obtain⟨id,up,lg,fo,hv⟩:=k;obtain⟨sl,hl,hs⟩:=sm;simp only at sl hl hs;unfold Hh;simp only[ag4 hl,A6];have h:oS ((0,A0,noB,0,[],()),(id,up,lg,fo,hv,()),(j8 hv:Int),0,())=I (.inr ((0,A0,noB,0,[],()),(id,up,lg,fo,hv,()),())):=by
  refine Ch (λi=>((0,A0,noB,0,[],()),(id,up,lg,fo,hv,()),(j8 hv:Int),(i:Int),())) hv.length ?_ ?_
  .intro i hi;unfold bK;have hg:(hA hv i).got.length<=1048576:=by rw[I2 hi];exact(hs _<|Cg hi).1
   simp only[IN hi,A2,AW hi,Lp,afN hg,A6,Bf];rw[Db hi hl,show(⟨(hA hv i).fr,(hA hv i).nu,(hA hv i).to,(hA hv i).un,(hA hv i).sz,(hA hv i).got⟩:AE)=hA hv i from rfl,I2 hi,List.set_getElem_self]
  .unfold bK;simp only[Gv,A4]
 rw[h];rfl
def MK{k:A8}(sm:FY k):Gr (tKp k,())=I ((tKp k,()),()):=by
 obtain⟨id,up,lg,fo,hv⟩:=k;obtain⟨sl,hl,hs⟩:=sm;simp only at sl hl hs;unfold Gr;have h:pQ ((id,up,lg,fo,hv,()),(0,A0,noB,0,[],()),[],0,())=I (.inr ((id,up,lg,fo,hv,()),(0,A0,noB,0,[],()),hv,())):=by
  refine Ch (λi=>((id,up,lg,fo,hv,()),(0,A0,noB,0,[],()),hv.take i,(i:Int),())) hv.length ?_ ?_
  .intro i hi;unfold cq;have hg:(hA hv i).got.length<=1048576:=by rw[I2 hi];exact(hs _<|Cg hi).1
   have e1:Ab (([]:List AN).length+(hA hv i).got.length)=Y:=Fo y9 hg;have e2:∀h:AE,Ab ((hv.take i).length+([h]:List AE).length)=Y:=λh=>Fo o5 y9;simp only[IN hi,A2,AW hi,Lp,Eb,e1,e2];rw[Db hi hl,MU hi,← I2 hi]
  .unfold cq;simp only[Gv,A4,E4]
 rw[h];rfl
structure Hk (k:A8) (st:AJ):Prop where
 sh:DI k.log k.fo=Y
 st:DU k.id k.log=I st
def D9.LA{k:A8}{st:AJ}(h:D9 k st):Hk k st:=⟨(FJ h.ok).sh,h.st⟩
def Hk.kok{k:A8}{st:AJ}(h:Hk k st):As st=Y:=SK h.st
def Hk.sz{k:A8}{st:AJ}(h:Hk k st):k.log.size<=1048576:=by have:=Rx h.sh;omega
def Hk.stT{k:A8}{st:AJ}(h:Hk k st):Go.VS.stT k=st:=by
 unfold Go.VS.stT;rw[h.st];rfl
def Pv{k:AJ}(hk:As k=Y):(D1<|C9 k).size<=800:=by
 have:=(W3 hk).2;unfold D1;rw[BP];exact this
def XS{k:AJ}(hk:As k=Y):(C9 k).length<=1048576:=by
 have hf:=Bu hk;have h1:=hf.hl;have h2:=hf.ml;have h3:=hf.il;unfold C9;simp only[Aq,DL];have a2:(if 0<k.ti then [FZ k.ti] else []).length<=1:=by split<;>simp
 have b2:(if 1<k.nx then [Kc k.nx] else []).length<=1:=by split<;>simp
 omega
def Sm{k:A8}{st o:AJ}{r:A1}(h:Hk k st)(hr:BE st r=I o):
  DI (Cw st k.log k.fo r).1 (Cw st k.log k.fo r).2=Y/\
  (JH k.log k.fo r=(Cw st k.log k.fo r,Y)\/
   (JH k.log k.fo r=((k.log,k.fo),A0)/\JD k.log k.fo (C9 st)=((D1<|C9 st,((D1<|C9 st).size:Int)),Y)/\
    JH (D1<|C9 st) ((D1<|C9 st).size:Int) r=(Cw st k.log k.fo r,Y))):=by
 have hz:=kM h.kok hr;have hrk:rOk r=Y:=AY.2 J;have hrs:=W3 h.kok;have hps:=Pv h.kok;have hpo:=(Q8 h.kok).nX;have hst:=MX hz.2;obtain⟨rs,ts,hl⟩:=abt h.sh;obtain⟨rs',ts',hl',_⟩:=aaL (id:=k.id) (k:=st) hl (by rw[← hl.state];exact h.st) hr;refine⟨hl'.nX, ?_⟩;unfold Cw JH;rw[A5 h.sh,hrk,AR];by_cases hc:k.log.size+(Cu r).size<=2400
 .rw[A5 hc,A5<|AQ hc];exact .inl rfl
 .rw[A9 hc,A9 (by rw[B1 hc];exact CM)];refine .inr ⟨rfl, ?_, ?_⟩
  .unfold JD;rw[A5 h.sh,A5];rw[AD];refine⟨?_,AQ J⟩;unfold Fh;rw[DM];exact λx hx=>by
    have:=hrs.1 x hx;exact AY.2 J
  .rw[A5 hpo,AR,A5<|AQ J]
def wrR(k:A8)(r:A1)(f:Bool):A8×Bool:=
 match BE (stT k) r with
 | none=>(k,A0)
 | some _=>(if f then foM (wrM k r) else wrM k r,Y)
def aBr{k:AJ}{r:A1}:(FP k r).2=(BE k r).isSome:=by
 unfold BE;obtain e|e:=tf (FP k r).2<;>rw[e]<;>rfl
def aoD{k:AJ}(hk:As k=Y){r:A1}(hr:r.size<=1048576):Ro (tK k,r,())=I ((tK (FP k r).1,(FP k r).2,()),()):=yf (Q2<|Bu hk) hr
def anf{k:AJ}(hk:As k=Y){r:A1}(hr:r.size<=1048576):Ru (tK k,r,())=I ((tK (FP k r).1,(FP k r).2,()),()):=yt (Q2<|Bu hk) hr
def awY{k:A8}{st o:AJ}{r:A1}(h:Hk k st)(hr:BE st r=I o):Js (Cw st k.log k.fo r).1 (Cw st k.log k.fo r).2=((Cw st k.log k.fo r).1,((Cw st k.log k.fo r).1.size:Int)):=by
 unfold Js;rw[A5 (Sm h hr).1]
def V2{k:A8}{st:AJ}(h:Hk k st){r:A1}(hr:r.size<=1048576)(f:Bool):KQ (tKp k,r,f,())=I ((tKp (wrR k r f).1,(wrR k r f).2,()),()):=by
 have hs:=h.sz;have hk:=h.kok;have hsm:=Q2<|Bu hk;have hrl:=XS hk;have hpz:=Pv hk;unfold KQ wrR;rw[h.stT];rw[show G7 (tKp k,())=I ((tK<|(DU k.id k.log).getD zK,(DU k.id k.log).isSome,()),()) from ic hs];rw[h.st];simp only[A6,Df,aoD hk hr,aBr];cases hc:BE st r with
 | none=>rfl
 | some o=>
  have hL:=awY h hc;have hwr:wrM k r=⟨k.id,k.up,(Cw st k.log k.fo r).1,(Cw st k.log k.fo r).2,k.AH⟩:=by unfold wrM;rw[h.stT]
  have hsz:(Cw st k.log k.fo r).1.size<=1048576:=by have:=Rx (Sm h hc).1;omega
  have hF:=qF (lg:=(Cw st k.log k.fo r).1) (fo:=(Cw st k.log k.fo r).2) hsz;rw[hL]at hF;simp only[Dt,AA,A4,vz hs hr,A6];have fin:BT (X:=Bool×(Int×Bool×A1×Int×List AE×D)×(Int×Bool×A1×Int×List AE×D)×(A1×Int×D)×Bool×D) (λj7=>
    (if(!j7.2.2.2.2.1) then
    I ((j7.2.1,A0,()),())
    else
    (if j7.1 then
    (PC (j7.2.2.2.1,())).bind λr12=>
    I (((j7.2.1.1,j7.2.1.2.1,r12.1.1.1,r12.1.1.2.1,j7.2.1.2.2.2.2),Y,()),())
    else
    I (((j7.2.1.1,j7.2.1.2.1,j7.2.2.2.1.1,j7.2.2.2.1.2.1,j7.2.1.2.2.2.2),Y,()),())))) (I<|.inr (f,tKp k,(0,A0,noB,0,[],()),((Cw st k.log k.fo r).1,(Cw st k.log k.fo r).2,()),Y,()))=
    I ((tKp<|if f then foM (wrM k r) else wrM k r,Y,()),()):=by
   rw[Bd,hwr];cases f
   .rfl
   .simp only[AA,A4,A2,hF,A6];rfl
  rcases(Sm h hc).2 with ha|⟨ha,hb,hd⟩
  .rw[ha];simp only[AA,A4];exact fin
  .rw[ha];simp only[AG,A2,wE hsm,hk,A6];rw[show RP ((k.log,k.fo,()),C9 st,())=_ from uE hs hrl,hb];simp only[A6];rw[show RS ((D1<|C9 st,((D1<|C9 st).size:Int),()),r,())=_ from vz J hr,hd];simp only[A6];exact fin
def WQ{k:A8}{st:AJ}(h:Hk k st){r:A1}(hr:r.size<=1048576):Nr (tKp k,r,())=I ((tKp (wrR k r A0).1,(wrR k r A0).2,()),()):=by
 have hs:=h.sz;have hk:=h.kok;have hsm:=Q2<|Bu hk;have hrl:=XS hk;have hpz:=Pv hk;unfold Nr wrR;rw[h.stT];simp only[dj hs,h.st,A6,Df,anf hk hr,aBr];cases hc:BE st r with
 | none=>rfl
 | some o=>
  have hwr:wrM k r=⟨k.id,k.up,(Cw st k.log k.fo r).1,(Cw st k.log k.fo r).2,k.AH⟩:=by unfold wrM;rw[h.stT]
  simp only[Dt,AA,A4,wZ hs hr,A6];rcases(Sm h hc).2 with ha|⟨ha,hb,hd⟩
  .rw[ha];simp only[AA,A4,Bd,hwr]
  .rw[ha];simp only[AG,A2,we hsm,hk,A6];rw[show RJ ((k.log,k.fo,()),C9 st,())=_ from uq hs hrl,hb];simp only[A6,AA,A4];rw[show Rb ((D1<|C9 st,((D1<|C9 st).size:Int),()),r,())=_ from wZ J hr,hd];simp only[A6,Bd,AA,A4,hwr]
def fE{k:A8}(h:DI k.log k.fo=Y):Nl (tKp k,())=I ((tKp<|foM k,()),()):=by
 have hs:k.log.size<=1048576:=by have:=Rx h;omega
 unfold Nl;simp only[ahs hs,A6];unfold Js;rw[A5 h];rfl
def aaz{k:A8}{st o:AJ}{r:A1}(h:Hk k st)(hr:BE st r=I o):DI (wrM k r).log (wrM k r).fo=Y:=by
 have:=(Sm h hr).1;unfold wrM;rw[h.stT];exact this
def eO{k:A8}{st:AJ}(h:D9 k st){r:A1}(hr:r.size<=1048576):Nd (tKp k,r,())=I ((tKp (wrR k r Y).1,(wrR k r Y).2,()),()):=by
 have hl:=h.LA;unfold Nd;simp only[WQ hl hr,A6];unfold wrR;rw[hl.stT];cases hc:BE st r with
 | none=>
  simp only[AG,A2,KO<|D2 h.ok,A6]
 | some o=>
  simp only[AA,A4,A2];rw[fE<|aaz hl hc];simp only[A6];have hsm:FY (foM<|wrM k r):=D2 (QG<|OH h hc).ok;rw[show Hh (tKp<|foM<|wrM k r,())=_ from KO hsm];rfl
abbrev zKp:A8:=⟨0,A0,noB,0,[]⟩
abbrev zN:A3:=⟨0,0,0,0,noB⟩
abbrev tN(n:A3):Int×Int×Int×Int×A1×D:=(n.fr,n.nu,n.to,n.un,n.tx,())
def Q0{k:A8}(h:Ad k=Y):k.log.size<=1048576:=(D2 h).1
def Nu{k:A8}(h:Ad k=Y):G7 (tKp k,())=I ((tK<|stT k,Y,()),()):=by
 have:=ic (id:=k.id) (fo:=k.fo) (up:=k.up) (hv:=k.AH)<|Q0 h;rw[(FJ h).st]at this;exact this
def LI{k:A8}(h:Ad k=Y):Iu (tKp k,())=I ((tK<|stT k,()),()):=by
 unfold Iu;rw[KR<|D2 h];simp only[A6,h,AA,A4];rw[show LP (k.id,k.log,())=_ from dj<|Q0 h,(FJ h).st];rfl
def Yn{w:A1}{n:A3}(hw:w.size<=10)(hn:At n=Y):(w++wr n).size<=1048576:=by
 have:=Qb hn;rw[Bz];omega
def ES(k:A8):A8×Bool:=if k.up then wrR k (FZ<|(stT k).ti+1) Y else(k,A0)
def arC{st:AJ}(hk:As st=Y)(h:999<=st.ti):BE st (FZ<|st.ti+1)=G:=by
 have hf:=Bu hk;have h1:=hf.t1;cases hc:BE st (FZ<|st.ti+1) with
 | none=>rfl
 | some o=>
  exfalso;obtain⟨a,b⟩:=(HN hk).1 hc;rw[Gu XG<|SP _]at a;have c:=Wh (k:=st) (t:=st.ti+1) (by have:=hf.t0;omega) J J;rw[show B [116,105,109,101]=Dx from rfl,c]at a;injection a with a;have:=(Bu b).t1;rw[← a]at this;simp only at this;omega
def aAb{t:Int}(h0:0<=t)(h1:t<=1000):(FZ t).size<=100:=by
 unfold FZ;have:=O8 h0 4 J J;rw[Bz,BP];simp;omega
def agn{k:A8}(h:Ad k=Y):UW (tKp k,())=I ((tKp (ES k).1,(ES k).2,()),()):=by
 have hk:=C5 h;have hf:=Bu hk.kok;have t0:=hf.t0;have t1:=hf.t1;have hz:=aAb (t:=(stT k).ti+1) J J;have hd:=O8 (n:=(stT k).ti+1) J 4 J J;unfold UW ES;rw[LU<|D2 h];simp only[A6,h,AA,A4,Nu h,MK<|D2 h];obtain e|e:=tf k.up
 .simp only[e,AA,Bq,A2];rw[Aa J J,Fm J J];simp only[A6];by_cases hc:999<=(stT k).ti
  .rw[A5<|AQ hc];unfold wrR;rw[arC hk.kok hc]
  .rw[A9 (by rw[B1 hc];exact CM),A5<|AQ (by rw[BP];simp;omega)];rw[show KQ (tKp k,B [116,105,109,101,32]++BX ((stT k).ti+1),Y,())=_ from V2 hk.LA (r:=FZ<|(stT k).ti+1) J Y];rfl
 .simp only[e,AG,Bt,A2,A4]
def ahu{k:A8}(h:Ad k=Y):Uk (tKp k,())=I ((tKp (ES k).1,(ES k).2,()),()):=by
 have hk:=C5 h;have hf:=Bu hk.kok;have t0:=hf.t0;have t1:=hf.t1;have hz:=aAb (t:=(stT k).ti+1) J J;have hd:=O8 (n:=(stT k).ti+1) J 4 J J;unfold Uk ES;rw[KR<|D2 h];simp only[A6,h,AA,A4,LI h,KO<|D2 h];obtain e|e:=tf k.up
 .simp only[e,AA,A4,A2];rw[Aa J J,J8 J J];simp only[A6];rw[A5<|AQ (by rw[BP];simp;omega)];rw[show Nd (tKp k,B [116,105,109,101,32]++BX ((stT k).ti+1),())=_ from eO hk (r:=FZ<|(stT k).ti+1) J];rfl
 .simp only[e,AG,A2,A4]
def Ia(n:A3):A1:=B [111,119,110,32]++wr n
def Ci(k:A8)(tt un:Int)(tx:A1):A8×Int:=
 if k.up&&At ⟨k.id,(stT k).nx,tt,un,tx⟩ then
  ((wrR k (Ia ⟨k.id,(stT k).nx,tt,un,tx⟩) Y).1,if(wrR k (Ia ⟨k.id,(stT k).nx,tt,un,tx⟩) Y).2 then(stT k).nx else 0)
 else(k,0)
def mb{n:A3}:wr n≠noB:=by
 intro h;have h1:(wr n).size=0:=by rw[h];rfl
 unfold wr at h1;simp only[Bz,BP,Bl,CR]at h1;omega
def aAo:DC (B [])=G:=by
 unfold DC;split
 .rename_i h;obtain⟨n,_,h⟩:=h;exact absurd h mb
 .rfl
def Xa:CU [111,119,110]:=by unfold CU;decide
def jT:CU [116,97,107,101]:=by unfold CU;decide
def aAn{st:AJ}{w:List UInt8}(hk:As st=Y)(hw:CU w)(h:B w=DX\/B w=EQ):BE st (B (w++[32])++noB)=G:=by
 cases hc:BE st (B (w++[32])++noB) with
 | none=>rfl
 | some o=>
  exfalso;obtain⟨a,_⟩:=(HN hk).1 hc;rw[Gu (w:=w) (r:=[]) hw (by rw[Fz,L_B];simp[L,noB])]at a;have h2:∀v,v=DX\/v=EQ->BV st v (B [])=G:=by
   rintro v (rfl|rfl)
   .unfold BV;rw[A9 aEp,A5 aEp,aAo]
   .unfold BV;rw[A9 aEp,A5 aEp,aAo]
  rw[h2 _ h]at a;cases a
def aCm{k:A8}{r:A1}{f:Bool}(h:BE (stT k) r=G):wrR k r f=(k,A0):=by
 unfold wrR;rw[h]
def Q5{k:A8}{r:A1}{f:Bool}(h:(wrR k r f).2=A0):(wrR k r f).1=k:=by
 unfold wrR at h ⊢;split at h
 .rfl
 .cases h
def ai8{k:A8}(h:Ad k=Y)(tt un:Int){tx:A1}(ht:tx.size<=1048576):Uf (tKp k,tt,un,tx,())=I ((tKp (Ci k tt un tx).1,(Ci k tt un tx).2,()),()):=by
 have hk:=C5 h;unfold Uf Ci;rw[LU<|D2 h];simp only[A6,h,AA,A4,Nu h,MK<|D2 h,Ue ht];obtain e|e:=tf k.up
 .rcases tf (At ⟨k.id,(stT k).nx,tt,un,tx⟩) with e2|e2
  .have hz:=Yn (w:=B [111,119,110,32]) (by rw[BP];decide) e2;simp only[e,e2,AA,Bq,EZ,A2];rw[A9 (by rw[B1 mb];exact CM),A5<|AQ (by rw[Bz]at hz;omega)];rw[show KQ (tKp k,B [111,119,110,32]++wr ⟨k.id,(stT k).nx,tt,un,tx⟩,Y,())=_ from V2 hk.LA (r:=Ia ⟨k.id,(stT k).nx,tt,un,tx⟩) hz Y];simp only[A6];obtain e3|e3:=tf (wrR k (Ia ⟨k.id,(stT k).nx,tt,un,tx⟩) Y).2
   .simp only[e3,AA,A4,A2]
   .simp only[e3,AG,A4,A2,Q5 e3]
  .simp only[e,e2,AA,Bq,BY,A4,AT,A2]
 .simp only[e,AG,Bt,AM,A2,A4]
def ail{k:A8}(h:Ad k=Y)(tt un:Int){tx:A1}(ht:tx.size<=1048576):Uw (tKp k,tt,un,tx,())=I ((tKp (Ci k tt un tx).1,(Ci k tt un tx).2,()),()):=by
 have hk:=C5 h;unfold Uw Ci;rw[KR<|D2 h];simp only[A6,h,AA,A4,LI h,KO<|D2 h,Uv ht];obtain e|e:=tf k.up
 .rcases tf (At ⟨k.id,(stT k).nx,tt,un,tx⟩) with e2|e2
  .have hz:=Yn (w:=B [111,119,110,32]) (by rw[BP];decide) e2;simp only[e,e2,AA,A4,EZ,A2];rw[A5<|AQ (by rw[Bz]at hz;omega)];rw[show Nd (tKp k,B [111,119,110,32]++wr ⟨k.id,(stT k).nx,tt,un,tx⟩,())=_ from eO hk (r:=Ia ⟨k.id,(stT k).nx,tt,un,tx⟩) hz];simp only[A6];obtain e3|e3:=tf (wrR k (Ia ⟨k.id,(stT k).nx,tt,un,tx⟩) Y).2
   .simp only[e3,AA,A4,A2]
   .simp only[e3,AG,A4,A2]
  .simp only[e,e2,AA,A4,BY];have hb:BE (stT k) (B [111,119,110,32]++noB)=G:=aAn hk.kok Xa<|.inl rfl;have hz0:(B [111,119,110,32]++noB).size<=1048576:=by rw[Bz,BP];show 4+0<=1048576;omega
   have hl:=eO hk (r:=B [111,119,110,32]++noB) hz0;rw[aCm hb]at hl;rw[A5<|AQ (show(B [111,119,110,32]).size+noB.size<=4611686018427387904 by rw[BP];show 4+0<=4611686018427387904;omega),hl];rfl
 .simp only[e,AG,AM,A2,A4]
def DG(k:A8)(fr nu:Int):A8×A3×Bool:=
 if k.up&& !decide (AU (stT k).inbox fr nu<0) then
  ((wrR k (CX CG fr nu (nA (stT k).inbox (AU (stT k).inbox fr nu).toNat).un) Y).1,
   (if(wrR k (CX CG fr nu (nA (stT k).inbox (AU (stT k).inbox fr nu).toNat).un) Y).2 then nA (stT k).inbox (AU (stT k).inbox fr nu).toNat else zN),
   (wrR k (CX CG fr nu (nA (stT k).inbox (AU (stT k).inbox fr nu).toNat).un) Y).2)
 else(k,zN,A0)
def Qa(l:List A3)(i:Int): @rd A3 y7 l i=nA l i.toNat:=rfl
def Pf{n:A3}(h:At n=Y):(0<=n.fr/\n.fr<=999)/\(0<=n.nu/\n.nu<=999)/\(0<=n.un/\n.un<=999)/\isN n.fr=Y/\isN n.to=Y/\inB n.nu 1 99=Y/\inB n.un 1 999=Y/\n.tx.size<=24/\1<=n.tx.size:=by
 unfold At at h;simp only[AD]at h;obtain⟨a,b,c,d,e⟩:=h;have a1:=AY.1 a;have c1:=AY.1 c;have d1:=AY.1 d;unfold Jw at e;rw[AD]at e;have e1:=AY.1 e.1;exact⟨J,J,J,a,b,c,d,J,J⟩
def WW{w:A1}{a b c:Int}(hw:w.size<=10)(ha:0<=a/\a<=999)(hb:0<=b/\b<=999)(hc:0<=c/\c<=999):(CX w a b c).size<=100:=by
 have h1:=HB ha.1 ha.2;have h2:=HB hb.1 hb.2;have h3:=HB hc.1 hc.2;unfold CX;simp only[Bz,BP,Bl,CR];omega
def zg{a b c:Int}(ha:0<=a/\a<=999)(hb:0<=b/\b<=999)(hc:0<=c/\c<=999):V3 (a,b,c,())=I ((((((BX a++B [32])++BX b)++B [32])++BX c),()),()):=by
 have h1:=HB ha.1 ha.2;have h2:=HB hb.1 hb.2;have h3:=HB hc.1 hc.2;unfold V3;simp only[Fm (n:=a) J J,Fm (n:=b) J J,Fm (n:=c) J J,A6];rw[A5<|AQ (by simp only[Bz,BP,Bl,CR];omega),A5<|AQ (by simp only[Bz,BP,Bl,CR];omega),A5<|AQ (by simp only[Bz,BP,Bl,CR];omega),A5<|AQ (by simp only[Bz,BP,Bl,CR];omega)]
def Wf(w:List UInt8)(a b c:Int):B (w++[32])++((((BX a++B [32])++BX b)++B [32])++BX c)=CX (B w) a b c:=by
 apply Fy;unfold CX;simp only[Fz,L_B,C3]
def aiA{k:A8}(h:Ad k=Y)(fr nu:Int):Uh (tKp k,fr,nu,())=I ((tKp (DG k fr nu).1,tN (DG k fr nu).2.1,(DG k fr nu).2.2,()),()):=by
 have hk:=C5 h;have hf:=Bu hk.kok;have il:=hf.il;unfold Uh DG;rw[LU<|D2 h];simp only[A6,h,AA,A4,Nu h,MK<|D2 h,Ja (l:=(stT k).inbox)<|show(stT k).inbox.length<=1048576 by omega];obtain e|e:=tf k.up
 .by_cases hi:AU (stT k).inbox fr nu<0
  .simp only[e,AA,Bq,AQ hi,A2,BY,A4]
  .have hi':0<=AU (stT k).inbox fr nu:=J
   obtain⟨i1,i2,i3,i4⟩:=Eo hi';have hn:=Gs hf.i i1;obtain⟨r1,r2,r3,_⟩:=Pf hn;rw[i3]at r1;rw[i4]at r2;have hz:=WW (w:=CG) aEp r1 r2 r3;have hl:=V2 hk.LA (r:=CX CG fr nu (nA (stT k).inbox (AU (stT k).inbox fr nu).toNat).un) J Y;simp only[e,AA,Bq,B1 hi,A4,AG,EZ,A2,Mb hi',Qa,zg r1 r2 r3,A6];rw[A5<|AQ (by rw[← Wf [101,97,116]]at hz;rw[Bz]at hz;rw[show(B [101,97,116,32]).size=(B<|[101,97,116]++[32]).size from rfl];omega)];rw[show(B [101,97,116,32])=B ([101,97,116]++[32]) from rfl,Wf [101,97,116],hl];simp only[A6];obtain e3|e3:=tf (wrR k (CX CG fr nu (nA (stT k).inbox (AU (stT k).inbox fr nu).toNat).un) Y).2
   .simp only[e3,AA,A4,A2]
   .simp only[e3,AG,A4,A2,Q5 e3]
 .simp only[e,AG,Bt,AM,A2,A4]
def aiS{k:A8}(h:Ad k=Y)(fr nu:Int):Uy (tKp k,fr,nu,())=I ((tKp (DG k fr nu).1,tN (DG k fr nu).2.1,(DG k fr nu).2.2,()),()):=by
 have hk:=C5 h;have hf:=Bu hk.kok;have il:=hf.il;unfold Uy DG;rw[KR<|D2 h];simp only[A6,h,AA,A4,LI h,KO<|D2 h,LQ (l:=(stT k).inbox)<|show(stT k).inbox.length<=1048576 by omega];obtain e|e:=tf k.up
 .by_cases hi:AU (stT k).inbox fr nu<0
  .simp only[e,AA,Bq,AQ hi,A2,BY,A4]
  .have hi':0<=AU (stT k).inbox fr nu:=J
   obtain⟨i1,i2,i3,i4⟩:=Eo hi';have hn:=Gs hf.i i1;obtain⟨r1,r2,r3,_⟩:=Pf hn;rw[i3]at r1;rw[i4]at r2;have hz:=WW (w:=CG) aEp r1 r2 r3;have hl:=eO hk (r:=CX CG fr nu (nA (stT k).inbox (AU (stT k).inbox fr nu).toNat).un) J;simp only[e,AA,Bq,B1 hi,A4,AG,EZ,A2,Mb hi',Qa,qt (w:=CG) aEp r1 r2 r3,A6,hl];obtain e3|e3:=tf (wrR k (CX CG fr nu (nA (stT k).inbox (AU (stT k).inbox fr nu).toNat).un) Y).2
   .simp only[e3,AA,A4,A2]
   .simp only[e3,AG,A4,A2]
 .simp only[e,AG,Bt,AM,A2,A4]
def ED(k:A8)(fr nu mix:Int):Frame×Bool:=
 if k.up&&(!decide (AU (stT k).held fr nu<0)&&inB mix 0 999) then
  let n:=nA (stT k).held (AU (stT k).held fr nu).toNat
  (⟨1,k.id,Br k.id n.to,n.fr,n.nu,n.to,n.un,n.tx.size,mix,GH n.tx mix⟩,Y)
 else(zF,A0)
def ai9{k:A8}(sm:FY k)(fr nu mix:Int):Ug (tKp k,fr,nu,mix,())=I ((tF (if Ad k then ED k fr nu mix else(zF,A0)).1,(if Ad k then ED k fr nu mix else(zF,A0)).2,()),()):=by
 unfold Ug ED;rw[LU sm];obtain h|h:=tf (Ad k)
 .have hk:=C5 h;have hf:=Bu hk.kok;have hl:=hf.hl;obtain e|e:=tf k.up
  .simp only[A6,h,e,AA,GM,A4,A2,Nu h,Ja (l:=(stT k).held)<|show(stT k).held.length<=1048576 by omega,Hn,Dt,Df,IM];by_cases hi:AU (stT k).held fr nu<0
   .simp only[AQ hi,Bt,A2,AA,AM,BY,A4]
   .have hi':0<=AU (stT k).held fr nu:=J
    obtain e2|e2:=tf (inB mix 0 999)
    .simp only[B1 hi,e2,AA,GM,A4,AG,EZ,A2,Mb hi',Qa,rM,ali,A6]
    .simp only[B1 hi,e2,AG,DN,A2,BY,A4]
  .simp only[A6,h,e,AA,AG,DN,A2,AM,A4]
 .simp only[A6,h,AG,Bt,A2,A4]
def aim{k:A8}(sm:FY k)(fr nu mix:Int):Ux (tKp k,fr,nu,mix,())=I ((tF (if Ad k then ED k fr nu mix else(zF,A0)).1,(if Ad k then ED k fr nu mix else(zF,A0)).2,()),()):=by
 unfold Ux ED;rw[KR sm];obtain h|h:=tf (Ad k)
 .have hk:=C5 h;have hf:=Bu hk.kok;have hl:=hf.hl;obtain e|e:=tf k.up
  .simp only[A6,h,e,AA,A4,A2,EM];obtain e2|e2:=tf (inB mix 0 999)
   .simp only[e2,AA,A4,LI h,LQ (l:=(stT k).held)<|show(stT k).held.length<=1048576 by omega,A6];by_cases hi:AU (stT k).held fr nu<0
    .simp only[AQ hi,A2,AA,AM,BY,A4]
    .have hi':0<=AU (stT k).held fr nu:=J
     simp only[B1 hi,A4,AG,EZ,A2,Mb hi',Qa,wb,amn,A6]
   .simp only[e2,AG,A2,BY,A4]
  .simp only[A6,h,e,AA,AG,A2,AM,A4]
 .simp only[A6,h,AG,A2,A4]
def Ew(k:A8):A8×Bool:=if k.up then(pkM k,Y) else(k,A0)
def abH{k:A8}{st:AJ}(h:Hk k st):JD k.log k.fo (C9 st)=((D1<|C9 st,((D1<|C9 st).size:Int)),Y):=by
 have hrs:=W3 h.kok;have hps:=Pv h.kok;unfold JD;rw[A5 h.sh,A5];rw[AD];refine⟨?_,AQ J⟩;unfold Fh;rw[DM];exact λx hx=>by
  have:=hrs.1 x hx;exact AY.2 J
def agW{k:A8}(h:Ad k=Y):UY (tKp k,())=I ((tKp (Ew k).1,(Ew k).2,()),()):=by
 have hk:=C5 h;have hsm:=Q2<|Bu hk.kok;have hP:=uE (lg:=k.log) (fo:=k.fo) (rs:=C9<|stT k) (Q0 h)<|XS hk.kok;rw[abH hk.LA]at hP;unfold UY Ew;rw[LU<|D2 h];simp only[A6,h,AA,A4,Nu h,MK<|D2 h,wE hsm,hk.kok,A2,hP];obtain e|e:=tf k.up
 .simp only[e,AA,GM,A4,A2];unfold pkM;simp only[e]
 .simp only[e,AG,Bt,A2,A4]
def ahw{k:A8}(h:Ad k=Y):Um (tKp k,())=I ((tKp (Ew k).1,(Ew k).2,()),()):=by
 have hk:=C5 h;have hsm:=Q2<|Bu hk.kok;have hP:=uq (lg:=k.log) (fo:=k.fo) (rs:=C9<|stT k) (Q0 h)<|XS hk.kok;rw[abH hk.LA]at hP;unfold Um Ew;rw[KR<|D2 h];simp only[A6,h,AA,A4,KO<|D2 h];obtain e|e:=tf k.up
 .simp only[e,AA,A4,A2,LI h,we hsm,hk.kok,hP,A6];unfold pkM;simp only[e]
 .simp only[e,AG,A2,A4]
def Es(k:A8):A8×Bool:=if k.up&& !decide (k.fo=(k.log.size:Int)) then(foM k,Y) else(k,A0)
def afj{k:A8}(h:Ad k=Y):UN (tKp k,())=I ((tKp (Es k).1,(Es k).2,()),()):=by
 have hf:=FJ h;have hF:=qF (lg:=k.log) (fo:=k.fo)<|Q0 h;rw[show Js k.log k.fo=(k.log,(k.log.size:Int)) from A5 hf.sh]at hF;unfold UN Es;rw[LU<|D2 h];simp only[A6,h,AA,A4,MK<|D2 h];obtain e|e:=tf k.up<;>obtain e2|e2:=tfp (k.fo=(k.log.size:Int))<;>simp only[e,e2,AT,Ae,AA,AG,DN,Bt,GM,EZ,BY,AM,A2,A4,hF,A6];unfold foM;simp only[e]
def agA{k:A8}(h:Ad k=Y):US (tKp k,())=I ((tKp (Es k).1,(Es k).2,()),()):=by
 have hf:=FJ h;unfold US Es;rw[KR<|D2 h];simp only[A6,h,AA,A4,KO<|D2 h];obtain e|e:=tf k.up<;>obtain e2|e2:=tfp (k.fo=(k.log.size:Int))<;>simp only[e,e2,AT,Ae,AA,AG,DN,Bt,GM,EZ,BY,AM,A2,A4];rw[show Nl ((tKp k,()))=_ from fE hf.sh];rfl
def aDp{k:A8}(h:Ad k=Y)(keep:Int):(faM k keep)=⟨k.id,A0,(Lq k.log k.fo keep).1,(Lq k.log k.fo keep).2,[]⟩:=by
 unfold faM Lq Eh;rw[A5 (FJ h).sh]
def agY{k:A8}(sm:FY k)(keep:Int):Ua (tKp k,keep,())=I ((tKp<|if Ad k then faM k keep else zKp,()),()):=by
 unfold Ua;rw[LU sm];obtain h|h:=tf (Ad k)
 .simp only[A6,h,AA,A4,A2,ai5 sm.1,aDp h]
 .simp only[A6,h,AG,A2,A4]
def ahx{k:A8}(sm:FY k)(keep:Int):Un (tKp k,keep,())=I ((tKp<|if Ad k then faM k keep else zKp,()),()):=by
 unfold Un;rw[KR sm];obtain h|h:=tf (Ad k)
 .simp only[A6,h,AA,A4,A2,aih sm.1,aDp h]
 .simp only[A6,h,AG,A2,A4]
def aDt{k:A8}(h:Ad k=Y)(hu:k.up=A0):k.AH=[]:=by
 rcases(FJ h).up with h1|h1
 .rw[hu]at h1;cases h1
 .exact Du h1
def agV{k:A8}(h:Ad k=Y):UX (tKp k,())=I ((tKp<|riM k,()),()):=by
 unfold UX riM;rw[LU<|D2 h];simp only[A6,h,AA,A4];obtain e|e:=tf k.up
 .simp only[e,A2,MK<|D2 h,A6];rw[← e]
 .simp only[e,A4,aDt h e]
def ahv{k:A8}(h:Ad k=Y):Ul (tKp k,())=I ((tKp<|riM k,()),()):=by
 unfold Ul riM;rw[KR<|D2 h];simp only[A6,h,AA,A4,KO<|D2 h]
def abV{hv:List AE}{i:Nat}(h:i<hv.length)(x:AE):hA (hv.set i x) i=x:=by
 rw[hA,B8,YS h];rfl
def aln{l:List AE}{f n:Int}(hl:l.length<=1048576):dW (l,f,n,())=I ((EG l f n,()),()):=by
 have h:pP (l,f,n,0,())=I (if EG l f n<0 then .inr () else .inl (EG l f n,())):=
  Pm (λi=>(l,f,n,(i:Int),())) l.length (λi=>U ((hA l i).fr=f)&&U ((hA l i).nu=n)) (λi=>(i,())) () (λi hi=>by
   unfold cn;simp only[IN hi,AW hi,A2,Lp,IM,Db hi hl];obtain e|e:=tfp ((hA l i).fr=f)<;>obtain e2|e2:=tfp ((hA l i).nu=n)<;>simp only[e,e2,AT,Ae,EZ,BY,AM,A2,A4]) (by
   unfold cn;simp only[Gv,A4])
 unfold dW;rw[h];by_cases e':EG l f n<0
 .have:EG l f n= -1:=by
   obtain h|⟨i,h,_⟩:=G6 l.length (λi=>U ((hA l i).fr=f)&&U ((hA l i).nu=n))
   .exact h.1
   .have:EG l f n=(i:Int):=h;omega
  rw[A5 e',this];rfl
 .rw[A9 e'];rfl
def S4(l:List AE)(f n:Int):EG l f n<0\/ ∃i:Nat,EG l f n=(i:Int)/\i<l.length/\(hA l i).fr=f/\(hA l i).nu=n:=by
 obtain h|⟨i,h,h2,h3,_⟩:=G6 l.length (λi=>U ((hA l i).fr=f)&&U ((hA l i).nu=n))
 .left;have:EG l f n= -1:=h.1;omega
 .right;rw[AD]at h3;exact⟨i,h,h2,Bc h3.1,Bc h3.2⟩
def Ao(hv:List AE)(f:Frame):List AE×Nat:=
 if EG hv f.fr f.nu<0 then((if 3<=hv.length then hv.drop 1 else hv)++[⟨f.fr,f.nu,f.to,f.un,f.sz,[]⟩],(if 3<=hv.length then hv.drop 1 else hv).length)
 else(hv,(EG hv f.fr f.nu).toNat)
def OC{hv:List AE}{f:Frame}:(Ao hv f).2<(Ao hv f).1.length:=by
 unfold Ao;obtain h|⟨i,h1,h2,_⟩:=S4 hv f.fr f.nu
 .rw[A5 h];simp
 .rw[A9 J];show(EG hv f.fr f.nu).toNat<hv.length;omega
def SY{hv:List AE}{f:Frame}(h:hv.length<=3):(Ao hv f).1.length<=3:=by
 unfold Ao;split
 .simp only[Aq,JJ];split
  .rw[EI];omega
  .omega
 .exact h
def Dk(mix:Int)(m:AN):Bool:= !decide (m.nu=mix)
def Cq(got:List AN)(mix:Int)(da:A1):List AN:=
 (if 14<=(got.filter<|Dk mix).length then(got.filter<|Dk mix).drop 1 else got.filter (Dk mix))++[⟨mix,da⟩]
def aC9{p:AN->Bool}(pre:List AN)(m:AN):(pre++[m]).filter p=pre.filter p++if p m then [m] else []:=by
 rw[Oi];congr 1;simp only[K9,Yh]
def ap1{mix:Int}{da:A1}(post:List AN):∀(pre:List AN),(pre++post).length<=1048576->
  cZ ((mix,da,()),pre.filter<|Dk mix,pre++post,((pre++post).length:Int),(j8 pre:Int),())=I (.inr ((mix,da,()),(pre++post).filter<|Dk mix,())):=by
 induction post with
 | nil=>
  intro pre _;refine BH ?_;unfold fV;simp only[CK,Gv,A4]
 | cons m post ih=>
  intro pre hl;have hlen:pre.length<(pre++m::post).length:=by simp
  have hw:=Db hlen hl;have hf:(pre.filter<|Dk mix).length<=pre.length:=Ij _ _;have:=ih (pre++[m]) (by rw[← snoc];exact hl);rw[← snoc]at this;refine Av ?_ this;unfold fV;simp only[IN hlen,A2,AW hlen,Lo,hw,aC9,@Aq _ pre [m],JJ];obtain e|e:=tfp (m.nu=mix)
  .have:Dk mix m=A0:=by unfold Dk;simp only[e,AT,AA]
   simp only[e,this,AT,AA,A4,CK]
  .have:Dk mix m=Y:=by unfold Dk;simp only[e,Ae,AG]
   simp only[e,this,Ae,AG,A2];rw[A5<|BD (by simp at hl ⊢; omega)]
def apZ{got:List AN}{mix:Int}{da:A1}(hl:got.length<=1048576):WR (got,(mix,da,()),())=I ((Cq got mix da,()),()):=by
 have hf:(got.filter<|Dk mix).length<=got.length:=Ij _ _;unfold WR Cq;rw[show cZ ((mix,da,()),[],got,(j8 got:Int),0,())=_ from ap1 got [] hl];simp only[AP,A6,Eb];by_cases h:14<=(got.filter<|Dk mix).length
 .rw[A5<|AQ J,A5 h,A5 o5,A5<|Fo (by rw[EI];omega) y9];rfl
 .rw[A9 (by rw[B1 J];exact CM),A9 h,A5<|Fo J y9]
def apE{k:Int×Bool×A1×Int×List AE×D}{f:Frame}{z:Int×Bool×A1×Int×List AE×D}{i:Int}{h:AE}(post:List AN):∀(pre:List AN),h.got=pre++post->(pre++post).length<=1048576->
  bR (k,tF f,z,i,(h.fr,h.nu,h.to,h.un,h.sz,h.got,()),pre.filter<|Dk f.mix,(j8 pre:Int),())=I (.inr (k,tF f,z,i,(h.fr,h.nu,h.to,h.un,h.sz,h.got,()),h.got.filter<|Dk f.mix,())):=by
 induction post with
 | nil=>
  intro pre hg _;rw[CK]at hg;refine BH ?_;unfold dX;simp only[hg,Gv,A4]
 | cons m post ih=>
  intro pre hg hl;have hlen:pre.length<(pre++m::post).length:=by simp
  have hw:=Db hlen hl;have hf:(pre.filter<|Dk f.mix).length<=pre.length:=Ij _ _;have:=ih (pre++[m]) (by rw[hg,snoc]) (by rw[← snoc];exact hl);refine Av ?_ this;unfold dX;simp only[hg,IN hlen,A2,AW hlen,Lo,hw,aC9,@Aq _ pre [m],JJ];obtain e|e:=tfp (m.nu=f.mix)
  .have:Dk f.mix m=A0:=by unfold Dk;simp only[e,AT,AA]
   simp only[e,this,AT,AA,A4,CK]
  .have:Dk f.mix m=Y:=by unfold Dk;simp only[e,Ae,AG]
   simp only[e,this,Ae,AG,A2];rw[A5<|BD (by simp at hl ⊢; omega)]
def FG(hv:List AE)(i:Nat):List AE:=hv.take i++hv.drop (i+1)
def wR{hv:List AE}{i:Nat}(hi:i<hv.length)(hl:hv.length<=1048576):PQ (hv,(i:Int),())=I ((FG hv i,()),()):=by
 unfold PQ FG;simp only[Bf,Eb];rw[Db hi hl,A5 o5,A5<|Fo (l:=([]:List AE)) y9 o5,A5 o5,A5<|Fo o5 o5,Bf]
def Cv(hv:List AE)(i:Nat)(f:Frame):List AE:=hv.set i ⟨(hA hv i).fr,(hA hv i).nu,(hA hv i).to,(hA hv i).un,(hA hv i).sz,Cq (hA hv i).got f.mix f.da⟩
def Lm(h:AE)(f:Frame):Bool:=U (h.to=f.to)&&(U (h.un=f.un)&&U (h.sz=f.sz))
def aoA{k:A8}(sm:FY k)(h3:k.AH.length<=3)(f:Frame):
  eY (tKp k,tF f,())=I ((if Lm (hA (Ao k.AH f).1 (Ao k.AH f).2) f then((k.id,k.up,k.log,k.fo,Cv (Ao k.AH f).1 (Ao k.AH f).2 f,()),((Ao k.AH f).2:Int),()) else((k.id,k.up,k.log,k.fo,(Ao k.AH f).1,()),-1,()),())):=by
 obtain⟨id,up,lg,fo,hv⟩:=k;obtain⟨sl,hl,hs⟩:=sm;simp only at sl hl hs h3;unfold eY;simp only[aln hl,A6];have Em:=OC (hv:=hv) (f:=f);have L9:=SY (hv:=hv) (f:=f) h3;have UA:(hA (Ao hv f).1 (Ao hv f).2).got.length<=1048576:=by
  unfold Ao;obtain h|⟨i,h1,h2,_⟩:=S4 hv f.fr f.nu
  .rw[A5 h];simp only;rw[hA,B8,F1<|Ar _];simp
  .rw[A9 J];show(hA hv (EG hv f.fr f.nu).toNat).got.length<=1048576;rw[h1,Bf,I2 h2];exact(hs _<|Cg h2).1
 have nT:∀ {Ω:Type} (F:(Int×Bool×A1×Int×List AE×D)×(Int×Int×Int×Int×Int×Int×Int×Int×Int×A1×D)×(Int×Bool×A1×Int×List AE×D)×Int×D->Option Ω),
   BT F ((if(U<|EG hv f.fr f.nu<0) then
    (BT (X:=(Int×Bool×A1×Int×List AE×D)×(Int×Int×Int×Int×Int×Int×Int×Int×Int×A1×D)×(Int×Bool×A1×Int×List AE×D)×D) (λj7=>
    (if Ab (j7.1.2.2.2.2.1.length+([(AE.mk j7.2.1.2.2.2.1 j7.2.1.2.2.2.2.1 j7.2.1.2.2.2.2.2.1 j7.2.1.2.2.2.2.2.2.1 j7.2.1.2.2.2.2.2.2.2.1 ([]:List AN))]:List AE).length) then
    let v9:=(w64<|((j7.1.2.2.2.2.1++([(AE.mk j7.2.1.2.2.2.1 j7.2.1.2.2.2.2.1 j7.2.1.2.2.2.2.2.1 j7.2.1.2.2.2.2.2.2.1 j7.2.1.2.2.2.2.2.2.2.1 ([]:List AN))]:List AE)).length:Int) - 1)
    I (.inr ((j7.1.1,j7.1.2.1,j7.1.2.2.1,j7.1.2.2.2.1,(j7.1.2.2.2.2.1++([(AE.mk j7.2.1.2.2.2.1 j7.2.1.2.2.2.2.1 j7.2.1.2.2.2.2.2.1 j7.2.1.2.2.2.2.2.2.1 j7.2.1.2.2.2.2.2.2.2.1 ([]:List AN))]:List AE)),()),j7.2.1,j7.2.2.1,v9,()))
    else G))
    ((if(U<|3<=(j8 hv:Int)) then
    (PQ (hv,0,())).bind λr8=>
    I (.inr ((id,up,lg,fo,r8.1),tF f,(0,A0,noB,0,([]:List AE),()),()))
    else
    I (.inr ((id,up,lg,fo,hv,()),tF f,(0,A0,noB,0,([]:List AE),()),())))))
    else
    I (.inr ((id,up,lg,fo,hv,()),tF f,(0,A0,noB,0,([]:List AE),()),(EG hv f.fr f.nu,())))))=F ((id,up,lg,fo,(Ao hv f).1,()),tF f,(0,A0,noB,0,[],()),((Ao hv f).2:Int),()):=by
  intro Ω F;unfold Ao;obtain h|⟨i,h1,h2,_⟩:=S4 hv f.fr f.nu
  .rw[A5<|AQ h,A5 h];by_cases h4:3<=hv.length
   .have hd:=wR (hv:=hv) (i:=0) J hl;rw[A5<|AQ J,show PQ (hv,0,())=_ from hd];simp only[A6,Bd,A5 h4];rw[show FG hv 0=hv.drop 1 from by simp[FG],A5<|Fo o5 y9,Bd,Aa (by first|(simp;done)|(simp;omega)) (by first|(simp;done)|(simp;omega))];congr 1;simp
   .rw[A9 (by rw[B1 J];exact CM)];simp only[Bd,A9 h4];rw[A5<|Fo J y9,Bd,Aa (by first|(simp;done)|(simp;omega)) (by first|(simp;done)|(simp;omega))];congr 1;simp
  .rw[A9 (by rw[B1 J];exact CM),A9 (J:¬EG hv f.fr f.nu<0),Bd];simp only;rw[h1,Bf]
 rw[nT];revert Em L9 UA;generalize (Ao hv f).1=l;generalize (Ao hv f).2=i;intro Em L9 UA;unfold Lm;have hff:((hA l i).got.filter<|Dk f.mix).length<=(hA l i).got.length:=Ij _ _;simp only[AW Em,A2,Lp,Bf];obtain e1|e1:=tfp ((hA l i).to=f.to)<;>simp only[e1,AT,Ae,AA,AG,A4,A2,AR,AM];obtain e2|e2:=tfp ((hA l i).un=f.un)<;>simp only[e2,AT,Ae,AA,AG,A4,A2,AR,AM];obtain e3|e3:=tfp ((hA l i).sz=f.sz)<;>simp only[e3,AT,Ae,AA,AG,A4,A2];have hgo:=apE (k:=(id,up,lg,fo,l,())) (f:=f) (z:=(0,A0,noB,0,[],())) (i:=(i:Int)) (h:=hA l i) (hA l i).got [] rfl UA;rw[show bR ((id,up,lg,fo,l,()),tF f,(0,A0,noB,0,[],()),(i:Int),((hA l i).fr,(hA l i).nu,(hA l i).to,(hA l i).un,(hA l i).sz,(hA l i).got,()),[],0,())=_ from hgo];simp only[AP,A6];unfold Cv Cq;by_cases h:14<=((hA l i).got.filter<|Dk f.mix).length
 .rw[A5<|AQ J,A5 h,A5 o5,A5<|Fo (l:=([]:List AN)) y9 (by rw[EI];omega),Bd];simp only[Eb,show AK 1=1 from rfl];rw[A5<|Fo (by rw[EI];omega) y9,A5<|AW Em];rfl
 .rw[A9 (by rw[B1 J];exact CM),A9 h,Bd];dsimp only;rw[A5<|Fo J y9,A5<|AW Em];rfl
def De(kind:Int)(f:Frame):Frame:=⟨kind,f.dst,f.src,f.fr,f.nu,f.to,f.un,0,0,noB⟩
def J6(n:A3):A1:=B [116,97,107,101,32]++wr n
abbrev Gc(k:A8)(hv:List AE):A8:=⟨k.id,k.up,k.log,k.fo,hv⟩
def Kg(k:A8)(n:A3)(f:Frame):A8×List Frame:=
 if At n&&(wrR k (J6 n) Y).2 then((wrR k (J6 n) Y).1,[De 2 f]) else(k,[])
def K0(k:A8)(f:Frame):A8×List Frame:=
 if Lm (hA (Ao k.AH f).1 (Ao k.AH f).2) f then
  (if(FA f.sz<|Cq (hA (Ao k.AH f).1 (Ao k.AH f).2).got f.mix f.da).2 then
   Kg (Gc k<|FG (Cv (Ao k.AH f).1 (Ao k.AH f).2 f) (Ao k.AH f).2) ⟨f.fr,f.nu,f.to,f.un,(FA f.sz<|Cq (hA (Ao k.AH f).1 (Ao k.AH f).2).got f.mix f.da).1⟩ f
  else(Gc k<|Cv (Ao k.AH f).1 (Ao k.AH f).2 f,[]))
 else(Gc k (Ao k.AH f).1,[])
def E9(k:A8)(f:Frame):A8×List Frame:=
 if f.un<=(stT k).ti then(k,[De 3 f])
 else if 0<=AU (stT k).held f.fr f.nu\/0<=Bj (stT k).marks f.fr f.nu then(foM k,[De 2 f])
 else if f.fr=k.id then(k,[])
 else K0 k f
def aCu{s:Int}{l:List AN}:(FA s l).1.size<=24:=by
 unfold FA;split
 .rename_i h;have h1:=AY.1 h;split
  .exact Cz _
  .rename_i c hc;split
   .have hb:inB (Ay (s+3) 4) 1 6=Y:=by
     have hd:Ay (s+3) 4=(s+3) / 4:=HC J;exact AY.2 J
    have hk:=jq hb l;have hz:=X3 hk.all hc;have hz0:noB.size=0:=rfl;have hd:Ay (s+3) 4=(s+3) / 4:=HC J;rw[hk.1,hz0]at hz;rw[G8 J];omega
   .exact Cz _
 .exact Cz _
def aC5(got:List AN)(mix:Int)(da:A1):(Cq got mix da).length<=got.length+1:=by
 have hf:(got.filter<|Dk mix).length<=got.length:=Ij _ _;unfold Cq;simp only[Aq,JJ];split
 .rw[EI];omega
 .omega
def abv{h:AE}(ok:Ft h=Y):h.got.length<=14:=by
 unfold Ft at ok;simp only[AD]at ok;have h1:=Bc ok.2.2.2.2.2.1;omega
def aCC{hv:List AE}{f:Frame}(hs:∀h∈hv,Ft h=Y):(hA (Ao hv f).1 (Ao hv f).2).got.length<=14:=by
 unfold Ao;obtain h|⟨i,h1,h2,_⟩:=S4 hv f.fr f.nu
 .rw[A5 h];simp only;rw[hA,B8,F1<|Ar _];simp
 .rw[A9 J];show(hA hv (EG hv f.fr f.nu).toNat).got.length<=14;rw[h1,Bf,I2 h2];exact abv<|hs _<|Cg h2
def aCn{k:A8}{st:AJ}(h:Hk k st)(hv:List AE):Hk (Gc k hv) st:=⟨h.sh,h.st⟩
def aC3{k:A8}(h:Ad k=Y):∀x∈k.AH,Ft x=Y:=by
 intro x hx;obtain⟨i,hi,rfl⟩:=OK hx;have:=(FJ h).hv i hi;unfold Ff at this;rw[AD]at this;exact this.1
def apF{k:A8}(h:Ad k=Y){f:Frame}(hf:By f=Y)(h1:f.ki=1):V4 (tKp k,tF f,())=I ((tKp (E9 k f).1,(E9 k f).2,()),()):=by
 have hk:=C5 h;have hkf:=Bu hk.kok;have sm:=D2 h;have kf:=FJ h;have hF:=qF (lg:=k.log) (fo:=k.fo)<|Q0 h;rw[show Js k.log k.fo=(k.log,(k.log.size:Int)) from A5 kf.sh]at hF;have hl:=hkf.hl;have ml:=hkf.ml;have hfr:inB f.sz 1 24=Y/\inB f.mix 0 999=Y:=by
  unfold By Jl at hf;simp only[AD]at hf;have:=hf.2.2.2.2.2.2;rw[A5<|AQ h1]at this;simp only[AD]at this;exact⟨this.1,this.2.1⟩
 have hsz:=AY.1 hfr.1;have hmx:Dm (Ay (f.sz+3) 4) f.mix=Y:=by
  have hd:Ay (f.sz+3) 4=(f.sz+3) / 4:=HC J;unfold Dm;rw[hfr.2,Kr];exact AY.2 J
 unfold V4 E9;simp only[Nu h,A6];by_cases c1:f.un<=(stT k).ti
 .rw[A5<|AQ c1,A5 c1];rfl
 .rw[A9 (by rw[B1 c1];exact CM),A9 c1];simp only[Ja (l:=(stT k).held)<|show(stT k).held.length<=1048576 by omega,Rf (l:=(stT k).marks)<|show(stT k).marks.length<=1048576 by omega,A6,Dt,Df,IM,A2];by_cases c2:0<=AU (stT k).held f.fr f.nu\/0<=Bj (stT k).marks f.fr f.nu
  .rw[A5 (by rw[C0];exact c2.imp AQ AQ),A5 c2];simp only[hF,A6];rfl
  .rw[A9 (by rw[C0];exact λh=>c2<|h.imp Bc Bc),A9 c2];simp only[ck (n:=f.sz) J J,WH,hmx,Dt,Df,IM,A2,AA,EY];by_cases c3:f.fr=k.id
   .rw[A5<|AQ c3,A5 c3]
   .rw[A9 (by rw[B1 c3];exact CM),A9 c3];have oL:=aoA sm kf.hl f;rw[oL];simp only[A6];unfold K0;obtain c4|c4:=tf (Lm (hA (Ao k.AH f).1 (Ao k.AH f).2) f)
    .have Em:=OC (hv:=k.AH) (f:=f);have L9:=SY (hv:=k.AH) (f:=f) kf.hl;have hal:(Cv (Ao k.AH f).1 (Ao k.AH f).2 f).length=(Ao k.AH f).1.length:=by unfold Cv;rw[GP]
     have oF:=aCC (f:=f)<|aC3 h;have hgl:=aC5 (hA (Ao k.AH f).1 (Ao k.AH f).2).got f.mix f.da;have UA:(hA (Cv (Ao k.AH f).1 (Ao k.AH f).2 f) (Ao k.AH f).2).got=Cq (hA (Ao k.AH f).1 (Ao k.AH f).2).got f.mix f.da:=by
      unfold Cv;rw[abV Em]
     simp only[c4,A2];rw[A9 (by rw[B1 J];exact CM),A5<|AW (by rw[hal];exact Em)];simp only[Lp,UA,alg f.sz _<|show(Cq (hA (Ao k.AH f).1 (Ao k.AH f).2).got f.mix f.da).length<=1048576 by omega,A6];obtain c5|c5:=tf (FA f.sz<|Cq (hA (Ao k.AH f).1 (Ao k.AH f).2).got f.mix f.da).2
     .simp only[c5,AA,A4,A2];rw[wR (by rw[hal];exact Em) (by rw[hal];omega)];simp only[A6];rw[Ue (by have:=aCu (s:=f.sz) (l:=Cq (hA (Ao k.AH f).1 (Ao k.AH f).2).got f.mix f.da);omega)];simp only[A6];unfold Kg;generalize hn:(⟨f.fr,f.nu,f.to,f.un,(FA f.sz<|Cq (hA (Ao k.AH f).1 (Ao k.AH f).2).got f.mix f.da).1⟩:A3)=n;obtain c6|c6:=tf (At n)
      .have hz:=Yn (w:=B [116,97,107,101,32]) (by rw[BP];decide) c6;have hw:=V2 (aCn hk.LA<|FG (Cv (Ao k.AH f).1 (Ao k.AH f).2 f) (Ao k.AH f).2) (r:=J6 n) hz Y;simp only[c6,A2,AR];rw[A9 (by rw[B1 mb];exact CM),A5<|AQ (by rw[Bz]at hz;omega)];rw[show KQ ((k.id,k.up,k.log,k.fo,FG (Cv (Ao k.AH f).1 (Ao k.AH f).2 f) (Ao k.AH f).2,()),B [116,97,107,101,32]++wr n,Y,())=_ from hw];simp only[A6];obtain c7|c7:=tf (wrR (Gc k<|FG (Cv (Ao k.AH f).1 (Ao k.AH f).2 f) (Ao k.AH f).2) (J6 n) Y).2
       .simp only[c7,AA,A4,A2];rfl
       .simp only[c7,AG,A4,A2,Q5 c7]
      .simp only[c6,A4,AT,A2,AM]
     .simp only[c5,AG,A4,A2]
    .simp only[c4,A4];rfl
def aic{k:A8}(h:Ad k=Y){f:Frame}:Uu (tKp k,tF f,())=I ((tKp (E9 k f).1,(E9 k f).2,()),()):=by
 have hk:=C5 h;have hkf:=Bu hk.kok;have sm:=D2 h;have kf:=FJ h;have hl:=hkf.hl;have ml:=hkf.ml;have hl3:=kf.hl;have hlen:k.AH.length<=1048576:=J
 unfold Uu E9;simp only[LI h,A6];by_cases c1:f.un<=(stT k).ti
 .rw[A5<|AQ c1,A5 c1];rfl
 .rw[A9 (by rw[B1 c1];exact CM),A9 c1];simp only[LQ (l:=(stT k).held)<|show(stT k).held.length<=1048576 by omega,Rq (l:=(stT k).marks)<|show(stT k).marks.length<=1048576 by omega,A6,Dt,Df,IM,A2];by_cases c2:0<=AU (stT k).held f.fr f.nu\/0<=Bj (stT k).marks f.fr f.nu
  .rw[A5 (by rw[C0];exact c2.imp AQ AQ),A5 c2,fE kf.sh];rfl
  .rw[A9 (by rw[C0];exact λh=>c2<|h.imp Bc Bc),A9 c2];by_cases c3:f.fr=k.id
   .rw[A5<|AQ c3,A5 c3]
   .rw[A9 (by rw[B1 c3];exact CM),A9 c3];simp only[yo hlen,A6];have Em:=OC (hv:=k.AH) (f:=f);have L9:=SY (hv:=k.AH) (f:=f) kf.hl;have oF:=aCC (f:=f)<|aC3 h;have nT:∀ {Ω:Type} (F:(Int×Bool×A1×Int×List AE×D)×(Int×Int×Int×Int×Int×Int×Int×Int×Int×A1×D)×(Int×Bool×A1×Int×List AE×D)×Int×D->Option Ω),
      BT F ((if(U<|EG k.AH f.fr f.nu<0) then
      (if Ab (k.AH.length+([(AE.mk f.fr f.nu f.to f.un f.sz ([]:List AN))]:List AE).length) then
      (if(U<|3<((k.AH++([(AE.mk f.fr f.nu f.to f.un f.sz ([]:List AN))]:List AE)).length:Int)) then
      (if(U (0<=1)&&U (1<=((k.AH++([(AE.mk f.fr f.nu f.to f.un f.sz ([]:List AN))]:List AE)).length:Int))) then
      let v22:=(w64<|((Bo (AK 1)<|k.AH++([(AE.mk f.fr f.nu f.to f.un f.sz ([]:List AN))]:List AE)).length:Int) - 1)
      I (.inr ((k.id,k.up,k.log,k.fo,(Bo (AK 1)<|k.AH++([(AE.mk f.fr f.nu f.to f.un f.sz ([]:List AN))]:List AE)),()),tF f,(0,A0,noB,0,([]:List AE),()),v22,()))
      else G)
      else
      let v23:=(w64<|((k.AH++([(AE.mk f.fr f.nu f.to f.un f.sz ([]:List AN))]:List AE)).length:Int) - 1)
      I (.inr ((k.id,k.up,k.log,k.fo,(k.AH++([(AE.mk f.fr f.nu f.to f.un f.sz ([]:List AN))]:List AE)),()),tF f,(0,A0,noB,0,([]:List AE),()),v23,())))
      else G)
      else
      I (.inr (tKp k,tF f,(0,A0,noB,0,([]:List AE),()),(EG k.AH f.fr f.nu,())))))=F ((k.id,k.up,k.log,k.fo,(Ao k.AH f).1,()),tF f,(0,A0,noB,0,[],()),((Ao k.AH f).2:Int),()):=by
     intro Ω F;unfold Ao;obtain h|⟨i,h1,h2,_⟩:=S4 k.AH f.fr f.nu
     .rw[A5<|AQ h,A5 h,A5<|Fo hlen y9];by_cases h4:3<=k.AH.length
      .rw[A5<|AQ o5,A5 o5,A5 h4];have e1:Bo (AK 1) (k.AH++[(⟨f.fr,f.nu,f.to,f.un,f.sz,[]⟩:AE)])=k.AH.drop 1++[⟨f.fr,f.nu,f.to,f.un,f.sz,[]⟩]:=by
        show Bo 1 _=_;rw[TS J]
       simp only[e1];rw[Bd,Aa (by first|(simp;done)|(simp;omega)) (by first|(simp;done)|(simp;omega))];congr 1;simp
      .rw[A9 o5,A9 h4];simp only;rw[Bd,Aa (by first|(simp;done)|(simp;omega)) (by first|(simp;done)|(simp;omega))];congr 1;simp
     .rw[A9 (by rw[B1 J];exact CM),A9 (J:¬EG k.AH f.fr f.nu<0),Bd];simp only;rw[h1,Bf]
    rw[nT];have hgl:=aC5 (hA (Ao k.AH f).1 (Ao k.AH f).2).got f.mix f.da;unfold K0;have hLg:=λhv=>aCn hk.LA hv;revert Em L9 oF hgl;generalize (Ao k.AH f).1=l;generalize (Ao k.AH f).2=i;intro Em L9 oF hgl;have aza:l.set i ⟨(hA l i).fr,(hA l i).nu,(hA l i).to,(hA l i).un,(hA l i).sz,Cq (hA l i).got f.mix f.da⟩=Cv l i f:=rfl;have hal:(Cv l i f).length=l.length:=by unfold Cv;rw[GP]
    have hat:hA (Cv l i f) i=⟨(hA l i).fr,(hA l i).nu,(hA l i).to,(hA l i).un,(hA l i).sz,Cq (hA l i).got f.mix f.da⟩:=abV Em _;simp only[AW Em,A2,Lp,Bf];unfold Lm;obtain e1|e1:=tfp ((hA l i).to=f.to)<;>simp only[e1,AT,Ae,AA,AG,A4,A2,AR,AM];obtain e2|e2:=tfp ((hA l i).un=f.un)<;>simp only[e2,AT,Ae,AA,AG,A4,A2,AR,AM];obtain e3|e3:=tfp ((hA l i).sz=f.sz)<;>simp only[e3,AT,Ae,AA,AG,A4,A2];have e3':(hA l i).sz=f.sz:=of_eq_true e3;rw[apZ<|show(hA l i).got.length<=1048576 by omega];simp only[A6,aza,hat];rw[e3'];rw[aml f.sz _<|show(Cq (hA l i).got f.mix f.da).length<=1048576 by omega];simp only[A6];obtain c5|c5:=tf (FA f.sz<|Cq (hA l i).got f.mix f.da).2
    .simp only[c5,AA,A4,A2];rw[A5 o5,A5<|Fo (l:=([]:List AE)) y9 o5,Db (n:=i) (m:=l.length) Em J,A5 o5,A5<|Fo o5 o5];rw[Uv (by have:=aCu (s:=f.sz) (l:=Cq (hA l i).got f.mix f.da);omega)];simp only[A6,Eb,Bf];unfold Kg;generalize hn:(⟨f.fr,f.nu,f.to,f.un,(FA f.sz<|Cq (hA l i).got f.mix f.da).1⟩:A3)=n;have hL:=hLg<|FG (Cv l i f) i;have hdr:BR i (Cv l i f)++Bo (i+1) (Cv l i f)=FG (Cv l i f) i:=rfl;rw[hdr];obtain c6|c6:=tf (At n)
     .have hz:=Yn (w:=B [116,97,107,101,32]) (by rw[BP];decide) c6;have hw:=WQ hL (r:=J6 n) hz;simp only[c6,A2,AR];rw[A5<|AQ (by rw[Bz]at hz;omega)];rw[show Nr ((k.id,k.up,k.log,k.fo,FG (Cv l i f) i,()),B [116,97,107,101,32]++wr n,())=_ from hw];simp only[A6];unfold wrR;rw[hL.stT];cases hc:BE (stT k) (J6 n) with
      | none=>rfl
      | some o=>
       simp only[AA,A4,A2];rw[fE<|aaz hL hc];rfl
     .have hb:BE (stT k) (B [116,97,107,101,32]++noB)=G:=aAn hk.kok jT<|.inr rfl;have hz0:(B [116,97,107,101,32]++noB).size<=1048576:=by rw[Bz,BP];show 5+0<=1048576;omega
      have hw:=WQ hL (r:=B [116,97,107,101,32]++noB) hz0;rw[aCm (by rw[hL.stT];exact hb)]at hw;simp only[c6,A4,AM];rw[A5<|AQ (show(B [116,97,107,101,32]).size+noB.size<=4611686018427387904 by rw[BP];show 5+0<=4611686018427387904;omega)];rw[show Nr ((k.id,k.up,k.log,k.fo,FG (Cv l i f) i,()),B [116,97,107,101,32]++noB,())=_ from hw];rfl
    .simp only[c5,AG,A4,A2]
def fR{α β:Type}[DecidableEq β]{l:List α}{f:α->β}:(l.map f).Nodup↔ ∀(i j:Nat) (hi:i<l.length) (hj:j<l.length),j<i->f l[j]≠f l[i]:=by
 unfold List.Nodup;rw[K5];constructor
 .intro h i j hi hj hlt;have:=h j i (by simpa using hj) (by simpa using hi) hlt;simpa using this
 .intro h i j hi hj hlt;have:=h j i (by simpa using hj) (by simpa using hi) hlt;simpa using this
def ZI{l:List AN}{i:Nat}(h:i<l.length):xA l i=l[i]:=by
 rw[xA,B8,Au h];rfl
def Ic(m:AN):Prop:=inB m.nu 0 999=Y/\(m.da.size:Int)=4
structure Qt (l:List AN):Prop where
 el:∀m∈l,Ic m
 nd:(l.map (·.nu)).Nodup
def aa0{l:List AN}:BK l.length (I3 l)=Y↔Qt l:=by
 rw[DB];constructor
 .intro h;refine⟨λm hm=> ?_,fR.2 λi j hi hj hlt=> ?_⟩
  .obtain⟨i,hi,rfl⟩:=aax hm;have:=h i hi;unfold I3 at this;simp only[AD]at this;exact⟨this.1.1,Bc this.1.2⟩
  .have:=h i hi;unfold I3 at this;simp only[AD]at this;have:=DB.1 this.2 j hlt;rw[ZI hi,ZI hj]at this;simpa using this
 .intro h i hi;unfold I3;simp only[AD];have h1:=h.el l[i] (Cg hi);rw[ZI hi];refine⟨⟨h1.1,AQ h1.2⟩,DB.2 λj hj=> ?_⟩;have:=fR.1 h.nd i j hi J hj;rw[ZI (J:j<l.length)];simpa using this
def auK{l:List AN}(h:Qt l)(hl:l.length<=14){mix:Int}{da:A1}(hm:Ic ⟨mix,da⟩):Qt (Cq l mix da)/\(Cq l mix da).length<=14:=by
 have hf:(l.filter<|Dk mix).length<=l.length:=Ij _ _;have LB:∀g:List AN,g.Sublist (l.filter<|Dk mix)->Qt (g++[⟨mix,da⟩]):=by
  intro g hg;refine⟨λm hm'=> ?_, ?_⟩
  .rcases BL.1 hm' with h1|h1
   .exact h.el m (FQ.1<|hg.subset h1).1
   .rw[CN.1 h1];exact hm
  .rw[Ek,JR];refine⟨h.nd.sublist<|(hg.trans List.filter_sublist).map _,by simp,λa ha b hb=> ?_⟩;obtain⟨m,h1,rfl⟩:=Bv.1 ha;have h2:=(FQ.1<|hg.subset h1).2;have hb:b=mix:=by simpa using hb
   rw[hb];unfold Dk at h2;simpa using h2
 unfold Cq;split
 .refine⟨LB _<|QT _ _, ?_⟩;simp only[Aq,JJ,EI];omega
 .refine⟨LB _<|Ea _, ?_⟩;simp only[Aq,JJ];omega
abbrev ND(h:AE):Int×Int:=(h.fr,h.nu)
structure JU (l:List AE):Prop where
 el:∀h∈l,Ft h=Y
 nd:(l.map ND).Nodup
def mT{l:List AE}:(∀i,i<l.length->Ff l i=Y)↔JU l:=by
 constructor
 .intro h;refine⟨λm hm=> ?_,fR.2 λi j hi hj hlt=> ?_⟩
  .obtain⟨i,hi,rfl⟩:=OK hm;have:=h i hi;unfold Ff at this;rw[AD]at this;exact this.1
  .have:=h i hi;unfold Ff at this;rw[AD]at this;have:=DB.1 this.2 j hlt;rw[I2 hi,I2 hj]at this;intro e;simp only[ND,CL]at e;simp[e.1,e.2]at this
 .intro h i hi;unfold Ff;rw[AD];refine⟨by rw[I2 hi];exact h.el _<|Cg hi,DB.2 λj hj=> ?_⟩;have:=fR.1 h.nd i j hi J hj;rw[I2 hi,I2 (J:j<l.length)];simp only[ND,ne_eq,CL,not_and]at this;by_cases e:l[j].fr=l[i].fr
  .simp[e,this e]
  .simp[e]
def OA{f:Frame}(h:By f=Y):isN f.src=Y/\isN f.dst=Y/\isN f.fr=Y/\isN f.to=Y/\inB f.nu 1 99=Y/\inB f.un 1 999=Y/\Jl f=Y:=by
 unfold By at h;simp only[AD]at h;exact h
def Wn{f:Frame}(h:By f=Y)(h1:f.ki=1):inB f.sz 1 24=Y/\Ic ⟨f.mix,f.da⟩/\f.dst=Br f.src f.to:=by
 have:=(OA h).2.2.2.2.2.2;unfold Jl at this;rw[A5<|AQ h1]at this;simp only[AD]at this;exact⟨this.1,⟨this.2.1,Bc this.2.2.1⟩,Bc this.2.2.2⟩
def JU.sub{l g:List AE}(h:JU l)(hg:g.Sublist l):JU g:=⟨λx hx=>h.el x<|hg.subset hx,h.nd.sublist<|hg.map _⟩
def aa9{l:List AE}(h:JU l){f:Frame}(hf:By f=Y)(h1:f.ki=1):JU (Ao l f).1:=by
 obtain⟨_,_,r3,r4,r5,r6,_⟩:=OA hf;have hp:=Wn hf h1;unfold Ao;split
 .rename_i hi;have Tz:∀x∈l,ND x≠(f.fr,f.nu):=by
   intro x hx e;obtain⟨i,hi',rfl⟩:=OK hx;simp only[ND,CL]at e;obtain h|⟨i,h,_⟩:=G6 l.length (λi=>U ((hA l i).fr=f.fr)&&U ((hA l i).nu=f.nu))
   .have:=h.2 i hi';simp[e.1,e.2]at this
   .have:EG l f.fr f.nu=(i:Int):=h;omega
  have LB:∀g:List AE,g.Sublist l->JU (g++[⟨f.fr,f.nu,f.to,f.un,f.sz,[]⟩]):=by
   intro g hg;refine⟨λx hx=> ?_, ?_⟩
   .rcases BL.1 hx with h2|h2
    .exact h.el x (hg.subset h2)
    .rw[CN.1 h2];unfold Ft;simp only[r3,r4,r5,r6,hp.1,AR];rfl
   .rw[Ek,JR];refine⟨h.nd.sublist<|hg.map _,by simp,λa ha b hb=> ?_⟩;obtain⟨m,h2,rfl⟩:=Bv.1 ha;have hb:b=(f.fr,f.nu):=by simpa using hb
    rw[hb];exact Tz m<|hg.subset h2
  simp only;split
  .exact LB _ (QT _ _)
  .exact LB _ (Ea _)
 .exact h
def aum{h:AE}(ok:Ft h=Y):Qt h.got/\h.got.length<=14:=by
 have h1:=abv ok;unfold Ft at ok;simp only[AD]at ok;exact⟨aa0.1 ok.2.2.2.2.2.2,h1⟩
def aul{h:AE}(ok:Ft h=Y){g:List AN}(hg:Qt g)(hl:g.length<=14):Ft ⟨h.fr,h.nu,h.to,h.un,h.sz,g⟩=Y:=by
 unfold Ft at ok ⊢;simp only[AD]at ok ⊢;exact⟨ok.1,ok.2.1,ok.2.2.1,ok.2.2.2.1,ok.2.2.2.2.1,AQ J,aa0.2 hg⟩
def aas{l:List AE}(h:JU l){i:Nat}(hi:i<l.length){f:Frame}(hm:Ic ⟨f.mix,f.da⟩):JU (Cv l i f):=by
 have hh:=h.el l[i] (Cg hi);have hg:=aum hh;have hn:=auK hg.1 hg.2 hm;unfold Cv;rw[I2 hi];refine⟨λx hx=> ?_, ?_⟩
 .rcases TF hx with h1|h1
  .exact h.el x h1
  .rw[h1];exact aul hh hn.1 hn.2
 .rw[List.map_set];have:(l.map ND).set i (ND ⟨l[i].fr,l[i].nu,l[i].to,l[i].un,l[i].sz,Cq l[i].got f.mix f.da⟩)=l.map ND:=by
   apply List.ext_getElem y9;intro j h1 h2;rw[List.getElem_set];split
   .rename_i e;subst e;simp
   .rfl
  rw[this];exact h.nd
def aah{l:List AE}(h:JU l)(i:Nat):JU (FG l i):=by
 refine h.sub ?_;unfold FG;have:(l.take i++l.drop (i+1)).Sublist (l.take i++l.drop i):=lG (Ea _) (by rw[← Il];exact QT _ _);rw[JO]at this;exact this
def Xy{k:A8}{st:AJ}(h:D9 k st)(hu:k.up=Y){hv:List AE}(hl:hv.length<=3)(hf:JU hv):D9 (Gc k hv) st:=by
 obtain⟨rs,ts,h1,h2⟩:=h.lg;have kf:=FJ h.ok;exact⟨W2 (k:=Gc k hv) kf.id h1 hl (.inl hu) (by rw[show(Gc k hv).id=k.id from rfl,h2];rfl)<|mT.2 hf,h.st⟩
def T5{k:A8}{st:AJ}(h:D9 k st)(r:A1)(b:Bool):∃o,D9 (wrR k r b).1 o/\((wrR k r b).2=Y->BE st r=I o)/\((wrR k r b).2=A0->o=st/\BE st r=G):=by
 unfold wrR;rw[h.stT];cases hc:BE st r with
 | none=>exact⟨st,h,(λe=>absurd e CM),λ_=>⟨rfl,rfl⟩⟩
 | some o=>
  refine⟨o, ?_,(λ_=>rfl),λe=>absurd e.symm CM⟩;simp only;split
  .exact QG (OH h hc)
  .exact OH h hc
def jE{k:A8}(h:Ad k=Y)(hu:k.up=Y){f:Frame}(hf:By f=Y)(h1:f.ki=1):Ad (E9 k f).1=Y:=by
 have hk:=C5 h;have kf:=FJ h;have hv:=mT.1 kf.hv;have hp:=Wn hf h1;have Em:=OC (hv:=k.AH) (f:=f);have L9:=SY (hv:=k.AH) (f:=f) kf.hl;have hpf:=aa9 hv hf h1;have haf:=aas hpf Em hp.2.1;have hal:(Cv (Ao k.AH f).1 (Ao k.AH f).2 f).length=(Ao k.AH f).1.length:=by unfold Cv;rw[GP]
 unfold E9;split
 .exact h
 split
 .exact(QG hk).ok
 split
 .exact h
 unfold K0;split
 .split
  .unfold Kg;have hw:=Xy hk hu (hv:=FG (Cv (Ao k.AH f).1 (Ao k.AH f).2 f) (Ao k.AH f).2) (by unfold FG;simp;omega)<|aah haf _;split
   .obtain⟨o,ho,_⟩:=T5 hw (J6 ⟨f.fr,f.nu,f.to,f.un,(FA f.sz<|Cq (hA (Ao k.AH f).1 (Ao k.AH f).2).got f.mix f.da).1⟩) Y;exact ho.ok
   .exact hw.ok
  .exact(Xy hk hu (by rw[hal];exact L9) haf).ok
 .exact(Xy hk hu L9 hpf).ok
def HW(k:A8)(f:Frame):A8×List Frame:=
 if k.up&&(By f&&U (f.dst=k.id)) then
  (if U (f.ki=1) then E9 k f
   else if U (f.ki=2)&&(!decide (AU (stT k).held f.fr f.nu<0)&&(U ((nA (stT k).held (AU (stT k).held f.fr f.nu).toNat).to=f.to)&&U ((nA (stT k).held (AU (stT k).held f.fr f.nu).toNat).un=f.un))) then
    ((wrR k (CX Bx f.fr f.nu f.un) A0).1,[])
   else(k,[]))
 else(k,[])
def CB(k:A8)(f:Frame):A8×List Frame:=if Ad k then HW k f else(zKp,[])
def ji{f:Frame}(h:By f=Y):(0<=f.fr/\f.fr<=999)/\(0<=f.nu/\f.nu<=999)/\(0<=f.un/\f.un<=999):=by
 obtain⟨_,_,r3,_,r5,r6,_⟩:=OA h;have a:=AY.1 r3;have b:=AY.1 r5;have c:=AY.1 r6;exact⟨J,J,J⟩
def agX{k:A8}(sm:FY k)(f:Frame):UZ (tKp k,tF f,())=I ((tKp (CB k f).1,(CB k f).2,()),()):=by
 unfold UZ CB;rw[LU sm];obtain h|h:=tf (Ad k)
 .have hk:=C5 h;have hkf:=Bu hk.kok;have hl:=hkf.hl;have hl':(stT k).held.length<=1048576:=J
  unfold HW;simp only[A6,h,AA,A4,A2,MK sm,xc,Nu h,Ja hl'];obtain e|e:=tf k.up<;>simp only[e,AA,AG,A4,A2,AR,AM];obtain e2|e2:=tf (By f)<;>simp only[e2,AA,AG,A4,A2,AR,AM];obtain e3|e3:=tfp (f.dst=k.id)<;>simp only[e3,AT,Ae,AA,AG,A4,A2];obtain⟨r1,r2,r3⟩:=ji e2;obtain e4|e4:=tfp (f.ki=1)
  .have e4':=of_eq_true e4;simp only[e4,AT,A2];rw[show V4 (tKp k,tF f,())=_ from apF h e2 e4'];simp only[A6];rw[MK<|D2<|jE h e e2 e4'];rfl
  .simp only[e4,Ae,A4];obtain e5|e5:=tfp (f.ki=2)<;>simp only[e5,AT,Ae,AA,AG,A4,A2,AR,AM];by_cases hi:AU (stT k).held f.fr f.nu<0
   .simp only[AQ hi,A2,AA,AM,A4]
   .have hi':0<=AU (stT k).held f.fr f.nu:=J
    simp only[B1 hi,A4,AG,AR,A2,Mb hi',Qa];obtain e6|e6:=tfp ((nA (stT k).held (AU (stT k).held f.fr f.nu).toNat).un=f.un)<;>simp only[e6,AT,Ae,AA,AG,A4,A2,Kr,BY];obtain e7|e7:=tfp ((nA (stT k).held (AU (stT k).held f.fr f.nu).toNat).to=f.to)<;>simp only[e7,AT,Ae,AA,AG,A4,A2];have hz:=WW (w:=Bx) aEp r1 r2 r3;have hw:=V2 hk.LA (r:=CX Bx f.fr f.nu f.un) J A0;rw[zg r1 r2 r3];simp only[A6];rw[A5<|AQ (by rw[← Wf [108,101,116]]at hz;rw[Bz]at hz;rw[show(B [108,101,116,32]).size=(B<|[108,101,116]++[32]).size from rfl];omega)];rw[show(B [108,101,116,32])=B ([108,101,116]++[32]) from rfl,Wf [108,101,116],hw];rfl
 .simp only[A6,h,AG,A2,A4]
def sv{k:A8}(sm:FY k)(f:Frame):RB (tKp k,tF f,())=I ((tKp (CB k f).1,(CB k f).2,()),()):=by
 unfold RB CB;rw[KR sm];obtain h|h:=tf (Ad k)
 .have hk:=C5 h;have hkf:=Bu hk.kok;have hl:=hkf.hl;have hl':(stT k).held.length<=1048576:=J
  unfold HW;simp only[A6,h,AA,A4,A2,KO sm,yK,LI h,LQ hl'];obtain e|e:=tf k.up<;>simp only[e,AA,AG,A4,A2,AR,AM];obtain e2|e2:=tf (By f)<;>simp only[e2,AA,AG,A4,A2,AR,AM];obtain e3|e3:=tfp (f.dst=k.id)<;>simp only[e3,AT,Ae,AA,AG,A4,A2];obtain⟨r1,r2,r3⟩:=ji e2;obtain e4|e4:=tfp (f.ki=1)
  .have e4':=of_eq_true e4;simp only[e4,AT,A2];rw[show Uu (tKp k,tF f,())=_ from aic h];simp only[A6];rw[KO<|D2<|jE h e e2 e4'];rfl
  .simp only[e4,Ae,A4];obtain e5|e5:=tfp (f.ki=2)<;>simp only[e5,AT,Ae,A4,A2,AR,AM];by_cases hi:AU (stT k).held f.fr f.nu<0
   .rw[A9 (show ¬U (0<=AU (stT k).held f.fr f.nu)=Y by simp;omega)];simp only[AQ hi,HL,A2,Bd,AA,AM,A4]
   .have hi':0<=AU (stT k).held f.fr f.nu:=J
    rw[A5<|AQ hi'];simp only[B1 hi,AG,AR,A2,Mb hi',Qa,IM,Bd];obtain e7|e7:=tfp ((nA (stT k).held (AU (stT k).held f.fr f.nu).toNat).to=f.to)<;>simp only[e7,AT,Ae,A4,A2,AR,AM];obtain e6|e6:=tfp ((nA (stT k).held (AU (stT k).held f.fr f.nu).toNat).un=f.un)<;>simp only[e6,AT,Ae,A4,A2];have hz:=WW (w:=Bx) aEp r1 r2 r3;have hw:=WQ hk.LA (r:=CX Bx f.fr f.nu f.un) J;rw[show PH (B [108,101,116],f.fr,f.nu,f.un,())=_ from qt (w:=Bx) aEp r1 r2 r3];simp only[A6];rw[hw];rfl
 .simp only[A6,h,AG,A2,A4]
def aui{k:A8}(h:Ad k=Y)(f:Frame):Ad (CB k f).1=Y:=by
 have hk:=C5 h;unfold CB HW;rw[A5 h];split
 .rename_i hc;simp only[AD]at hc;split
  .rename_i h1;exact jE h hc.1 hc.2.1 (Bc h1)
  .split
   .obtain⟨o,ho,_⟩:=T5 hk (CX Bx f.fr f.nu f.un) A0;exact ho.ok
   .exact h
 .exact h
def asu{k:A8}(h:Ad k=Y):Ad (ES k).1=Y:=by
 unfold ES;split
 .obtain⟨o,ho,_⟩:=T5 (C5 h) (FZ<|(stT k).ti+1) Y;exact ho.ok
 .exact h
def aw2{k:A8}(h:Ad k=Y)(tt un:Int)(tx:A1):Ad (Ci k tt un tx).1=Y:=by
 unfold Ci;split
 .obtain⟨o,ho,_⟩:=T5 (C5 h) (Ia ⟨k.id,(stT k).nx,tt,un,tx⟩) Y;exact ho.ok
 .exact h
def avw{k:A8}(h:Ad k=Y)(fr nu:Int):Ad (DG k fr nu).1=Y:=by
 unfold DG;split
 .obtain⟨o,ho,_⟩:=T5 (C5 h) (CX CG fr nu (nA (stT k).inbox (AU (stT k).inbox fr nu).toNat).un) Y;exact ho.ok
 .exact h
def auB{k:A8}(h:Ad k=Y):Ad (Ew k).1=Y:=by
 unfold Ew;split
 .exact(Yo<|C5 h).ok
 .exact h
def ari{k:A8}(h:Ad k=Y):Ad (Es k).1=Y:=by
 unfold Es;split
 .exact(QG<|C5 h).ok
 .exact h
def XA(l:List Int):(BF l).size=l.length:=by
 show(List.toArray _).size=_;simp
def asM(f:Frame):(Ca f).length<=17:=by
 unfold Ca;split
 .rename_i h;have:=X5 h;simp only[Aq,Bl,CR];omega
 .simp
def frA(l:List Frame)(i:Nat):Frame:=l.getD i<|dfl .frame
def aDQ(l:List Frame)(i:Nat): @rd Frame aEw l (i:Int)=frA l i:=rfl
def pcF(f:Frame):AL:=⟨f.src,f.dst,BF<|Ca f,A0⟩
def C1(ra:List AL)(fs:List Frame):List AL:=ra++(fs.take<|30 - ra.length).map pcF
def abM{l:List Frame}{i:Nat}(h:i<l.length):frA l i=l[i]:=by
 rw[frA,B8,Au h];rfl
def wO{ra:List AL}{fs:List Frame}(hf:fs.length<=1048576):Rc (ra,fs,())=I ((C1 ra fs,()),()):=by
 have Gq:pO (ra,fs,0,())=I (.inr (C1 ra fs,())):=by
  have h0:=Ch (b:=V1) (y:= .inr (C1 ra fs,())) (λi=>(ra++(fs.take i).map pcF,fs,(i:Int),())) (min fs.length<|30 - ra.length) (λi hi=>by
   have h1:i<fs.length:=J
   have h2:(ra++(fs.take i).map pcF).length=ra.length+i:=by simp;omega
   unfold V1;simp only[BQ h1,AW h1,aDQ,BI h1 (by omega:fs.length<=9223372036854775807),h2];rw[A5 o5];simp only[A2];rw[show PG ((_,_,_,_,_,_,_,_,_,_,()),())=_ from vK<|frA fs i];simp only[A6];rw[A5<|BD o5];have h3:ra++(fs.take<|i+1).map pcF=(ra++(fs.take i).map pcF)++[pcF (frA fs i)]:=by
    rw[abM h1,C3,← List.map_singleton (f:=pcF),← Ek,List.take_append_getElem h1]
   rw[h3];rfl) (by
   unfold V1;have h2:(ra++(fs.take<|min fs.length<|30 - ra.length).map pcF).length=ra.length+min fs.length (30 - ra.length):=by simp
   simp only[h2];rw[A9 (by simp only[AD,decide_eq_true_eq];omega)];have h3:fs.take (min fs.length<|30 - ra.length)=fs.take (30 - ra.length):=by
    rw[Nat.min_comm,← Yc,E4]
   rw[h3];rfl)
  simp only[List.take_zero,JM,CK]at h0;exact h0
 unfold Rc;simp only[Gq,DT]
def OT(f:Frame):Prop:=isN f.src=Y/\isN f.dst=Y/\(f.src - f.dst=1\/f.dst - f.src=1)
def awO{f:Frame}(h:OT f):E0 (pcF f)=Y:=by
 have:=asM f;unfold E0 pcF;simp only[h.1,h.2.1,AR,XA,AD,C0,decide_eq_true_eq];exact⟨h.2.2,J⟩
def aDK{ra:List AL}{fs:List Frame}(h:ra.length<=30):(C1 ra fs).length<=30:=by
 unfold C1;simp;omega
def aa4{ra:List AL}{fs:List Frame}(h:∀p∈ra,E0 p=Y)(hf:∀f∈fs,OT f):∀p∈C1 ra fs,E0 p=Y:=by
 intro p hp;obtain h1|h1:=BL.1 hp
 .exact h p h1
 .obtain⟨f,h2,rfl⟩:=Bv.1 h1;exact awO<|hf f<|I9 h2
def jW{a t:Int}(h:isN (Br a t)=Y):isN a=Y/\(a - Br a t=1\/Br a t - a=1):=by
 have h0:=E7 h;revert h0;unfold Br;split
 .omega
 .rename_i h1;intro _;simp only[C0,CE,not_or,Bool.not_eq_false]at h1;refine⟨h1.1, ?_⟩;split<;>omega
def auO{f:Frame}(h:By f=Y):OT f:=by
 obtain⟨r1,r2,_,_,_,_,r7⟩:=OA h;refine⟨r1,r2, ?_⟩;unfold Jl at r7;split at r7
 .simp only[AD,decide_eq_true_eq]at r7;have h1:=r7.2.2.2;have:=jW (a:=f.src) (t:=f.to) (by rw[← h1];exact r2);rw[← h1]at this;exact this.2
 .simp only[AD,decide_eq_true_eq]at r7;have h1:=r7.2.2.2.2;have:=jW (a:=f.dst) (t:=f.to) (by rw[← h1];exact r1);rw[← h1]at this;exact this.2.symm
def awt{f:Frame}(n:Int)(h:OT f):OT (De n f):=⟨h.2.1,h.1,h.2.2.symm⟩
def asA(k:A8)(f:Frame):(CB k f).2=[]\/(By f=Y/\ ∃n,(CB k f).2=[De n f]):=by
 unfold CB;split
 .unfold HW;split
  .rename_i hc;simp only[AD]at hc;split
   .unfold E9;split
    .exact .inr ⟨hc.2.1,3,rfl⟩
    .split
     .exact .inr ⟨hc.2.1,2,rfl⟩
     .split
      .exact .inl rfl
      .unfold K0;split
       .split
        .unfold Kg;split
         .exact .inr ⟨hc.2.1,2,rfl⟩
         .exact .inl rfl
        .exact .inl rfl
       .exact .inl rfl
   .split<;>exact .inl rfl
  .exact .inl rfl
 .exact .inl rfl
def Wz(k:A8)(f:Frame):(CB k f).2.length<=1/\ ∀g∈(CB k f).2,OT g:=by
 obtain h|⟨h,n,h1⟩:=asA k f
 .rw[h];exact⟨by simp,λg hg=>by cases hg⟩
 .rw[h1];exact⟨by simp,λg hg=>by rw[CN.1 hg];exact awt n<|auO h⟩
def att{k:A8}(h:Ad k=Y){fr nu mix:Int}(hb:(ED k fr nu mix).2=Y):OT (ED k fr nu mix).1:=by
 unfold ED at hb ⊢;split
 .rename_i hc;simp only[AD,CE,decide_eq_false_iff_not]at hc;have hk:=C5 h;have h0:=(Eo<|QY.1 hc.2.1).1;have:=aC2 hk.kok (n:=nA (stT k).held (AU (stT k).held fr nu).toNat) (by rw[nA,B8,Au h0];exact Cg h0);rw[hk.id]at this;have h2:=jW this;exact⟨h2.1,this,h2.2⟩
 .rename_i hc;rw[A9 hc]at hb;cases hb
structure B4 (w:AB):Prop where
 kl:w.A7.length=4
 ll:w.Al.length=3
 rl:w.AS.length<=30
 sl:w.AO.length<=6
 gl:w.got.length<=6
 k:∀i,i<4->Ad (kA w.A7 i)=Y/\(kA w.A7 i).id=(i:Int)
 p:∀p∈w.AS,E0 p=Y
 s:∀n∈w.AO,At n=Y
 g:∀n∈w.got,At n=Y
def EP(w:AB)(p:AL)(ra:List AL):AB:=
 if(Co<|BA p.data).2&&(U ((Co<|BA p.data).1.src=p.src)&&U ((Co<|BA p.data).1.dst=p.dst)) then
  ⟨w.ti,w.A7.set p.dst.toNat (CB (kA w.A7 p.dst.toNat) (Co<|BA p.data).1).1,w.Al,C1 ra (CB (kA w.A7 p.dst.toNat) (Co<|BA p.data).1).2,w.AO,w.got⟩
 else⟨w.ti,w.A7,w.Al,ra,w.AO,w.got⟩
def OJ(p:AL)(mix kp:Int):AL:=⟨p.src,p.dst,BF<|Bp (BA p.data) mix.toNat<|Dp .u8 (@rd Int aEt (BA p.data) mix)<|w8 kp,Y⟩
def J9(ra:List AL)(i:Nat):List AL:=ra.take i++ra.drop (i+1)
def lnk(p:AL):Int:=if p.src<p.dst then p.src else p.dst
def E8(w:AB)(e:Event):AB×Bool:=
 if inB e.wo 0 ((w.AS.length:Int) - 1) then
  if e.ki=6 then
   if !(pA w.AS e.wo.toNat).sp&&(inB e.mix 0 (((pA w.AS e.wo.toNat).data.size:Int) - 1)&&inB e.kp 1 255) then
    (⟨w.ti,w.A7,w.Al,w.AS.set e.wo.toNat<|OJ (pA w.AS e.wo.toNat) e.mix e.kp,w.AO,w.got⟩,Y)
   else(w,A0)
  else if e.ki=5 then(⟨w.ti,w.A7,w.Al,J9 w.AS e.wo.toNat,w.AO,w.got⟩,Y)
  else if bA w.Al (lnk<|pA w.AS e.wo.toNat).toNat then(EP w (pA w.AS e.wo.toNat)<|if e.kp=0 then J9 w.AS e.wo.toNat else w.AS,Y)
  else(w,A0)
 else(w,A0)
def GW(w:AB)(i:Nat)(k:A8):AB:=⟨w.ti,w.A7.set i k,w.Al,w.AS,w.AO,w.got⟩
def Jv(w:AB)(e:Event)(k:A8):AB×Bool:=
 if 6<=w.AO.length then(w,A0)
 else if(Ci k e.to e.un e.tx).2=0 then(w,A0)
 else(⟨w.ti,w.A7.set e.at_.toNat (Ci k e.to e.un e.tx).1,w.Al,w.AS,w.AO++[⟨e.at_,(Ci k e.to e.un e.tx).2,e.to,e.un,e.tx⟩],w.got⟩,Y)
def M7(w:AB)(e:Event)(k:A8):AB×Bool:=
 if(DG k e.fr e.nu).2.2&&U (w.got.length<6) then
  (⟨w.ti,w.A7.set e.at_.toNat (DG k e.fr e.nu).1,w.Al,w.AS,w.AO,w.got++[(DG k e.fr e.nu).2.1]⟩,Y)
 else(w,A0)
def GZ(w:AB)(e:Event)(k:A8):AB×Bool:=
 if e.ki=1 then Jv w e k
 else if e.ki=2 then(GW w e.at_.toNat (ES k).1,(ES k).2)
 else if e.ki=3 then(if(ED k e.fr e.nu e.mix).2 then(⟨w.ti,w.A7,w.Al,C1 w.AS [(ED k e.fr e.nu e.mix).1],w.AO,w.got⟩,Y) else(w,A0))
 else if e.ki=7 then(GW w e.at_.toNat<|faM k e.kp,k.up)
 else if e.ki=8 then(GW w e.at_.toNat<|riM k,!k.up)
 else if e.ki=11 then M7 w e k
 else if e.ki=12 then(GW w e.at_.toNat (Ew k).1,(Ew k).2)
 else if e.ki=13 then(GW w e.at_.toNat (Es k).1,(Es k).2)
 else(w,A0)
def Ef(w:AB)(e:Event):AB×Bool:=
 if inB e.at_ 0 ((w.Al.length:Int) - 1)&& !decide (bA w.Al e.at_.toNat=U (e.ki=9)) then
  (⟨w.ti,w.A7,w.Al.set e.at_.toNat<|U<|e.ki=9,w.AS,w.AO,w.got⟩,Y)
 else(w,A0)
def doM(w:AB)(e:Event):AB×Bool:=
 if e.ki=4\/e.ki=5\/e.ki=6 then E8 w e
 else if e.ki=9\/e.ki=10 then Ef w e
 else if isN e.at_ then GZ w e (kA w.A7 e.at_.toNat)
 else(w,A0)
abbrev tE(e:Event):Int×Int×Int×Int×Int×Int×Int×Int×Int×A1×D:=(e.ki,e.at_,e.fr,e.nu,e.wo,e.mix,e.kp,e.to,e.un,e.tx,())
abbrev tS(w:AB)(ev:List Event):Int×List A8×List Bool×List AL×List A3×List A3×List Event×D:=(w.ti,w.A7,w.Al,w.AS,w.AO,w.got,ev,())
def tick(w:AB)(b:Bool):AB:=if b then⟨w64<|w.ti+1,w.A7,w.Al,w.AS,w.AO,w.got⟩ else w
def Ck(w:AB)(e:Event):AB:=tick (doM w e).1 (doM w e).2
def Jr(ev:List Event)(e:Event)(b:Bool):List Event:=if b then ev++[e] else ev
def aAd(l:List AL)(i:Int): @rd AL aEq l i=pA l i.toNat:=rfl
def XU(l:List Bool)(i:Int): @rd Bool aEz l i=bA l i.toNat:=rfl
def mc{l:List AL}{i:Nat}(h:i<l.length):pA l i=l[i]:=by
 rw[pA,B8,Au h];rfl
def Fu{i:Int}{n:Nat}(h0:0<=i)(h1:i<n):inb i n=Y:=by unfold inb;simp;omega
def La{p:AL}(h:E0 p=Y):(0<=p.src/\p.src<=3)/\(0<=p.dst/\p.dst<=3)/\p.data.size<=40/\0<=lnk p/\lnk p<3:=by
 unfold E0 at h;simp only[AD,C0,decide_eq_true_eq]at h;have a:=E7 h.1;have b:=E7 h.2.1;refine⟨a,b,J, ?_, ?_⟩<;>unfold lnk<;>split<;>omega
def alm(a b:Int):dT (a,b,())=I ((if a<b then a else b,()),()):=by
 unfold dT;obtain e|e:=tfp (a<b)<;>simp only[e,AT,Ae,A2,if_false,A4]
def Po{w:AB}(h:B4 w){i:Nat}(hi:i<w.AS.length):E0 (pA w.AS i)=Y:=by
 rw[mc hi];exact h.p _<|Cg hi
def Tj{w:AB}(h:B4 w){i:Nat}(hi:i<4):FY (kA w.A7 i):=D2 (h.k i hi).1
def S7{n:Nat}(h:n<=1048576):w64 ((n:Int) - 1)=(n:Int) - 1:=Aa J J
def nd{p:Prop}[Decidable p](h:¬p):¬(U p=Y):=by simpa using h
def aad{α:Type}(l:List α)(i:Nat)(x y:α):(l.set i x).set i y=l.set i y:=by simp
def ab5{l:List AL}{i:Nat}(h:i<l.length)(p:AL):pA (l.set i p) i=p:=by
 rw[pA,B8,YS h];rfl
def mZ(s:A1):(BA s).length=s.size:=by rw[SL,DL,Aw]
def TD{n:Int}(h:isN n=Y):n.toNat<4:=by have:=E7 h;omega
section
variable {Ω:Type} {K2:List A8->List AL->Option Ω} {F:Option Ω}
def abI{w:AB}(h:B4 w){e:Event}(hk:e.ki≠5){p:AL}(hp:E0 p=Y)(ra:List AL):Qq w.A7 ra (tE e) p K2=K2 (EP w p ra).A7 (EP w p ra).AS:=by
 obtain⟨p1,p2,p3,p4,p5⟩:=La hp;have hin:inb p.dst w.A7.length=Y:=Fu p2.1 (by rw[h.kl];omega);unfold Qq EP;rw[A9<|nd hk,A5<|BD J,agK<|BOk.str _];generalize Co (BA p.data)=u;simp only[A6];obtain e2|e2:=tf u.2<;>simp only[e2,AA,AG,A4,A2,AR,AM];obtain e3|e3:=tfp (u.1.src=p.src)<;>simp only[e3,AT,Ae,AA,AG,A4,A2,AR,AM];obtain e4|e4:=tfp (u.1.dst=p.dst)<;>simp only[e4,AT,Ae,AA,AG,A4,A2];simp only[hin,A2,W7];rw[show UZ ((_,_,_,_,_,()),_,())=_ from agX (Tj h (i:=p.dst.toNat) J) u.1];simp only[A6];rw[wO (by have:=(Wz (kA w.A7 p.dst.toNat) u.1).1;omega)];rfl
def abJ{a:List A8}{ra:List AL}{e:Event}(h0:0<=e.wo)(h1:e.wo<ra.length)(hl:ra.length<=1048576)(p:AL):ZS a ra (tE e) p K2=Qq a (J9 ra e.wo.toNat) (tE e) p K2:=by
 have hw:w64 (e.wo+1)=e.wo+1:=Aa J J;have hn:(e.wo+1).toNat=e.wo.toNat+1:=J
 unfold ZS;simp only[hw,hn];rw[A5 o5,A5<|BD o5,A5 o5,A5<|BD o5];rfl
def ax1{w:AB}(h:B4 w){e:Event}(hk:e.ki=4\/e.ki=5\/e.ki=6):Qr w.A7 w.Al w.AS (tE e) K2 F=if(E8 w e).2 then K2 (E8 w e).1.A7 (E8 w e).1.AS else F:=by
 have rl:=h.rl;unfold Qr E8;simp only[Hn,A6,S7 (J:w.AS.length<=1048576),aAd];obtain e0|e0:=tf (inB e.wo 0<|(w.AS.length:Int) - 1)
 .have ha:=AY.1 e0;have hb:inb e.wo w.AS.length=Y:=Fu ha.1 J;have hwl:e.wo.toNat<w.AS.length:=J
  have hp:=Po h (i:=e.wo.toNat) hwl;obtain⟨p1,p2,p3,p4,p5⟩:=La hp;rw[e0,hb];simp only[AA,A4,A2];obtain c6|c6:=tfp (e.ki=6)
  .simp only[c6,AT,A2,S7<|show(pA w.AS e.wo.toNat).data.size<=1048576 by omega];obtain e1|e1:=tf (pA w.AS e.wo.toNat).sp<;>simp only[e1,AA,AG,A4,A2,AR,AM];obtain e2|e2:=tf (inB e.mix 0<|((pA w.AS e.wo.toNat).data.size:Int) - 1)<;>simp only[e2,AA,AG,A4,A2,AR,AM];obtain e3|e3:=tf (inB e.kp 1 255)<;>simp only[e3,AA,AG,A4,A2];have hm:=AY.1 e2;have hmb:inb e.mix (BA (pA w.AS e.wo.toNat).data).length=Y:=Fu hm.1 (by rw[mZ];omega);simp only[GP,aad,ab5 hwl,hb,A2];rw[A5<|BD J,A5 hmb,A5 hmb];rfl
  .simp only[c6,Ae,A4,if_false];obtain c4|c4:=tfp (e.ki=4)
   .have c5:¬e.ki=5:=by have:e.ki=4:=of_eq_true c4;omega
    have hl:inb (lnk<|pA w.AS e.wo.toNat) w.Al.length=Y:=by
     have:=h.ll;exact Fu p4 (by rw[this];exact p5)
    have hlk:∀q:AL,(if q.src<q.dst then q.src else q.dst)=lnk q:=λ_=>rfl;simp only[c4,AT,A2,alm,A6,hlk,hl,XU,A9 c5];obtain e1|e1:=tf (bA w.Al (lnk<|pA w.AS e.wo.toNat).toNat)<;>simp only[e1,AA,AG,A4,A2];unfold ZR;rw[A9<|nd c5];by_cases e5:e.kp=0
    .rw[A5<|AQ e5,A5 e5,abJ ha.1 J J,abI h c5 hp]
    .rw[A9<|nd e5,A9 e5,abI h c5 hp]
   .have c5:e.ki=5:=by
     have:¬e.ki=4:=by simpa using c4
     have:¬e.ki=6:=by simpa using c6
     omega
    simp only[c4,Ae,A4,A5 c5];unfold ZR;rw[A5<|AQ c5,abJ ha.1 J J];unfold Qq;rw[A5<|AQ c5];rfl
 .rw[e0];simp only[AG,A2,A4]
def ax2{w:AB}(h:B4 w){e:Event}{K1:List Bool->Option Ω}:To w.Al (tE e) K1 F=if(Ef w e).2 then K1 (Ef w e).1.Al else F:=by
 have ll:=h.ll;unfold To Ef;simp only[Hn,A6,S7 (J:w.Al.length<=1048576),XU];obtain e0|e0:=tf (inB e.at_ 0<|(w.Al.length:Int) - 1)
 .have ha:=AY.1 e0;have hb:inb e.at_ w.Al.length=Y:=Fu ha.1 J;rw[e0,hb];simp only[AA,A4,A2,AR];obtain c|c:=tfp (bA w.Al e.at_.toNat=U (e.ki=9))<;>simp only[c,AT,Ae,AA,AG,A2,A4]
 .rw[e0];simp only[AG,AM,A2,A4]
end
section
variable {Ω:Type} {K:List A8->List Bool->List AL->List A3->List A3->Option Ω} {F:Option Ω} {Kv:List A8->Bool->Option Ω} {Km:List AL->Bool->Option Ω} {Kz:Bool->Option Ω} {R:Option Ω}
def ax3{w:AB}(h:B4 w){e:Event}(hk:¬(e.ki=4\/e.ki=5\/e.ki=6))(hk':¬(e.ki=9\/e.ki=10))(ht:e.tx.size<=1048576){B3:AB×Bool}
  (hK:B3.2=Y->K B3.1.A7 B3.1.Al B3.1.AS B3.1.AO B3.1.got=R)(hF:B3.2=A0->B3.1=w->F=R)(hKv:∀k' b,B3=(GW w e.at_.toNat k',b)->Kv (w.A7.set e.at_.toNat k') b=R)
  (hKm:∀ra',B3=(⟨w.ti,w.A7,w.Al,ra',w.AO,w.got⟩,Y)->Km ra' Y=R)(hKz:B3=(w,A0)->Kz A0=R):
  ∀X,nB w.A7 w.AS w.AO w.got (tE e) (λx y z=>K x w.Al w.AS y z) F Kv Km Kz=X->doM w e=B3->X=R:=by
 intro X;obtain⟨ki,at_,fr,nu,wo,mix,kp,t',un,tx⟩:=e;simp only at hk hk' ht hKv;have hn:∀(l:List A3) (x:A3),l.length<=6->Ab (l.length+[x].length)=Y:=λl x hl=>BD o5;unfold nB doM;rw[A9 hk,A9 hk'];simp only[Jd,A6];obtain e0|e0:=tf (isN at_)
 .have ha:=E7 e0;have hal:=TD e0;have hb:inb at_ w.A7.length=Y:=Fu ha.1 (by rw[h.kl];omega);have hko:=(h.k _ hal).1;have hks:=Tj h hal;simp only[e0,AA,A4,hb,A2,W7];unfold GZ;obtain e1|e1:=tfp (ki=1)
  .simp only[e1,AT,A2];unfold Jv;by_cases hs:6<=w.AO.length
   .rw[A5<|AQ (J:6<=(w.AO.length:Int)),A5 hs];intro hX hd;subst hd;rw[← hX];exact hF rfl rfl
   .rw[A9<|nd (J:¬6<=(w.AO.length:Int)),A9 hs];rw[show Uf ((_,_,_,_,_,()),_,_,_,())=_ from ai8 hko t' un ht];simp only[A6];obtain e2|e2:=tfp ((Ci (kA w.A7 at_.toNat) t' un tx).2=0)<;>simp only[e2,AT,Ae,A4,A2,if_false]
    .intro hX hd;subst hd;rw[← hX];exact hF rfl rfl
    .rw[A5<|hn _ _ h.sl];intro hX hd;subst hd;rw[← hX];exact hK rfl
  .simp only[e1,Ae,A4,if_false];obtain e2|e2:=tfp (ki=2)
   .simp only[e2,AT,A2];rw[show UW ((_,_,_,_,_,()),())=_ from agn hko];simp only[A6];intro hX hd;subst hd;rw[← hX];exact hKv _ _ rfl
   .simp only[e2,Ae,A4,if_false];obtain e3|e3:=tfp (ki=3)
    .simp only[e3,AT,A2];rw[show Ug ((_,_,_,_,_,()),_,_,_,())=_ from ai9 hks fr nu mix];simp only[A6];rw[A5 hko];obtain e4|e4:=tf (ED (kA w.A7 at_.toNat) fr nu mix).2<;>simp only[e4,A2,A4]
     .rw[show Rc (_,_,())=_ from wO (ra:=w.AS) (fs:=[(ED (kA w.A7 at_.toNat) fr nu mix).1]) y9];simp only[A6];intro hX hd;subst hd;rw[← hX];exact hKm _ rfl
     .intro hX hd;subst hd;rw[← hX];exact hKz rfl
    .simp only[e3,Ae,A4,if_false];obtain e4|e4:=tfp (ki=7)
     .simp only[e4,AT,A2];rw[show Ua ((_,_,_,_,_,()),_,())=_ from agY hks kp];simp only[A6];rw[A5 hko];intro hX hd;subst hd;rw[← hX];exact hKv _ _ rfl
     .simp only[e4,Ae,A4,if_false];obtain e5|e5:=tfp (ki=8)
      .simp only[e5,AT,A2];rw[show UX ((_,_,_,_,_,()),())=_ from agV hko];simp only[A6];intro hX hd;subst hd;rw[← hX];exact hKv _ _ rfl
      .simp only[e5,Ae,A4,if_false];obtain e6|e6:=tfp (ki=11)
       .simp only[e6,AT,A2];unfold M7;rw[show Uh ((_,_,_,_,_,()),_,_,())=_ from aiA hko fr nu];simp only[A6];obtain e7|e7:=tf (DG (kA w.A7 at_.toNat) fr nu).2.2<;>simp only[e7,A2,A4,AR,AM]
        .by_cases hs:w.got.length<6
         .rw[A5<|AQ<|show(j8 w.got:Int)<6 by omega,A5<|AQ hs,A5<|hn _ _ h.gl];intro hX hd;subst hd;rw[← hX];exact hK rfl
         .rw[A9<|nd (J:¬(j8 w.got:Int)<6),A9<|nd hs];intro hX hd;subst hd;rw[← hX];exact hF rfl rfl
        .intro hX hd;subst hd;rw[← hX];exact hF rfl rfl
       .simp only[e6,Ae,A4,if_false];obtain e7|e7:=tfp (ki=12)
        .simp only[e7,AT,A2];rw[show UY ((_,_,_,_,_,()),())=_ from agW hko];simp only[A6];intro hX hd;subst hd;rw[← hX];exact hKv _ _ rfl
        .simp only[e7,Ae,A4,if_false];obtain e8|e8:=tfp (ki=13)
         .simp only[e8,AT,A2];rw[show UN ((_,_,_,_,_,()),())=_ from afj hko];simp only[A6];intro hX hd;subst hd;rw[← hX];exact hKv _ _ rfl
         .simp only[e8,Ae,A4,if_false];intro hX hd;subst hd;rw[← hX];exact hF rfl rfl
 .simp only[e0,AG,A4,A2];intro hX hd;subst hd;rw[← hX];exact hF rfl rfl
def asF{w:AB}{e:Event}(h:(E8 w e).2=A0):(E8 w e).1=w:=by
 unfold E8 at h ⊢;split
 .rename_i h2;rw[A5 h2]at h;split
  .rename_i h3;rw[A5 h3]at h;split
   .rename_i h4;rw[A5 h4]at h;cases h
   .rfl
  .rename_i h3;rw[A9 h3]at h;split
   .rename_i h4;rw[A5 h4]at h;cases h
   .rename_i h4;rw[A9 h4]at h;split
    .rename_i h5;rw[A5 h5]at h;cases h
    .rfl
 .rfl
def aqo(w:AB)(e:Event):(E8 w e).1.Al=w.Al/\(E8 w e).1.AO=w.AO/\(E8 w e).1.got=w.got:=by
 unfold E8;split
 .split
  .split<;>exact⟨rfl,rfl,rfl⟩
  .split
   .exact⟨rfl,rfl,rfl⟩
   .split
    .unfold EP;split<;>exact⟨rfl,rfl,rfl⟩
    .exact⟨rfl,rfl,rfl⟩
 .exact⟨rfl,rfl,rfl⟩
def abw{w:AB}(h:B4 w){e:Event}(ht:e.tx.size<=1048576)
  (hK:(doM w e).2=Y->K (doM w e).1.A7 (doM w e).1.Al (doM w e).1.AS (doM w e).1.AO (doM w e).1.got=R)(hF:(doM w e).2=A0->(doM w e).1=w->F=R)(hKv:∀k' b,doM w e=(GW w e.at_.toNat k',b)->Kv (w.A7.set e.at_.toNat k') b=R)
  (hKm:∀ra',doM w e=(⟨w.ti,w.A7,w.Al,ra',w.AO,w.got⟩,Y)->Km ra' Y=R)(hKz:doM w e=(w,A0)->Kz A0=R):
  doK w.A7 w.Al w.AS w.AO w.got (tE e) K F Kv Km Kz=R:=by
 have rad:(e.ki=4\/e.ki=5\/e.ki=6)->Qr w.A7 w.Al w.AS (tE e) (λx y=>K x w.Al y w.AO w.got) F=R:=by
  intro hk;have hd:doM w e=E8 w e:=by
   unfold doM;rw[A5 hk]
  rw[ax1 h hk];rw[hd]at hK hF;obtain⟨r1,r2,r3⟩:=aqo w e;obtain c|c:=tf (E8 w e).2
  .have:=hK c;rw[r1,r2,r3]at this;rw[c,A5 rfl];exact this
  .rw[c,A4];exact hF c<|asF c
 have lk:(e.ki=9\/e.ki=10)->To w.Al (tE e) (λy=>K w.A7 y w.AS w.AO w.got) F=R:=by
  intro hk;have hd:doM w e=Ef w e:=by
   unfold doM;rw[A9 J,A5 hk]
  rw[ax2 h];rw[hd]at hK hF;obtain c|c:=tf (Ef w e).2
  .have:=hK c;rw[c,A5 rfl,← this];unfold Ef;split<;>rfl
  .rw[c,A4];refine hF c ?_;unfold Ef at c ⊢;split
   .rename_i h3;rw[A5 h3]at c;cases c
   .rfl
 unfold doK;by_cases h4:e.ki=4
 .rw[A5<|AQ h4];exact rad J
 .rw[A9<|nd h4];by_cases h5:e.ki=5
  .rw[A5<|AQ h5];exact rad J
  .rw[A9<|nd h5];by_cases h6:e.ki=6
   .rw[A5<|AQ h6];exact rad J
   .rw[A9<|nd h6];by_cases h9:e.ki=9
    .rw[A5<|AQ h9];exact lk J
    .rw[A9<|nd h9];by_cases h10:e.ki=10
     .rw[A5<|AQ h10];exact lk J
     .rw[A9<|nd h10];exact ax3 h J J ht hK hF hKv hKm hKz _ rfl rfl
end
def avR(w:AB)(p:AL)(ra:List AL):(EP w p ra).ti=w.ti:=by unfold EP;split<;>rfl
def ZA(w:AB)(e:Event):(doM w e).1.ti=w.ti:=by
 unfold doM;split
 .unfold E8;split
  .split
   .split<;>rfl
   .split
    .rfl
    .split
     .exact avR _ _ _
     .rfl
  .rfl
 .split
  .unfold Ef;split<;>rfl
  .split
   .unfold GZ;split
    .unfold Jv;split
     .rfl
     .split<;>rfl
    .split
     .rfl
     .split
      .split<;>rfl
      .split
       .rfl
       .split
        .rfl
        .split
         .unfold M7;split<;>rfl
         .split
          .rfl
          .split<;>rfl
   .rfl
def ar3{w:AB}(h:B4 w){r:List Int×Int×D}{ev:List Event}(hev:ev.length<=1048576){e:Event}(ht:e.tx.size<=1048576):
  FT ((r,tS w ev),tE e,())=I (((doM w e).2,()),((r,tS (Ck w e)<|Jr ev e (doM w e).2),())):=by
 have hr:∀x:Event,Ab (ev.length+[x].length)=Y:=λx=>BD o5;have hti:=ZA w e;unfold FT;refine abw (w:=w) h (e:=e) ht (λc=> ?_) (λc c2=> ?_) (λk b c=> ?_) (λra c=> ?_) (λc=> ?_)
 .unfold Ck tick Jr;rw[c,A5<|hr _,A5 rfl,A5 rfl,hti]
 .unfold Ck tick Jr;rw[c,A4,A4,c2]
 .unfold Ck tick Jr;rw[c];cases b
  .rfl
  .show(if Ab _ then _ else _)=_;rw[A5<|hr _];rfl
 .unfold Ck tick Jr;rw[c,A5 rfl,A5<|hr _];rfl
 .unfold Ck tick Jr;rw[c];rfl
end Go.VS
namespace Go.VS
open Go
def T6(k:A8)(r:A1)(f:Bool):(wrR k r f).1.id=k.id:=by
 unfold wrR;split
 .rfl
 .cases f<;>rfl
def auj{k:A8}(h:Ad k=Y)(f:Frame):(CB k f).1.id=k.id:=by
 unfold CB;rw[A5 h];unfold HW;split
 .split
  .unfold E9;split
   .rfl
   .split
    .rfl
    .split
     .rfl
     .unfold K0;split
      .split
       .unfold Kg;split
        .exact T6 _ _ _
        .rfl
       .rfl
      .rfl
  .split
   .exact T6 _ _ _
   .rfl
 .rfl
def asv(k:A8):(ES k).1.id=k.id:=by
 unfold ES;split
 .exact T6 _ _ _
 .rfl
def aw3(k:A8)(tt un:Int)(tx:A1):(Ci k tt un tx).1.id=k.id:=by
 unfold Ci;split
 .exact T6 _ _ _
 .rfl
def avx(k:A8)(fr nu:Int):(DG k fr nu).1.id=k.id:=by
 unfold DG;split
 .exact T6 _ _ _
 .rfl
def auC(k:A8):(Ew k).1.id=k.id:=by unfold Ew;split<;>rfl
def arj(k:A8):(Es k).1.id=k.id:=by unfold Es;split<;>rfl
def abO(k:A8)(n:Int):(faM k n).id=k.id:=by unfold faM;rfl
def awl(k:A8):(riM k).id=k.id:=rfl
def awj{k:A8}(h:Ad k=Y):Ad (riM k)=Y:=(awk<|C5 h).ok
def F9{l:List A8}{i j:Nat}(hi:i<l.length)(k:A8):kA (l.set i k) j=if j=i then k else kA l j:=by
 unfold kA;simp only[B8,Oj];by_cases h:j=i
 .subst h;simp[hi]
 .have h':¬i=j:=λe=>h e.symm;simp[h,h']
def B4.put{w:AB}(h:B4 w){i:Nat}(hi:i<4){k:A8}(hk:Ad k=Y)(hid:k.id=(kA w.A7 i).id)(ra:List AL)(se go:List A3)
  (rl:ra.length<=30)(sl:se.length<=6)(gl:go.length<=6)(p:∀p∈ra,E0 p=Y)(s:∀n∈se,At n=Y)(g:∀n∈go,At n=Y):
  B4 ⟨w.ti,w.A7.set i k,w.Al,ra,se,go⟩:=by
 refine⟨by rw[GP];exact h.kl,h.ll,rl,sl,gl,λj hj=> ?_,p,s,g⟩;show Ad (kA (w.A7.set i k) j)=Y/\(kA (w.A7.set i k) j).id=(j:Int);rw[F9 (by rw[h.kl];exact hi)];split
 .rename_i e;rw[e,hid];exact⟨hk,(h.k i hi).2⟩
 .exact h.k j hj
def B4.GW{w:AB}(h:B4 w){i:Nat}(hi:i<4){k:A8}(hk:Ad k=Y)(hid:k.id=(kA w.A7 i).id):B4 (GW w i k):=
 h.put hi hk hid w.AS w.AO w.got h.rl h.sl h.gl h.p h.s h.g
def B4.ra{w:AB}(h:B4 w){ra:List AL}(rl:ra.length<=30)(p:∀p∈ra,E0 p=Y):B4 ⟨w.ti,w.A7,w.Al,ra,w.AO,w.got⟩:=
 ⟨h.kl,h.ll,rl,h.sl,h.gl,h.k,p,h.s,h.g⟩
def B4.ti{w:AB}(h:B4 w)(n:Int):B4 ⟨n,w.A7,w.Al,w.AS,w.AO,w.got⟩:=⟨h.kl,h.ll,h.rl,h.sl,h.gl,h.k,h.p,h.s,h.g⟩
def Sl{w:AB}(h:B4 w)(i:Nat):(J9 w.AS i).length<=30/\ ∀p∈J9 w.AS i,E0 p=Y:=by
 have:=h.rl;refine⟨by unfold J9;simp;omega,λp hp=>h.p p ?_⟩;obtain h1|h1:=BL.1 hp
 .exact I9 h1
 .exact Ku h1
def atJ{w:AB}(h:B4 w){p:AL}(hp:E0 p=Y){ra:List AL}(rl:ra.length<=30)(hra:∀p∈ra,E0 p=Y):B4 (EP w p ra):=by
 unfold EP;obtain⟨_,p2,_⟩:=La hp;split
 .have hi:p.dst.toNat<4:=J
  exact h.put hi (aui (h.k _ hi).1 _) (auj (h.k _ hi).1 _) _ _ _ (aDK rl) h.sl h.gl (aa4 hra (Wz _ _).2) h.s h.g
 .exact h.ra rl hra
def arS{p:AL}(hp:E0 p=Y)(mix kp:Int):E0 (OJ p mix kp)=Y:=by
 unfold E0 OJ at *;simpa[XA,mZ] using hp
def asG{w:AB}(h:B4 w)(e:Event):B4 (E8 w e).1:=by
 unfold E8;split
 .rename_i h0;have h0:=AY.1 h0;have hlt:e.wo.toNat<w.AS.length:=J
  have hp:=Po h hlt;split
  .split
   .refine h.ra (by rw[GP];exact h.rl) λp hp'=> ?_;obtain h1|h1:=TF hp'
    .exact h.p p h1
    .rw[h1];exact arS hp _ _
   .exact h
  .split
   .exact h.ra (Sl h _).1 (Sl h _).2
   .split
    .refine atJ h hp ?_ ?_<;>split
     .exact(Sl h _).1
     .exact h.rl
     .exact(Sl h _).2
     .exact h.p
    .exact h
 .exact h
def atY{w:AB}(h:B4 w)(e:Event):B4 (Ef w e).1:=by
 unfold Ef;split
 .exact⟨h.kl,by show(w.Al.set _ _).length=3;rw[GP];exact h.ll,h.rl,h.sl,h.gl,h.k,h.p,h.s,h.g⟩
 .exact h
def aCN{k:A8}{tt un:Int}{tx:A1}(h:(Ci k tt un tx).2≠0):At ⟨k.id,(Ci k tt un tx).2,tt,un,tx⟩=Y:=by
 unfold Ci at h ⊢;split
 .rename_i hc;rw[A5 hc]at h;simp only[AD]at hc;simp only at h ⊢;split
  .exact hc.2
  .rename_i h1;rw[A9 h1]at h;exact absurd rfl h
 .rename_i hc;rw[A9 hc]at h;exact absurd rfl h
def at4{k:A8}(hk:Ad k=Y){fr nu:Int}(h:(DG k fr nu).2.2=Y):At (DG k fr nu).2.1=Y:=by
 unfold DG at h ⊢;split
 .rename_i hc;rw[A5 hc]at h;simp only at h ⊢;rw[A5 h];simp only[AD,CE,decide_eq_false_iff_not]at hc;exact Gs (Bu (C5 hk).kok).i (Eo<|QY.1 hc.2).1
 .rename_i hc;rw[A9 hc]at h;cases h
def kS{α:Type}{l:List α}{P:α->Prop}{a:α}(h:∀x∈l,P x)(ha:P a):∀x∈l++[a],P x:=by
 intro x hx;obtain h1|h1:=BL.1 hx
 .exact h x h1
 .rw[CN.1 h1];exact ha
def aqK{w:AB}(h:B4 w)(e:Event)(ha:isN e.at_=Y):B4 (GZ w e<|kA w.A7 e.at_.toNat).1:=by
 have hi:=TD ha;have hr:=E7 ha;obtain⟨hk,hid⟩:=h.k _ hi;unfold GZ;split
 .unfold Jv;split
  .exact h
  .split
   .exact h
   .rename_i h1 h2;refine h.put hi (aw2 hk _ _ _) (aw3 _ _ _ _) _ _ _ h.rl o5 h.gl h.p (kS h.s ?_) h.g;have:=aCN h2;rw[hid,TJ hr.1]at this;exact this
 .split
  .exact h.GW hi (asu hk) (asv _)
  .split
   .split
    .rename_i h1;exact h.ra (aDK h.rl) (aa4 h.p λf hf=>by rw[CN.1 hf];exact att hk h1)
    .exact h
   .split
    .exact h.GW hi (mV hk _) (abO _ _)
    .split
     .exact h.GW hi (awj hk) (awl _)
     .split
      .unfold M7;split
       .rename_i h1;simp only[AD,decide_eq_true_eq]at h1;exact h.put hi (avw hk _ _) (avx _ _ _) _ _ _ h.rl h.sl o5 h.p h.s (kS h.g<|at4 hk h1.1)
       .exact h
      .split
       .exact h.GW hi (auB hk) (auC _)
       .split
        .exact h.GW hi (ari hk) (arj _)
        .exact h
def mQ{w:AB}(h:B4 w)(e:Event):B4 (doM w e).1:=by
 unfold doM;split
 .exact asG h e
 .split
  .exact atY h e
  .split
   .rename_i h1;exact aqK h e h1
   .exact h
def aaX{w:AB}(h:B4 w)(b:Bool):B4 (tick w b):=by
 unfold tick;split
 .exact h.ti _
 .exact h
def lh{w:AB}(h:B4 w)(e:Event):B4 (Ck w e):=aaX (mQ h e) _
def kp0(i:Int):A8:=⟨i,Y,noB,0,[]⟩
def rv0:AB:=⟨0,[kp0 0,kp0 1,kp0 2,kp0 3],[Y,Y,Y],[],[],[]⟩
def axS{i:Int}(h:isN i=Y):Ad (kp0 i)=Y:=by
 refine W2 (k:=kp0 i) (rs:=[]) (ts:=[]) h ⟨?_,(show noB.size<=2400 by decide),by rfl,by rfl⟩ (show 0<=3 by decide) (.inl rfl) ?_ (λi hi=>absurd hi<|lR _)
 .intro r hr;cases hr
 .unfold CY;rw[A5<|show isN (kp0 i).id=Y from h];rfl
def ZG{i:Nat}(hi:i<4):kA rv0.A7 i=kp0 i:=by
 have:i=0\/i=1\/i=2\/i=3:=J
 obtain rfl|rfl|rfl|rfl:=this<;>rfl
def Gw{i:Nat}(hi:i<4):isN (i:Int)=Y:=AY.2 ⟨J,J⟩
def Zm:B4 rv0:=by
 refine⟨rfl,rfl,by decide,by decide,by decide,λi hi=> ?_,(λp hp=>by cases hp),(λp hp=>by cases hp),(λp hp=>by cases hp)⟩;rw[ZG hi];exact⟨axS<|Gw hi,rfl⟩
def Oq(k:A8):Prop:=k.up=A0->k.fo=(k.log.size:Int)
def OG(k:A8)(r:A1)(f:Bool):(wrR k r f).1.up=k.up:=by
 unfold wrR;split
 .rfl
 .cases f<;>rfl
def aEc{k:A8}(h:Ad k=Y)(f:Frame):(CB k f).1.up=k.up:=by
 unfold CB;rw[A5 h];unfold HW;split
 .split
  .unfold E9;split
   .rfl
   .split
    .rfl
    .split
     .rfl
     .unfold K0;split
      .split
       .unfold Kg;split
        .exact OG _ _ _
        .rfl
       .rfl
      .rfl
  .split
   .exact OG _ _ _
   .rfl
 .rfl
def as9{k:A8}(ok:Ad k=Y)(h:k.up=A0)(f:Frame):CB k f=(k,[]):=by
 unfold CB;rw[A5 ok];unfold HW;rw[h,AM,A4]
def atc{k:A8}(h:k.up=A0)(tt un:Int)(tx:A1):Ci k tt un tx=(k,0):=by
 unfold Ci;rw[h,AM,A4]
def auE{k:A8}(h:k.up=A0)(a b:Int):DG k a b=(k,zN,A0):=by
 unfold DG;rw[h,AM,A4]
def arD{k:A8}(h:k.up=A0):ES k=(k,A0):=by
 unfold ES;rw[h,A4]
def asL{k:A8}(h:k.up=A0):Ew k=(k,A0):=by
 unfold Ew;rw[h,A4]
def aqV{k:A8}(h:k.up=A0):Es k=(k,A0):=by
 unfold Es;rw[h,AM,A4]
def awP(k:A8)(tt un:Int)(tx:A1):(Ci k tt un tx).1.up=k.up:=by
 unfold Ci;split
 .exact OG _ _ _
 .rfl
def axY(k:A8)(a b:Int):(DG k a b).1.up=k.up:=by
 unfold DG;split
 .exact OG _ _ _
 .rfl
def av3(k:A8):(ES k).1.up=k.up:=by
 unfold ES;split
 .exact OG _ _ _
 .rfl
def auu(k:A8):(Ew k).1.up=k.up:=by unfold Ew;split<;>rfl
def auP(k:A8):(Es k).1.up=k.up:=by unfold Es;split<;>rfl
def Q4{k k':A8}(h:Oq k)(hu:k'.up=k.up)(hd:k.up=A0->k'=k):Oq k':=λe=>by
 rw[hu]at e;rw[hd e];exact h e
def avp(k:A8)(n:Int):Oq (faM k n):=by
 intro _;unfold faM;simp only;have h:=(Pe<|k.log.extract 0 (k.fo+max 0 (min n<|(k.log.size:Int) - k.fo)).toNat).1;rw[@aBM];omega
def auV{k:A8}(ok:Ad k=Y)(h:k.up=A0)(d:Oq k)(n:Int):faM k n=k:=by
 obtain⟨_,h2,h3⟩:=aqZ (C5 ok) (d h) n;have h4:=aDt ok h;have:faM k n=⟨(faM k n).id,(faM k n).up,(faM k n).log,(faM k n).fo,(faM k n).AH⟩:=rfl;rw[this,h2,h3,abO,show(faM k n).up=k.up from by rw[h];rfl,show(faM k n).AH=k.AH from by rw[h4];rfl]
def aup{k:A8}(h:k.up=Y):riM k=k:=by
 unfold riM;rw[← h]
def Kh{l:List A8}{i:Nat}:l.set i (kA l i)=l:=by
 apply lJ;intro j;rw[Oj];by_cases h:i=j
 .subst h;by_cases h1:i<l.length
  .rw[A5 rfl,A5 h1,kA,B8,Au h1];rfl
  .rw[A5 rfl,A9 h1,Hc J]
 .rw[A9 h]
def SI{w:AB}{i:Nat}{k:A8}(h:k=kA w.A7 i):GW w i k=w:=by
 subst h;unfold GW;rw[Kh]
structure R5 (w:AB):Prop where
 d:∀i,i<4->Oq (kA w.A7 i)
def axe{w:AB}(h:B4 w)(hd:R5 w){e:Event}(ho:(doM w e).2=A0):(doM w e).1=w:=by
 unfold doM at ho ⊢;split
 .rename_i h1;rw[A5 h1]at ho;unfold E8 at ho ⊢;split
  .rename_i h2;rw[A5 h2]at ho;split
   .rename_i h3;rw[A5 h3]at ho;split
    .rename_i h4;rw[A5 h4]at ho;cases ho
    .rfl
   .rename_i h3;rw[A9 h3]at ho;split
    .rename_i h4;rw[A5 h4]at ho;cases ho
    .rename_i h4;rw[A9 h4]at ho;split
     .rename_i h5;rw[A5 h5]at ho;cases ho
     .rfl
  .rfl
 .rename_i h1;rw[A9 h1]at ho;split
  .rename_i h2;rw[A5 h2]at ho;unfold Ef at ho ⊢;split
   .rename_i h3;rw[A5 h3]at ho;cases ho
   .rfl
  .rename_i h2;rw[A9 h2]at ho;split
   .rename_i h3;rw[A5 h3]at ho;have hi:=TD h3;obtain⟨ok,_⟩:=h.k _ hi;have hdk:=hd.d _ hi;unfold GZ at ho ⊢;split
    .rename_i c;rw[A5 c]at ho;unfold Jv at ho ⊢;split
     .rfl
     .rename_i c1;rw[A9 c1]at ho;split
      .rfl
      .rename_i c2;rw[A9 c2]at ho;cases ho
    .rename_i c;rw[A9 c]at ho;split
     .rename_i c;rw[A5 c]at ho;refine SI ?_;unfold ES at ho ⊢;split
      .rename_i c1;rw[A5 c1]at ho;exact Q5 ho
      .rfl
     .rename_i c;rw[A9 c]at ho;split
      .rename_i c;rw[A5 c]at ho;split
       .rename_i c1;rw[A5 c1]at ho;cases ho
       .rfl
      .rename_i c;rw[A9 c]at ho;split
       .rename_i c;rw[A5 c]at ho;exact SI (auV ok ho hdk _)
       .rename_i c;rw[A9 c]at ho;split
        .rename_i c;rw[A5 c]at ho;exact SI (aup<|by simpa using ho)
        .rename_i c;rw[A9 c]at ho;split
         .rename_i c;rw[A5 c]at ho;unfold M7 at ho ⊢;split
          .rename_i c1;rw[A5 c1]at ho;cases ho
          .rfl
         .rename_i c;rw[A9 c]at ho;split
          .rename_i c;rw[A5 c]at ho;refine SI ?_;unfold Ew at ho ⊢;split
           .rename_i c1;rw[A5 c1]at ho;cases ho
           .rfl
          .rename_i c;rw[A9 c]at ho;split
           .rename_i c;rw[A5 c]at ho;refine SI ?_;unfold Es at ho ⊢;split
            .rename_i c1;rw[A5 c1]at ho;cases ho
            .rfl
           .rfl
   .rfl
inductive KMv (k:A8):A8->Prop
 | acb (f:Frame):KMv k (CB k f).1
 | own (tt un:Int) (tx:A1):KMv k (Ci k tt un tx).1
 | time:KMv k (ES k).1
 | eat (a b:Int):KMv k (DG k a b).1
 | UC (n:Int):KMv k (faM k n)
 | Zy:KMv k (riM k)
 | pack:KMv k (Ew k).1
 | force:KMv k (Es k).1
def awy{w:AB}(h:B4 w)(e:Event):(doM w e).1.A7=w.A7\/ ∃i k',i<4/\KMv (kA w.A7 i) k'/\(doM w e).1.A7=w.A7.set i k':=by
 unfold doM;split
 .unfold E8;split
  .rename_i h2;split
   .split
    .exact .inl rfl
    .exact .inl rfl
   .split
    .exact .inl rfl
    .split
     .unfold EP;split
      .refine .inr ⟨_,_, ?_,.acb _,rfl⟩;have:=AY.1 h2;have:=La<|Po h (i:=e.wo.toNat) J;omega
      .exact .inl rfl
     .exact .inl rfl
  .exact .inl rfl
 .split
  .unfold Ef;split
   .exact .inl rfl
   .exact .inl rfl
  .split
   .rename_i h3;have hi:=TD h3;unfold GZ;split
    .unfold Jv;split
     .exact .inl rfl
     .split
      .exact .inl rfl
      .exact .inr ⟨_,_,hi,.own _ _ _,rfl⟩
    .split
     .exact .inr ⟨_,_,hi,.time,rfl⟩
     .split
      .split
       .exact .inl rfl
       .exact .inl rfl
      .split
       .exact .inr ⟨_,_,hi,.UC _,rfl⟩
       .split
        .exact .inr ⟨_,_,hi,.Zy,rfl⟩
        .split
         .unfold M7;split
          .exact .inr ⟨_,_,hi,.eat _ _,rfl⟩
          .exact .inl rfl
         .split
          .exact .inr ⟨_,_,hi,.pack,rfl⟩
          .split
           .exact .inr ⟨_,_,hi,.force,rfl⟩
           .exact .inl rfl
   .exact .inl rfl
def awi{w:AB}(h:B4 w)(e:Event):(Ck w e).A7=w.A7\/ ∃i k',i<4/\KMv (kA w.A7 i) k'/\(Ck w e).A7=w.A7.set i k':=by
 have:=awy h e;unfold Ck tick;split<;>exact this
def avD{P:A8->Prop}(hP:∀k k',Ad k=Y->P k->KMv k k'->P k'){w:AB}(h:B4 w)(hw:∀i,i<4->P (kA w.A7 i))(e:Event):∀i,i<4->P (kA (Ck w e).A7 i):=by
 intro i hi;obtain e1|⟨j,k',hj,m,e1⟩:=awi h e
 .rw[e1];exact hw i hi
 .rw[e1,F9 (by rw[h.kl];exact hj)];split
  .exact hP _ _ (h.k j hj).1 (hw j hj) m
  .exact hw i hi
def KMv.dur{k k':A8}(ok:Ad k=Y)(h:Oq k)(m:KMv k k'):Oq k':=by
 cases m with
 | acb f=>exact Q4 h (aEc ok f) λe=>by rw[as9 ok e]
 | own a b c=>exact Q4 h (awP _ _ _ _) λe=>by rw[atc e]
 | time=>exact Q4 h (av3 _) λe=>by rw[arD e]
 | eat a b=>exact Q4 h (axY _ _ _) λe=>by rw[auE e]
 | UC n=>exact avp _ _
 | Zy=>intro e;cases e
 | pack=>exact Q4 h (auu _) λe=>by rw[asL e]
 | force=>exact Q4 h (auP _) λe=>by rw[aqV e]
def R5.sim{w:AB}(hd:R5 w)(h:B4 w)(e:Event):R5 (Ck w e):=⟨avD (λ_ _ ok d m=>m.dur ok d) h hd.d e⟩
inductive Reach:List Event->AB->Prop
 | nil:Reach [] rv0
 | snoc {ev:List Event} {w:AB} {e:Event} :Reach ev w->(doM w e).2=Y->e.tx.size<=1048576->Reach (ev++[e]) (Ck w e)
def Reach.both{ev:List Event}{w:AB}(h:Reach ev w):B4 w/\R5 w:=by
 induction h with
 | nil=>exact⟨Zm,⟨λi hi e=>by rw[ZG hi]at e;cases e⟩⟩
 | snoc _ _ _ ih=>exact⟨lh ih.1 _,ih.2.sim ih.1 _⟩
def Reach.ok{ev:List Event}{w:AB}(h:Reach ev w):B4 w:=h.both.1
def Reach.dur{ev:List Event}{w:AB}(h:Reach ev w):R5 w:=h.both.2
def Reach.step{ev:List Event}{w:AB}(h:Reach ev w){e:Event}(ht:e.tx.size<=1048576):Reach (Jr ev e (doM w e).2) (Ck w e):=by
 unfold Jr;obtain c|c:=tf (doM w e).2
 .rw[c,A5 rfl];exact h.snoc c ht
 .have:=axe h.ok h.dur c;rw[c,A4];unfold Ck tick;rw[c,A4,this];exact h
def Ns{l:List Int}(h:BOk l):BA (BF l)=l:=by
 unfold BA BF;simp only[IE]
 conv=>rhs;rw[← Yk l]
 refine Gg λn hn=> ?_;have:=h n hn;simp only[Function.comp,id];rw[UInt8.toNat_ofNat'];omega
def at1{a b:List Int}(ha:BOk a)(hb:BOk b)(h:BF a=BF b):a=b:=by
 rw[← Ns ha,h,Ns hb]
def O3(f:Frame):BOk (Ca f):=by
 unfold Ca;split
 .exact BOk.app (Xk f) (.cons _<|.cons _ .nil)
 .exact .nil
def I1{n:Int}(h0:0<=n)(h1:n<=255):w8 n=n:=by
 rw[Mr];omega
def T8{n:Int}(h0:0<=n)(h1:n<=65535):256 * w8 (w64<|Ay n 256)+w8 (BJ n 256)=n:=by
 rw[Mr,Mr,HC h0,Kq h0,Aa J J];omega
def avn{s:A1}(h:s.size=4):∃a b c d,s=B [a,b,c,d]:=by
 have h':(L s).length=4:=h;rcases hl:L s with _|⟨a,_|⟨b,_|⟨c,_|⟨d,_|⟨e,l⟩⟩⟩⟩⟩<;>rw[hl]at h'<;>simp at h';exact⟨a,b,c,d,Fy (by rw[L_B,hl])⟩
def aDk{a1 a2 a3 a4 a5 a6 a7 a8 a9 b1 b2 b3 b4 b5 b6 b7 b8 b9:Int}{s t:A1}(h1:a1=b1)(h2:a2=b2)(h3:a3=b3)(h4:a4=b4)(h5:a5=b5)(h6:a6=b6)(h7:a7=b7)(h8:a8=b8)(h9:a9=b9)(h:s=t):
  (⟨a1,a2,a3,a4,a5,a6,a7,a8,a9,s⟩:Frame)=⟨b1,b2,b3,b4,b5,b6,b7,b8,b9,t⟩:=by
 subst h1 h2 h3 h4 h5 h6 h7 h8 h9 h;rfl
def WD{f:Frame}(h:By f=Y):Co (Ca f)=(f,Y):=by
 have hr:=OA h;have r1:=AY.1 hr.1;have r2:=AY.1 hr.2.1;have r3:=AY.1 hr.2.2.1;have r4:=AY.1 hr.2.2.2.1;have r5:=AY.1 hr.2.2.2.2.1;have r6:=AY.1 hr.2.2.2.2.2.1;have r7:=hr.2.2.2.2.2.2;have acG:Fc (Ca f)=f/\((Ca f).length=10\/(Ca f).length=17):=by
  obtain⟨ki,src,dst,fr,nu,t',un,sz,mix,da⟩:=f;simp only at r1 r2 r3 r4 r5 r6 r7;unfold Ca;rw[A5 h];unfold Jl at r7;by_cases hk:ki=1
  .subst hk;simp only[AT,A2,AD,decide_eq_true_eq]at r7;obtain⟨q1,q2,q3,q4⟩:=r7;have q1:=AY.1 q1;have q2:=AY.1 q2;obtain⟨a,b,c,d,rfl⟩:=avn (s:=da) J;unfold Ex;simp only[AT,A2];have hb:BA (B [a,b,c,d])=[(a.toNat:Int),b.toNat,c.toNat,d.toNat]:=rfl;rw[hb];refine⟨?_,.inr rfl⟩;have e1:=T8 (n:=un) J J;have e2:=T8 (n:=mix) J J;unfold Fc;rw[A5<|by rfl];have g1:=I1 (n:=src) J J;have g2:=I1 (n:=dst) J J;have g3:=I1 (n:=fr) J J;have g4:=I1 (n:=nu) J J;have g5:=I1 (n:=t') J J;have g6:=I1 (n:=sz) J J;have g7:=Sf [a,b,c,d];exact aDk rfl g1 g2 g3 g4 g5 e1 g6 e2 g7
  .rw[A9<|by simpa using hk]at r7;simp only[AD,C0,decide_eq_true_eq]at r7;obtain⟨q0,q1,q2,q3,q4⟩:=r7;unfold Ex;simp only[B1 hk,A4];refine⟨?_,.inl rfl⟩;have e1:=T8 (n:=un) J J;unfold Fc;rw[A9 y9];have g0:=I1 (n:=ki) J J;have g1:=I1 (n:=src) J J;have g2:=I1 (n:=dst) J J;have g3:=I1 (n:=fr) J J;have g4:=I1 (n:=nu) J J;have g5:=I1 (n:=t') J J;exact aDk g0 g1 g2 g3 g4 g5 e1 q1.symm q2.symm q3.symm
 unfold Co;rw[acG.1,A5,A5<|AQ rfl];rw[C0,decide_eq_true_eq,decide_eq_true_eq];have:=acG.2;omega
def NA:List Int->Nat->Int
 | [],_=>0
 | x::r,i=>x * ((i % 1000:Nat)+1)+NA r (i+1)
def jH:∀ {l:List Int} {i:Nat} {n:Int},BOk l->0<=n->n<65521->FD l i n=(n+NA l i) % 65521
 | [],i,n,_,h0,h1=>by
  unfold FD NA;omega
 | x::r,i,n,hb,h0,h1=>by
  have hx:=hb x Am;have hp:0<=x * ((i % 1000:Nat)+1:Int):=Yd hx.1 J;unfold FD NA;rw[Kq J,jH (λy hy=>hb y<|Ai x hy) J J];omega
def aCk:∀ {l:List Int} {j i:Nat} {x:Int} (h:j<l.length),NA (l.set j x) i=NA l i+(x - l[j]) * (((i+j) % 1000:Nat)+1)
 | y::r,0,i,x,h=>by
  rw[List.set_cons_zero];unfold NA;simp only[List.getElem_cons_zero,He];rw[Int.sub_mul];omega
 | y::r,j+1,i,x,h=>by
  rw[List.set_cons_succ];unfold NA;rw[aCk (j:=j) (i:=i+1)<|by simpa using h,List.getElem_cons_succ,show i+1+j=i+(j+1) by omega];omega
structure Zr (b body:List Int):Prop where
 e:b=body++two (FD body 0 0)
 ok:BOk body
 len:body.length<=15
def av2{a b:Int}(h0:0<=a/\a<65521)(h1:0<=b/\b<65521)(h:two a=two b):a=b:=by
 have e1:=T8 (n:=a) J J;have e2:=T8 (n:=b) J J;unfold two at h;simp only[Lt,and_true]at h;rw[← e1,← e2,h.1,h.2]
def aq4{b body P3:List Int}{j:Nat}{x:Int}(h:Zr b body)(hj:j<b.length)(hx:x≠b[j])(hr:0<=x/\x<=255):¬Zr (b.set j x) P3:=by
 intro h';have hlb:b.length=body.length+2:=by rw[h.e];simp
 have az2:(b.set j x).length=P3.length+2:=by rw[h'.e];simp
 rw[GP]at az2;have hs:=kG (i:=0) (n:=0) h.ok J J;have hs':=kG (i:=0) (n:=0) h'.ok J J;have e:=h'.e;have hbl:body.length=P3.length:=J
 by_cases hlt:j<body.length
 .have e1:(body.set j x)++two (FD body 0 0)=P3++two (FD P3 0 0):=by
   rw[← e,h.e,List.set_append_left _ _ hlt]
  obtain⟨e2,e3⟩:=List.append_inj e1 (by rw[GP];exact hbl);have e4:=av2 hs hs' e3;have hbj:b[j]=body[j]:=by simp only[h.e,List.getElem_append_left hlt]
  rw[← e2]at e4 h';rw[jH h.ok J J,jH h'.ok J J,aCk hlt]at e4;have hb1:=h.ok body[j] (Cg hlt);have hlen:=h.len;rw[hbj]at hx;have hm:((0+j) % 1000:Nat)=j:=J
  rw[hm]at e4;have hd:∃d:Int,d=(x - body[j]) * ((j:Int)+1):=⟨_,rfl⟩;obtain⟨d,hd⟩:=hd;rw[← hd]at e4;have h1:d≠0:=by
   rw[hd];exact Int.mul_ne_zero J J
  have h2:d<=255 * 15:=by
   rw[hd];have a1:(x - body[j]) * ((j:Int)+1)<=255 * ((j:Int)+1):=YV J J;omega
  have h3: -(255 * 15)<=d:=by
   rw[hd];have a1:(-255) * ((j:Int)+1)<=(x - body[j]) * ((j:Int)+1):=YV J J;omega
  omega
 .have e1:body++(two<|FD body 0 0).set (j - body.length) x=P3++two (FD P3 0 0):=by
   rw[← e,h.e,List.set_append_right _ _ J]
  obtain⟨e2,e3⟩:=List.append_inj e1 hbl;rw[← e2]at e3;have e4:b.set j x=b:=by
   rw[e,← e2];exact h.e.symm
  have:(b.set j x)[j]'(by rw[GP];exact hj)=x:=List.getElem_set_self ..;rw[List.getElem_of_eq e4]at this;exact hx this.symm
def aCM{f:Frame}(h:By f=Y):Zr (Ca f) (Ex f):=⟨by unfold Ca;rw[A5 h],Xk f,X5 h⟩
def aq1{b:List Int}(hb:BOk b)(h:(Co b).2=Y):Zr b (Ex (Co b).1):=by
 have ok:=aq2 h;have:Ca (Co b).1=b:=by
  unfold Co at h ⊢;split
  .rename_i h1;rw[A5 h1]at h;split
   .rename_i h2;exact at1 (O3 _) hb (Bc h2)
   .rename_i h2;rw[A9 h2]at h;cases h
  .rename_i h1;rw[A9 h1]at h;cases h
 have hs:=aCM ok;rw[this]at hs;exact hs
def awW{x k:Int}(hx:0<=x/\x<=255)(hk:1<=k/\k<=255):Dp .u8 x (w8 k)≠x/\0<=Dp .u8 x (w8 k)/\Dp .u8 x (w8 k)<=255:=by
 rw[I1 J J];have e:Dp .u8 x k=w8 ((FH 8 x ^^^ FH 8 k).toNat:Int):=rfl;have hlt:=(FH 8 x ^^^ FH 8 k).isLt;rw[e,I1 J J];refine⟨λh=> ?_,J,J⟩;obtain⟨m,rfl⟩:=HD hx.1;obtain⟨n,rfl⟩:=HD (J:0<=k);have e1:(FH 8 (m:Int) ^^^ FH 8 (n:Int))=FH 8 (m:Int):=by
  apply l7;rw[QQ];omega
 have e2:FH 8 (n:Int)=0#8:=by
  have:=congrArg (λz=>FH 8 (m:Int) ^^^ z) e1;simpa[← BitVec.xor_assoc] using this
 have e3:=congrArg BitVec.toNat e2;rw[QQ]at e3;simp at e3;omega
def apq{f:Frame}{p:AL}(hf:By f=Y)(hd:p.data=BF (Ca f)){mix kp:Int}(hm:inB mix 0 ((p.data.size:Int) - 1)=Y)(hk:inB kp 1 255=Y):(Co<|BA (OJ p mix kp).data).2=A0:=by
 have hm:=AY.1 hm;have hk:=AY.1 hk;rw[hd,XA]at hm;obtain h|h:=tf (Co<|BA (OJ p mix kp).data).2
 .exfalso;have hs:=aq1 (BOk.str _) h;unfold OJ at hs;simp only at hs;rw[hd,Ns<|O3 f]at hs;have hlt:mix.toNat<(Ca f).length:=J
  have hrd: @rd Int aEt (Ca f) mix=(Ca f)[mix.toNat]:=by
   show(Ca f).getD mix.toNat 0=_;rw[B8,Au hlt];rfl
  rw[hrd]at hs;have hx:=O3 f _<|Cg hlt;have hne:=awW hx hk;have hb:BOk ((Ca f).set mix.toNat<|Dp .u8 (Ca f)[mix.toNat] (w8 kp)):=by
   intro y hy;obtain h1|h1:=TF hy
   .exact O3 f y h1
   .rw[h1];exact hne.2
  rw[Ns hb]at hs;exact aq4 (aCM hf) hlt hne.1 hne.2 hs
 .exact h
def aB3{α β:Type}{f g:α->β->α}:∀ {l:List β} {a:α},(∀a,∀b∈l,f a b=g a b)->l.foldl f a=l.foldl g a
 | [],_,_=>rfl
 | x::l,a,h=>by
  rw[Dr,Dr,h a x Am];exact aB3 λa b hb=>h a b<|Ai x hb
def NH(b:Nat)(bl:Nat->List UInt8)(kn:List A1):Prop:=∀k,k<b->bsA kn k=noB\/bsA kn k=B (bl k)
def asQ{b:Nat}{bl:Nat->List UInt8}{kn kn':List A1}{m:AN}(hb:∀k,(bl k).length=4)(hm:Ic m->m.da=B (Dn 4 bl<|Bg (b:Int) m.nu))
  (h:CV b kn)(ht:NH b bl kn)(e:FE b kn m=I kn'):NH b bl kn':=by
 unfold FE at e;split at e
 .rename_i hc;rw[AD]at hc;have hda:=hm ⟨hc.1,Bc hc.2⟩;split at e
  .rename_i u hu;injection e with e;subst e;have F8:u∈DE kn (Bg (b:Int) m.nu):=by rw[hu];exact Od u
   obtain⟨h1,h2⟩:=FQ.1 F8;have h3:=LX h1;have hul:u<kn.length:=by rw[h.1];omega
   have hv:ET kn (Bg (b:Int) m.nu) (L m.da)=bl u:=by
    have hp:=auA (n:=4) (bl:=bl) (p:=λk=> !unk kn k) (ks:=Bg (b:Int) m.nu) (u:=u) (λk _=>hb k) (by
     have:(Bg (b:Int) m.nu).filter (λk=> !(!unk kn k))=DE kn (Bg (b:Int) m.nu):=by
      unfold DE;congr 1;funext k;rw[Bool.not_not]
     rw[this,hu])
    rw[← hp,hda,L_B];unfold ET;refine aB3 λx k hk=> ?_;obtain c|c:=tf (unk kn k)
    .rw[c];rfl
    .rw[c];have hkb:=LX hk;obtain h4|h4:=ht k J
     .exact absurd h4 (It c)
     .rw[h4,L_B];rfl
   intro k hk;rw[Su _ hul];by_cases ek:k=u
   .rw[A5 ek,hv,ek];exact .inr rfl
   .rw[A9 ek];exact ht k hk
  .cases e
 .cases e
def jk{b:Nat}{bl:Nat->List UInt8}(hb:∀k,(bl k).length=4):∀(list:List AN) (s:List A1×Bool),(∀m∈list,Ic m->m.da=B (Dn 4 bl<|Bg (b:Int) m.nu))->CV b s.1->NH b bl s.1->NH b bl (list.foldl (CF b) s).1
 | [],_,_,_,h=>h
 | m::list,s,hm,h,ht=>by
  rw[Dr];cases e:FE b s.1 m with
  | none=>
   rw[show CF b s m=s by unfold CF;rw[e]];exact jk hb list s (λx hx=>hm x<|Ai m hx) h ht
  | some kn=>
   rw[show CF b s m=(kn,Y) by unfold CF;rw[e]];exact jk hb list (kn,Y) (λx hx=>hm x<|Ai m hx) (Sp h e).1<|asQ hb (hm m Am) h ht e
def ir{b:Nat}{bl:Nat->List UInt8}(hb:∀k,(bl k).length=4){list:List AN}(hm:∀m∈list,Ic m->m.da=B (Dn 4 bl<|Bg (b:Int) m.nu)):∀(n:Nat) (kn:List A1),CV b kn->NH b bl kn->NH b bl (Gb b list n kn)
 | 0,_,_,h=>h
 | n+1,kn,h,ht=>by
  have h1:=(MW list (kn,A0) h).1;have h2:=jk hb list (kn,A0) hm h ht;unfold Gb;split
  .exact ir hb hm n _ h1 h2
  .exact h2
def aDd{b:Nat}{list:List AN}:∀(n:Nat) (kn:List A1),CV b kn->∀k,unk (Gb b list n kn) k=Y->unk kn k=Y
 | 0,_,_,_,h=>h
 | n+1,kn,h,k,hk=>by
  obtain⟨h1,h2,_⟩:=MW list (kn,A0) h;unfold Gb at hk;split at hk
  .exact h2 k (aDd n _ h1 k hk)
  .exact h2 k hk
def aB4{b:Nat}{k:Nat}:∀(list:List AN) (s:List A1×Bool),(∃m∈list,Ic m/\Bg (b:Int) m.nu=[k])->CV b s.1->unk (list.foldl (CF b) s).1 k=A0
 | [],_,h,_=>by
  obtain⟨m,hm,_⟩:=h;cases hm
 | m::list,s,h,hk=>by
  rw[Dr];have hs:CV b (CF b s m).1:=by
   unfold CF;split
   .rename_i kn e;exact(Sp hk e).1
   .exact hk
  obtain⟨x,hx,hf,hof⟩:=h;obtain rfl|hx:=Bm.1 hx
  .have h1:unk (CF b s x).1 k=A0:=by
    unfold CF FE;rw[A5 (by rw[AD];exact⟨hf.1,AQ hf.2⟩),hof];unfold DE;rw[K9,Yh];obtain c|c:=tf (unk s.1 k)
    .have hul:k<s.1.length:=by
      have h3:=LX (b:=(b:Int)) (n:=x.nu) (k:=k) (by rw[hof];exact Od k);rw[hk.1];omega
     simp only[c,A2];unfold unk;rw[Su _ hul,A5 rfl];refine B1 λhh=> ?_;have h4:(B<|ET s.1 [k] (L x.da)).size=4:=by
      rw[BP,jL hk (by have:=hf.2;rw[Aw];omega) λj hj=>by rw[CN.1 hj,← hk.1];exact hul]
     rw[hh]at h4;cases h4
    .simp only[c,A4]
   obtain c|c:=tf (unk (list.foldl (CF b)<|CF b s x).1 k)
   .have:=(MW list (CF b s x) hs).2.1 k c;rw[h1]at this;cases this
   .exact c
  .exact aB4 list _ ⟨x,hx,hf,hof⟩ hs
def aph{b:Nat}{k:Nat}{list:List AN}(h:∃m∈list,Ic m/\Bg (b:Int) m.nu=[k])(n:Nat){kn:List A1}(hk:CV b kn):unk (Gb b list (n+1) kn) k=A0:=by
 have h1:=aB4 list (kn,A0) h hk;have h2:=(MW list (kn,A0) hk).1;unfold Gb;split
 .rcases tf (unk (Gb b list n (IZ b list kn).1) k) with c|c
  .have:=aDd n _ h2 k c;rw[h1]at this;cases this
  .exact c
 .exact h1
def aBk{u:Nat}:∀ {l:List A1} {a:A1},u<l.length->bsA l u=noB->G2 l a=G
 | [],_,h,_=>absurd h (lR _)
 | x::l,a,h,e=>by
  unfold G2;split
  .rfl
  .rename_i hx;cases u with
   | zero=>exact absurd e hx
   | succ u=>exact aBk (u:=u) (by simpa using h)<|by simpa[bsA] using e
def km:∀ {l:List (List UInt8)} {a:A1},(∀x∈l,x.length=4)->G2 (l.map B) a=I (a++B l.flatten)
 | [],a,_=>by
  show I a=_;congr 1;apply Fy;rw[Fz,L_B];simp
 | x::l,a,h=>by
  rw[DO];unfold G2;have hx:=h x Am;rw[A9 (λe=>by have:(B x).size=0:=(by rw[e];rfl);rw[BP]at this;omega),km λy hy=>h y<|Ai x hy];congr 1;apply Fy;simp only[Fz,L_B,List.flatten_cons,C3]
def abT{b:Nat}{bl:Nat->List UInt8}{kn:List A1}(h:CV b kn)(ht:NH b bl kn)(hu:∀k,k<b->unk kn k=A0):kn=((B7 b).map bl).map B:=by
 apply lJ;intro i;by_cases hi:i<b
 .rw[IE,D5,Gh hi];have h1:=hu i hi;obtain h2|h2:=ht i hi
  .exact absurd h2 (It h1)
  .have hl:i<kn.length:=by rw[h.1];exact hi
   rw[bsA,B8,Au hl]at h2;rw[Au hl];exact congrArg I h2
 .rw[Hc (by rw[h.1];omega),Hc o5]
def aDl(t:List UInt8):∀b:Nat,((B7 b).map<|G0 t).flatten=(B7<|4 * b).map λi=>t.getD i 0
 | 0=>rfl
 | b+1=>by
  rw[ID,Ek,List.flatten_append,aDl t b];have:B7 (4 * (b+1))=B7 (4 * b)++[4 * b,4 * b+1,4 * b+2,4 * b+3]:=by
   rw[show 4 * (b+1)=4 * b+1+1+1+1 by omega];simp only[ID,C3];rfl
  rw[this,Ek];rfl
def avT{s:Int}(h:inB s 1 24=Y):Ay (s+3) 4=(((s.toNat+3) / 4:Nat):Int)/\inB (Ay (s+3) 4) 1 6=Y:=by
 have h:=AY.1 h;have:Ay (s+3) 4=(((s.toNat+3) / 4:Nat):Int):=by
  rw[HC J];omega
 refine⟨this,AY.2 ?_⟩;rw[this];omega
def aCv{s:Int}(h:inB s 1 24=Y)(list:List AN):FA s list=(match G2 (Gb ((s.toNat+3) / 4) list 7<|BS ((s.toNat+3) / 4) noB) noB with
  | none=>(noB,A0)
  | some c=>if Mq c s.toNat then(c.extract 0 s.toNat,Y) else(noB,A0)):=by
 obtain⟨h1,h2⟩:=avT h;unfold FA Hy;rw[A5 h,A5 h2,h1,Bf]<;>rfl
def aCt{tx:A1}(h:inB tx.size 1 24=Y):(let c:=noB++B ((B7<|(tx.size+3) / 4).map<|G0<|L tx).flatten
  (if Mq c tx.size then(c.extract 0 tx.size,Y) else(noB,A0)))=(tx,Y):=by
 have h:=AY.1 h;have hc:L (noB++B ((B7<|(tx.size+3) / 4).map<|G0<|L tx).flatten)=(B7<|4 * ((tx.size+3) / 4)).map λi=>(L tx).getD i 0:=by
  rw[Fz,L_B,aDl];rfl
 generalize noB++B ((B7<|(tx.size+3) / 4).map<|G0<|L tx).flatten=c at hc;have hsz:c.size=4 * ((tx.size+3) / 4):=by rw[← Aw,hc];simp
 have hz:Mq c tx.size=Y:=by
  unfold Mq;rw[DB];intro i hi;refine AQ ?_;unfold bt;show(((L c).getD (tx.size+i) 0).toNat:Int)=0;rw[hc,B8,D5,Gh J];simp only[QW,Df];rw[B8,Hc (by rw[Aw];omega)];rfl
 show(if Mq c tx.size then(c.extract 0 tx.size,Y) else(noB,A0))=(tx,Y);rw[A5 hz];congr 1;apply Fy;rw[EB,Io,hc,JN];apply lJ;intro i;rw[Gi];split
 .rename_i hi;rw[D5,Gh J];simp only[QW];rw[B8,Au (by rw[Aw];exact hi)];rfl
 .rw[Hc (by rw[Aw];omega)]
def Oy(tx:A1)(list:List AN):Prop:=∀m∈list,Ic m->m.da=GH tx m.nu
def abY{tx:A1}(h:inB tx.size 1 24=Y):(DF tx).length=(tx.size+3) / 4:=by
 unfold DF;rw[A5 h];simp
def aBn{tx:A1}(h:inB tx.size 1 24=Y):inB (((tx.size+3) / 4:Nat):Int) 1 6=Y:=by
 have h:=AY.1 h;exact AY.2 J
def ape{b:Nat}{k:Nat}(hb:inB (b:Int) 1 6=Y)(hk:k<b):Bg (b:Int) (k:Int)=[k]:=by
 have h:=AY.1 hb;unfold Bg Dm;rw[hb,A5 (by rw[AR];exact AY.2 J),A5<|AQ J,Bf]
def aBb{b:Nat}{f:Nat->Bool}:∀(n:Nat) (x:Int),0<b->(∃k,k<b/\f k=Y)->∃k,k<b/\JC b n f x k=Y
 | 0,_,_,h=>h
 | n+1,x,hb,h=>by
  obtain⟨k,hk,e⟩:=h;exact aBb n _ hb ⟨k,hk,by unfold I4;split;rfl;exact e⟩
def ast{b:Nat}{f:Nat->Bool}{n:Nat}{x:Int}(hb:0<b)(hn:0<n):∃k,k<b/\JC b n f x k=Y:=by
 obtain⟨n,rfl⟩:∃m,n=m+1:=⟨n - 1,J⟩;rw[JC];refine aBb n _ hb ⟨_, ?_,by unfold I4;rw[A5 rfl]⟩;refine Sc _ _ ?_;have:BJ (Ay (rnd x) 16) (b:Int)<b:=QI _ J;have h0:0<=BJ (Ay (rnd x) 16) (b:Int):=QR _<|lS (So x).1 J;omega
def aDw{b r:Int}(hb:1<=b):∀(ws:List Int) (acc d:Int),1<=d->1<=M8 (L4 b r ws acc d)
 | [],_,_,_=>hb
 | w::ws,acc,d,h=>by
  unfold L4;split
  .exact h
  .exact aDw hb ws _ _ J
def avH{b n:Int}(h:Dm b n=Y):1<=G1 b n:=by
 have hb:1<=b:=by
  unfold Dm at h;rw[AD]at h;exact(AY.1 h.1).1
 unfold G1;rw[A5 h];split
 .exact D0 _
 .exact aDw hb _ _ _<|D0 _
def ats{b n:Int}(h:Dm b n=Y):Bg b n≠[]:=by
 have hb:1<=b:=by
  unfold Dm at h;rw[AD]at h;exact(AY.1 h.1).1
 unfold Bg;rw[A5 h];split
 .simp
 .obtain⟨k,hk,e⟩:=ast (b:=b.toNat) (f:=λ_=>A0) (n:=(G1 b n).toNat) (x:=rnd<|7 * n+1) J (by have:=avH h;omega);intro hh;have:k∈Hx (JC b.toNat (G1 b n).toNat (λ_=>A0)<|rnd<|7 * n+1) b.toNat:=FQ.2 ⟨Cs.2 hk,e⟩;rw[hh]at this;cases this
def aDB{tx:A1}(h:inB tx.size 1 24=Y){n:Int}(hn:inB n 0 999=Y):GH tx n=B (Dn 4 (G0<|L tx)<|Bg (((tx.size+3) / 4:Nat):Int) n):=by
 unfold GH;rw[abY h];have:=ats (b:=(((tx.size+3) / 4:Nat):Int)) (n:=n) (by unfold Dm;rw[aBn h,hn];rfl);rw[A9 (by rw[List.isEmpty_iff];exact this)]
def aCT{tx:A1}(h:inB tx.size 1 24=Y){n:Int}(hn:inB n 0 999=Y):Ic ⟨n,GH tx n⟩:=by
 refine⟨hn, ?_⟩;show((GH tx n).size:Int)=4;rw[aDB h hn,BP,Py λk _=>O9 _ k];rfl
def aD0{tx:A1}(h:inB tx.size 1 24=Y){list:List AN}(hl:Oy tx list):∀m∈list,Ic m->m.da=B (Dn 4 (G0<|L tx)<|Bg (((tx.size+3) / 4:Nat):Int) m.nu):=by
 intro m hm hf;rw[hl m hm hf,aDB h hf.1]
def abS(b:Nat)(bl:Nat->List UInt8):NH b bl (BS b noB):=by
 intro k hk;left;rw[bsA,B8,YQ,A5 hk];rfl
def aCs{tx:A1}(h:inB tx.size 1 24=Y){list:List AN}(hl:Oy tx list)(ht:(FA tx.size list).2=Y):FA tx.size list=(tx,Y):=by
 rw[aCv h,Bf]at ht ⊢;have h1:=XX list 7 _<|CV.new<|(tx.size+3) / 4;have h2:=ir (λk=>O9 (L tx) k) (aD0 h hl) 7 _ (CV.new<|(tx.size+3) / 4)<|abS _ _;generalize Gb ((tx.size+3) / 4) list 7 (BS ((tx.size+3) / 4) noB)=kn at *;have h3:∀k,k<(tx.size+3) / 4->unk kn k=A0:=by
  intro k hk;obtain c|c:=tf (unk kn k)
  .rw[aBk (u:=k) (by rw[h1.1];exact hk)<|Bc c]at ht;cases ht
  .exact c
 rw[abT h1 h2 h3,km (by
  intro x hx;obtain⟨k,_,rfl⟩:=Bv.1 hx;exact O9 _ _)]
 exact aCt h
def aq3{tx:A1}(h:inB tx.size 1 24=Y){list:List AN}(hl:Oy tx list)(hf:∀k:Nat,k<(tx.size+3) / 4->∃m∈list,Ic m/\Bg (((tx.size+3) / 4:Nat):Int) m.nu=[k]):FA tx.size list=(tx,Y):=by
 rw[aCv h,Bf];have h1:=XX list 7 _<|CV.new<|(tx.size+3) / 4;have h2:=ir (λk=>O9 (L tx) k) (aD0 h hl) 7 _ (CV.new<|(tx.size+3) / 4)<|abS _ _;have h3:∀k,k<(tx.size+3) / 4->unk (Gb ((tx.size+3) / 4) list 7<|BS ((tx.size+3) / 4) noB) k=A0:=λk hk=>aph (hf k hk) 6<|CV.new<|(tx.size+3) / 4;rw[abT h1 h2 h3,km (by
  intro x hx;obtain⟨k,_,rfl⟩:=Bv.1 hx;exact O9 _ _)]
 exact aCt h
def NJ(S:A3->Prop)(f:Frame):Prop:=f.ki=1->∃n,S n/\At n=Y/\f.fr=n.fr/\f.nu=n.nu/\f.to=n.to/\f.un=n.un/\f.sz=n.tx.size/\f.da=GH n.tx f.mix
structure PcI (S:A3->Prop) (p:AL):Prop where
 oN:p.sp=A0->∃f,p.data=BF (Ca f)/\p.src=f.src/\p.dst=f.dst/\(By f=Y->NJ S f)
 bad:p.sp=Y->(Co<|BA p.data).2=A0
def aAf:(Co<|BA<|BF []).2=A0:=by rfl
def PcI.frame{S:A3->Prop}{p:AL}(h:PcI S p)(hu:(Co<|BA p.data).2=Y):∃f,Co (BA p.data)=(f,Y)/\By f=Y/\p.src=f.src/\p.dst=f.dst/\NJ S f/\p.data=BF (Ca f):=by
 obtain c|c:=tf p.sp
 .rw[h.bad c]at hu;cases hu
 .obtain⟨f,h1,h2,h3,h4⟩:=h.oN c;obtain e|e:=tf (By f)
  .refine⟨f, ?_,e,h2,h3,h4 e,h1⟩;rw[h1,Ns<|O3 f,WD e]
  .rw[h1]at hu;unfold Ca at hu;rw[e,A4,aAf]at hu;cases hu
def PcI.ayR{S:A3->Prop}{p:AL}(h:PcI S p)(hs:p.sp=A0){mix kp:Int}(hm:inB mix 0 ((p.data.size:Int) - 1)=Y)(hk:inB kp 1 255=Y):PcI S (OJ p mix kp):=by
 obtain⟨f,h1,_,_,_⟩:=h.oN hs;refine⟨λe=>(by cases e),λ_=> ?_⟩;obtain e|e:=tf (By f)
 .exact apq e h1 hm hk
 .have h2:=AY.1 hm;rw[h1]at h2;unfold Ca at h2;rw[e,A4,XA]at h2;simp at h2;omega
def PcI.send{S:A3->Prop}{f:Frame}(h:By f=Y->NJ S f):PcI S (pcF f):=⟨λ_=>⟨f,rfl,rfl,rfl,h⟩,λe=>by cases e⟩
def PcI.mono{S T:A3->Prop}{p:AL}(h:PcI S p)(hS:∀n,S n->T n):PcI T p:=by
 refine⟨λe=> ?_,h.bad⟩;obtain⟨f,h1,h2,h3,h4⟩:=h.oN e;refine⟨f,h1,h2,h3,λhf hk=> ?_⟩;obtain⟨n,h5,h6⟩:=h4 hf hk;exact⟨n,hS n h5,h6⟩
def aDJ{ra:List AL}{fs:List Frame}{p:AL}(h:p∈C1 ra fs):p∈ra\/ ∃f∈fs,p=pcF f:=by
 unfold C1 at h;obtain h|h:=BL.1 h
 .exact .inl h
 .obtain⟨f,hf,rfl⟩:=Bv.1 h;exact .inr ⟨f,I9 hf,rfl⟩
def aDD{ra:List AL}{i:Nat}{p:AL}(h:p∈J9 ra i):p∈ra:=by
 unfold J9 at h;obtain h|h:=BL.1 h
 .exact I9 h
 .exact Ku h
def aw9{l:List A3}{i:Int}(h0:0<=i)(h1:i.toNat<l.length):nA l i.toNat∈l:=by
 rw[nA,B8,Au h1];exact Cg h1
def as8{st:AJ}(h:As st=Y){n:A3}(hn:n∈st.held):At n=Y:=by
 unfold As at h;simp only[AD]at h;have hh:=h.2.2.2.1.2;obtain⟨j,hj,rfl⟩:=Ct hn;have:=DB.1 hh j hj;rw[AD,nA,B8,Au hj]at this;exact this.1
def awE{S:A3->Prop}{k:A8}(h:Ad k=Y)(hS:∀n∈(stT k).held,S n){fr nu mix:Int}(hb:(ED k fr nu mix).2=Y):NJ S (ED k fr nu mix).1:=by
 intro _;unfold ED at hb ⊢;split at hb
 .rename_i hc;rw[A5 hc];simp only[AD,CE,decide_eq_false_iff_not]at hc;have h0:=Eo<|QY.1 hc.2.1;have hm:=aw9 (QY.1 hc.2.1) h0.1;exact⟨_,hS _ hm,as8 (C5 h).kok hm,rfl,rfl,rfl,rfl,rfl,rfl⟩
 .cases hb
def Mf{n:A3}(h:At n=Y):inB n.tx.size 1 24=Y:=by
 unfold At Jw at h;simp only[AD]at h;exact h.2.2.2.2.1
def jB(hv:List AE)(f:Frame):(∃i,Ao hv f=(hv,i)/\i<hv.length/\(hA hv i).fr=f.fr/\(hA hv i).nu=f.nu/\EG hv f.fr f.nu=(i:Int))\/
  (EG hv f.fr f.nu<0/\ ∃l:List AE,l.Sublist hv/\Ao hv f=(l++[⟨f.fr,f.nu,f.to,f.un,f.sz,[]⟩],l.length)):=by
 unfold Ao;obtain h|⟨i,h1,h2,h3,h4⟩:=S4 hv f.fr f.nu
 .rw[A5 h];refine .inr ⟨h,_, ?_,rfl⟩;split
  .exact QT _ _
  .exact Ea _
 .rw[A9 J];exact .inl ⟨i,by rw[h1];rfl,h2,h3,h4,h1⟩
def Xu(l:List AE)(h:AE):hA (l++[h]) l.length=h:=by
 unfold hA;rw[B8,F1<|Ar _];simp
def T7(k:A8)(r:A1)(f:Bool):(wrR k r f).1.AH=k.AH:=by
 unfold wrR;split
 .rfl
 .cases f<;>rfl
def ac7(k:A8):Prop:=∀h∈k.AH,5<=h.sz
def avy{l:List AE}{i:Nat}{x:AE}(h:x∈FG l i):x∈l:=by
 unfold FG at h;obtain h|h:=BL.1 h
 .exact I9 h
 .exact Ku h
def atx(f:Frame):Lm ⟨f.fr,f.nu,f.to,f.un,f.sz,[]⟩ f=Y:=by
 unfold Lm;simp
structure azz (S:A3->Prop) (w:AB):Prop where
 p:∀p∈w.AS,PcI S p
 b:∀i,i<4->ac7 (kA w.A7 i)
def awR(k:A8)(tt un:Int)(tx:A1):(Ci k tt un tx).1.AH=k.AH:=by
 unfold Ci;split
 .exact T7 _ _ _
 .rfl
def axa(k:A8)(a b:Int):(DG k a b).1.AH=k.AH:=by
 unfold DG;split
 .exact T7 _ _ _
 .rfl
def av5(k:A8):(ES k).1.AH=k.AH:=by
 unfold ES;split
 .exact T7 _ _ _
 .rfl
def avz(k:A8):(Ew k).1.AH=k.AH:=by unfold Ew;split<;>rfl
def auR(k:A8):(Es k).1.AH=k.AH:=by unfold Es;split<;>rfl
def ab6{l:List AL}{i:Nat}(h:i<l.length):pA l i∈l:=by
 rw[mc h];exact Cg h
def Xg{k:A8}(h:Ad k=Y)(f:Frame):CB k f=HW k f:=A5 h
def aD2:CU [108,101,116]:=by unfold CU;decide
def aCZ(n:A3):L (J6 n)=[116,97,107,101]++32::L (wr n):=by unfold J6;simp only[Fz,L_B];rfl
def kO{k:AJ}{r:A1}(hk:As k=Y):BE k r=(GD k r).filter As:=by
 unfold BE FP;rw[A5 hk];cases (GD k r).filter As<;>rfl
def apl{k:AJ}{n:A3}(hn:At n=Y):BV k EQ (wr n)=if n.fr=k.id then G else EV k n:=by
 unfold BV GB;by_cases h:n.fr=k.id
 .simp[rk,rp,gP,rq,rO,Pj hn,h]
 .simp[rk,rp,gP,rq,rO,Pj hn,h]
def iw{k:AJ}{n:A3}(hk:As k=Y)(hn:At n=Y):BE k (J6 n)=(if n.fr=k.id then G else EV k n).filter As:=by
 rw[kO hk,Gu jT<|aCZ n,B_L];rw[show BV k (B [116,97,107,101]) (wr n)=_ from apl hn]
def Xc{l:List A3}{f n:Int}{x:A3}(h:x∈l)(h1:x.fr=f)(h2:x.nu=n):0<=AU l f n:=by
 obtain h3|h3:=aAq l f n
 .exact absurd ⟨h1,h2⟩ (SR J x h)
 .exact h3
def kK{l:List Mark}{f n:Int}{x:Mark}(h:x∈l)(h1:x.mf=f)(h2:x.mn=n):0<=Bj l f n:=by
 obtain h3|h3:=aqJ l f n
 .exact absurd ⟨h1,h2⟩ (kJ J x h)
 .exact h3
structure azN (k o:AJ) (n:A3):Prop where
 id:o.id=k.id
 ti:o.ti=k.ti
 nx:o.nx=k.nx
 at_:(n.to=k.id/\o.held=k.held/\o.marks=EE k.marks ⟨n.fr,n.nu,n.un⟩/\o.inbox=DY k.inbox n)\/(n.to≠k.id/\o.held=DY k.held n/\o.marks=k.marks/\o.inbox=k.inbox)
def axi{k o:AJ}{n:A3}(hk:As k=Y)(hn:At n=Y)(h:BE k (J6 n)=I o):azN k o n:=by
 rw[iw hk hn]at h;have h:=(Ii.1 h).1;split at h
 .cases h
 unfold EV at h;split at h
 .cases h
 split at h
 .cases h
 split at h
 .cases h
 split at h
 .cases h
 split at h
 .cases h
 split at h
 .cases h
 split at h
 .rename_i h1;cases h;exact⟨rfl,rfl,rfl,.inl ⟨Bc h1,rfl,rfl,rfl⟩⟩
 .rename_i h1;cases h;exact⟨rfl,rfl,rfl,.inr ⟨by simpa using h1,rfl,rfl,rfl⟩⟩
structure Safe (k:A8) (st:AJ):Prop where
 is:D9 k st
 fo:k.fo=(k.log.size:Int)
def kB{k:A8}{st o:AJ}{r:A1}(h:D9 k st)(hr:BE st r=I o):Safe (wrR k r Y).1 o/\(wrR k r Y).2=Y:=by
 unfold wrR;rw[h.stT,hr];exact⟨⟨QG<|OH h hr,rfl⟩,rfl⟩
def aCl{k:A8}{st:AJ}{r:A1}{f:Bool}(h:D9 k st)(hr:(wrR k r f).2=Y):∃o,BE st r=I o:=by
 unfold wrR at hr;rw[h.stT]at hr;cases hc:BE st r with
 | none=>rw[hc]at hr;cases hr
 | some o=>exact⟨o,rfl⟩
def mW{k:A8}(h:Ad k=Y)(hu:k.up=Y){f:Frame}(hf:By f=Y)(h1:f.ki=1):D9 (Gc k<|FG (Cv (Ao k.AH f).1 (Ao k.AH f).2 f) (Ao k.AH f).2) (stT k):=by
 have kf:=FJ h;have hv:=mT.1 kf.hv;have hp:=Wn hf h1;have Em:=OC (hv:=k.AH) (f:=f);have L9:=SY (hv:=k.AH) (f:=f) kf.hl;have hpf:=aa9 hv hf h1;have haf:=aas hpf Em hp.2.1;have hal:(Cv (Ao k.AH f).1 (Ao k.AH f).2 f).length=(Ao k.AH f).1.length:=by unfold Cv;rw[GP]
 exact Xy (C5 h) hu (by unfold FG;simp;omega)<|aah haf _
def arQ{k:AJ}{m:Mark}{r:A1}(ht:Gz r=I m):BV k Bx r=if EF k.held m then I ⟨k.id,k.ti,k.nx,EX k.held (AU k.held m.mf m.mn).toNat,EE k.marks m,k.inbox⟩ else G:=by
 unfold BV Er;cases h:EF k.held m<;>simp[gT,gV,iB,gU,gX,s6,iC,gW,ht,h]
def aBs{k:AJ}{a b c:Int}(hk:As k=Y)(ha:0<=a/\a<=999)(hb:0<=b/\b<=999)(hc:0<=c/\c<=999):
  BE k (CX Bx a b c)=(if EF k.held ⟨a,b,c⟩ then I ⟨k.id,k.ti,k.nx,EX k.held (AU k.held a b).toNat,EE k.marks ⟨a,b,c⟩,k.inbox⟩ else G).filter As:=by
 have h3:=YD (r:=B<|B2 a++32::(B2 b++32::B2 c)) (a:=a) (b:=b) (c:=c) J J J J J J<|L_B _;rw[kO hk,Gu aD2<|Pn Bx a b c];rw[show BV k (B [108,101,116]) _=_ from arQ h3]
structure ayz (a b:A3):Prop where
 fr:a.fr=b.fr
 nu:a.nu=b.nu
 to':a.to=b.to
 un:a.un=b.un
 ok:At a=At b
structure aEj (l m:List A3):Prop where
 len:l.length=m.length
 nA:∀i,ayz (nA l i)<|nA m i
def O1{st:AJ}(h:As st=Y){n:A3}(hn:n∈st.held):Dz st.id n.fr n.to=Y/\st.ti<n.un/\Bj st.marks n.fr n.nu<0:=by
 obtain⟨j,hj,rfl⟩:=Ct hn;have:=(Bu h).ho j hj;unfold Gy at this;simp only[AD,decide_eq_true_eq]at this;rw[show nA st.held j=st.held[j] by rw[nA,B8,Au hj];rfl]at this;exact⟨this.2.2.1,this.2.1,this.2.2.2⟩
def O6{n:A3}(h:At n=Y):isN n.fr=Y/\isN n.to=Y/\inB n.nu 1 99=Y/\inB n.un 1 999=Y/\Jw n.tx=Y:=by
 unfold At at h;simp only[AD]at h;exact h
def Ps{a f t:Int}(ha:isN a=Y)(hf:isN f=Y)(ht:isN t=Y)(h:Dz a f t=Y):isN (Br a t)=Y/\Br a t≠f/\(Br a t≠t->Dz (Br a t) f t=Y):=by
 have ra:=E7 ha;have rf:=E7 hf;have rt:=E7 ht;unfold Dz at h;simp only[AD,CE,decide_eq_false_iff_not,C0,AY]at h;have e:Br a t=if a<t then a+1 else a - 1:=by
  unfold Br;rw[ha,ht,B1 h.1];rfl
 rw[e];refine⟨?_, ?_,λhne=> ?_⟩
 .split
  .exact AY.2 J
  .exact AY.2 J
 .split<;>omega
 .unfold Dz;simp only[AD,CE,decide_eq_false_iff_not,C0,AY];refine⟨hne, ?_⟩;split at hne
  .left;rw[A5<|by assumption];omega
  .right;rw[A9<|by assumption];omega
def B9(id:Int)(n:A3)(m:Int):Frame:=⟨1,id,Br id n.to,n.fr,n.nu,n.to,n.un,n.tx.size,m,GH n.tx m⟩
def jF{id:Int}{n:A3}{m:Int}(hi:isN id=Y)(hn:At n=Y)(hw:Dz id n.fr n.to=Y)(hm:inB m 0 999=Y):By (B9 id n m)=Y:=by
 have r:=O6 hn;have hx:=Ps hi r.1 r.2.1 hw;have hf:=aCT (Mf hn) hm;unfold By Jl B9;simp only[hi,hx.1,r.1,r.2.1,r.2.2.1,r.2.2.2.1,AT,A2,Mf hn,hm,AR];rw[Kr];exact AQ hf.2
def F5(tx:A1)(i:Nat):List AN:=(B7 i).map λj:Nat=>⟨(j:Int),GH tx (j:Int)⟩
def aqW{tx:A1}{i:Nat}{m:AN}(h:m∈F5 tx i):∃j:Nat,j<i/\m=⟨(j:Int),GH tx (j:Int)⟩:=by
 obtain⟨j,hj,rfl⟩:=Bv.1 h;exact⟨j,Cs.1 hj,rfl⟩
structure aEf (x:A8) (d t:Int) (hv:List AE):Prop where
 ok:Ad x=Y
 up:x.up=Y
 id:x.id=d
 st:stT x=⟨d,t,1,[],[],[]⟩
 hv:x.AH=hv
variable {E:List Event}
def Tot{α:Type}(o:Option α)(P:α->Prop):Prop:=∃a,o=I a/\P a
def Rn{α β:Type}(A:α->Prop)(B:β->Prop):α ⊕ β->Prop
 | .inl a=>A a
 | .inr b=>B b
def Tot.ret{α:Type}{a:α}{P:α->Prop}(h:P a):Tot (I a) P:=⟨a,rfl,h⟩
def Tot.eq{α:Type}{o:Option α}{a:α}(h:o=I a):Tot o (λx=>x=a):=⟨a,h,rfl⟩
def Tot.mono{α:Type}{o:Option α}{P Q:α->Prop}(h:Tot o P)(hq:∀a,P a->Q a):Tot o Q:=by
 obtain⟨a,e,p⟩:=h;exact⟨a,e,hq a p⟩
def Tot.bind{α β:Type}{o:Option α}{f:α->Option β}{P:α->Prop}{Q:β->Prop}(h:Tot o P)(hf:∀a,P a->Tot (f a) Q):Tot (o.bind f) Q:=by
 obtain⟨a,rfl,p⟩:=h;exact hf a p
def Tot.ite{α:Type}{c:Bool}{a b:Option α}{P:α->Prop}(ha:c=Y->Tot a P)(hb:c=A0->Tot b P):Tot (if c=Y then a else b) P:=by
 cases c
 .rw[A4];exact hb rfl
 .rw[A5 rfl];exact ha rfl
def Tot.pos{α:Type}{c:Bool}{a b:Option α}{P:α->Prop}(hc:c=Y)(ha:Tot a P):Tot (if c=Y then a else b) P:=by
 rw[A5 hc];exact ha
def Tot.neg{α:Type}{c:Bool}{a b:Option α}{P:α->Prop}(hc:c=A0)(hb:Tot b P):Tot (if c=Y then a else b) P:=by
 rw[hc,A4];exact hb
def Tot.join{Ω X:Type}{f:X->Option Ω}{m:Option (Ω ⊕ X)}{A:X->Prop}{Q:Ω->Prop}(h:Tot m (Rn Q A))(hf:∀x,A x->Tot (f x) Q):Tot (BT f m) Q:=by
 obtain⟨r,rfl,p⟩:=h;cases r with
 | inl o=>exact⟨o,rfl,p⟩
 | inr x=>exact hf x p
def Tot.sum{A B3 Ω:Type}{m:Option (A ⊕ B3)}{f:A->Option Ω}{g:B3->Option Ω}{P:A->Prop}{Q:B3->Prop}{R:Ω->Prop}(h:Tot m (Rn P Q))
  (hf:∀a,P a->Tot (f a) R)(hg:∀d,Q d->Tot (g d) R):Tot (AP m f g) R:=by
 obtain⟨r,rfl,p⟩:=h;cases r with
 | inl o=>exact hf o p
 | inr x=>exact hg x p
def Tot.loop{σ ρ:Type}{b:σ->Option (σ ⊕ ρ)}(Inv:Nat->σ->Prop)(NT:ρ->Prop)(n:Nat)
  (h:∀i s,i<=n->Inv i s->Tot (b s) (Rn (λs'=>i<n/\Inv (i+1) s') NT)){s0:σ}(h0:Inv 0 s0):Tot (AZ b s0) NT:=by
 refine avd Inv NT n (λi s hi hs=> ?_) (λs hs=> ?_) h0
 .obtain⟨r,e,p⟩:=h i s J hs;cases r with
  | inl s'=>exact .inl ⟨s',e,p.2⟩
  | inr y=>exact .inr ⟨y,e,p⟩
 .obtain⟨r,e,p⟩:=h n s (Ar _) hs;cases r with
  | inl s'=>exact absurd p.1<|Nat.lt_irrefl _
  | inr y=>exact⟨y,e,p⟩
structure Hj (N:Nat) (r:List Int×Int×D):Prop where
 l:r.1.length<=2000
 b:BOk r.1
 p0:0<=r.2.1
 p1:r.2.1<=(N:Int)
def Hj.up{N M:Nat}{r:List Int×Int×D}(h:Hj N r)(hM:N<=M):Hj M r:=⟨h.l,h.b,h.p0,by have:=h.p1;omega⟩
def awM{a b:Int}(ha:0<=a)(ha':a<9223372036854775808)(hb:0<=b)(hb':b<9223372036854775808):0<=Dp .i64 a b:=by
 obtain⟨m,rfl⟩:=HD ha;obtain⟨n,rfl⟩:=HD hb;have hm:m<2 ^ 63:=J
 have hn:n<2 ^ 63:=J
 have hx:=Nat.xor_lt_two_pow hm hn;have e:(FH 64 (m:Int) ^^^ FH 64 (n:Int)).toNat=m ^^^ n:=by
  rw[BitVec.toNat_xor,QQ,QQ];congr 1<;>omega
 show 0<=w64 (((FH 64 (m:Int) ^^^ FH 64 (n:Int)).toNat:Int));rw[e,Aa J J];omega
def Cp{N:Nat}{x:(List Int×Int×D)×Int×D}(h:Hj N x.1)(hN:N<=1000000):
  Tot (Cc x) λa=>Hj (N+1) a.2.1/\0<=a.1.1/\(1<=x.2.1->a.1.1<x.2.1):=by
 obtain⟨⟨l,p,_⟩,n,_⟩:=x;obtain⟨hl,hb,p0,p1⟩:=h;simp only at hl hb p0 p1;have e1:w64 (p+1)=p+1:=Aa J J;have e2:w64 (p+1 - 1)=p:=by rw[Aa J J];omega
 have hq:Hj (N+1) (l,p+1,()):=⟨hl,hb,by show 0<=p+1;omega,by show p+1<=((N+1:Nat):Int);omega⟩;unfold Cc;simp only[e1,e2];refine Tot.ite (λhc=> ?_) (λhc=> ?_)
 .refine Tot.ret ⟨hq,D0 _,λh=>by show(0:Int)<n;omega⟩
 .simp only[Mv,decide_eq_false_iff_not]at hc;have hn:1<=n:=J
  have hln:0<l.length:=J
  have hl0:¬((j8 l:Int)=0):=hc.2;have hn0:(!decide (n=0))=Y:=by simp;omega
  have nr:(!decide ((j8 l:Int)=0))=Y:=by simpa using hl0
  refine Tot.ite (λhc1=> ?_) (λhc1=> ?_)
  .have hc1:=Bc hc1;refine Tot.pos (Fu p0 hc1) (Tot.pos hn0<|Tot.ret ⟨hq, ?_,λ_=> ?_⟩)
   .have:=hb.rd p;exact QR _ (by rw[Aa J J];exact this.1)
   .exact QI _ J
  .have hp:0<=BJ p l.length/\BJ p l.length<l.length:=⟨QR _ p0,QI _ J⟩;have e3:w64 (w64 (p * 7)+3)=p * 7+3:=by rw[Aa (n:=p * 7) J J,Aa J J]
   have hp2:0<=BJ (p * 7+3) l.length/\BJ (p * 7+3) l.length<l.length:=⟨QR _ J,QI _ J⟩;simp only[e3];refine Tot.pos nr (Tot.pos (Fu hp.1 hp.2)<|Tot.pos nr<|Tot.pos (Fu hp2.1 hp2.2)<|Tot.pos nr<|Tot.pos hn0<|Tot.ret ⟨hq, ?_,λ_=> ?_⟩)
   .have b1:=hb.rd<|BJ p l.length;have b2:=hb.rd<|BJ (p * 7+3) l.length;have hd:0<=Ay p l.length/\Ay p l.length<=p:=⟨lS p0 J,Int.tdiv_le_self _ p0⟩;generalize @rd Int aEt l (BJ p l.length)=u1 at b1 ⊢;generalize @rd Int aEt l (BJ (p * 7+3) l.length)=u2 at b2 ⊢;generalize Ay p l.length=d at hd ⊢;have w1:w64 u1=u1:=Aa J J;have w2:w64 u2=u2:=Aa J J;have w3:w64 (u1 * 131)=u1 * 131:=Aa J J;have w4:w64 (u2 * 1117)=u2 * 1117:=Aa J J;have w5:w64 (p * 29)=p * 29:=Aa J J;have w6:w64 d=d:=Aa J J;have w7:w64 (d * 53)=d * 53:=Aa J J;simp only[w1,w2,w3,w4,w5,w6,w7];have w8:w64 (u1 * 131+u2 * 1117)=u1 * 131+u2 * 1117:=Aa J J;rw[w8];have w9:w64 (u1 * 131+u2 * 1117+p * 29)=u1 * 131+u2 * 1117+p * 29:=Aa J J;rw[w9];have w10:w64 (u1 * 131+u2 * 1117+p * 29+d * 53)=u1 * 131+u2 * 1117+p * 29+d * 53:=Aa J J;rw[w10];have hv:0<=u1 * 131+u2 * 1117+p * 29+d * 53/\u1 * 131+u2 * 1117+p * 29+d * 53<=1000000000:=J
    generalize u1 * 131+u2 * 1117+p * 29+d * 53=v at hv ⊢;have hdv:0<=Ay v 64/\Ay v 64<=v:=⟨lS hv.1 J,Int.tdiv_le_self _ hv.1⟩;have w11:w64 (Ay v 64)=Ay v 64:=Aa J J;rw[w11];exact QR _ (awM hv.1 J hdv.1 J)
   .exact QI _ J
def aqm(l:List A1){i:Int}(h0:0<=i)(h1:i<l.length): @rd A1 aEv l i∈l:=by
 unfold rd;rw[B8,Au (by omega:i.toNat<l.length)];exact Cg _
def axk{N:Nat}{r:List Int×Int×D}{l:List A1}(h:Hj N r)(hN:N<=1000000)(hl:1<=l.length):
  Tot (dh (r,l,())) λa=>Hj (N+1) a.2.1/\a.1.1∈l:=by
 unfold dh;refine Tot.bind (Cp h hN) λa ha=> ?_;have h1:=ha.2.2 (by show(1:Int)<=(j8 l:Int);omega);exact Tot.pos (Fu ha.2.1 h1)<|Tot.ret ⟨ha.1,aqm l ha.2.1 h1⟩
def NS(E ev:List Event)(w:AB):Prop:=∃l,Reach l w/\(E=[]->l=ev)
def NS.ok{ev:List Event}{w:AB}(h:NS E ev w):B4 w:=by
 obtain⟨_,h,_⟩:=h;exact h.ok
def NS.reach{ev:List Event}{w:AB}(h:NS [] ev w):Reach ev w:=by
 obtain⟨_,h,e⟩:=h;rw[← e rfl];exact h
def NS.step{ev:List Event}{w:AB}(h:NS E ev w){e:Event}(ht:e.tx.size<=1048576):NS E (Jr ev e (doM w e).2) (Ck w e):=by
 obtain⟨l,h,g⟩:=h;exact⟨_,h.step ht,λc=>by rw[g c]⟩
def tc(l:List Event):Nat:=(l.filter λe=>U<|e.ki=2).length
def awd(l:List Event)(e:Event):tc (l++[e])=tc l+if e.ki=2 then 1 else 0:=by
 unfold tc;rw[Oi,Aq];by_cases h:e.ki=2<;>simp[h]
def WOk(E:List Event)(N:Nat)(t:Int×List A8×List Bool×List AL×List A3×List A3×List Event×D):Prop:=∃w ev,t=tS w ev/\NS E ev w/\ev.length+2000 * tc ev<=N
structure SOk (E:List Event) (N:Nat) (s:(List Int×Int×D)×Int×List A8×List Bool×List AL×List A3×List A3×List Event×D):Prop where
 r:Hj N s.1
 w:WOk E N s.2
def WOk.up{N M:Nat}{t:_}(h:WOk E N t)(hM:N<=M):WOk E M t:=by
 obtain⟨w,ev,e,h1,h2⟩:=h;exact⟨w,ev,e,h1,J⟩
def SOk.up{N M:Nat}{s:_}(h:SOk E N s)(hM:N<=M):SOk E M s:=⟨h.r.up hM,h.w.up hM⟩
def SOk.rd{N M:Nat}{s:_}(h:SOk E N s){r:List Int×Int×D}(hr:Hj M r)(hM:N<=M):SOk E M (r,s.2):=⟨hr,h.w.up hM⟩
abbrev zTx(y:Int×Int×Int×Int×Int×Int×Int×Int×Int×A1×D):A1:=y.2.2.2.2.2.2.2.2.2.1
def mg{N:Nat}{s:_}{y:Int×Int×Int×Int×Int×Int×Int×Int×Int×A1×D}(h:SOk E N s)(hN:N<=1000000)(hy:(zTx y).size<=1048576):
  Tot (FT (s,y,())) λa=>SOk E (N+1+if y.1=2 then 2000 else 0) a.2.1:=by
 obtain⟨hr,w,ev,e,hw,hev⟩:=h;obtain⟨r,t⟩:=s;obtain⟨a,b,c,d,f,g,i,j,k,tx,_⟩:=y;simp only at e hr;subst e;have:=ar3 hw.ok (r:=r) (ev:=ev) J (e:=⟨a,b,c,d,f,g,i,j,k,tx⟩) hy;refine⟨_,this,hr.up J,⟨_,Jr ev ⟨a,b,c,d,f,g,i,j,k,tx⟩ (doM w ⟨a,b,c,d,f,g,i,j,k,tx⟩).2,rfl, ?_, ?_⟩⟩
 .exact hw.step (e:=⟨a,b,c,d,f,g,i,j,k,tx⟩) hy
 unfold Jr;split
 .rw[awd,Aq];show ev.length+1+2000 * (tc ev+if a=2 then 1 else 0)<=N+1+if a=2 then 2000 else 0
  split<;>omega
 .omega
def I5{N:Nat}{s:_}{y:Int×Int×Int×Int×Int×Int×Int×Int×Int×A1×D}(h:SOk E N s)(hN:N<=1000000)(hy:(zTx y).size<=1048576/\y.1≠2):
  Tot (FT (s,y,())) λa=>SOk E (N+1) a.2.1:=(mg h hN hy.1).mono λa ha=>by rw[A9 hy.2]at ha;exact ha
def WOk.has{N:Nat}{t:_}(h:WOk E N t){i:Int}(h0:0<=i)(h1:i<4):Ad (kA t.2.1 i.toNat)=Y/\(kA t.2.1 i.toNat).id=i/\inb i t.2.1.length=Y:=by
 obtain⟨w,ev,rfl,hw,_⟩:=h;have:=hw.ok.k i.toNat J;refine⟨this.1, ?_,Fu h0 (by show i<(w.A7.length:Int);rw[hw.ok.kl];exact h1)⟩;rw[this.2];omega
def mm{l:List A8}{i:Int}(h:Ad (kA l i.toNat)=Y):
  Tot (G7 (((@rd A8 aEm l i).id,(@rd A8 aEm l i).up,(@rd A8 aEm l i).log,(@rd A8 aEm l i).fo,(@rd A8 aEm l i).AH,()),()))
   λa=>a=((tK<|stT<|kA l i.toNat,Y,()),()):=Tot.eq<|Nu h
end Go.VS
namespace Go.VS
open Go
variable {E:List Event}
def axN{l:List A1}{s:A1}(h:s∈l)(hl:(l.all λx=>U<|x.size<=1000)=Y):s.size<=1000:=by
 have:=DM.1 hl s h;exact Bc this
def abn{N:Nat}{s:_}(h:SOk E N s)(hN:N<=900000):Tot (UT (s,())) λa=>SOk E (N+10) a.2.1:=by
 unfold UT;refine Tot.bind (Cp h.r J) λr1 h1=>Tot.bind (axk h1.1 J aEp) λr2 h2=>Tot.join (A:=λj=>SOk E (N+2) j.1/\0<=j.2.1/\j.2.1<4/\j.2.2.1.size<=1000) ?_ (λj hj=> ?_)
 .have hz:=axN h2.2 aEp;have hat:r1.1.1<4:=h1.2.2 (show(1:Int)<=4 by decide);refine Tot.ite (λhc=>Tot.pos ?_<|Tot.ret ⟨h.rd h2.1 J,h1.2.1,hat, ?_⟩) (λhc=>Tot.ret ⟨h.rd h2.1 J,h1.2.1,hat,hz⟩)
  .have:=Bc hc;simp;omega
  .show(r2.1.1.extract 0 24).size<=1000;rw[aBM];omega
 .obtain⟨hs,a0,a1,hz⟩:=hj;have hk:=hs.w.has a0 a1;refine Tot.pos hk.2.2 (Tot.bind (mm hk.1) λr6 h6=>Tot.bind (Cp hs.r J) λr7 h7=>Tot.bind (Cp h7.1 J) λr8 h8=>
   Tot.bind (I5 (hs.rd h8.1 J) J ⟨?_,by show(1:Int)≠2;decide⟩) λr9 h9=>Tot.ret<|h9.up J)
  show j.2.2.1.size<=1048576;omega
def axm{a:Int}(h0:0<=a)(h1:a<4):0<=BJ (w64<|a+1) 4/\BJ (w64<|a+1) 4<4:=by
 rw[Aa J J];exact⟨QR _ J,QI _ J⟩
def awh{N:Nat}{s:_}(h:SOk E N s)(hN:N<=900000):Tot (au (s,())) λa=>SOk E (N+2) a.2.1/\a.2.1.2=s.2/\(a.1.2.2.1=Y->0<=a.1.1/\a.1.1<4/\isN (Br a.1.1 a.1.2.1.2.2.1)=Y):=by
 unfold au;refine Tot.bind (Cp h.r J) λr1 h1=>Tot.sum (P:=λy=>SOk E (N+2) y.1/\y.1.2=s.2/\(0<=y.2.1/\y.2.1<4/\isN (Br y.2.1 y.2.2.1.2.2.1)=Y)) (Q:=λy=>SOk E (N+2) y.1/\y.1.2=s.2) ?_ (λy hy=>Tot.ret ⟨hy.1,hy.2.1,λ_=>hy.2.2⟩) (λy hy=>Tot.ret ⟨hy.1,hy.2,λh=>by cases h⟩);refine Tot.loop (λi x=>SOk E (N+1) x.1/\x.1.2=s.2/\0<=x.2.2.1/\x.2.2.1<4/\x.2.2.2.1=(i:Int)) _ 4 (λi x hi hx=> ?_) ⟨h.rd h1.1 J,rfl,h1.2.1,h1.2.2<|show(1:Int)<=4 by decide,rfl⟩;obtain⟨hs,hw,a0,a1,hx⟩:=hx;have hk:=hs.w.has a0 a1;unfold p9;refine Tot.ite (λhc=> ?_) (λhc=>Tot.ret ⟨hs.up J,hw⟩);have hc:=Bc hc;refine Tot.pos hk.2.2 (Tot.bind (mm hk.1) λr6 h6=> ?_);subst h6;refine Tot.ite (λhl=> ?_) (λhl=> ?_)
 .have hl:(0:Int)<((stT<|kA x.1.2.2.1 x.2.2.1.toNat).held.length:Int):=Bc hl;refine Tot.bind (Cp hs.r J) λr7 h7=> ?_;have hlt:=h7.2.2 hl;refine Tot.pos (Fu h7.2.1 hlt)<|Tot.ret ⟨hs.rd h7.1 J,hw,a0,a1, ?_⟩;have hkk:=C5 hk.1;have hid:=hkk.id;have h9:r7.1.1.toNat<(stT<|kA x.1.2.2.1 x.2.2.1.toNat).held.length:=by
   have:r7.1.1<((stT<|kA x.1.2.2.1 x.2.2.1.toNat).held.length:Int):=hlt;have:=h7.2.1;omega
  have:=aC2 hkk.kok (n:=nA (stT<|kA x.1.2.2.1 x.2.2.1.toNat).held r7.1.1.toNat) (by rw[nA,B8,Au h9];exact Cg h9);rw[hid,hk.2.1]at this;exact this
 .have hm:=axm a0 a1;refine Tot.ret ⟨?_,hs,hw,hm.1,hm.2, ?_⟩
  .omega
  .show w64 (x.2.2.2.1+1)=_;rw[hx,Aa J J];rfl
def TxK(y:Int×Int×Int×Int×Int×Int×Int×Int×Int×A1×D):Prop:=(zTx y).size<=1000/\y.1≠2
def Sv{N:Nat}{s:_}(h:SOk E N s){Ds odd:Int}(hm:Ds<=64)(hN:N<=900000):Tot (NV (s,Ds,odd,())) λa=>SOk E (N+1000) a.2.1:=by
 unfold NV;refine Tot.sum (P:=λ_=>False) (Q:=λy=>SOk E (N+1000) y.1) ?_ (λ_ h=>h.elim) (λy hy=>Tot.ret hy);refine Tot.loop (λi x=>SOk E (N+12 * i) x.1/\x.2.1=Ds/\x.2.2.2.1=(i:Int)) _ Ds.toNat (λi x hi hx=> ?_) ⟨h,rfl,rfl⟩;obtain⟨hs,hx1,hx⟩:=hx;unfold ow;refine Tot.ite (λhc=> ?_) (λhc=>Tot.ret<|show SOk E (N+1000) _ from hs.up J);rw[AD,hx1,hx]at hc;have hlt:(i:Int)<Ds:=Bc hc.1;have hN1:N+12 * i<=950000:=J
 generalize hM:N+12 * i=M at hs hN1;refine Tot.join (A:=λj=>SOk E (M+5) j.1/\j.2.1=Ds/\j.2.2.2.1=(i:Int)/\TxK j.2.2.2.2.1) ?_ (λj hj=> ?_)
 .refine Tot.join (A:=λj=>SOk E (M+1) j.1/\j.2.1=Ds/\j.2.2.2.1=(i:Int)/\TxK j.2.2.2.2.1) ?_ (λj hj=> ?_)
  .refine Tot.ite (λhc=>Tot.bind (Cp hs.r J) λr1 h1=>Tot.ret ?_) (λhc=>Tot.ret ?_)
   .exact⟨hs.rd h1.1 J,hx1,hx,show TxK _ from⟨show noB.size<=1000 by decide,show(4:Int)≠2 by decide⟩⟩
   .exact⟨hs.up J,hx1,hx,show TxK _ from⟨show noB.size<=1000 by decide,show(4:Int)≠2 by decide⟩⟩
  .obtain⟨hs,hj1,hj2,hj3⟩:=hj;refine Tot.ite (λhc=> ?_) (λhc=>Tot.ret ⟨hs.up J,hj1,hj2,hj3⟩);refine Tot.bind (Cp hs.r J) λr1 h1=> ?_;refine Tot.ite (λhc=>Tot.ret ⟨hs.rd (h1.1.up J) J,hj1,hj2,⟨hj3.1,show(5:Int)≠2 by decide⟩⟩) (λhc=> ?_);refine Tot.ite (λhc=>Tot.ret ⟨hs.rd (h1.1.up J) J,hj1,hj2,hj3⟩) (λhc=> ?_);refine Tot.ite (λhc=> ?_) (λhc=> ?_)
   .exact Tot.bind (Cp h1.1 J) λr2 h2=>Tot.bind (Cp h2.1 J) λr3 h3=>Tot.bind (Cp h3.1 J) λr4 h4=>
     Tot.ret ⟨hs.rd (h4.1.up J) J,hj1,hj2,⟨hj3.1,show(6:Int)≠2 by decide⟩⟩
   .exact Tot.bind (Cp h1.1 J) λr2 h2=>Tot.ret ⟨hs.rd (h2.1.up J) J,hj1,hj2,hj3⟩
 .obtain⟨hs,hj1,hj2,hj3⟩:=hj;have hw:w64 (j.2.2.2.1+1)=((i+1:Nat):Int):=by rw[hj2,Aa J J];rfl
  refine Tot.join (A:=λj=>SOk E (M+7) j.1/\j.2.1=Ds/\j.2.2.2.1=(i:Int)/\TxK j.2.2.2.2.1) ?_ (λj hj=> ?_)
  .refine Tot.bind (I5 hs J ⟨CP hj3.1 aEp,hj3.2⟩) λr1 h1=>Tot.ite (λhc=> ?_) (λhc=>Tot.ret ⟨h1.up J,hj1,hj2,hj3⟩);exact Tot.bind (I5 h1 J ⟨show noB.size<=1048576 by decide,show(5:Int)≠2 by decide⟩) λr2 h2=>Tot.ret ⟨h2.up J,hj1,hj2,hj3⟩
  .obtain⟨hs,hj1,hj2,hj3⟩:=hj;refine Tot.join (A:=λj=>SOk E (M+8) j.1/\j.2.1=Ds/\j.2.2.2.1=(i:Int)/\TxK j.2.2.2.2.1) ?_ (λj hj=> ?_)
   .refine Tot.ite (λhc=>Tot.bind (Cp hs.r J) λr1 h1=>Tot.ret ⟨hs.rd h1.1 J,hj1,hj2,hj3⟩) (λhc=>Tot.ret ⟨hs.up J,hj1,hj2,hj3⟩)
   .obtain⟨hs,hj1,hj2,hj3⟩:=hj;have hw:w64 (j.2.2.2.1+1)=((i+1:Nat):Int):=by rw[hj2,Aa J J];rfl
    refine Tot.ite (λhc=> ?_) (λhc=>Tot.ret ⟨J, ?_,hj1,hw⟩)
    .refine Tot.bind (Cp hs.r J) λr1 h1=>Tot.bind (Cp h1.1 J) λr2 h2=>Tot.bind (I5 (hs.rd h2.1 J) J ?_) λr3 h3=>Tot.ret ⟨J, ?_,hj1,hw⟩
     .exact⟨CP hj3.1 aEp,hj3.2⟩
     .exact h3.up J
    .exact hs.up J
end Go.VS
namespace Go.VS
open Go
variable {E:List Event}
def nz:noB.size<=1048576:=by decide
def nt{k:Int}(h:U (k=2)=A0:=by rfl):k≠2:=It h
def WOk.rl{N:Nat}{t:_}(h:WOk E N t):t.2.2.2.1.length<=30:=by
 obtain⟨w,ev,rfl,hw,_⟩:=h;exact hw.ok.rl
def QC{n:Int}{i:Nat}(h:n=(i:Int))(hi:i<=1000000):w64 (n+1)=((i+1:Nat):Int):=by
 rw[h,Aa J J];rfl
def Xo{N:Nat}{s:_}(h:SOk E N s){Ds odd:Int}(h0:0<=Ds)(hm:Ds<=8)(hN:N<=800000):Tot (PE (s,Ds,odd,())) λa=>SOk E (N+1100) a.2.1:=by
 unfold PE;refine Tot.bind (awh h J) λr1 h1=>Tot.ite (λhc=>Tot.ret<|h1.1.up J) (λhc=> ?_);refine Tot.bind (Cp h1.1.r J) λr2 h2=>Tot.bind (Cp h2.1 J) λr3 h3=> ?_;refine Tot.sum (P:=λ_=>False) (Q:=λy=>SOk E (N+20) y.1/\y.2.1=Ds) ?_ (λ_ h=>h.elim) (λy hy=> ?_)
 .refine Tot.loop (λi x=>SOk E (N+4+i) x.1/\x.2.1=Ds/\x.2.2.2.2.2.2.1=(i:Int)) _ Ds.toNat (λi x hi hx=> ?_) ⟨h1.1.rd h3.1 J,rfl,rfl⟩;obtain⟨hs,hx1,hx⟩:=hx;unfold ov;refine Tot.ite (λhc=> ?_) (λhc=>Tot.ret ⟨hs.up J,hx1⟩);have hc:=Bc hc;exact Tot.bind (I5 hs J ⟨nz,nt⟩) λr4 h4=>Tot.ret ⟨J,h4.up J,hx1,QC hx J⟩
 .have hy2:=hy.2;refine Tot.bind (Cp hy.1.r J) λr4 h4=> ?_;have h5:r4.1.1<=64:=by
   have:w64 (y.2.1+4)=Ds+4:=by rw[hy.2,Aa J J]
   have:=h4.2.2 (by show 1<=w64 (y.2.1+4);omega);have:r4.1.1<w64 (y.2.1+4):=this;omega
  exact Tot.bind (Sv (hy.1.rd h4.1 J) h5 J) λr5 h6=>Tot.ret<|h6.up J
def aaA{c a n:Int}(h0:0<=a)(h1:a<n)(hc:3<=c)(hn:c+n<=1000):w64 (c+a)≠2:=by
 rw[Aa J J];omega
def axX{N:Nat}{s:_}(h:SOk E N s)(hN:N<=700000):Tot (av (s,())) λa=>SOk E (N+22600) a.2.1:=by
 unfold av;refine Tot.bind (Sv h aEp J) λr1 h1=>Tot.bind (Xo h1 aEp aEp J) λr2 h2=> ?_;refine Tot.sum (P:=λ_=>False) (Q:=λy=>SOk E (N+2220) y.1) ?_ (λ_ h=>h.elim) (λy hy=> ?_)
 .refine Tot.loop (λi x=>SOk E (N+2100+40 * i) x.1/\x.2.1=(i:Int)) _ 2 (λi x hi hx=> ?_) ⟨h2.up J,rfl⟩;obtain⟨hs,hx⟩:=hx;unfold pE;refine Tot.bind (Cp hs.r J) λr3 h3=>Tot.ite (λhc=> ?_) (λhc=>Tot.ret<|show SOk E (N+2220) _ from hs.rd (h3.1.up J) J);have hc:=Bc hc;have hv:=h3.2.2 (show(1:Int)<=2 by decide);have hv:r3.1.1<2:=hv;have hv0:=h3.2.1;rw[Aa J J]at hc;have hrl:=hs.w.rl;refine Tot.sum (P:=λ_=>False) (Q:=λy=>SOk E (N+2100+40 * (i+1)) y.1/\y.2.1=(i:Int)) ?_ (λ_ h=>h.elim) (λy hy=>Tot.ret ⟨J,hy.1,QC hy.2 J⟩);refine Tot.loop (λk y=>SOk E (N+2100+40 * i+1+k) y.1/\y.2.1=(i:Int)/\y.2.2.1=(j8 x.1.2.2.2.2.1:Int)/\y.2.2.2.1=(k:Int)) _ x.1.2.2.2.2.1.length (λk y hk hy=> ?_) ⟨hs.rd h3.1 J,hx,rfl,rfl⟩;obtain⟨hs,y1,y2,y3⟩:=hy;unfold pD;refine Tot.ite (λhc=> ?_) (λhc=>Tot.ret ⟨hs.up J,y1⟩);have hc:=Bc hc;exact Tot.bind (I5 hs J ⟨nz,nt⟩) λr4 h4=>Tot.ret ⟨J,h4.up J,y1,y2,QC y3 J⟩
 .refine Tot.bind (Cp (SOk.r hy) J) λr3 h3=>Tot.join (A:=λj=>SOk E (N+20300) j.1) ?_ (λj hj=> ?_)
  .refine Tot.bind (Cp h3.1 J) λr4 h4=>Tot.ite (λhc=> ?_) (λhc=>Tot.ite (λhc=> ?_) λhc=> ?_)
   .exact Tot.bind (Cp h4.1 J) λr5 h5=>Tot.bind (I5 (SOk.rd hy h5.1 J) J ⟨nz,nt⟩) λr6 h6=>Tot.bind (I5 h6 J ⟨nz,nt⟩) λr7 h7=>Tot.ret (show SOk E (N+20300) _ from h7.up J)
   .refine Tot.bind (Cp h4.1 J) λr5 h5=>Tot.sum (P:=λ_=>False) (Q:=λy=>SOk E (N+20300) y.1) ?_ (λ_ h=>h.elim) (λy hy=>Tot.ret<|show SOk E (N+20300) y.1 from hy);have hv:r5.1.1<9:=h5.2.2 (show(1:Int)<=9 by decide);have hv0:=h5.2.1;refine Tot.loop (λk y=>SOk E (N+2224+2001 * k) y.1/\y.2.2.1=r5.1.1 - (k:Int)) _ r5.1.1.toNat (λk y hk hy=> ?_) ⟨SOk.rd hy (h5.1.up J) J,by show r5.1.1=r5.1.1 - 0;omega⟩;obtain⟨hs,y1⟩:=hy;unfold pC;refine Tot.ite (λhc=> ?_) (λhc=>Tot.ret<|show SOk E (N+20300) _ from hs.up J);have hc:=Bc hc;refine Tot.bind (mg hs J nz) λr6 h6=>Tot.ret ⟨J,SOk.up (show SOk E (N+2224+2001 * k+1+2000) _ from h6) J, ?_⟩;show w64 (y.2.2.1 - 1)=r5.1.1 - ((k+1:Nat):Int);rw[Aa J J];omega
   .exact Tot.ret (show SOk E (N+20300) _ from SOk.rd hy (h4.1.up J) J)
  .have hj:SOk E (N+20300) j.1:=hj;refine Tot.bind (Xo hj aEp aEp J) λr4 h4=>Tot.sum (P:=λ_=>False) (Q:=λy=>SOk E (N+21500) y.1) ?_ (λ_ h=>h.elim) (λy hy=> ?_)
   .refine Tot.loop (λk y=>SOk E (N+21420+k) y.1/\y.2.2.1=(k:Int)) _ 12 (λk y hk hy=> ?_) ⟨h4.up J,rfl⟩;obtain⟨hs,y1⟩:=hy;unfold pB;refine Tot.ite (λhc=> ?_) (λhc=>Tot.ret<|show SOk E (N+21500) _ from hs.up J);rw[AD]at hc;have hc:=Bc hc.1;exact Tot.bind (I5 hs J ⟨nz,nt⟩) λr6 h6=>Tot.ret ⟨J,h6.up J,QC y1 J⟩
   .exact Tot.bind (Sv (SOk.up hy<|Ar _) aEp J) λr5 h5=>Tot.ret<|h5.up J
def awe{N:Nat}{s:_}(h:SOk E N s)(odd:Int)(hN:N<=690000):Tot (aq (s,odd,())) λa=>SOk E (N+25000) a.2.1:=by
 unfold aq;refine Tot.bind (Cp h.r J) λr1 h1=>Tot.bind (Cp h1.1 J) λr2 h2=> ?_;have a0:=h1.2.1;have a1:r1.1.1<4:=h1.2.2 (show(1:Int)<=4 by decide);have hs:SOk E (N+2) (r2.2.1,s.2):=h.rd h2.1 J;refine Tot.join (A:=λj=>SOk E (N+2) j.1/\0<=j.2.2.1/\j.2.2.1<4) ?_ (λj hj=> ?_)
 .exact Tot.ite (λ_=>Tot.ret ⟨hs,a0,a1⟩) λ_=>Tot.ite (λ_=>Tot.ret ⟨hs,a0,a1⟩) λ_=>Tot.ret ⟨hs,a0,a1⟩
 clear hs a0 a1;refine Tot.ite (λ_=>Tot.bind (abn hj.1 J) λr4 h4=>Tot.ret<|h4.up J) (λ_=> ?_);refine Tot.join (A:=λj=>SOk E (N+2) j.1/\0<=j.2.2.1/\j.2.2.1<4) ?_ (λj hj=> ?_)
 .exact Tot.ite (λ_=>Tot.ret hj) λ_=>Tot.ite (λ_=>Tot.ret hj) λ_=>Tot.ite (λ_=>Tot.ret hj) λ_=>Tot.ite (λ_=>Tot.ret hj) λ_=>Tot.ite (λ_=>Tot.ret hj) λ_=>Tot.ret hj
 refine Tot.ite (λ_=> ?_) (λ_=> ?_)
 .refine Tot.bind (Cp hj.1.r J) λr3 h3=> ?_;have hv:r3.1.1<7:=h3.2.2 (show(1:Int)<=7 by decide);have hv0:=h3.2.1;have hw:w64 (1+r3.1.1)=1+r3.1.1:=Aa J J;exact Tot.bind (Xo (hj.1.rd h3.1 J) (by rw[hw];omega) (by rw[hw];omega) J) λr4 h4=>Tot.ret<|h4.up J
 refine Tot.join (A:=λj=>SOk E (N+2) j.1/\0<=j.2.2.1/\j.2.2.1<4) ?_ (λj hj=> ?_)
 .exact Tot.ite (λ_=>Tot.ret hj) λ_=>Tot.ret hj
 refine Tot.ite (λ_=> ?_) (λ_=> ?_)
 .refine Tot.bind (Cp hj.1.r J) λr3 h3=> ?_;have hv:r3.1.1<20:=h3.2.2 (show(1:Int)<=20 by decide);have hv0:=h3.2.1;have hw:w64 (1+r3.1.1)=1+r3.1.1:=Aa J J;exact Tot.bind (Sv (hj.1.rd h3.1 J) (by rw[hw];omega) J) λr4 h4=>Tot.ret<|h4.up J
 refine Tot.join (A:=λj=>SOk E (N+2) j.1/\0<=j.2.1/\j.2.1<4) ?_ (λj hj=> ?_)
 .exact Tot.ite (λ_=>Tot.ret hj) λ_=>Tot.ret hj
 refine Tot.ite (λ_=>Tot.bind (mg hj.1 J nz) λr4 h4=>Tot.ret<|SOk.up (show SOk E (N+2+1+2000) _ from h4) J) (λ_=> ?_);refine Tot.ite (λ_=>Tot.bind (Cp hj.1.r J) λr3 h3=>Tot.bind (I5 (hj.1.rd h3.1 J) J ⟨nz,nt⟩) λr4 h4=>Tot.ret<|h4.up J) (λ_=> ?_);refine Tot.join (A:=λj=>SOk E (N+2) j.1/\0<=j.2.1/\j.2.1<4) ?_ (λj hj=> ?_)
 .exact Tot.ite (λ_=>Tot.ret hj) λ_=>Tot.ret hj
 refine Tot.ite (λ_=>Tot.bind (I5 hj.1 J ⟨nz,nt⟩) λr4 h4=>Tot.ret<|h4.up J) (λ_=> ?_);refine Tot.ite (λ_=>Tot.bind (Cp hj.1.r J) λr3 h3=>Tot.bind (Cp h3.1 J) λr4 h4=>Tot.bind (I5 (hj.1.rd h4.1 J) J ⟨nz,aaA h3.2.1 (show _<(2:Int) from h3.2.2<|show(1:Int)<=2 by decide) aEp aEp⟩) λr5 h5=>Tot.ret<|h5.up J) (λ_=> ?_);refine Tot.join (A:=λj=>SOk E (N+2) j.1/\0<=j.2.1/\j.2.1<4) ?_ (λj hj=> ?_)
 .exact Tot.ite (λ_=>Tot.ret hj) λ_=>Tot.ret hj
 refine Tot.ite (λ_=> ?_) (λ_=> ?_)
 .have hk:=hj.1.w.has hj.2.1 hj.2.2;refine Tot.pos hk.2.2 (Tot.bind (mm hk.1) λr6 h6=> ?_);subst h6;refine Tot.ite (λhl=> ?_) (λhl=>Tot.ret<|hj.1.up J);have hl:(0:Int)<((stT<|kA j.1.2.2.1 j.2.1.toNat).inbox.length:Int):=Bc hl;refine Tot.bind (Cp hj.1.r J) λr7 h7=>Tot.pos (Fu h7.2.1<|h7.2.2 hl)<|Tot.bind (I5 (hj.1.rd h7.1 J) J ⟨nz,nt⟩) λr8 h8=>Tot.ret<|h8.up J
 refine Tot.ite (λ_=>Tot.bind (Cp hj.1.r J) λr3 h3=>Tot.bind (I5 (hj.1.rd h3.1 J) J ⟨nz,aaA h3.2.1 (show _<(2:Int) from h3.2.2<|show(1:Int)<=2 by decide) aEp aEp⟩) λr4 h4=>Tot.ret<|h4.up J) (λ_=> ?_);refine Tot.join (A:=λj=>SOk E (N+2) j.1) ?_ (λj hj=> ?_)
 .exact Tot.ite (λ_=>Tot.ret hj.1) λ_=>Tot.ite (λ_=>Tot.ret hj.1) λ_=>Tot.ret hj.1
 have hj:SOk E (N+2) j.1:=hj;refine Tot.ite (λ_=>Tot.bind (axX hj J) λr4 h4=>Tot.ret<|h4.up J) (λ_=> ?_);refine Tot.sum (P:=λ_=>False) (Q:=λy=>SOk E (N+25000) y.1) ?_ (λ_ h=>h.elim) (λy hy=>Tot.ret hy);refine Tot.loop (λk y=>SOk E (N+2+2200 * k) y.1/\y.2.1=(k:Int)) _ 4 (λk y hk hy=> ?_) ⟨hj,rfl⟩;unfold p8;refine Tot.ite (λhc=> ?_) (λhc=>Tot.ret<|show SOk E (N+25000) _ from hy.1.up J);have hc:=Bc hc;have hy2:=hy.2;exact Tot.bind (Xo hy.1 aEp aEp J) λr5 h5=>Tot.bind (Sv h5 aEp J) λr6 h6=>Tot.ret ⟨J,h6.up J,QC hy.2 J⟩
end Go.VS
namespace Go.VS
open Go
variable {E:List Event}
def av8{i:Int}(h:isN i=Y):UM (i,())=I (((i,Y,noB,0,[],()),()),()):=by
 unfold UM;simp only[Jd,A6,h,AA,A4]
def aac:RH ()=I (((rv0.ti,rv0.A7,rv0.Al,rv0.AS,rv0.AO,rv0.got,()),()),()):=by
 have h0:oZ ((0,([]:List A8),([]:List Bool),([]:List AL),([]:List A3),([]:List A3),()),(0,([]:List A8),([]:List Bool),([]:List AL),([]:List A3),([]:List A3),()),0,())
   =I (.inr ((0,[],[],[],[],[],()),(0,[kp0 0,kp0 1,kp0 2,kp0 3],[],[],[],[],()),())):=by
  have st:∀(n:Nat) (l:List A8),n<4->l.length<=4->bF ((0,[],[],[],[],[],()),(0,l,[],[],[],[],()),(n:Int),())=I (.inl ((0,[],[],[],[],[],()),(0,l++[kp0 n],[],[],[],[],()),((n+1:Nat):Int),())):=by
   intro n l hn hl;unfold bF;have hi:isN (n:Int)=Y:=AY.2 ⟨J,J⟩;rw[A5<|AQ<|show(n:Int)<4 by omega];rw[show UM (_,())=_ from av8 hi];simp only[A6];rw[A5<|BD o5,Aa J J];rfl
  exact Av (st 0 [] aEp aEp)<|Av (st 1 _ aEp aEp)<|Av (st 2 _ aEp aEp)<|Av (st 3 _ aEp aEp)<|BH<|by rfl
 have h1:oY ((0,([]:List A8),([]:List Bool),([]:List AL),([]:List A3),([]:List A3),()),(0,[kp0 0,kp0 1,kp0 2,kp0 3],[],[],[],[],()),0,())
   =I (.inr ((0,[],[],[],[],[],()),(0,[kp0 0,kp0 1,kp0 2,kp0 3],[Y,Y,Y],[],[],[],()),())):=by
  have st:∀(n:Nat) (l:List Bool),n<3->l.length<=4->UK ((0,[],[],[],[],[],()),(0,[kp0 0,kp0 1,kp0 2,kp0 3],l,[],[],[],()),(n:Int),())=I (.inl ((0,[],[],[],[],[],()),(0,[kp0 0,kp0 1,kp0 2,kp0 3],l++[Y],[],[],[],()),((n+1:Nat):Int),())):=by
   intro n l hn hl;unfold UK;have hw:w64 ((n:Int)+1)=((n+1:Nat):Int):=by rw[Aa J J];rfl
   simp only[hw];rw[A5<|AQ<|show((n+1:Nat):Int)<4 by omega,A5<|BD o5]
  refine Av (st 0 [] aEp aEp) (Av (st 1 _ aEp aEp)<|Av (st 2 _ aEp aEp)<|BH ?_);unfold UK;have hw:w64 (((2+1:Nat):Int)+1)=4:=by rw[Aa J J];rfl
  simp only[hw];rfl
 unfold RH;rw[h0];simp only[DT];rw[h1];rfl
def awN{N M:Nat}{r:List Int×Int×D}(h:Hj N r){Ds:Int}(hm0:1<=Ds)(hm:Ds<=(M:Int))(hN:N+25000 * M<=710000):
  Tot (df (r,Ds,())) λa=>Hj (N+12+25000 * M) a.2.1/\WOk [] (N+12+25000 * M) a.1.1.2:=by
 unfold df;rw[aac];simp only[A6];refine Tot.bind (Cp h J) λr2 h2=>Tot.pos (Fu h2.2.1<|h2.2.2<|show(1:Int)<=5 by decide) ?_;have hs:SOk [] (N+1) (r2.2.1,rv0.ti,rv0.A7,rv0.Al,rv0.AS,rv0.AO,rv0.got,([]:List Event),()):=⟨h2.1,rv0,[],rfl,⟨[],.nil,λ_=>rfl⟩,Cz _⟩;refine Tot.bind (abn hs J) λr4 h4=>Tot.bind (Cp h4.r J) λr9 h9=> ?_;refine Tot.sum (P:=λ_=>False) (Q:=λy=>Hj (N+12+25000 * M) y.1/\WOk [] (N+12+25000 * M) y.2.1.2) ?_ (λ_ h=>h.elim) (λy hy=>Tot.ret hy);have hn0:=h9.2.1;have hn:r9.1.1<(M:Int):=by
  have:r9.1.1<Ds:=h9.2.2 hm0;omega
 refine Tot.loop (λi y=>Hj (N+12+25000 * i) y.1/\WOk [] (N+12+25000 * i) y.2.1.2/\y.2.2.2.1=r9.1.1 - (i:Int)) _ r9.1.1.toNat (λi y hi hy=> ?_) ⟨h9.1.up J,h4.w.up J,by show r9.1.1=r9.1.1 - 0;omega⟩;obtain⟨hr,hw,hy⟩:=hy;unfold rK;refine Tot.ite (λhc=> ?_) (λhc=>Tot.ret ⟨hr.up J,hw.up J⟩);have hc:=Bc hc;refine Tot.bind (awe (s:=(y.1,y.2.1.2)) ⟨hr,hw⟩ _ J) λr5 h5=>Tot.ret ⟨J,h5.r.up J,h5.w.up J, ?_⟩;show w64 (y.2.2.2.1 - 1)=r9.1.1 - ((i+1:Nat):Int);rw[Aa J J];omega
end Go.VS
namespace Go.VS
open Go
def awT{l:List Int}(hb:BOk l):Tot (eV (l,())) λa=>Hj 0 a.1.1:=by
 unfold eV;refine Tot.ite (λhc=> ?_) (λhc=>Tot.ret ⟨?_,hb,D0 _,D0 _⟩)
 .have hc:(2000:Int)<(j8 l:Int):=Bc hc;refine Tot.pos o5 (Tot.ret ⟨?_,λx hx=>hb x<|I9 hx,D0 _,D0 _⟩);show(BR (AK 2000) l).length<=2000;rw[Dg];omega
 .have:¬(2000:Int)<(j8 l:Int):=It hc;show l.length<=2000;omega
abbrev tR(w:AB):YR:=(w.ti,w.A7,w.Al,w.AS,w.AO,w.got,())
abbrev zR:AB:=⟨0,[],[],[],[],[]⟩
abbrev SmR(w:AB):Prop:=P4 w.A7 w.Al w.AS w.AO w.got
def B4.sm{w:AB}(h:B4 w):SmR w:=by
 have h1:=h.kl;have h2:=h.ll;have h3:=h.rl;have h4:=h.sl;have h5:=h.gl;refine⟨J,λk hk=> ?_,J,J,λp hp=> ?_,J,λn hn=> ?_,J,λn hn=> ?_⟩
 .obtain⟨i,hi,rfl⟩:=Ct hk;have:=(h.k i J).1;rw[kA,B8,Au hi]at this;exact D2 this
 .have:=(La<|h.p p hp).2.2.1;unfold aCi;omega
 .have:=AY.1<|Mf<|h.s n hn;unfold GC;omega
 .have:=AY.1<|Mf<|h.g n hn;unfold GC;omega
def aeb{l:List A8}(hl:l.length<=1048576):aR (l,())=I ((l,()),()):=Lg hl
def ag2{l:List Bool}(hl:l.length<=1048576):bN (l,())=I ((l,()),()):=Lg hl
def aea{l:List AL}(hl:l.length<=1048576):aQ (l,())=I ((l,()),()):=Lg hl
def RQ{w:AB}(sm:SmR w):JZ (tR w,())=I ((tR w,()),()):=by
 obtain⟨ti,ks,ls,ra,se,go⟩:=w;have kl:=sm.kl;unfold JZ;rw[show aR ((tR ⟨ti,ks,ls,ra,se,go⟩).2.1,())=_ from aeb sm.kl,show bN ((tR ⟨ti,ks,ls,ra,se,go⟩).2.2.1,())=_ from ag2 sm.l,show aQ ((tR ⟨ti,ks,ls,ra,se,go⟩).2.2.2.1,())=_ from aea sm.rl,
  show NY ((tR ⟨ti,ks,ls,ra,se,go⟩).2.2.2.2.1,())=_ from ax sm.sl,show NY (tR ⟨ti,ks,ls,ra,se,go⟩).2.2.2.2.2=_ from ax sm.gl]
 simp only[A6];have h:aP (tR zR,tR ⟨ti,ks,ls,ra,se,go⟩,(j8 ks:Int),0,())=I (.inr (tR zR,tR ⟨ti,ks,ls,ra,se,go⟩,())):=by
  refine Ch (λi=>(tR zR,tR ⟨ti,ks,ls,ra,se,go⟩,(j8 ks:Int),(i:Int),())) ks.length ?_ ?_
  .intro i hi;unfold bV;have hc:=KO<|Te sm.k i;simp only[IN hi,A2,AW hi,SH,hc,A6,Bf];rw[Db hi kl,show(⟨(kA ks i).id,(kA ks i).up,(kA ks i).log,(kA ks i).fo,(kA ks i).AH⟩:A8)=kA ks i from rfl,Kh]
  .unfold bV;simp only[Gv,A4]
 rw[show aP _=_ from h];rfl
def iT{w:AB}{fs:List Frame}(hr:w.AS.length<=1048000)(hf:fs.length<=40):Nq (tR w,fs,())=I ((),(tR ⟨w.ti,w.A7,w.Al,C1 w.AS fs,w.AO,w.got⟩,())):=by
 obtain⟨ti,ks,ls,ra,se,go⟩:=w;unfold Nq;have h0:C1 ra (fs.take 0)=ra:=by
  unfold C1;simp
 have h:dN (tR ⟨ti,ks,ls,C1 ra<|fs.take 0,se,go⟩,fs,(j8 fs:Int),((0:Nat):Int),())=I (.inr (tR ⟨ti,ks,ls,C1 ra fs,se,go⟩,())):=by
  refine Ch (λi=>(tR ⟨ti,ks,ls,C1 ra<|fs.take i,se,go⟩,fs,(j8 fs:Int),(i:Int),())) fs.length ?_ ?_
  .intro i hi;unfold fT;simp only[IN hi,A2,AW hi,aDQ];have hz:(C1 ra<|fs.take i).length<=1048100:=by
    unfold C1;simp;have:min (30 - ra.length) (min i fs.length)<=40:=J
    simp only at hr;omega
   have hw:w64 ((i:Int)+1)=((i+1:Nat):Int):=Db hi J;have hrm:∀p:AL,Ab ((C1 ra<|fs.take i).length+[p].length)=Y:=λp=>BD o5;have ht:fs.take (i+1)=fs.take i++[frA fs i]:=by rw[JP,Au hi,abM hi];rfl
   have hl:(fs.take i).length=i:=by rw[Dg];omega
   have hlen:(C1 ra<|fs.take i).length=ra.length+min (30 - ra.length) i:=by
    unfold C1;simp;omega
   by_cases h30:(C1 ra<|fs.take i).length<30
   .rw[A5<|AQ<|show((C1 ra<|fs.take i).length:Int)<30 by omega];rw[show PJ ((_,_,_,_,_,_,_,_,_,_,()),())=_ from vC<|frA fs i];simp only[A6,hrm,A2];have e:C1 ra (fs.take<|i+1)=C1 ra (fs.take i)++[pcF (frA fs i)]:=by
     rw[hlen]at h30;have a1:BR (30 - ra.length) (fs.take i++[frA fs i])=fs.take i++[frA fs i]:=K6 (by rw[Aq,hl];simp;omega);have a2:BR (30 - ra.length) (fs.take i)=fs.take i:=K6 (by rw[hl];omega);unfold C1;rw[ht,a1,a2,Ek,← C3];rfl
    rw[e,hw];rfl
   .rw[A9<|nd<|show ¬((C1 ra<|fs.take i).length:Int)<30 by omega];have e:C1 ra (fs.take<|i+1)=C1 ra (fs.take i):=by
     rw[hlen]at h30;unfold C1;rw[ht,List.take_append_of_le_length (by rw[hl];omega)]
    rw[e,hw]
  .unfold fT;simp only[Gv,A4,E4]
 rw[h0]at h;have h':dN (tR ⟨ti,ks,ls,ra,se,go⟩,fs,(j8 fs:Int),0,())=I (.inr (tR ⟨ti,ks,ls,C1 ra fs,se,go⟩,())):=h;simp only[h'];rfl
def aia{l:List AL}{i:Int}(h0:0<=i)(h1:i<l.length)(hl:l.length<=1048576):Ut (l,i,())=I ((J9 l i.toNat,()),()):=by
 unfold Ut;have hw:w64 (i+1)=i+1:=Aa J J;have hn:(i+1).toNat=i.toNat+1:=J
 simp only[hw,hn];rw[A5 o5,A5<|BD o5,A5 o5,A5<|BD o5];rfl
def anb{w:AB}(h:B4 w)(e:Event):((e.ki=9\/e.ki=10)->fF (tR w,tE e,())=I (((Ef w e).2,()),(tR (Ef w e).1,()))):=by
 intro _;have ll:=h.ll;unfold fF Ef;simp only[EM,A6,S7 (J:w.Al.length<=1048576),XU];obtain e0|e0:=tf (inB e.at_ 0<|(w.Al.length:Int) - 1)
 .have ha:=AY.1 e0;have hb:inb e.at_ w.Al.length=Y:=Fu ha.1 J;rw[e0,hb];simp only[AA,AG,IM,A2,Bq,AR];obtain c|c:=tfp (bA w.Al e.at_.toNat=U (e.ki=9))<;>simp only[c,AT,Ae,AA,AG,A2,A4]
 .rw[e0];simp only[AA,AG,HL,A2,Bt,AM,A4]
def axP(l:List AL)(i:Int){inst:Decidable ((@rd AL aEq l i).dst<(@rd AL aEq l i).src)}:(@ite Int ((@rd AL aEq l i).dst<(@rd AL aEq l i).src) inst (@rd AL aEq l i).dst (@rd AL aEq l i).src)=lnk (pA l i.toNat):=by
 show _=lnk (@rd AL aEq l i);unfold lnk;split<;>split<;>omega
def akI{w:AB}(h:B4 w)(e:Event):((e.ki=4\/e.ki=5\/e.ki=6)->Ra (tR w,tE e,())=I (((E8 w e).2,()),(tR (E8 w e).1,()))):=by
 intro hk;have rl:=h.rl;unfold Ra E8;simp only[↓axP,EM,A6,S7 (J:w.AS.length<=1048576),aAd];obtain e0|e0:=tf (inB e.wo 0<|(w.AS.length:Int) - 1)
 .have ha:=AY.1 e0;have hb:inb e.wo w.AS.length=Y:=Fu ha.1 J;have hwl:e.wo.toNat<w.AS.length:=J
  have hp:=Po h (i:=e.wo.toNat) hwl;obtain⟨p1,p2,p3,p4,p5⟩:=La hp;have F7:=aia (l:=w.AS) ha.1 J J;rw[e0,hb];simp only[AA,A4,A2];obtain c5|c5:=tfp (e.ki=5)
  .have c6:¬e.ki=6:=by have:e.ki=5:=of_eq_true c5;omega
   simp only[c5,AT,A2,F7,A6,c6,if_false]
  .rcases tfp (e.ki=6) with c6|c6
   .simp only[c5,c6,AT,Ae,A2,A4,S7<|show(pA w.AS e.wo.toNat).data.size<=1048576 by omega];obtain e2|e2:=tf (inB e.mix 0<|((pA w.AS e.wo.toNat).data.size:Int) - 1)<;>simp only[e2,AA,AG,A4,A2,AR,AM,BY];obtain e1|e1:=tf (pA w.AS e.wo.toNat).sp<;>simp only[e1,AA,AG,A4,A2,AR,AM];obtain e3|e3:=tf (inB e.kp 1 255)<;>simp only[e3,AA,AG,A4,A2];have hm:=AY.1 e2;have hmb:inb e.mix (BA (pA w.AS e.wo.toNat).data).length=Y:=Fu hm.1 (by rw[mZ];omega);simp only[GP,aad,ab5 hwl,hb,A2];rw[A5<|BD J,A5 hmb,A5 hmb];rfl
   .have c4:e.ki=4:=by
     have:¬e.ki=5:=by simpa using c5
     have:¬e.ki=6:=by simpa using c6
     omega
    have hl:inb (lnk<|pA w.AS e.wo.toNat) w.Al.length=Y:=by
     have:=h.ll;exact Fu p4 (by rw[this];exact p5)
    have hin:inb (pA w.AS e.wo.toNat).dst w.A7.length=Y:=Fu p2.1 (by rw[h.kl];omega);have c4':(e.ki=4)=True:=eq_true c4;simp only[c5,c6,c4',AT,Ae,A2,A4,hl,XU,if_false];obtain e1|e1:=tf (bA w.Al (lnk<|pA w.AS e.wo.toNat).toNat)<;>simp only[e1,AA,AG,A4,A2];have hlo:=(Sl h e.wo.toNat).1;obtain e5|e5:=tfp (e.kp=0)
    .simp only[e5,AT,A2,F7,A6,Bd];simp only[BD<|show(pA w.AS e.wo.toNat).data.size<=4294967296 by omega,A2,sZ<|BOk.str _,A6];unfold EP;generalize Co (BA (pA w.AS e.wo.toNat).data)=u;obtain e2|e2:=tf u.2<;>simp only[e2,A4,A2,AR,AM,Bd];obtain e3|e3:=tf (U (u.1.src=(pA w.AS e.wo.toNat).src)&&U (u.1.dst=(pA w.AS e.wo.toNat).dst))<;>simp only[e3,A4,A2,hin,W7];rw[show RB ((_,_,_,_,_,()),_,())=_ from sv (Tj h (i:=(pA w.AS e.wo.toNat).dst.toNat) J) u.1];simp only[A6];have hs:=iT (w:=⟨w.ti,w.A7.set (pA w.AS e.wo.toNat).dst.toNat (CB (kA w.A7 (pA w.AS e.wo.toNat).dst.toNat) u.1).1,w.Al,J9 w.AS e.wo.toNat,w.AO,w.got⟩) (fs:=(CB (kA w.A7 (pA w.AS e.wo.toNat).dst.toNat) u.1).2) (by show(J9 w.AS e.wo.toNat).length<=1048000;omega) (by have:=(Wz (kA w.A7 (pA w.AS e.wo.toNat).dst.toNat) u.1).1;omega);rw[show Nq _=_ from hs];rfl
    .simp only[e5,Ae,A4,Bd,if_false];simp only[BD<|show(pA w.AS e.wo.toNat).data.size<=4294967296 by omega,A2,sZ<|BOk.str _,A6];unfold EP;generalize Co (BA (pA w.AS e.wo.toNat).data)=u;obtain e2|e2:=tf u.2<;>simp only[e2,A4,A2,AR,AM,Bd];obtain e3|e3:=tf (U (u.1.src=(pA w.AS e.wo.toNat).src)&&U (u.1.dst=(pA w.AS e.wo.toNat).dst))<;>simp only[e3,A4,A2,hin,W7];rw[show RB ((_,_,_,_,_,()),_,())=_ from sv (Tj h (i:=(pA w.AS e.wo.toNat).dst.toNat) J) u.1];simp only[A6];have hs:=iT (w:=⟨w.ti,w.A7.set (pA w.AS e.wo.toNat).dst.toNat (CB (kA w.A7 (pA w.AS e.wo.toNat).dst.toNat) u.1).1,w.Al,w.AS,w.AO,w.got⟩) (fs:=(CB (kA w.A7 (pA w.AS e.wo.toNat).dst.toNat) u.1).2) (by show(w.AS).length<=1048000;omega) (by have:=(Wz (kA w.A7 (pA w.AS e.wo.toNat).dst.toNat) u.1).1;omega);rw[show Nq _=_ from hs];rfl
 .rw[e0];simp only[AG,A2,A4]
def ana{w:AB}(h:B4 w){e:Event}(hk:¬(e.ki=4\/e.ki=5\/e.ki=6))(hk':¬(e.ki=9\/e.ki=10))(ht:e.tx.size<=1048576):
  Rt (tR w,tE e,())=I (((doM w e).2,()),(tR (doM w e).1,())):=by
 obtain⟨ki,at_,fr,nu,wo,mix,kp,t',un,tx⟩:=e;simp only at hk hk' ht;have hn:∀(l:List A3) (x:A3),l.length<=6->Ab (l.length+[x].length)=Y:=λl x hl=>BD o5;have rl:=h.rl;unfold Rt doM;rw[A9 hk,A9 hk'];simp only[Je,A6];obtain e0|e0:=tf (isN at_)
 .have ha:=E7 e0;have hal:=TD e0;have hb:inb at_ w.A7.length=Y:=Fu ha.1 (by rw[h.kl];omega);have hko:=(h.k _ hal).1;have hks:=Tj h hal;simp only[e0,AA,A4,hb,A2,W7];unfold GZ;obtain e1|e1:=tfp (ki=1)
  .simp only[e1,AT,A2];unfold Jv;by_cases hs:6<=w.AO.length
   .rw[A5<|AQ (J:6<=(w.AO.length:Int)),A5 hs];rfl
   .rw[A9<|nd (J:¬6<=(w.AO.length:Int)),A9 hs];rw[show Uw ((_,_,_,_,_,()),_,_,_,())=_ from ail hko t' un ht];simp only[A6];obtain e2|e2:=tfp ((Ci (kA w.A7 at_.toNat) t' un tx).2=0)<;>simp only[e2,AT,Ae,A4,A2,if_false]
    .rfl
    .rw[A5<|hn _ _ h.sl,Bd];simp only[hb,A2]
  .simp only[e1,Ae,A4,if_false];obtain e2|e2:=tfp (ki=2)
   .simp only[e2,AT,A2];rw[show Uk ((_,_,_,_,_,()),())=_ from ahu hko];simp only[A6,Bd,hb,A2];rfl
   .simp only[e2,Ae,A4,if_false];obtain e3|e3:=tfp (ki=3)
    .simp only[e3,AT,A2];rw[show Ux ((_,_,_,_,_,()),_,_,_,())=_ from aim hks fr nu mix];simp only[A6];rw[A5 hko];obtain e4|e4:=tf (ED (kA w.A7 at_.toNat) fr nu mix).2<;>simp only[e4,A2,A4]
     .have hs:=iT (w:=w) (fs:=[(ED (kA w.A7 at_.toNat) fr nu mix).1]) J y9;rw[show Nq (_,_,())=_ from hs];simp only[A6,Bd,hb,A2];rw[show(⟨(kA w.A7 at_.toNat).id,(kA w.A7 at_.toNat).up,(kA w.A7 at_.toNat).log,(kA w.A7 at_.toNat).fo,(kA w.A7 at_.toNat).AH⟩:A8)=kA w.A7 at_.toNat from rfl,Kh]
     .simp only[Bd,hb,A2];rw[show(⟨(kA w.A7 at_.toNat).id,(kA w.A7 at_.toNat).up,(kA w.A7 at_.toNat).log,(kA w.A7 at_.toNat).fo,(kA w.A7 at_.toNat).AH⟩:A8)=kA w.A7 at_.toNat from rfl,Kh]
    .simp only[e3,Ae,A4,if_false];obtain e4|e4:=tfp (ki=7)
     .simp only[e4,AT,A2];rw[show Un ((_,_,_,_,_,()),_,())=_ from ahx hks kp];rw[A5 hko];simp only[A6,Bd,hb,A2];rfl
     .simp only[e4,Ae,A4,if_false];obtain e5|e5:=tfp (ki=8)
      .simp only[e5,AT,A2];rw[show Ul ((_,_,_,_,_,()),())=_ from ahv hko];simp only[A6,Bd,hb,A2];rfl
      .simp only[e5,Ae,A4,if_false];obtain e6|e6:=tfp (ki=11)
       .simp only[e6,AT,A2];unfold M7;by_cases hs:w.got.length<6
        .rw[A9<|nd (J:¬6<=(j8 w.got:Int))];rw[show Uy ((_,_,_,_,_,()),_,_,())=_ from aiS hko fr nu];simp only[A6];obtain e7|e7:=tf (DG (kA w.A7 at_.toNat) fr nu).2.2<;>simp only[e7,AA,AG,A2,A4,AR,AM]
         .rw[A5<|AQ hs,A5<|hn _ _ h.gl,Bd];simp only[hb,A2]
         .rfl
        .rw[A5<|AQ (J:6<=(j8 w.got:Int)),B1 hs,BY,A4];rfl
       .simp only[e6,Ae,A4,if_false];obtain e7|e7:=tfp (ki=12)
        .simp only[e7,AT,A2];rw[show Um ((_,_,_,_,_,()),())=_ from ahw hko];simp only[A6,Bd,hb,A2];rfl
        .simp only[e7,Ae,A4,if_false];obtain e8|e8:=tfp (ki=13)
         .simp only[e8,AT,A2];rw[show US ((_,_,_,_,_,()),())=_ from agA hko];simp only[A6,Bd,hb,A2];rfl
         .simp only[e8,Ae,A4,if_false,Bd,hb,A2];rw[show(⟨(kA w.A7 at_.toNat).id,(kA w.A7 at_.toNat).up,(kA w.A7 at_.toNat).log,(kA w.A7 at_.toNat).fo,(kA w.A7 at_.toNat).AH⟩:A8)=kA w.A7 at_.toNat from rfl,Kh]
 .simp only[e0,AG,A4,A2]
noncomputable abbrev B5(w:AB):Bool:=J5 w.ti w.A7 w.Al w.AS w.AO w.got
def aDh{l:List A3}(h:HA l=Y):∀n∈l,At n=Y:=by
 intro n hn;obtain⟨i,hi,rfl⟩:=Ct hn;have:=DB.1 h i hi;rw[nA,B8,Au hi]at this;exact this
def Fs{w:AB}(h:B5 w=Y):B4 w/\0<=w.ti/\w.ti<=99999:=by
 unfold B5 J5 at h;simp only[AD,AY,decide_eq_true_eq,DB]at h;obtain⟨ht,hk,hl,hr,⟨hs,hs6⟩,⟨hg,hg6⟩,hks,hps⟩:=h;refine⟨⟨J,J,J,J,J,λi hi=> ?_,λp hp=> ?_,aDh hs,aDh hg⟩,ht.1,ht.2⟩
 .have:=hks i J;unfold Jy at this;simp only[AD,decide_eq_true_eq]at this;exact⟨this.2,this.1⟩
 .obtain⟨i,hi,rfl⟩:=Ct hp;have:=hps i hi;rw[mc hi]at this;exact this
def aa7{w:AB}(h:B4 w)(h0:0<=w.ti)(h1:w.ti<=99999):B5 w=Y:=by
 have k1:=h.kl;have k2:=h.ll;have k3:=h.rl;have k4:=h.sl;have k5:=h.gl;unfold B5 J5;simp only[AD,AY,decide_eq_true_eq,DB];refine⟨⟨h0,h1⟩,J,J,J,⟨?_,J⟩,⟨?_,J⟩,λi hi=> ?_,λi hi=> ?_⟩
 .unfold HA;exact DB.2 λi hi=>h.s _ (by rw[nA,B8,Au hi];exact Cg hi)
 .unfold HA;exact DB.2 λi hi=>h.g _ (by rw[nA,B8,Au hi];exact Cg hi)
 .unfold Jy;have:=h.k i J;rw[this.1,this.2];simp
 .exact Po h hi
def EC(w:AB)(e:Event):AB×Bool:=
 if B5 w then(if U (99999<=w.ti) then(w,A0) else if(doM w e).2 then(Ck w e,Y) else(w,A0)) else(zR,A0)
def rj{w:AB}(h:B4 w)(ht0:0<=w.ti)(ht1:w.ti<=99999){e:Event}(ht:e.tx.size<=1048576):
  Hl (tR w,tE e,())=I ((tR (if U (99999<=w.ti) then(w,A0) else if(doM w e).2 then(Ck w e,Y) else(w,A0)).1,(if U (99999<=w.ti) then(w,A0) else if(doM w e).2 then(Ck w e,Y) else(w,A0)).2,()),()):=by
 have hti:=ZA w e;have azl:∀b:Bool,b=U (e.ki=9\/e.ki=10)->(BT (X:=YR×YR×YR×Bool×D) (λj16=>
   (if((!j16.2.2.2.1)||(U<|j16.1.1=99999)) then
   (JZ (j16.1,())).bind λr29=>
   I ((r29.1.1,A0,()),())
   else
   (JZ (((w64<|j16.2.2.1.1+1),j16.2.2.1.2),())).bind λr30=>
   I ((r30.1.1,Y,()),()))) (I<|.inr (tR w,tR zR,tR (doM w e).1,(doM w e).2,())):Option ((YR×Bool×D)×D))=I ((tR (if U (99999<=w.ti) then(w,A0) else if(doM w e).2 then(Ck w e,Y) else(w,A0)).1,(if U (99999<=w.ti) then(w,A0) else if(doM w e).2 then(Ck w e,Y) else(w,A0)).2,()),()):=by
  intro b hb;rw[Bd];have azD:U (w.ti=99999)=U (99999<=w.ti):=decide_eq_decide.2 J;simp only[azD];obtain c|c:=tf (U<|99999<=w.ti)
  .simp only[c,DN,A2,RQ h.sm,A6]
  .rcases tf (doM w e).2 with c2|c2
   .simp only[c,c2,AA,EY,A4,A2];have hs:=RQ (lh h e).sm;have e1:tR (Ck w e)=(w64<|(doM w e).1.ti+1,(doM w e).1.A7,(doM w e).1.Al,(doM w e).1.AS,(doM w e).1.AO,(doM w e).1.got,()):=by
     unfold Ck tick;rw[c2,A5 rfl]
    rw[e1]at hs ⊢;rw[show JZ ((w64<|(doM w e).1.ti+1,(doM w e).1.A7,(doM w e).1.Al,(doM w e).1.AS,(doM w e).1.AO,(doM w e).1.got,()),())=_ from hs];rfl
   .simp only[c,c2,AG,Bt,A4,A2,RQ h.sm,A6]
 unfold Hl;rw[RQ h.sm];simp only[A6];have IF:=azl _ rfl;by_cases h9:e.ki=9\/e.ki=10
 .have hdo:doM w e=Ef w e:=by
   unfold doM;rw[A9 J,A5 h9]
  have hL:=anb h e h9;rw[← hdo]at hL;rw[← IF];congr 1;obtain c|c:=tfp (e.ki=9)
  .simp only[c,AT,A2,Bd,hL,A6]
  .have c10:(e.ki=10)=True:=eq_true (by have:¬e.ki=9:=(by simpa using c);omega);simp only[c,c10,AT,Ae,A4,Bd,A2,hL,A6]
 .have n9:(e.ki=9)=False:=by simp;omega
  have n10:(e.ki=10)=False:=by simp;omega
  simp only[n9,n10,Ae,A4,Bd];rw[← IF];congr 1;by_cases h4:e.ki=4\/e.ki=5\/e.ki=6
  .have hdo:doM w e=E8 w e:=by
    unfold doM;rw[A5 h4]
   have hP:=akI h e h4;rw[← hdo]at hP;obtain c|c:=tfp (e.ki=4)
   .simp only[c,AT,A2,hP,A6]
   .rcases tfp (e.ki=5) with c1|c1
    .simp only[c,c1,AT,Ae,A4,A2,hP,A6]
    .have c6:(e.ki=6)=True:=eq_true (by have h4:¬e.ki=4:=(by simpa using c);have h5:¬e.ki=5:=(by simpa using c1);omega);simp only[c,c1,c6,AT,Ae,A4,A2,hP,A6]
  .have n4:(e.ki=4)=False:=by simp;omega
   have n5:(e.ki=5)=False:=by simp;omega
   have n6:(e.ki=6)=False:=by simp;omega
   have hN:=ana h h4 h9 ht;simp only[n4,n5,n6,Ae,A4,hN,A6]
def amk{w:AB}(sm:SmR w){e:Event}(ht:e.tx.size<=1048576):dx (tR w,tE e,())=I ((tR (EC w e).1,(EC w e).2,()),()):=by
 unfold dx EC;rw[show PU ((tR w,tE e,()).1,())=_ from xI sm];simp only[A6];obtain c|c:=tf (B5 w)
 .have hw:=Fs c;rw[rj hw.1 hw.2.1 hw.2.2 ht];simp only[show J5 w.ti w.A7 w.Al w.AS w.AO w.got=Y from c,AA,A4,A2,A6]
 .simp only[show J5 w.ti w.A7 w.Al w.AS w.AO w.got=A0 from c,AG,A4,A2]
def s8{w:AB}(sm:SmR w):PO (tR w,())=I ((tR w,()),()):=by
 obtain⟨ti,ks,ls,ra,se,go⟩:=w;have k1:=sm.kl;have k2:=sm.l;have k3:=sm.rl;have k4:=sm.sl;have k5:=sm.gl;unfold PO;simp only at k1 k2 k3 k4 k5;simp only[Eb,CR,DZ];rw[A5<|BD J,A5<|BD J,A5<|BD J,A5<|BD J];have h:aw (tR ⟨ti,ks,ls,ra,se,go⟩,tR zR,tR ⟨ti,ks.take 0,ls,ra,se,go⟩,((0:Nat):Int),())=I (.inr (tR zR,tR ⟨ti,ks,ls,ra,se,go⟩,())):=by
  refine Ch (λi=>(tR ⟨ti,ks,ls,ra,se,go⟩,tR zR,tR ⟨ti,ks.take i,ls,ra,se,go⟩,(i:Int),())) ks.length ?_ ?_
  .intro i hi;unfold cY;have hc:=MK<|Te sm.k i;simp only[IN hi,A2,AW hi,SH,hc,A6];rw[A5<|BD o5,Db hi k1];have:ks.take i++[kA ks i]=ks.take (i+1):=by rw[JP,Au hi,kA,B8,Au hi];rfl
   rw[← this]
  .unfold cY;simp only[Gv,A4,E4]
 have h':aw (tR ⟨ti,ks,ls,ra,se,go⟩,tR zR,tR ⟨ti,[],ls,ra,se,go⟩,0,())=I (.inr (tR zR,tR ⟨ti,ks,ls,ra,se,go⟩,())):=h;simp only[h'];rfl
def apD{w:AB}(h:B4 w){e:Event}(ht:e.tx.size<=1048576):
  Vo (tR w,tE e,())=I ((tR<|tick (doM w e).1 Y,(doM w e).2,()),()):=by
 have hti:=ZA w e;unfold Vo;refine abw (w:=w) h (e:=e) ht (λc=> ?_) (λc c2=> ?_) (λk b c=> ?_) (λra c=> ?_) (λc=> ?_)
 .rw[c,tick,A5 rfl,hti]<;>rfl
 .rw[c,c2];rfl
 .rw[c];rfl
 .rw[c];rfl
 .rw[c];rfl
def aqd{w:AB}(h:B4 w)(hlt:¬99999<=w.ti)(hrv:B5 w=Y){e:Event}(ht:e.tx.size<=1048576):
  Nc (tR w,tE e,())=I ((tR (if(doM w e).2 then(Ck w e,Y) else(w,A0)).1,(if(doM w e).2 then(Ck w e,Y) else(w,A0)).2,()),()):=by
 have hcw:=s8 h.sm;have hd:=apD h ht;have hc2:=s8 (aaX (mQ h e) Y).sm;unfold Nc;rw[show PS ((tR w,tE e,()).1,())=_ from sA h.sm];simp only[A6,show J5 w.ti w.A7 w.Al w.AS w.AO w.got=Y from hrv,AA,A4,B1 hlt,hcw];rw[show Vo (tR w,(tE e,()))=_ from hd];unfold Ck;obtain c|c:=tf (doM w e).2
 .simp only[A6,c,AA,A4,hc2,A2]
 .simp only[A6,c,AG,A2,A4]
def alf{w:AB}(sm:SmR w){e:Event}(ht:e.tx.size<=1048576):Nc (tR w,tE e,())=I ((tR (EC w e).1,(EC w e).2,()),()):=by
 unfold EC;obtain c|c:=tf (B5 w)
 .have hw:=Fs c;rw[A5 c];by_cases hlt:99999<=w.ti
  .unfold Nc;rw[show PS (tR w,())=_ from sA sm];simp only[A6,show J5 w.ti w.A7 w.Al w.AS w.AO w.got=Y from c,AA,A4,AQ hlt,A2,s8 sm]
  .rw[A9<|nd hlt];exact aqd hw.1 hlt c ht
 .rw[A9 (by rw[c];exact CM)];unfold Nc;rw[show PS (tR w,())=_ from sA sm];simp only[A6,show J5 w.ti w.A7 w.Al w.AS w.AO w.got=A0 from c,AG,A2]
def apf{l:List AE}{i:Nat}(hi:i<l.length)(hl:(hA l i).got.length<=1048576):pI (l,l,(i:Int),0,())=I (.inr (l,l,(i:Int),())):=
 Ch (b:=Ur) (λk=>(l,l,(i:Int),(k:Int),())) (hA l i).got.length (λk hk=>by
  unfold Ur;simp only[AW hi,Lp,AW hk,A2,AT,EZ,AA,A4,BI hk (by omega:(hA l i).got.length<=9223372036854775807)];rw[A5<|by simpa using hk]) (by
  unfold Ur;simp only[AW hi,Lp,A2];rw[A9 y9])
def anp{l:List AE}(hl:l.length<=1048576)(hs:∀h∈l,OL h):PM (l,l,())=I ((Y,()),()):=by
 have h0:pJ (l,l,0,())=I (.inr ()):=
  Ch (b:=Us) (λk=>(l,l,(k:Int),())) l.length (λk hk=>by
   have hg:(hA l k).got.length<=1048576:=by rw[I2 hk];exact(hs _<|Cg hk).1
   unfold Us;simp only[AW hk,Lp,BQ hk,A2,AT,AA,A4,apf hk hg,DT,BI hk (by omega:l.length<=9223372036854775807)]) (by
   unfold Us;rw[A9 y9])
 unfold PM;simp only[AT,AA,A4,h0,DT]
def ano{k:A8}(sm:FY k):dM (tKp k,tKp k,())=I ((Y,()),()):=by
 unfold dM;simp only[AT,A2,anp sm.2.1 sm.2.2];rfl
def zk{l:List A3}(hl:l.length<=1048576):Rk (l,l,())=I ((Y,()),()):=by
 have h0:px (l,l,0,())=I (.inr ()):=
  Ch (b:=VB) (λk=>(l,l,(k:Int),())) l.length (λk hk=>by
   unfold VB;simp only[AW hk,BQ hk,A2,Ov,AT,EZ,AA,A4,BI hk (by omega:l.length<=9223372036854775807)]) (by
   unfold VB;rw[A9 y9])
 unfold Rk;simp only[AT,AA,A4,h0,DT]
def zj{w:AB}(sm:SmR w):VH (tR w,tR w,())=I ((Y,()),()):=by
 obtain⟨ti,ks,ls,ra,se,go⟩:=w;have k1:ks.length<=1048576:=sm.kl;have k2:ls.length<=1048576:=sm.l;have k3:ra.length<=1048576:=sm.rl;have h0:pv (tR ⟨ti,ks,ls,ra,se,go⟩,tR ⟨ti,ks,ls,ra,se,go⟩,0,())=I (.inr (tR ⟨ti,ks,ls,ra,se,go⟩,tR ⟨ti,ks,ls,ra,se,go⟩,())):=
  Ch (b:=VA) (λk=>(tR ⟨ti,ks,ls,ra,se,go⟩,tR ⟨ti,ks,ls,ra,se,go⟩,(k:Int),())) ks.length (λk hk=>by
   unfold VA;have hc:=ano<|Te sm.k k;simp only[AW hk,BQ hk,A2,SH,hc,A6,AA,A4,BI hk (by omega:ks.length<=9223372036854775807)]) (by
   unfold VA;simp only[Gv,A4])
 have h1:pN (tR ⟨ti,ks,ls,ra,se,go⟩,tR ⟨ti,ks,ls,ra,se,go⟩,0,())=I (.inr (tR ⟨ti,ks,ls,ra,se,go⟩,tR ⟨ti,ks,ls,ra,se,go⟩,())):=
  Ch (b:=V9) (λk=>(tR ⟨ti,ks,ls,ra,se,go⟩,tR ⟨ti,ks,ls,ra,se,go⟩,(k:Int),())) ls.length (λk hk=>by
   unfold V9;simp only[AW hk,BQ hk,A2,AT,AA,A4,BI hk (by omega:ls.length<=9223372036854775807)]) (by
   unfold V9;simp only[Gv,A4])
 have h2:pM (tR ⟨ti,ks,ls,ra,se,go⟩,tR ⟨ti,ks,ls,ra,se,go⟩,0,())=I (.inr ()):=
  Ch (b:=V8) (λk=>(tR ⟨ti,ks,ls,ra,se,go⟩,tR ⟨ti,ks,ls,ra,se,go⟩,(k:Int),())) ra.length (λk hk=>by
   unfold V8;simp only[AW hk,BQ hk,A2,AT,EZ,AA,A4,BI hk (by omega:ra.length<=9223372036854775807)]) (by
   unfold V8;simp only[Gv,A4])
 unfold VH;rw[show Rk ((tR ⟨ti,ks,ls,ra,se,go⟩,tR ⟨ti,ks,ls,ra,se,go⟩,()).1.2.2.2.2.2.1,(tR ⟨ti,ks,ls,ra,se,go⟩,tR ⟨ti,ks,ls,ra,se,go⟩,()).2.1.2.2.2.2.2)=_ from zk sm.gl];simp only[AT,AA,A4,zk sm.sl,A6,h0,h1,h2,DT]
def S1(w:AB)(e:Event):(B5 w=A0/\EC w e=(zR,A0))\/(B5 w=Y/\EC w e=(w,A0))\/(B5 w=Y/\w.ti<99999/\(doM w e).2=Y/\EC w e=(Ck w e,Y)):=by
 unfold EC;obtain c|c:=tf (B5 w)
 .rw[c,A5 rfl];by_cases h:99999<=w.ti
  .rw[A5<|AQ h];exact .inr (.inl ⟨rfl,rfl⟩)
  .rw[A9<|nd h];obtain d|d:=tf (doM w e).2
   .rw[A5 d];exact .inr (.inr ⟨rfl,J,d,rfl⟩)
   .rw[A9 (by rw[d];exact CM)];exact .inr (.inl ⟨rfl,rfl⟩)
 .rw[c,A4];exact .inl ⟨rfl,rfl⟩
def mX{w:AB}{e:Event}(h:(doM w e).2=Y):Ck w e=⟨w64<|w.ti+1,(doM w e).1.A7,(doM w e).1.Al,(doM w e).1.AS,(doM w e).1.AO,(doM w e).1.got⟩:=by
 unfold Ck tick;rw[h,A5 rfl,ZA]
def ld{w:AB}{e:Event}(h:(doM w e).2=Y):(Ck w e).ti=w64 (w.ti+1):=by rw[mX h]
def aDI{w:AB}{e:Event}(h:B5 w=Y)(ht:w.ti<99999)(hd:(doM w e).2=Y):B5 (Ck w e)=Y:=by
 obtain⟨h1,h2,h3⟩:=Fs h;have e1:w64 (w.ti+1)=w.ti+1:=Aa J J;exact aa7 (lh h1 e) (by rw[ld hd,e1];omega) (by rw[ld hd,e1];omega)
def Tot.val{α:Type}{o:Option α}{a:α}(h:Tot o (λx=>x=a)):o=I a:=by
 obtain⟨b,h1,h2⟩:=h;rw[h1,h2]
def au3{w:AB}{e:Event}(h1:e.ki=4\/e.ki=5\/e.ki=6)(h:(doM w e).2=Y):inB e.wo 0 ((w.AS.length:Int) - 1)=Y:=by
 unfold doM E8 at h;rw[A5 h1]at h;obtain c|c:=tf (inB e.wo 0<|(w.AS.length:Int) - 1)
 .exact c
 .rw[A9 (by rw[c];exact CM)]at h;cases h
def jO(k:A8)(f:Frame):(CB k f).2=[]\/(By f=Y/\f.ki=1/\Ad k=Y/\ ∃n,(n=2\/n=3)/\(CB k f).2=[De n f]):=by
 unfold CB;split
 .rename_i hok;unfold HW;split
  .rename_i hc;simp only[AD]at hc;split
   .rename_i h1;have h1:=Bc h1;unfold E9;split
    .exact .inr ⟨hc.2.1,h1,hok,3,.inr rfl,rfl⟩
    .split
     .exact .inr ⟨hc.2.1,h1,hok,2,.inl rfl,rfl⟩
     .split
      .exact .inl rfl
      .unfold K0;split
       .split
        .unfold Kg;split
         .exact .inr ⟨hc.2.1,h1,hok,2,.inl rfl,rfl⟩
         .exact .inl rfl
        .exact .inl rfl
       .exact .inl rfl
   .split<;>exact .inl rfl
  .exact .inl rfl
 .exact .inl rfl
def ma{f:Frame}(h:By f=Y)(h1:f.ki=1){n:Int}(hn:n=2\/n=3):By (De n f)=Y:=by
 obtain⟨a,b,c,d,e,g,t⟩:=OA h;have h3:=(Wn h h1).2.2;unfold By Jl De;simp only[a,b,c,d,e,g,AR];rw[A9 (by
  obtain rfl|rfl:=hn
  .show ¬(U ((2:Int)=1)=Y);decide
  .show ¬(U ((3:Int)=1)=Y);decide)]
 rw[← h3];obtain rfl|rfl:=hn<;>simp
noncomputable abbrev tiK(k:A8):Int:=(stT k).ti
def abW{k o:AJ}{n:A3}(h:EV k n=I o):o.ti=k.ti:=by
 unfold EV at h
 (repeat' split at h)<;>first|(cases h;done)|(cases h;rfl)
def at2{k o:AJ}{w r:A1}(hw:w≠Dx)(h:BV k w r=I o):o.ti=k.ti:=by
 unfold BV at h;split at h
 .split at h
  .unfold HZ at h;rw[B1 hw,AM,A4]at h;split at h<;>cases h;rfl
  .cases h
 .split at h
  .split at h
   .unfold GB at h;split at h
    .have:=abW h;exact this
    .split at h
     .exact abW h
     ·(repeat' split at h)<;>first|(cases h;done)|(cases h;rfl)
   .cases h
  .split at h
   .split at h
    .unfold Er at h
     (repeat' split at h)<;>first|(cases h;done)|(cases h;rfl)
    .cases h
   .cases h
def auZ{k o:AJ}(hk:As k=Y){rec:A1}{w r:List UInt8}(hn:CU w)(e:L rec=w++32::r)(hw:B w≠Dx)(h:BE k rec=I o):o.ti=k.ti:=by
 have:=((HN hk).1 h).1;rw[Gu hn e]at this;exact at2 hw this
def ZJ{x:A8}{rec:A1}{w r:List UInt8}{b:Bool}(hx:Ad x=Y)(hn:CU w)(e:L rec=w++32::r)(hw:B w≠Dx):tiK (wrR x rec b).1=tiK x:=by
 have hk:=C5 hx;unfold wrR;split
 .rfl
 .rename_i o ho;have h1:=(OH hk ho).stT;have h2:=auZ hk.kok hn e hw ho;split
  .show(stT<|wrM x rec).ti=_;rw[h1];exact h2
  .show(stT<|wrM x rec).ti=_;rw[h1];exact h2
def asn(n:A3):L (Ia n)=[111,119,110]++32::L (wr n):=by unfold Ia;simp only[Fz,L_B];rfl
def jU:CU [101,97,116]:=by unfold CU;decide
def awQ{k:A8}(h:Ad k=Y)(tt un:Int)(tx:A1):tiK (Ci k tt un tx).1=tiK k:=by
 unfold Ci;split
 .exact ZJ h Xa (asn _) aEp
 .rfl
def axZ{k:A8}(h:Ad k=Y)(a b:Int):tiK (DG k a b).1=tiK k:=by
 unfold DG;split
 .exact ZJ h jU (Pn _ _ _ _) aEp
 .rfl
def aEd{k:A8}(h:Ad k=Y)(f:Frame):tiK (CB k f).1=tiK k:=by
 unfold CB HW;rw[A5 h];split
 .rename_i hc;simp only[AD]at hc;split
  .rename_i h1;unfold E9;split
   .rfl
   split
   .rfl
   split
   .rfl
   unfold K0;split
   .split
    .unfold Kg;have hd:=(mW h hc.1 hc.2.1<|Bc h1).ok;split
     .exact ZJ hd jT (aCZ _) aEp
     .rfl
    .rfl
   .rfl
  .split
   .exact ZJ h aD2 (Pn _ _ _ _) aEp
   .rfl
 .rfl
def auv{k:A8}(h:Ad k=Y):tiK (Ew k).1=tiK k:=by
 unfold Ew;split
 .show(stT<|pkM k).ti=_;rw[(Yo<|C5 h).stT]
 .rfl
def auQ(k:A8):tiK (Es k).1=tiK k:=by
 unfold Es;split<;>rfl
def av4{k:A8}(h:Ad k=Y)(ok:(ES k).2=Y):tiK (ES k).1=tiK k+1:=by
 have hk:=C5 h;have hf:=Bu hk.kok;unfold ES at ok ⊢;split at ok
 .rename_i hu;rw[A5 hu];unfold wrR at ok ⊢;split at ok
  .cases ok
  .rename_i o ho;have h1:=(OH hk ho).stT;have h2:=((HN hk.kok).1 ho).1;have t0:=hf.t0;have t1:=hf.t1;rw[Gu XG<|SP _,Wh J J J]at h2;show(stT<|wrM k _).ti=_;rw[h1];cases h2;rfl
 .cases ok
def aww{w:AB}(h:B4 w){e:Event}{i:Nat}(hi:i<4)(ok:(doM w e).2=Y)(h7:e.ki≠7):tiK (kA (doM w e).1.A7 i)=if e.ki=2/\e.at_=(i:Int) then tiK (kA w.A7 i)+1 else tiK (kA w.A7 i):=by
 have kl:=h.kl;have put:∀k',(e.at_.toNat=i->tiK k'=tiK (kA w.A7 i))->tiK (kA (w.A7.set e.at_.toNat k') i)=tiK (kA w.A7 i):=λk' hk=>by
  by_cases hl:e.at_.toNat<w.A7.length
  .rw[F9 hl];split
   .rename_i e1;exact hk e1.symm
   .rfl
  .rw[lP J]
 have hin:(e.ki=4\/e.ki=5\/e.ki=6)->e.wo.toNat<w.AS.length:=λh1=>by
  have:=AY.1<|au3 h1 ok;omega
 by_cases h2:e.ki=2
 .revert ok;unfold doM;rw[A9 J,A9 J];split
  .rename_i ha;have ha:=E7 ha;unfold GZ;rw[A9 J,A5 h2];intro ok;have ok:(ES<|kA w.A7 e.at_.toNat).2=Y:=ok;show tiK (kA (w.A7.set e.at_.toNat _) i)=_;by_cases hat:e.at_=(i:Int)
   .rw[A5 ⟨h2,hat⟩,F9 J,A5 J,av4 (h.k _ J).1 ok];rw[show e.at_.toNat=i by omega]
   .rw[A9 λx=>hat x.2,F9 J,A9 J]
  .intro ok;cases ok
 .rw[A9 λx=>h2 x.1];revert ok;unfold doM;split
  .rename_i h1;intro ok;unfold E8
   (repeat' split)<;>try rfl
   all_goals
   unfold EP;split
   .have hp:=Po h<|hin h1;obtain⟨_,⟨d0,d1⟩,_⟩:=La hp;show tiK (kA (w.A7.set _ _) i)=_;rw[F9 J];split
    .rename_i e1;rw[← e1];exact aEd (h.k _ hi).1 _
    .rfl
   .rfl
  .split
   .intro ok;unfold Ef;split<;>rfl
   .split
    .rename_i ha;have ha:=E7 ha;have hok:=(h.k i hi).1;have eqi:∀ {P:A8->Prop},e.at_.toNat=i->P (kA w.A7 i)->P (kA w.A7 e.at_.toNat):=λx hp=>by rw[x];exact hp
     unfold GZ;rw[A9 h2,A9 h7];intro ok;split
     .unfold Jv;split
      .rfl
      .split
       .rfl
       .exact put _ λx=>by rw[x];exact awQ hok _ _ _
     .split
      .split<;>rfl
      .split
       .exact put _ λx=>by rw[x];rfl
       .split
        .unfold M7;split
         .exact put _ λx=>by rw[x];exact axZ hok _ _
         .rfl
        .split
         .exact put _ λx=>by rw[x];exact auv hok
         .split
          .exact put _ λx=>by rw[x];exact auQ _
          .rfl
    .intro ok;rfl
def awK{l:List A3}{n:A3}(hl:l.length<=1000):Tot (fS (l,(n.fr,n.nu,n.to,n.un,n.tx,()),())) λr=>r.1.1=Y↔n∈l:=by
 unfold fS;refine Tot.sum (P:=λy=>y.1=Y/\n∈l) (Q:=λ_=>n ∉ l) ?_ (λy hy=>Tot.ret ⟨λ_=>hy.2,λ_=>hy.1⟩) (λy hy=>Tot.ret ⟨(λh=>by cases h),λh=>absurd h hy⟩);refine Tot.loop (λi s=>s=(l,(n.fr,n.nu,n.to,n.un,n.tx,()),(i:Int),())/\ ∀j,j<i->nA l j≠n) _ l.length (λi s hi hs=> ?_) ⟨rfl,λj hj=>absurd hj<|lR _⟩;obtain⟨rfl,hs⟩:=hs;unfold gh;refine Tot.ite (λhc=> ?_) (λhc=> ?_)
 .have hc:(i:Int)<(j8 l:Int):=Bc hc;have hi':i<l.length:=J
  refine Tot.pos (AW hi') (Tot.ite (λhe=>Tot.ret ⟨rfl, ?_⟩) λhe=>Tot.ret ⟨hi',by rw[show w64 ((i:Int)+1)=_ from QC rfl J],λj hj=> ?_⟩)
  .have he:Ov (nA l i).fr (nA l i).nu (nA l i).to (nA l i).un (nA l i).tx n.fr n.nu n.to n.un n.tx=Y:=he;unfold Ov at he;simp only[AD,decide_eq_true_eq]at he;have:nA l i=n:=by
    cases hN:nA l i;cases n;rw[hN]at he;simp only at he;obtain⟨rfl,rfl,rfl,rfl,rfl,_⟩:=he;rfl
   rw[← this];exact Gx hi'
  .rcases GN j i with h|h
   .exact hs j h
   .have:j=i:=J
    subst this;intro e;have he:Ov (nA l j).fr (nA l j).nu (nA l j).to (nA l j).un (nA l j).tx n.fr n.nu n.to n.un n.tx=A0:=he;rw[e]at he;unfold Ov at he;simp at he
 .have hc:¬(i:Int)<(j8 l:Int):=It hc;refine Tot.ret λhn=> ?_;obtain⟨j,hj,e⟩:=Ct hn;refine hs j J ?_;rw[← e,nA,B8,Au hj];rfl
def arR{k:AJ}{m:Mark}{r:A1}(ht:Gz r=I m):BV k CG r=if EF k.inbox m then I ⟨k.id,k.ti,k.nx,k.held,k.marks,EX k.inbox (AU k.inbox m.mf m.mn).toNat⟩ else G:=by
 unfold BV Er;cases h:EF k.inbox m<;>simp[gY,ga,iD,gZ,gf,s7,iE,gb,ht,h]
def aaC{l:List A3}(h:DJ l=Y){i:Nat}(hi:i<l.length):nA l i ∉ EX l i:=by
 have irr:∀a b:Int,bef a b a b=A0:=λa b=>by unfold bef;simp
 have at_:∀j (hj:j<l.length),l[j]=nA l j:=λj hj=>by rw[nA,B8,Au hj];rfl
 have dif:∀j,j<l.length->j≠i->nA l j≠nA l i:=λj hj hne e=>by
  obtain h1|h1:=TX hne
  .have:=Ry h i j h1 hi;rw[e,irr]at this;cases this
  .have:=Ry h j i h1 hj;rw[e,irr]at this;cases this
 intro hm;unfold EX at hm;obtain hm|hm:=BL.1 hm
 .obtain⟨j,hj,e⟩:=Ct hm;rw[Dg]at hj;rw[List.getElem_take,at_ j J]at e;exact dif j J J e
 .obtain⟨j,hj,e⟩:=Ct hm;rw[EI]at hj;rw[List.getElem_drop,at_ (i+1+j) J]at e;exact dif _ J J e
structure LtF (d t:AJ):Prop where
 id:t.id=d.id
 ti:t.ti=d.ti
 nx:t.nx=d.nx
 box:t.inbox=d.inbox
 held:∀n∈t.held,n∈d.held
 mrk:∀m∈d.marks,m∈t.marks
def LtF.rfl(d:AJ):LtF d d:=⟨Hd _,Hd _,Hd _,Hd _,λ_ h=>h,λ_ h=>h⟩
def LtF.trans{a b c:AJ}(h:LtF a b)(g:LtF b c):LtF a c:=⟨g.id.trans h.id,g.ti.trans h.ti,g.nx.trans h.nx,g.box.trans h.box,λn hn=>h.held n<|g.held n hn,λm hm=>g.mrk m<|h.mrk m hm⟩
def ZM(r:A1):Prop:=∃a b c:Int,(0<=a/\a<=999)/\(0<=b/\b<=999)/\(0<=c/\c<=999)/\r=CX Bx a b c
def lx{k o:AJ}{a b c:Int}(hk:As k=Y)(ha:0<=a/\a<=999)(hb:0<=b/\b<=999)(hc:0<=c/\c<=999)(h:BE k (CX Bx a b c)=I o):
  EF k.held ⟨a,b,c⟩=Y/\o=⟨k.id,k.ti,k.nx,EX k.held (AU k.held a b).toNat,EE k.marks ⟨a,b,c⟩,k.inbox⟩:=by
 rw[aBs hk ha hb hc]at h;have h:=(Ii.1 h).1;split at h
 .rename_i h1;exact⟨h1,(Ei h).symm⟩
 .cases h
def axR{k o:AJ}{r:A1}(hk:As k=Y)(hr:ZM r)(h:BE k r=I o):LtF k o:=by
 obtain⟨a,b,c,ha,hb,hc,rfl⟩:=hr;obtain⟨_,rfl⟩:=lx hk ha hb hc h;exact⟨rfl,rfl,rfl,rfl,λn hn=>O4 hn,λm hm=>Kd _<|.inr hm⟩
def ary{k o:AJ}{r:A1}(hk:As k=Y)(h:BE k r=I o):As o=Y:=((HN hk).1 h).2
def Xs:∀ {ts:List A1} {d t:AJ},As d=Y->(∀r∈ts,ZM r)->Ep d ts=I t->LtF d t
 | [],d,t,_,_,h=>by
  cases h;exact LtF.rfl _
 | r::ts,d,t,hk,hl,h=>by
  have h:(BE d r).bind (λk=>Ep k ts)=I t:=h;obtain⟨m,h1,h2⟩:=Ag.1 h;exact(axR hk (hl r<|.head _) h1).trans<|Xs (ary hk h1) (λx hx=>hl x<|.tail _ hx) h2
def LO(k:A8):Prop:=∃rs ts,C7 k.log k.fo rs ts/\ ∀r∈ts,ZM r
def Yw{k:A8}{rs ts:List A1}(l:C7 k.log k.fo rs ts):stD k=(CY k.id rs).getD zK:=by unfold stD;rw[l.acD]
def LO.two{k:A8}(h:Ad k=Y){rs ts:List A1}(l:C7 k.log k.fo rs ts):CY k.id rs=I (stD k)/\As (stD k)=Y/\Ep (stD k) ts=I (stT k):=by
 have hs:=(FJ h).st;rw[l.state,WO]at hs;obtain⟨d,h1,h2⟩:=Ag.1 hs;have e:stD k=d:=by rw[Yw l,h1];rfl
 rw[e];exact⟨h1,SK h1,h2⟩
def LO.lf{k:A8}(h:Ad k=Y)(hl:LO k):LtF (stD k) (stT k):=by
 obtain⟨rs,ts,l,g⟩:=hl;obtain⟨_,h2,h3⟩:=LO.two h l;exact Xs h2 g h3
def avP{ts:List A1}(h:(cat ts).length=0):ts=[]:=by
 cases ts with
 | nil=>rfl
 | cons r ts=>
  rw[Ho,Aq,Aw]at h;have:=Wg r;omega
def avm{k:A8}(h:Ad k=Y)(hf:k.fo=(k.log.size:Int)):∃rs,C7 k.log k.fo rs []:=by
 obtain⟨rs,ts,l,_⟩:=(C5 h).lg;have h1:=l.fo;have h2:=l.size_eq;have:ts=[]:=avP J;subst this;exact⟨rs,l⟩
def Sq{k:A8}(h:Ad k=Y)(hf:k.fo=(k.log.size:Int)):LO k/\stD k=stT k:=by
 obtain⟨rs,l⟩:=avm h hf;refine⟨⟨rs,[],l,λr hr=>by cases hr⟩, ?_⟩;have:=(LO.two h l).2.2;exact Ei this
def aay{k:A8}(h:Ad k=Y)(hl:LO k){r:A1}(hr:ZM r)(h2:(wrR k r A0).2=Y):
  LO (wrR k r A0).1/\Ad (wrR k r A0).1=Y/\BE (stT k) r=I (stT (wrR k r A0).1)/\(stD (wrR k r A0).1=stD k\/stD (wrR k r A0).1=stT k):=by
 have hk:=C5 h;obtain⟨o,ho⟩:=aCl hk h2;have hi:=OH hk ho;have e:(wrR k r A0).1=wrM k r:=by unfold wrR;rw[ho];rfl
 rw[e,hi.stT];refine⟨?_,hi.ok,ho, ?_⟩
 all_goals
  obtain⟨rs,ts,l,g⟩:=hl;have hz:=kM hk.kok ho
 .by_cases hc:k.log.size+(Cu r).size<=2400
  .refine⟨rs,ts++[r], ?_,λx hx=> ?_⟩
   .show C7 (Cw (stT k) k.log k.fo r).1 (Cw (stT k) k.log k.fo r).2 _ _;unfold Cw;rw[A5 hc];exact l.add hz.1 hz.2 hc
   .rcases BL.1 hx with hx|hx
    .exact g x hx
    .rw[CN.1 hx];exact hr
  .refine⟨C9<|stT k,[]++[r], ?_,λx hx=> ?_⟩
   .show C7 (Cw (stT k) k.log k.fo r).1 (Cw (stT k) k.log k.fo r).2 _ _;unfold Cw;rw[A9 hc];refine(Q8 hk.kok).add hz.1 hz.2 ?_;have h1:=Pv hk.kok;have h2:=MX hz.2;omega
   .rw[Eb]at hx;rw[CN.1 hx];exact hr
 .by_cases hc:k.log.size+(Cu r).size<=2400
  .left;have l2:C7 (wrM k r).log (wrM k r).fo rs (ts++[r]):=by
    show C7 (Cw (stT k) k.log k.fo r).1 (Cw (stT k) k.log k.fo r).2 _ _;unfold Cw;rw[A5 hc];exact l.add hz.1 hz.2 hc
   rw[Yw l2,Yw l];rfl
  .right;have l2:C7 (wrM k r).log (wrM k r).fo (C9<|stT k) ([]++[r]):=by
    show C7 (Cw (stT k) k.log k.fo r).1 (Cw (stT k) k.log k.fo r).2 _ _;unfold Cw;rw[A9 hc];refine(Q8 hk.kok).add hz.1 hz.2 ?_;have h1:=Pv hk.kok;have h2:=MX hz.2;omega
   have l3:C7 (pkM k).log (pkM k).fo (C9<|stT k) []:=Q8 hk.kok;have p:=Yo hk;have:=(LO.two p.ok l3);rw[Yw l2];have e1:CY k.id (C9<|stT k)=I (stT k):=by
    have t:=this.2.2;have t1:stD (pkM k)=stT (pkM k):=Ei t;have t0:=this.1;rw[t1,p.stT]at t0;exact t0
   show(CY k.id<|C9<|stT k).getD zK=_;rw[e1];rfl
def auy{k:A8}(h:Ad k=Y){r:A1}(h2:(wrR k r Y).2=Y):
  Ad (wrR k r Y).1=Y/\LO (wrR k r Y).1/\stD (wrR k r Y).1=stT (wrR k r Y).1/\BE (stT k) r=I (stT (wrR k r Y).1):=by
 have hk:=C5 h;obtain⟨o,ho⟩:=aCl hk h2;have hs:=(kB hk ho).1;have:=Sq hs.is.ok hs.fo;refine⟨hs.is.ok,this.1,this.2, ?_⟩;rw[hs.is.stT];exact ho
def mI{k:A8}(h:Ad k=Y):Ad (foM k)=Y/\LO (foM k)/\stD (foM k)=stT k/\stT (foM k)=stT k:=by
 have hk:=QG<|C5 h;have:=Sq (k:=foM k) hk.ok rfl;exact⟨hk.ok,this.1,this.2.trans hk.stT,hk.stT⟩
def aut{k:A8}(h:Ad k=Y):Ad (pkM k)=Y/\LO (pkM k)/\stD (pkM k)=stT k/\stT (pkM k)=stT k:=by
 have hk:=Yo<|C5 h;have:=Sq (k:=pkM k) hk.ok rfl;exact⟨hk.ok,this.1,this.2.trans hk.stT,hk.stT⟩
def aae{k:A8}(h:Ad k=Y)(hl:LO k)(keep:Int):
  Ad (faM k keep)=Y/\LO (faM k keep)/\stD (faM k keep)=stT (faM k keep)/\LtF (stD k) (stT<|faM k keep)/\LtF (stT<|faM k keep) (stT k):=by
 have ok:=mV h keep;obtain⟨rs,ts,l,g⟩:=hl;have hfo:=l.fo;obtain⟨us,vs,e,l2⟩:=l.UC (k.fo+max 0 (min keep<|(k.log.size:Int) - k.fo)).toNat J;have lf:(faM k keep).fo=((faM k keep).log.size:Int):=by
  have a:(faM k keep).fo=_:=l2.fo;have b:(faM k keep).log.size=_:=l2.size_eq;rw[a,b];simp[Jj]
 have hf:=Sq ok lf;obtain⟨d0,d1,d2⟩:=LO.two h l;have l2:C7 (faM k keep).log (faM k keep).fo (rs++us) []:=l2;obtain⟨f0,f1,f2⟩:=LO.two ok l2;rw[hf.2]at f0 f1;have f0:CY k.id (rs++us)=I (stT<|faM k keep):=f0;rw[WO,d0]at f0;rw[e,MM,show Ep (stD k) us=_ from f0]at d2;subst e;exact⟨ok,hf.1,hf.2,Xs d1 (λr hr=>g r<|Bw _ hr) f0,Xs f1 (λr hr=>g r<|CS _ hr) d2⟩
inductive Act|non|own (n:A3)|take (n:A3)|eat (n:A3)|lets (m:Mark)
def Act.new(a:Act)(n:A3):Prop:=a= .own n\/a= .take n
structure KF (k o:AJ) (a:Act):Prop where
 id:o.id=k.id
 ti:k.ti<=o.ti
 nx:(o.nx=k.nx/\ ∀n,a≠ .own n)\/ ∃n,a= .own n/\n.nu=k.nx/\n.fr=k.id/\o.nx=k.nx+1
 hold:∀n∈k.held,n∈o.held\/n.un<=o.ti\/a= .lets ⟨n.fr,n.nu,n.un⟩
 held:∀n∈o.held,n∈k.held\/a.new n
 box:∀n∈k.inbox,n∈o.inbox\/a= .eat n
 P9:∀n∈o.inbox,(n∈k.inbox/\a≠ .eat n)\/(a.new n/\n.to=k.id)
 mrk:∀m∈o.marks,m∈k.marks\/a= .lets m\/ ∃n,a.new n/\n.to=k.id/\m=⟨n.fr,n.nu,n.un⟩
 mks:∀m∈k.marks,m∈o.marks\/m.mu<=o.ti
 new:∀n,a.new n->k.ti<n.un/\(∀m∈k.marks,¬(m.mf=n.fr/\m.mn=n.nu))/\(if n.to=k.id then n∈o.inbox else n∈o.held)
 eat:∀n,a= .eat n->n∈k.inbox
 lets:∀m,a= .lets m->∃n∈k.held,m=⟨n.fr,n.nu,n.un⟩
def aD5{l:List A3}{i:Nat}{x:A3}(h:x∈l)(hne:x≠nA l i):x∈EX l i:=by
 obtain⟨j,hj,e⟩:=Ct h;have at_:nA l j=x:=by rw[nA,B8,Au hj];exact e
 have hji:j≠i:=λc=>hne (by rw[← c];exact at_.symm);unfold EX;rw[BL];by_cases h1:j<i
 .left;rw[List.mem_take_iff_getElem];exact⟨j,J,e⟩
 .right;rw[List.mem_drop_iff_getElem];exact⟨j - (i+1),J,by rw[← e];congr 1;omega⟩
def awG{l:List Mark}{f n:Int}(h:¬0<=Bj l f n):∀m∈l,¬(m.mf=f/\m.mn=n):=λm hm e=>h<|kK hm e.1 e.2
def abX{k o:AJ}{n:A3}{a:Act}(ha:a.new n)(hu:∀x,a.new x->x=n)(hnx:(o.nx=k.nx/\ ∀n,a≠ .own n)\/ ∃n,a= .own n/\n.nu=k.nx/\n.fr=k.id/\o.nx=k.nx+1)
  {c:Int}(h:EV ⟨k.id,k.ti,c,k.held,k.marks,k.inbox⟩ n=I o):KF k o a:=by
 have ne:∀x,a≠ .eat x:=λx e=>by obtain h|h:=ha<;>rw[h]at e<;>cases e
 have nl:∀x,a≠ .lets x:=λx e=>by obtain h|h:=ha<;>rw[h]at e<;>cases e
 unfold EV at h;split at h
 .cases h
 split at h
 .cases h
 split at h
 .cases h
 split at h
 .cases h
 split at h
 .cases h
 split at h
 .cases h
 rename_i _ h1 _ _ h2 _;have h1:k.ti<n.un:=by simpa using h1
 have h2:=awG (l:=k.marks) (f:=n.fr) (n:=n.nu) (by simpa using h2);split at h
 .rename_i ht;have ht:n.to=k.id:=Bc ht;cases h;refine⟨rfl,D0 _,hnx,λ_ h=> .inl h,λ_ h=> .inl h,λx h=> .inl<|Kd _<|.inr h,λx h=> ?_,λm h=> ?_,λm h=> .inl<|Kd _<|.inr h,λx h=> ?_,λx e=>absurd e<|ne x,λx e=>absurd e<|nl x⟩
  .rcases GA _ h with rfl|h
   .exact .inr ⟨ha,ht⟩
   .exact .inl ⟨h,ne x⟩
  .rcases GA _ h with rfl|h
   .exact .inr (.inr ⟨n,ha,ht,rfl⟩)
   .exact .inl h
  .rw[hu x h,A5 ht];exact⟨h1,h2,Kd _<|.inl rfl⟩
 .rename_i ht;have ht:¬n.to=k.id:=by simpa using ht
  cases h;refine⟨rfl,D0 _,hnx,λx h=> .inl<|Kd _<|.inr h,λx h=> ?_,λ_ h=> .inl h,λ_ h=> .inl ⟨h,ne _⟩,λ_ h=> .inl h,λ_ h=> .inl h,λx h=> ?_,λx e=>absurd e<|ne x,λx e=>absurd e<|nl x⟩
  .rcases GA _ h with rfl|h
   .exact .inr ha
   .exact .inl h
  .rw[hu x h,A9 ht];exact⟨h1,h2,Kd _<|.inl rfl⟩
def aCa(n:A3):L (Ia n)=[111,119,110]++32::L (wr n):=by unfold Ia;simp only[Fz,L_B];rfl
def aBR{k:AJ}{n:A3}(hn:At n=Y):BV k DX (wr n)=if n.fr=k.id/\n.nu=k.nx then EV ⟨k.id,k.ti,k.nx+1,k.held,k.marks,k.inbox⟩ n else(if 0<=AU k.held n.fr n.nu\/0<=AU k.inbox n.fr n.nu then G else G):=by
 unfold BV;rw[A9 aEp,A5 aEp,Pj hn];unfold GB;by_cases h:n.fr=k.id/\n.nu=k.nx
 .simp[h.1,h.2]
 .rw[A9 h];have:(U (n.fr=k.id)&&U (n.nu=k.nx))=A0:=by
   rw[← GL,AD,decide_eq_true_eq,decide_eq_true_eq];exact h
  simp[yi,yj,xJ,this]
def awS{k o:AJ}{n:A3}(hk:As k=Y)(hn:At n=Y)(h:BE k (Ia n)=I o):KF k o (.own n):=by
 have h:=((HN hk).1 h).1;rw[Gu Xa<|aCa n,show BV k (B [111,119,110]) (B<|L<|wr n)=BV k DX (wr n) by rw[B_L]]at h;rw[aBR hn]at h;split at h
 .rename_i hc;have hx:o.nx=k.nx+1:=by
   unfold EV at h
   (repeat' split at h)<;>first|(cases h;done)|(cases h;rfl)
  exact abX (.inl rfl) (λx h=>by obtain h|h:=h<;>cases h;rfl) (.inr ⟨n,rfl,hc.2,hc.1,hx⟩) h
 .split at h<;>cases h
def aaa{k o:AJ}{n:A3}(hk:As k=Y)(hn:At n=Y)(h:BE k (J6 n)=I o):KF k o (.take n)/\n.fr≠k.id:=by
 rw[iw hk hn]at h;have h:=(Ii.1 h).1;split at h
 .cases h
 rename_i hne;have hx:o.nx=k.nx:=by
  unfold EV at h
  (repeat' split at h)<;>first|(cases h;done)|(cases h;rfl)
 exact⟨abX (.inr rfl) (λx h=>by obtain h|h:=h<;>cases h;rfl) (.inl ⟨hx,λn e=>by cases e⟩) h,hne⟩
def av6{k o:AJ}(hk:As k=Y)(h:BE k (FZ<|k.ti+1)=I o):KF k o .non:=by
 have hf:=Bu hk;have t0:=hf.t0;have t1:=hf.t1;have h:=((HN hk).1 h).1;rw[Gu XG<|SP _,Wh J J J]at h;cases h;refine⟨rfl,by show k.ti<=k.ti+1;omega,.inl ⟨rfl,λ_ h=>by cases h⟩,λn h=> ?_,λn h=> .inl (FQ.1 h).1,λ_ h=> .inl h,λ_ h=> .inl ⟨h,λe=>by cases e⟩,λm h=> .inl (FQ.1 h).1,λm h=> ?_,
  λ_ h=>(by obtain h|h:=h<;>cases h),λ_ h=>(by cases h),λ_ h=>(by cases h)⟩
 .by_cases hc:k.ti+1<n.un
  .exact .inl (FQ.2 ⟨h,AQ hc⟩)
  .exact .inr (.inl (by show n.un<=k.ti+1;omega))
 .by_cases hc:k.ti+1<m.mu
  .exact .inl (FQ.2 ⟨h,AQ hc⟩)
  .exact .inr (by show m.mu<=k.ti+1;omega)
def abR{k o:AJ}{a b c:Int}(hk:As k=Y)(ha:0<=a/\a<=999)(hb:0<=b/\b<=999)(hc:0<=c/\c<=999)(h:BE k (CX Bx a b c)=I o):KF k o (.lets ⟨a,b,c⟩):=by
 obtain⟨h1,rfl⟩:=lx hk ha hb hc h;unfold EF at h1;rw[AD,decide_eq_true_eq,decide_eq_true_eq]at h1;obtain⟨i0,i1⟩:=h1;obtain⟨j0,j1,j2,j3⟩:=Eo i0;have e:(⟨a,b,c⟩:Mark)=⟨(nA k.held (AU k.held a b).toNat).fr,(nA k.held (AU k.held a b).toNat).nu,(nA k.held (AU k.held a b).toNat).un⟩:=by rw[j2,j3,i1]
 refine⟨rfl,D0 _,.inl ⟨rfl,λ_ h=>by cases h⟩,λn h=> ?_,λn h=> .inl<|O4 h,λ_ h=> .inl h,λ_ h=> .inl ⟨h,λe=>by cases e⟩,λm h=> ?_,λm h=> .inl<|Kd _<|.inr h,
  λ_ h=>(by obtain h|h:=h<;>cases h),λ_ h=>(by cases h),λm h=> ?_⟩
 .by_cases hx:n=nA k.held (AU k.held a b).toNat
  .right;right;rw[e,hx]
  .exact .inl (aD5 h hx)
 .rcases GA _ h with rfl|h
  .exact .inr (.inl rfl)
  .exact .inl h
 .cases h;exact⟨_,Gx j0,e⟩
def axb{k o:AJ}{n:A3}(hk:As k=Y)(hn:n=nA k.inbox (AU k.inbox n.fr n.nu).toNat)(h0:0<=AU k.inbox n.fr n.nu)(h:BE k (CX CG n.fr n.nu n.un)=I o):KF k o (.eat n):=by
 have hf:=Bu hk;obtain⟨hlt,Zi,hfr,hnu⟩:=Eo h0;have hm:n∈k.inbox:=by rw[hn];exact Gx hlt
 obtain⟨⟨a0,a1⟩,⟨b0,b1⟩,⟨c0,c1⟩,_⟩:=Pf<|Pc hf.i hm;have h3:=YD (r:=B<|B2 n.fr++32::(B2 n.nu++32::B2 n.un)) (a:=n.fr) (b:=n.nu) (c:=n.un) J J J J J J<|L_B _;have h2:=((HN hk).1 h).1;rw[Gu jU<|Pn CG _ _ _,show BV k (B [101,97,116]) _=_ from arR h3]at h2;split at h2
 .cases h2;refine⟨rfl,D0 _,.inl ⟨rfl,λ_ h=>by cases h⟩,λ_ h=> .inl h,λ_ h=> .inl h,λx h=> ?_,λx h=> .inl ⟨O4 h,λe=> ?_⟩,λ_ h=> .inl h,λ_ h=> .inl h,
   λ_ h=>(by obtain h|h:=h<;>cases h),λx e=> ?_,λ_ h=>(by cases h)⟩
  .by_cases hx:x=n
   .exact .inr (by rw[hx])
   .exact .inl (aD5 h λe=>hx<|e.trans hn.symm)
  .cases e;rw[hn]at h;exact aaC hf.i hlt (by rw[← hn]at h ⊢; exact h)
  .cases e;exact hm
 .cases h2
structure Mvd (k k':A8) (a:Act):Prop where
 lo:LO k'
 id:(stT k').id=(stT k).id
 ti:(stT k).ti<=(stT k').ti
 nx:((stT k').nx=(stT k).nx/\ ∀n,a≠ .own n)\/ ∃n,a= .own n/\n.nu=(stT k).nx/\n.fr=(stT k).id/\(stT k').nx=(stT k).nx+1
 hold:∀n,n∈(stT k).held->n∈(stD k).held->(n∈(stT k').held/\n∈(stD k').held)\/n.un<=(stT k').ti\/a= .lets ⟨n.fr,n.nu,n.un⟩
 held:∀n∈(stD k').held,n∈(stD k).held\/a.new n
 box:∀n∈(stT k).inbox,n∈(stT k').inbox\/a= .eat n
 P9:∀n∈(stT k').inbox,(n∈(stT k).inbox/\a≠ .eat n)\/(a.new n/\n.to=(stT k).id)
 mrk:∀m∈(stT k').marks,m∈(stT k).marks\/a= .lets m\/ ∃n,a.new n/\n.to=(stT k).id/\m=⟨n.fr,n.nu,n.un⟩
 mks:∀m∈(stD k).marks,m∈(stD k').marks\/m.mu<=(stT k').ti
 new:∀n,a.new n->(stT k).ti<n.un/\(∀m∈(stT k).marks,¬(m.mf=n.fr/\m.mn=n.nu))/\(if n.to=(stT k).id then n∈(stT k').inbox else n∈(stT k').held/\n∈(stD k').held)
 eat:∀n,a= .eat n->n∈(stT k).inbox/\ ∀m∈(stT k).marks,m∈(stD k').marks
 lets:∀m,a= .lets m->∃n∈(stT k).held,m=⟨n.fr,n.nu,n.un⟩
def atn{k k':A8}{a:Act}(h:Ad k=Y)(hl:LO k)(lo:LO k')(e:stD k'=stT k')(f:KF (stT k) (stT k') a)(he:∀n,a= .eat n->∀m∈(stT k).marks,m∈(stT k').marks):Mvd k k' a where
 lo:=lo
 id:=f.id
 ti:=f.ti
 nx:=f.nx
 hold:=λn h1 _=>by
  obtain h|h|h:=f.hold n h1
  .exact .inl ⟨h,by rw[e];exact h⟩
  .exact .inr (.inl h)
  .exact .inr (.inr h)
 held:=λn hn=>by
  rw[e]at hn;obtain h1|h1:=f.held n hn
  .exact .inl ((hl.lf h).held n h1)
  .exact .inr h1
 box:=f.box
 P9:=f.P9
 mrk:=f.mrk
 mks:=λm hm=>by
  rw[e];exact f.mks m ((hl.lf h).mrk m hm)
 new:=λn hn=>by
  obtain⟨a1,a2,a3⟩:=f.new n hn;refine⟨a1,a2, ?_⟩;rw[e];split at a3
  .rename_i hc;rw[A5 hc];exact a3
  .rename_i hc;rw[A9 hc];exact⟨a3,a3⟩
 eat:=λn hn=>⟨f.eat n hn,by rw[e];exact he n hn⟩
 lets:=f.lets
def Px{k k':A8}(h:Ad k=Y)(hl:LO k)(lo:LO k')(et:stT k'=stT k)(ed:stD k'=stD k\/stD k'=stT k):Mvd k k' .non where
 lo:=lo
 id:=by rw[et]
 ti:=by rw[et];exact D0 _
 nx:= .inl ⟨by rw[et],λ_ e=>by cases e⟩
 hold:=λn h1 h2=> .inl (by rw[et];exact⟨h1,by obtain e|e:=ed<;>rw[e]<;>assumption⟩)
 held:=λn hn=> .inl (by
  obtain e|e:=ed<;>rw[e]at hn
  .exact hn
  .exact(hl.lf h).held n hn)
 box:=λn hn=> .inl (by rw[et];exact hn)
 P9:=λn hn=> .inl ⟨by rw[← et];exact hn,λe=>by cases e⟩
 mrk:=λm hm=> .inl (by rw[← et];exact hm)
 mks:=λm hm=> .inl (by
  obtain e|e:=ed<;>rw[e]
  .exact hm
  .exact(hl.lf h).mrk m hm)
 new:=λn hn=>by obtain e|e:=hn<;>cases e
 eat:=λn e=>by cases e
 lets:=λm e=>by cases e
def OO{k:A8}(h:Ad k=Y)(hl:LO k):Mvd k k .non:=Px h hl hl rfl (.inl rfl)
def ato{k:A8}(h:Ad k=Y)(hl:LO k)(n:Int):Ad (faM k n)=Y/\Mvd k (faM k n) .non:=by
 obtain⟨a0,a1,a2,a3,a4⟩:=aae h hl n;refine⟨a0,⟨a1,a4.id.symm,by rw[a4.ti];exact D0 _,.inl ⟨a4.nx.symm,λ_ e=>by cases e⟩,λn h1 h2=> .inl ⟨a4.held n h1,by rw[a2];exact a4.held n h1⟩,λn hn=> .inl (by rw[a2]at hn;exact a3.held n hn),λn hn=> .inl (by rw[← a4.box];exact hn),
  λn hn=> .inl ⟨by rw[a4.box];exact hn,λe=>(by cases e)⟩,λm hm=> .inl<|a4.mrk m hm,λm hm=> .inl (by rw[a2];exact a3.mrk m hm),λn hn=>(by obtain e|e:=hn<;>cases e),λn e=>(by cases e),λm e=>(by cases e)⟩⟩
def Ys{k:A8}{a:Act}(h:Ad k=Y)(hl:LO k){r:A1}(h2:(wrR k r Y).2=Y)(hf:∀o,BE (stT k) r=I o->KF (stT k) o a)(he:∀n,a= .eat n->∀o,BE (stT k) r=I o->∀m∈(stT k).marks,m∈o.marks):
  Ad (wrR k r Y).1=Y/\Mvd k (wrR k r Y).1 a:=by
 obtain⟨a0,a1,a2,a3⟩:=auy h h2;exact⟨a0,atn h hl a1 a2 (hf _ a3) λn e=>he n e _ a3⟩
def awA{k:A8}{a:Act}(h:Ad k=Y)(hl:LO k){r:A1}(hf:∀o,BE (stT k) r=I o->KF (stT k) o a)(he:∀n,a= .eat n->∀o,BE (stT k) r=I o->∀m∈(stT k).marks,m∈o.marks):
  ((wrR k r Y).2=Y/\Ad (wrR k r Y).1=Y/\Mvd k (wrR k r Y).1 a)\/((wrR k r Y).2=A0/\(wrR k r Y).1=k):=by
 obtain e|e:=tf (wrR k r Y).2
 .exact .inl ⟨e,Ys h hl e hf he⟩
 .exact .inr ⟨e,Q5 e⟩
def atk{k:A8}(h:Ad k=Y)(hl:LO k):Mvd k (ES k).1 .non:=by
 unfold ES;split
 .rcases awA h hl (r:=FZ<|(stT k).ti+1) (a:= .non) (λo ho=>av6 (C5 h).kok ho) (λn e=>by cases e) with⟨_,_,m⟩|⟨_,e⟩
  .exact m
  .rw[e];exact OO h hl
 .exact OO h hl
def awB{k:A8}(h:Ad k=Y)(hl:LO k){tt un:Int}{tx:A1}(h0:(Ci k tt un tx).2≠0):Mvd k (Ci k tt un tx).1 (.own ⟨k.id,(Ci k tt un tx).2,tt,un,tx⟩):=by
 unfold Ci at h0 ⊢;split at h0
 .rename_i hc;rw[AD]at hc;rw[A5 (by rw[AD];exact hc)];simp only at h0 ⊢;split at h0
  .rename_i h2;rw[A5 h2];exact(Ys h hl h2 (λo ho=>awS (C5 h).kok hc.2 ho) λn e=>by cases e).2
  .exact absurd rfl h0
 .exact absurd rfl h0
def at3{k o:AJ}{a b c:Int}(hk:As k=Y)(h:BE k (CX CG a b c)=I o):∀m∈k.marks,m∈o.marks:=by
 have h2:=((HN hk).1 h).1;rw[Gu jU<|Pn CG _ _ _]at h2;unfold BV at h2;rw[A9 aEp,A9 aEp,A5 aEp]at h2;split at h2
 .unfold Er at h2;rw[show U (B [101,97,116]=Bx)=A0 by decide,AM,A4,show U (B [101,97,116]=D3)=A0 by decide,AM,A4]at h2;split at h2
  .cases h2;exact λm hm=>hm
  .cases h2
 .cases h2
def awD{k:A8}(h:Ad k=Y)(hl:LO k){fr nu:Int}(ok:(DG k fr nu).2.2=Y):Mvd k (DG k fr nu).1 (.eat (DG k fr nu).2.1):=by
 have hk:=C5 h;unfold DG at ok ⊢;split at ok
 .rename_i hc;rw[A5 hc];simp only[AD,CE,decide_eq_false_iff_not]at hc;have h0:0<=AU (stT k).inbox fr nu:=by have:=hc.2;omega
  obtain⟨_,_,j2,j3⟩:=Eo h0;simp only at ok ⊢;rw[A5 ok];refine(Ys h hl ok (λo ho=> ?_) λn _ o ho=>at3 hk.kok ho).2;refine axb hk.kok ?_ ?_ ?_
  .rw[j2,j3]
  .rw[j2,j3];exact h0
  .rw[j2,j3];exact ho
 .cases ok
def atm{k:A8}(h:Ad k=Y)(hl:LO k):Mvd k (Ew k).1 .non:=by
 unfold Ew;split
 .obtain⟨_,a1,a2,a3⟩:=aut h;exact Px h hl a1 a3 (.inr a2)
 .exact OO h hl
def asZ{k:A8}(h:Ad k=Y)(hl:LO k):Mvd k (Es k).1 .non:=by
 unfold Es;split
 .obtain⟨_,a1,a2,a3⟩:=mI h;exact Px h hl a1 a3 (.inr a2)
 .exact OO h hl
def LO.Zy{k:A8}(hl:LO k):LO (riM k):=hl
def atl{k:A8}(h:Ad k=Y)(hl:LO k):Mvd k (riM k) .non:=Px h hl hl.Zy rfl (.inl rfl)
def awC{k:A8}(h:Ad k=Y)(hl:LO k){a b c:Int}(ha:0<=a/\a<=999)(hb:0<=b/\b<=999)(hc:0<=c/\c<=999)(h2:(wrR k (CX Bx a b c) A0).2=Y):
  Mvd k (wrR k (CX Bx a b c) A0).1 (.lets ⟨a,b,c⟩):=by
 obtain⟨a0,a1,a2,a3⟩:=aay h hl ⟨a,b,c,ha,hb,hc,rfl⟩ h2;have f:=abR (C5 h).kok ha hb hc a2;have lf:=hl.lf h;have sub:∀n∈(stD (wrR k (CX Bx a b c) A0).1).held,n∈(stD k).held:=λn hn=>by
  obtain e|e:=a3<;>rw[e]at hn
  .exact hn
  .exact lf.held n hn
 refine⟨a0,f.id,f.ti,f.nx,λn h1 h2=> ?_,λn hn=> .inl<|sub n hn,f.box,f.P9,f.mrk,λm hm=> .inl ?_,λn hn=>(by obtain e|e:=hn<;>cases e),λn e=>(by cases e),f.lets⟩
 .rcases f.hold n h1 with h|h|h
  .refine .inl ⟨h, ?_⟩;obtain e|e:=a3<;>rw[e]<;>assumption
  .exact .inr (.inl h)
  .exact .inr (.inr h)
 .rcases a3 with e|e<;>rw[e]
  .exact hm
  .exact lf.mrk m hm
def Dif(a b:A3):Prop:=¬(a.fr=b.fr/\a.nu=b.nu)
def dsN(n:A3)(i:Int):Nat:=(n.to - i).natAbs
def onW(n:A3)(i:Int):Prop:=(n.fr<=i/\i<=n.to)\/(n.to<=i/\i<=n.fr)
noncomputable abbrev sT(w:AB)(i:Nat):AJ:=stT<|kA w.A7 i
noncomputable abbrev sD(w:AB)(i:Nat):AJ:=stD<|kA w.A7 i
def K4(w:AB)(n:A3):Prop:=n∈w.got\/n∈(sT w n.to.toNat).inbox
def JE(w:AB)(n:A3):Prop:=∃i:Nat,i<4/\onW n i/\n.un<=(sT w i).ti
def Jm(w:AB)(n:A3)(i:Nat):Prop:=i<4/\n∈(sT w i).held/\n∈(sD w i).held
def Bey(w:AB)(i:Int)(n:A3):Prop:=K4 w n\/JE w n\/ ∃j:Nat,Jm w n j/\dsN n j<dsN n i
def HvF(w:AB)(f:Frame):Prop:=f.ki=2->∃n∈w.AO,n.fr=f.fr/\n.nu=f.nu/\Bey w f.dst n
def HfG(se:List A3)(h:AE):Prop:=∃n∈se,h.fr=n.fr/\h.nu=n.nu/\h.to=n.to/\h.un=n.un/\h.sz=n.tx.size/\Oy n.tx h.got
structure Inv (w:AB):Prop where
 lo:∀i,i<4->LO (kA w.A7 i)
 hs:∀i,i<4->∀n∈(sD w i).held,n∈w.AO
 bx:∀i,i<4->∀n∈(sT w i).inbox,n∈w.AO/\ ∀g∈w.got,Dif g n
 nx:∀n∈w.AO,n.nu<(sT w n.fr.toNat).nx
 sp:w.AO.Pairwise Dif
 gp:w.got.Pairwise Dif
 gs:∀g∈w.got,g∈w.AO/\(g.un<=(sT w g.to.toNat).ti\/ ∃m∈(sD w g.to.toNat).marks,m.mf=g.fr/\m.mn=g.nu/\m.mu=g.un)
 cu:∀n∈w.AO,K4 w n\/JE w n\/ ∃j,Jm w n j
 mrk:∀i,i<4->∀m∈(sT w i).marks,∃n∈w.AO,m=⟨n.fr,n.nu,n.un⟩/\Bey w i n
 ra:∀p∈w.AS,PcI (λn=>n∈w.AO) p
 hv:∀p∈w.AS,∀f,Co (BA p.data)=(f,Y)->HvF w f
 hf:∀i,i<4->∀h∈(kA w.A7 i).AH,HfG w.AO h
def IX{l:List A3}(h:l.Pairwise Dif):∀ {a b:A3},a∈l->b∈l->a.fr=b.fr->a.nu=b.nu->a=b:=by
 intro a b ha hb h1 h2;obtain⟨i,hi,ei⟩:=Ct ha;obtain⟨j,hj,ej⟩:=Ct hb;obtain c|c|c:=I6 i j
 .have:=K5.1 h i j hi hj c;rw[ei,ej]at this;exact absurd ⟨h1,h2⟩ this
 .subst c;rw[← ei,← ej]
 .have:=K5.1 h j i hj hi c;rw[ei,ej]at this;exact absurd ⟨h1.symm,h2.symm⟩ this
def aa8{l:List A3}{n:A3}(h:l.Pairwise Dif)(hn:∀a∈l,Dif a n):(l++[n]).Pairwise Dif:=by
 rw[My];exact⟨h,lQ _ _,λa ha b hb=>by rw[CN.1 hb];exact hn a ha⟩
def Yt{l:List A3}{x:A3}(h:x∈l):∃i,i<l.length/\nA l i=x:=by
 obtain⟨i,hi,e⟩:=Ct h;exact⟨i,hi,by rw[nA,B8,Au hi];exact e⟩
def axO{l:List Mark}{x:Mark}(h:x∈l):∃i,i<l.length/\mA l i=x:=by
 obtain⟨i,hi,e⟩:=Ct h;exact⟨i,hi,by rw[mA,B8,Au hi];exact e⟩
def aug{k:AJ}(h:As k=Y){n:A3}(hn:n∈k.held):k.ti<n.un/\onW n k.id/\n.to≠k.id:=by
 obtain⟨i,hi,e⟩:=Yt hn;have:=(Bu h).ho i hi;unfold Gy Dz at this;rw[e]at this;simp only[AD,C0,decide_eq_true_eq,AY,CE,decide_eq_false_iff_not]at this;obtain⟨_,h1,⟨h2,h3⟩,_⟩:=this;unfold onW;exact⟨h1,J,λe=>h2 e.symm⟩
def mD{k:AJ}(h:As k=Y){n:A3}(hn:n∈k.inbox):n.to=k.id/\(n.un<=k.ti\/ ∃m∈k.marks,m.mf=n.fr/\m.mn=n.nu):=by
 obtain⟨i,hi,e⟩:=Yt hn;have:=(Bu h).io i hi;unfold IV at this;rw[e]at this;simp only[AD,C0,decide_eq_true_eq,CE,decide_eq_false_iff_not]at this;obtain⟨h1,_,h2⟩:=this;refine⟨h1, ?_⟩;obtain h2|h2:=h2
 .exact .inl J
 .obtain⟨j0,_,j2,j3⟩:=Sk h2;refine .inr ⟨mA k.marks (Bj k.marks n.fr n.nu).toNat, ?_,j2,j3⟩;rw[mA,B8,Au j0];exact Cg j0
def HR{w:AB}(ok:B4 w){i:Nat}(hi:i<4):(sT w i).id=(i:Int):=(C5 (ok.k i hi).1).id.trans (ok.k i hi).2
def Fa{w:AB}(ok:B4 w){i:Nat}(hi:i<4):As (sT w i)=Y:=(C5 (ok.k i hi).1).kok
def asU{n:A3}(h:At n=Y):(0<=n.fr/\n.fr<=3)/\(0<=n.to/\n.to<=3):=by
 unfold At at h;simp only[AD]at h;exact⟨AY.1 h.1,AY.1 h.2.1⟩
def avV{w w':AB}{i:Nat}{a:Act}{k':A8}(ok:B4 w)(hi:i<4)(m:Mvd (kA w.A7 i) k' a)(ek:w'.A7=w.A7.set i k')
  (eg:∀n,n∈w.got\/a= .eat n->n∈w'.got){n:A3}(nok:At n=Y)(lets:a= .lets ⟨n.fr,n.nu,n.un⟩->Bey w i n){d:Nat}
  (h:K4 w n\/JE w n\/ ∃j:Nat,Jm w n j/\dsN n j<d):K4 w' n\/JE w' n\/ ∃j:Nat,Jm w' n j/\dsN n j<d:=by
 have kl:=ok.kl;have kA':∀j,kA w'.A7 j=if j=i then k' else kA w.A7 j:=λj=>by rw[ek,F9 J]
 have up:∀j:Nat,(sT w j).ti<=(sT w' j).ti:=λj=>by
  unfold sT;rw[kA' j];split
  .rename_i e;rw[e];exact m.ti
  .exact D0 _
 have cam:K4 w n->K4 w' n:=λh=>by
  obtain h|h:=h
  .exact .inl (eg n<|.inl h)
  .by_cases e:n.to.toNat=i
   .rw[e]at h;obtain h1|h1:=m.box n h
    .right;unfold sT;rw[kA' n.to.toNat,A5 e];exact h1
    .exact .inl (eg n<|.inr h1)
   .right;unfold sT;rw[kA' n.to.toNat,A9 e];exact h
 have ove:JE w n->JE w' n:=fun⟨j,h1,h2,h3⟩=>⟨j,h1,h2,Ks h3<|up j⟩;have oth:∀j:Nat,j≠i->Jm w n j->Jm w' n j:=λj hj h=>by
  unfold Jm sT sD;rw[kA' j,A9 hj];exact h
 obtain h|h|⟨j,h,hd⟩:=h
 .exact .inl (cam h)
 .exact .inr (.inl<|ove h)
 .by_cases e:j=i
  .subst e;obtain⟨_,h1,h2⟩:=h;obtain c|c|c:=m.hold n h1 h2
   .exact .inr (.inr ⟨j,by unfold Jm sT sD;rw[kA' j,A5 rfl];exact⟨hi,c⟩,hd⟩)
   .have hw:=(aug (Fa ok hi) h1).2.1;rw[HR ok hi]at hw;exact .inr (.inl ⟨j,hi,hw,by unfold sT;rw[kA' j,A5 rfl];exact c⟩)
   .rcases lets c with h|h|⟨x,hx,hx2⟩
    .exact .inl (cam h)
    .exact .inr (.inl<|ove h)
    .exact .inr (.inr ⟨x,oth x (λe=>by subst e;omega) hx,J⟩)
  .exact .inr<|.inr ⟨j,oth j e h,hd⟩
def HvF.up{w w':AB}{f:Frame}(hs:∀n∈w.AO,n∈w'.AO)(hb:∀n∈w.AO,∀i,Bey w i n->Bey w' i n)(h:HvF w f):HvF w' f:=λe=>by
 obtain⟨n,h1,h2,h3,h4⟩:=h e;exact⟨n,hs n h1,h2,h3,hb n h1 _ h4⟩
def HfG.up{se se':List A3}{h:AE}(hs:∀n∈se,n∈se')(g:HfG se h):HfG se' h:=by
 obtain⟨n,h1,h2⟩:=g;exact⟨n,hs n h1,h2⟩
def RaN(w w':AB)(p:AL):Prop:=p∈w.AS\/(PcI (λn=>n∈w'.AO) p/\ ∀f,Co (BA p.data)=(f,Y)->HvF w' f)
structure NQ (w w':AB) (i:Nat) (k':A8) (a:Act):Prop where
 hi:i<4
 m:Mvd (kA w.A7 i) k' a
 ek:w'.A7=w.A7.set i k'
 se:(w'.AO=w.AO/\ ∀n,a≠ .own n)\/ ∃n,a= .own n/\w'.AO=w.AO++[n]/\At n=Y
 go:(w'.got=w.got/\ ∀n,a≠ .eat n)\/ ∃n,a= .eat n/\w'.got=w.got++[n]
 tk:∀n,a= .take n->n∈w.AO
 lt:∀m,a= .lets m->∃n∈w.AO,n.fr=m.mf/\n.nu=m.mn/\Bey w i n
 ra:∀p∈w'.AS,RaN w w' p
 hf:∀h∈k'.AH,HfG w'.AO h
def NQ.bey{w w':AB}{i:Nat}{k':A8}{a:Act}(s:NQ w w' i k' a)(v:Inv w)(ok:B4 w){n:A3}(hn:n∈w.AO){d:Nat}
  (h:K4 w n\/JE w n\/ ∃j:Nat,Jm w n j/\dsN n j<d):K4 w' n\/JE w' n\/ ∃j:Nat,Jm w' n j/\dsN n j<d:=by
 refine avV ok s.hi s.m s.ek (λx hx=> ?_) (ok.s n hn) (λe=> ?_) h
 .rcases s.go with⟨e,h1⟩|⟨y,e1,e2⟩
  .rw[e];obtain hx|hx:=hx
   .exact hx
   .exact absurd hx (h1 x)
  .rw[e2,BL,CN];obtain hx|hx:=hx
   .exact .inl hx
   .rw[e1]at hx;cases hx;exact .inr rfl
 .obtain⟨x,h1,h2,h3,h4⟩:=s.lt _ e;have:=IX v.sp h1 hn h2 h3;rw[← this];exact h4
def Inv.step{w w':AB}{i:Nat}{k':A8}{a:Act}(v:Inv w)(ok:B4 w)(s:NQ w w' i k' a):Inv w':=by
 have kl:=ok.kl;have hi:=s.hi;have m:=s.m;have kA':∀j,kA w'.A7 j=if j=i then k' else kA w.A7 j:=λj=>by rw[s.ek,F9 J]
 have eT:sT w' i=stT k':=by unfold sT;rw[kA' i,A5 rfl]
 have eD:sD w' i=stD k':=by unfold sD;rw[kA' i,A5 rfl]
 have oT:∀j,j≠i->sT w' j=sT w j:=λj hj=>by unfold sT;rw[kA' j,A9 hj]
 have oD:∀j,j≠i->sD w' j=sD w j:=λj hj=>by unfold sD;rw[kA' j,A9 hj]
 have id':(stT<|kA w.A7 i).id=(i:Int):=HR ok hi;have ses:∀n∈w.AO,n∈w'.AO:=λn hn=>by
  obtain⟨e,_⟩|⟨x,_,e,_⟩:=s.se<;>rw[e]
  .exact hn
  .exact Bw _ hn
 have sen:∀n,n∈w'.AO->n∈w.AO\/a= .own n:=λn hn=>by
  obtain⟨e,_⟩|⟨x,e1,e,_⟩:=s.se<;>rw[e]at hn
  .exact .inl hn
  .rcases BL.1 hn with hn|hn
   .exact .inl hn
   .rw[CN.1 hn];exact .inr e1
 have azS:∀n,a= .own n->n∈w'.AO:=λn hn=>by
  obtain⟨_,e⟩|⟨x,e1,e,_⟩:=s.se
  .exact absurd hn (e n)
  .rw[e1]at hn;cases hn;rw[e];exact CS _<|Od _
 have aA:∀n,a.new n->n∈w'.AO:=λn hn=>by
  obtain hn|hn:=hn
  .exact azS n hn
  .exact ses n<|s.tk n hn
 have gos:∀n∈w.got,n∈w'.got:=λn hn=>by
  obtain⟨e,_⟩|⟨x,_,e⟩:=s.go<;>rw[e]
  .exact hn
  .exact Bw _ hn
 have acq:∀n,a= .own n->n.fr=(i:Int)/\n.nu=(sT w i).nx/\(stT k').nx=(sT w i).nx+1:=λn hn=>by
  obtain⟨_,h⟩|⟨x,h1,h2,h3,h4⟩:=m.nx
  .exact absurd hn (h n)
  .rw[h1]at hn;cases hn;exact⟨h3.trans id',h2,h4⟩
 have nxu:∀j,(sT w j).nx<=(sT w' j).nx:=λj=>by
  by_cases e:j=i
  .subst e;rw[eT];obtain⟨h,_⟩|⟨_,_,_,_,h⟩:=m.nx<;>unfold sT<;>omega
  .rw[oT j e];exact D0 _
 have tiu:∀j,(sT w j).ti<=(sT w' j).ti:=λj=>by
  by_cases e:j=i
  .subst e;rw[eT];exact m.ti
  .rw[oT j e];exact D0 _
 have b0:∀n∈w.AO,∀j,Bey w j n->Bey w' j n:=λn hn j h=>s.bey v ok hn h;have azU:∀n,a= .own n->∀x∈w.AO,Dif x n:=λn hn x hx c=>by
  obtain⟨h1,h2,_⟩:=acq n hn;have:=v.nx x hx;rw[c.1,h1,Bf]at this;have:=c.2;omega
 have sp':w'.AO.Pairwise Dif:=by
  obtain⟨e,_⟩|⟨x,e1,e,_⟩:=s.se<;>rw[e]
  .exact v.sp
  .exact aa8 v.sp<|azU x e1
 have azL:∀n,a.new n->n.to=(i:Int)->∀g∈w.got,Dif g n:=λn hn ht g hg c=>by
  obtain⟨g1,g2⟩:=v.gs g hg;have e:g=n:=IX sp' (ses g g1) (aA n hn) c.1 c.2;obtain⟨h1,h2,_⟩:=m.new n hn;subst e;rw[ht,Bf]at g2;obtain g2|⟨y,y1,y2,y3,_⟩:=g2
  .unfold sT at g2;omega
  .exact h2 y (((v.lo i hi).lf (ok.k i hi).1).mrk y y1) ⟨y2,y3⟩
 have acR:∀n,a.new n->K4 w' n\/JE w' n\/ ∃j:Nat,Jm w' n j/\(n.to≠(i:Int)/\j=i):=λn hn=>by
  obtain⟨_,_,h⟩:=m.new n hn;rw[id']at h;split at h
  .rename_i ht;refine .inl<|.inr ?_;rw[ht,Bf,eT];exact h
  .rename_i ht;exact .inr<|.inr ⟨i,by unfold Jm;rw[eT,eD];exact⟨hi,h⟩,ht,rfl⟩
 have aEk:∀n∈w'.AO,At n=Y:=λn hn=>by
  obtain⟨e,_⟩|⟨x,_,e,h⟩:=s.se<;>rw[e]at hn
  .exact ok.s n hn
  .rcases BL.1 hn with hn|hn
   .exact ok.s n hn
   .rw[CN.1 hn];exact h
 refine⟨λj hj=> ?_,λj hj n hn=> ?_,λj hj n hn=> ?_,λn hn=> ?_,sp', ?_,λg hg=> ?_,λn hn=> ?_,λj hj y hy=> ?_,λp hp=> ?_,λp hp f hu=> ?_,λj hj h hh=> ?_⟩
 .rw[kA' j];split
  .exact m.lo
  .exact v.lo j hj
 .by_cases e:j=i
  .subst e;rw[eD]at hn;obtain h|h:=m.held n hn
   .exact ses n (v.hs j hj n h)
   .exact aA n h
  .rw[oD j e]at hn;exact ses n (v.hs j hj n hn)
 .by_cases e:j=i
  .subst e;rw[eT]at hn;obtain⟨h,ne⟩|⟨h,ht⟩:=m.P9 n hn
   .obtain⟨h1,h2⟩:=v.bx j hj n h;refine⟨ses n h1,λg hg=> ?_⟩;obtain⟨e,_⟩|⟨x,e1,e⟩:=s.go<;>rw[e]at hg
    .exact h2 g hg
    .rcases BL.1 hg with hg|hg
     .exact h2 g hg
     .rw[CN.1 hg];intro c;have:=IX v.sp ((v.bx j hj x (m.eat x e1).1).1) h1 c.1 c.2;rw[this]at e1;exact ne e1
   .rw[id']at ht;refine⟨aA n h,λg hg=> ?_⟩;obtain⟨e,_⟩|⟨x,e1,e⟩:=s.go
    .rw[e]at hg;exact azL n h ht g hg
    .rcases h with h|h<;>rw[h]at e1<;>cases e1
  .rw[oT j e]at hn;obtain⟨h1,h2⟩:=v.bx j hj n hn;refine⟨ses n h1,λg hg=> ?_⟩;obtain⟨e,_⟩|⟨x,e1,e2⟩:=s.go
   .rw[e]at hg;exact h2 g hg
   .rw[e2]at hg;obtain hg|hg:=BL.1 hg
    .exact h2 g hg
    .rw[CN.1 hg];intro c;have hx:=(m.eat x e1).1;have:=IX v.sp ((v.bx i hi x hx).1) h1 c.1 c.2;subst this;have a1:=(mD (Fa ok hi) hx).1;have a2:=(mD (Fa ok hj) hn).1;rw[HR ok hi]at a1;rw[HR ok hj]at a2;omega
 .rcases sen n hn with h|h
  .exact Int.lt_of_lt_of_le (v.nx n h) (nxu _)
  .obtain⟨h1,h2,h3⟩:=acq n h;rw[h1,Bf,eT];omega
 .rcases s.go with⟨e,_⟩|⟨x,e1,e⟩<;>rw[e]
  .exact v.gp
  .exact aa8 v.gp (λg hg=>(v.bx i hi x (m.eat x e1).1).2 g hg)
 .have old:g∈w.got->g∈w'.AO/\(g.un<=(sT w' g.to.toNat).ti\/ ∃m∈(sD w' g.to.toNat).marks,m.mf=g.fr/\m.mn=g.nu/\m.mu=g.un):=λhg=>by
   obtain⟨h1,h2⟩:=v.gs g hg;refine⟨ses g h1, ?_⟩;obtain h2|⟨y,y1,y2,y3,y4⟩:=h2
   .exact .inl (Ks h2<|tiu _)
   .by_cases e:g.to.toNat=i
    .rw[e]at y1 ⊢;rw[eT,eD];obtain c|c:=m.mks y y1
     .exact .inr ⟨y,c,y2,y3,y4⟩
     .exact .inl J
    .rw[oD _ e];exact .inr ⟨y,y1,y2,y3,y4⟩
  obtain⟨e,_⟩|⟨x,e1,e⟩:=s.go<;>rw[e]at hg
  .exact old hg
  .rcases BL.1 hg with hg|hg
   .exact old hg
   .rw[CN.1 hg];obtain⟨hx,hm⟩:=m.eat x e1;obtain⟨b1,b2⟩:=mD (Fa ok hi) hx;rw[HR ok hi]at b1;refine⟨ses x (v.bx i hi x hx).1, ?_⟩;rw[b1,Bf,eT,eD];obtain b2|⟨y,y1,y2,y3⟩:=b2
    .exact .inl (Ks b2 m.ti)
    .obtain⟨z,z1,z2,_⟩:=v.mrk i hi y y1;have:z=x:=IX v.sp z1 (v.bx i hi x hx).1 (by rw[← y2,z2]) (by rw[← y3,z2]);exact .inr ⟨y,hm y y1,y2,y3,by rw[z2,this]⟩
 .rcases sen n hn with h|h
  .rcases v.cu n h with c|c|⟨j,c⟩
   .rcases s.bey v ok h (d:=0) (.inl c) with c|c|⟨j,c,_⟩
    .exact .inl c
    .exact .inr (.inl c)
    .exact .inr (.inr ⟨j,c⟩)
   .rcases s.bey v ok h (d:=0) (.inr<|.inl c) with c|c|⟨j,c,_⟩
    .exact .inl c
    .exact .inr (.inl c)
    .exact .inr (.inr ⟨j,c⟩)
   .rcases s.bey v ok h (.inr<|.inr ⟨j,c,OX _⟩) with c|c|⟨j,c,_⟩
    .exact .inl c
    .exact .inr (.inl c)
    .exact .inr (.inr ⟨j,c⟩)
  .rcases acR n (.inl h) with c|c|⟨j,c,_⟩
   .exact .inl c
   .exact .inr (.inl c)
   .exact .inr (.inr ⟨j,c⟩)
 .have old:∀j,j<4->y∈(sT w j).marks->∃n∈w'.AO,y=⟨n.fr,n.nu,n.un⟩/\Bey w' j n:=λj hj hy=>by
   obtain⟨n,h1,h2,h3⟩:=v.mrk j hj y hy;exact⟨n,ses n h1,h2,b0 n h1 _ h3⟩
  by_cases e:j=i
  .subst e;rw[eT]at hy;obtain h|h|⟨n,h,ht,rfl⟩:=m.mrk y hy
   .exact old j hj h
   .obtain⟨n,h1,h2,h3,h4⟩:=s.lt y h;obtain⟨x,x1,x2⟩:=m.lets y h;have:x=n:=IX v.sp (v.hs j hj x<|((v.lo j hj).lf (ok.k j hj).1).held x x1) h1 (by rw[h2,x2]) (by rw[h3,x2]);subst this;exact⟨x,ses x h1,x2,b0 x h1 _ h4⟩
   .refine⟨n,aA n h,rfl, ?_⟩;rw[id']at ht;obtain c|c|⟨_,_,c,_⟩:=acR n h
    .exact .inl c
    .exact .inr (.inl c)
    .exact absurd ht c
  .rw[oT j e]at hy;exact old j hj hy
 .rcases s.ra p hp with h|h
  .exact(v.ra p h).mono ses
  .exact h.1
 .rcases s.ra p hp with h|h
  .exact(v.hv p h f hu).up ses b0
  .exact h.2 f hu
 .rw[kA' j]at hh;split at hh
  .exact s.hf h hh
  .exact(v.hf j hj h hh).up ses
def aDT{w w':AB}{f:Frame}(h:By f=Y->NJ (λn=>n∈w'.AO) f/\HvF w' f):RaN w w' (pcF f):=by
 refine .inr ⟨PcI.send λe=>(h e).1,λg hg=> ?_⟩;have hg:Co (BA<|BF<|Ca f)=(g,Y):=hg;obtain e|e:=tf (By f)
 .rw[Ns<|O3 f,WD e]at hg;rw[← (Hg hg).1];exact(h e).2
 .unfold Ca at hg;rw[e,A4]at hg;have:=aAf;rw[hg]at this;cases this
def Ze(e:Event)(w w':AB):Prop:=∃i k' a,NQ w w' i k' a/\((∃m,a= .lets m)->e.ki=4)/\((∃n,a= .own n)->e.ki=1)
def Pg{e:Event}{w w':AB}(v:Inv w)(ok:B4 w)(ek:w'.A7=w.A7)(es:w'.AO=w.AO)(eg:w'.got=w.got)(hr:∀p∈w'.AS,RaN w w' p):Ze e w w':=
 ⟨0,kA w.A7 0,.non,⟨J,OO (ok.k 0 J).1<|v.lo 0 J,by rw[ek,Kh],.inl ⟨es,λ_ e=>by cases e⟩,.inl ⟨eg,λ_ e=>by cases e⟩,
  λ_ e=>(by cases e),λ_ e=>(by cases e),hr,λh hh=>(by rw[es];exact v.hf 0 J h hh)⟩,fun⟨_,e⟩=>(by cases e),fun⟨_,e⟩=>(by cases e)⟩
def Le{e:Event}{w:AB}(v:Inv w)(ok:B4 w):Ze e w w:=Pg v ok rfl rfl rfl λ_ h=> .inl h
def aqu{a t:Int}(h:isN (Br a t)=Y)(n:A3)(ht:n.to=t):dsN n (Br a t)<dsN n a:=by
 have h0:=E7 h;revert h0;unfold Br dsN;split
 .omega
 .rename_i h1;intro _;simp only[C0,CE,not_or,Bool.not_eq_false,decide_eq_true_eq]at h1;have:=h1.2.2;split<;>omega
def aqr{f:Frame}(h:By f=Y)(h1:f.ki=1){n:A3}(ht:f.to=n.to):dsN n f.dst<dsN n f.src:=by
 obtain⟨_,r2,_,_,_,_,r7⟩:=OA h;unfold Jl at r7;rw[A5<|AQ h1]at r7;simp only[AD,decide_eq_true_eq]at r7;have e:=r7.2.2.2;rw[e]at r2 ⊢;exact aqu r2 n ht.symm
def auJ{got:List AN}{mix:Int}{da:A1}{m:AN}(h:m∈Cq got mix da):m∈got\/m=⟨mix,da⟩:=by
 unfold Cq at h;obtain h|h:=BL.1 h
 .left;split at h
  .exact(FQ.1<|Ku h).1
  .exact(FQ.1 h).1
 .exact .inr<|CN.1 h
def abE{w:AB}{hv:List AE}{f:Frame}{n:A3}(g:∀h∈hv,HfG w.AO h)(hn:n∈w.AO)(h1:f.fr=n.fr)(h2:f.nu=n.nu)(h3:f.to=n.to)(h4:f.un=n.un)(h5:f.sz=n.tx.size):
  (∀h∈(Ao hv f).1,HfG w.AO h)/\(hA (Ao hv f).1 (Ao hv f).2).fr=f.fr/\(hA (Ao hv f).1 (Ao hv f).2).nu=f.nu:=by
 obtain⟨i,e,hi,e1,e2,_⟩|⟨_,l,sub,e⟩:=jB hv f
 .rw[e];exact⟨g,e1,e2⟩
 .rw[e];refine⟨λh hh=> ?_,by rw[Xu],by rw[Xu]⟩;obtain hh|hh:=BL.1 hh
  .exact g h (sub.subset hh)
  .rw[CN.1 hh];exact⟨n,hn,h1,h2,h3,h4,h5,λm hm=>by cases hm⟩
def mq{l:List AE}{i:Nat}(h:i<l.length):hA l i∈l:=by
 rw[I2 h];exact Cg h
def abd{w:AB}(v:Inv w){hv:List AE}{i:Nat}(hi:i<hv.length){f:Frame}{n:A3}(g:∀h∈hv,HfG w.AO h)(hn:n∈w.AO)(h1:f.fr=n.fr)(h2:f.nu=n.nu)(h6:f.da=GH n.tx f.mix)
  (e1:(hA hv i).fr=f.fr)(e2:(hA hv i).nu=f.nu):(∀h∈Cv hv i f,HfG w.AO h)/\Oy n.tx (Cq (hA hv i).got f.mix f.da):=by
 obtain⟨x,x1,x2,x3,x4,x5,x6,x7⟩:=g _<|mq hi;have e:x=n:=IX v.sp x1 hn (by rw[← x2,e1,h1]) (by rw[← x3,e2,h2]);subst e;have ht:Oy x.tx (Cq (hA hv i).got f.mix f.da):=λm hm fit=>by
  obtain c|c:=auJ hm
  .exact x7 m c fit
  .rw[c];exact h6
 refine⟨λh hh=> ?_,ht⟩;unfold Cv at hh;obtain c|c:=TF hh
 .exact g h c
 .rw[c];exact⟨x,x1,x2,x3,x4,x5,x6,ht⟩
def ax9{w w':AB}(hg:w'.got=w.got){n:A3}{i:Int}(hT:∀j,sT w' j=sT w j)(hD:∀j,sD w' j=sD w j\/sD w' j=sT w j)(h:Bey w i n):Bey w' i n:=by
 obtain h|⟨j,h1,h2,h3⟩|⟨j,⟨h1,h2,h3⟩,h4⟩:=h
 .exact .inl (by unfold K4;rw[hg,hT];exact h)
 .exact .inr (.inl ⟨j,h1,h2,by rw[hT];exact h3⟩)
 .refine .inr (.inr ⟨j,⟨h1,by rw[hT];exact h2, ?_⟩,h4⟩);obtain e|e:=hD j<;>rw[e]<;>assumption
def Mvd.ofH{k k':A8}{hv:List AE}{a:Act}(m:Mvd (Gc k hv) k' a):Mvd k k' a:=⟨m.lo,m.id,m.ti,m.nx,m.hold,m.held,m.box,m.P9,m.mrk,m.mks,m.new,m.eat,m.lets⟩
def auh{w:AB}(v:Inv w)(ok:B4 w){i:Nat}(hi:i<4){f:Frame}(hf:By f=Y)(hd:f.dst=(i:Int))(g:NJ (λn=>n∈w.AO) f)(hv:HvF w f){ra:List AL}(hra:∀p∈ra,p∈w.AS):
  ∃a,NQ w ⟨w.ti,w.A7.set i (CB (kA w.A7 i) f).1,w.Al,C1 ra (CB (kA w.A7 i) f).2,w.AO,w.got⟩ i (CB (kA w.A7 i) f).1 a/\ ∀n,a≠ .own n:=by
 have hok:=(ok.k i hi).1;have hid:=(ok.k i hi).2;have kl:=ok.kl;have lo:=v.lo i hi;have mkS:∀(k':A8) (fs:List Frame) (a:Act),Mvd (kA w.A7 i) k' a->(∀n,a≠ .own n)->(∀n,a≠ .eat n)->(∀n,a= .take n->n∈w.AO)->(∀m,a= .lets m->∃n∈w.AO,n.fr=m.mf/\n.nu=m.mn/\Bey w i n)->(∀h∈k'.AH,HfG w.AO h)->
   (∀x∈fs,NJ (λn=>n∈w.AO) x/\HvF ⟨w.ti,w.A7.set i k',w.Al,C1 ra fs,w.AO,w.got⟩ x)->∃a,NQ w ⟨w.ti,w.A7.set i k',w.Al,C1 ra fs,w.AO,w.got⟩ i k' a/\ ∀n,a≠ .own n:=λk' fs a m n1 n2 n3 n4 n5 n6=>
  ⟨a,⟨hi,m,rfl,.inl ⟨rfl,n1⟩,.inl ⟨rfl,n2⟩,n3,n4,λp hp=>by
   obtain hp|⟨x,hx,rfl⟩:=aDJ hp
   .exact .inl (hra p hp)
   .exact aDT λ_=>n6 x hx,n5⟩,n1⟩
 have stay:∃a,NQ w ⟨w.ti,w.A7.set i<|kA w.A7 i,w.Al,C1 ra [],w.AO,w.got⟩ i (kA w.A7 i) a/\ ∀n,a≠ .own n:=mkS _ _ .non (OO hok lo) (λ_ e=>by cases e) (λ_ e=>by cases e) (λ_ e=>by cases e) (λ_ e=>by cases e) (v.hf i hi) (λx hx=>by cases hx);have non:∀(k':A8) (fs:List Frame),Mvd (kA w.A7 i) k' .non->(∀h∈k'.AH,HfG w.AO h)->(∀x∈fs,NJ (λn=>n∈w.AO) x/\HvF ⟨w.ti,w.A7.set i k',w.Al,C1 ra fs,w.AO,w.got⟩ x)->∃a,NQ w ⟨w.ti,w.A7.set i k',w.Al,C1 ra fs,w.AO,w.got⟩ i k' a/\ ∀n,a≠ .own n:=
  λk' fs m h1 h2=>mkS k' fs .non m (λ_ e=>by cases e) (λ_ e=>by cases e) (λ_ e=>by cases e) (λ_ e=>by cases e) h1 h2
 rw[Xg hok];unfold HW;split
 .rename_i hc;simp only[AD]at hc;split
  .rename_i h1;have h1:f.ki=1:=Bc h1;obtain⟨n,hn,nok,g1,g2,g3,g4,g5,g6⟩:=g h1;have hds:=aqr hf h1 g3;rw[hd]at hds;unfold E9;split
   .exact non _ _ (OO hok lo) (v.hf i hi) (λx hx=>by
     rw[CN.1 hx];exact⟨λe=>(by cases e),λe=>(by cases e)⟩)
   split
   .rename_i hh;obtain⟨_,a1,a2,a3⟩:=mI hok;refine non _ _ (Px hok lo a1 a3<|.inr a2) (v.hf i hi) (λx hx=> ?_);rw[CN.1 hx];refine⟨λe=>(by cases e),λ_=>⟨n,hn,g1.symm,g2.symm, ?_⟩⟩;obtain hh|hh:=hh
    .obtain⟨j0,_,j2,j3⟩:=Eo hh;have hm:=Gx j0;have hs:=v.hs i hi _<|(lo.lf hok).held _ hm;have e:=IX v.sp hs hn (by rw[j2,g1]) (by rw[j3,g2]);rw[e]at hm;refine .inr (.inr ⟨i,⟨hi, ?_, ?_⟩,hds⟩)
     .show n∈(stT<|kA (w.A7.set i _) i).held;rw[F9 J,A5 rfl,a3];exact hm
     .show n∈(stD<|kA (w.A7.set i _) i).held;rw[F9 J,A5 rfl,a2];exact hm
    .obtain⟨j0,_,j2,j3⟩:=Sk hh;have hm:mA (stT<|kA w.A7 i).marks (Bj (stT<|kA w.A7 i).marks f.fr f.nu).toNat∈(stT<|kA w.A7 i).marks:=by
      rw[mA,B8,Au j0];exact Cg j0
     obtain⟨z,z1,z2,z3⟩:=v.mrk i hi _ hm;have e:=IX v.sp z1 hn (by rw[← g1,← j2,z2]) (by rw[← g2,← j3,z2]);subst e;have z4:=ax9 (w:=w) (w':=⟨w.ti,w.A7.set i<|foM<|kA w.A7 i,w.Al,C1 ra [De 2 f],w.AO,w.got⟩) rfl (n:=z) (i:=(i:Int)) (λj=>by
       show stT (kA (w.A7.set i _) j)=_;rw[F9 J];split
       .rename_i e;rw[e,a3]
       .rfl) (λj=>by
       show stD (kA (w.A7.set i _) j)=_\/stD (kA (w.A7.set i _) j)=_;rw[F9 J];split
       .rename_i e;rw[e,a2];exact .inr rfl
       .exact .inl rfl) z3
     obtain c|c|⟨j,c1,c2⟩:=z4
     .exact .inl c
     .exact .inr (.inl c)
     .exact .inr<|.inr ⟨j,c1,Yb c2 hds⟩
   split
   .exact stay
   .obtain⟨p1,p2,p3⟩:=abE (v.hf i hi) hn g1 g2 g3 g4 g5;have plt:=OC (hv:=(kA w.A7 i).AH) (f:=f);obtain⟨q1,q2⟩:=abd v plt p1 hn g1 g2 g6 p2 p3;have mH:∀hv,Mvd (kA w.A7 i) (Gc (kA w.A7 i) hv) .non:=λhv=>Px hok lo lo rfl (.inl rfl);unfold K0;split
    .split
     .rename_i ht;rw[g5]at ht;have ht:=aCs (Mf nok) q2 ht;have e:(⟨f.fr,f.nu,f.to,f.un,(FA f.sz<|Cq (hA (Ao (kA w.A7 i).AH f).1 (Ao (kA w.A7 i).AH f).2).got f.mix f.da).1⟩:A3)=n:=by
       rw[g5,ht,g1,g2,g3,g4]
      rw[e];have hdr:=(mW hok hc.1 hc.2.1 h1).ok;have hh:∀h∈FG (Cv (Ao (kA w.A7 i).AH f).1 (Ao (kA w.A7 i).AH f).2 f) (Ao (kA w.A7 i).AH f).2,HfG w.AO h:=λh hh=>q1 h<|avy hh;unfold Kg;split
      .rename_i hw;rw[AD]at hw;have mt:=(Ys hdr (show LO (Gc (kA w.A7 i) _) from lo) hw.2 (a:= .take n) (λo ho=>(aaa (C5 hdr).kok nok ho).1) λ_ e=>by cases e).2;have mt:=mt.ofH;refine mkS _ _ (.take n) mt (λ_ e=>by cases e) (λ_ e=>by cases e) (λx e=>by cases e;exact hn) (λ_ e=>by cases e) (λh hx=>hh h (by rw[T7]at hx;exact hx)) (λx hx=> ?_);rw[CN.1 hx];refine⟨λe=>(by cases e),λ_=>⟨n,hn,g1.symm,g2.symm, ?_⟩⟩;obtain⟨_,_,hnw⟩:=mt.new n<|.inr rfl;rw[HR ok hi]at hnw;split at hnw
       .rename_i hto;refine .inl<|.inr ?_;show n∈(stT<|kA (w.A7.set i _) n.to.toNat).inbox;rw[hto,Bf,F9 J,A5 rfl];exact hnw
       .refine .inr (.inr ⟨i,⟨hi, ?_, ?_⟩,hds⟩)
        .show n∈(stT<|kA (w.A7.set i _) i).held;rw[F9 J,A5 rfl];exact hnw.1
        .show n∈(stD<|kA (w.A7.set i _) i).held;rw[F9 J,A5 rfl];exact hnw.2
      .exact non _ _ (mH _) hh (λx hx=>by cases hx)
     .exact non _ _ (mH _) q1 (λx hx=>by cases hx)
    .exact non _ _ (mH _) p1 (λx hx=>by cases hx)
  .split
   .rename_i h2;rw[AD]at h2;have h2:f.ki=2:=Bc h2.1;obtain⟨r1,r2,r3⟩:=ji hf;obtain e|e:=tf (wrR (kA w.A7 i) (CX Bx f.fr f.nu f.un) A0).2
    .refine mkS _ _ _ (awC hok lo r1 r2 r3 e) (λ_ e=>by cases e) (λ_ e=>by cases e) (λ_ e=>by cases e) (λm em=> ?_) (λh hx=>v.hf i hi h (by rw[T7]at hx;exact hx)) (λx hx=>by cases hx);cases em;obtain⟨n,n1,n2,n3,n4⟩:=hv h2;rw[hd]at n4;exact⟨n,n1,n2,n3,n4⟩
    .have:=Q5 e;simp only[this];exact stay
   .exact stay
 .exact stay
def axM{k:A8}{fr nu mix:Int}(hb:(ED k fr nu mix).2=Y):(ED k fr nu mix).1.ki=1:=by
 unfold ED at hb ⊢;split at hb
 .rename_i hc;rw[A5 hc]
 .cases hb
def auF{w:AB}(v:Inv w)(ok:B4 w)(e:Event):Ze e w (doM w e).1:=by
 have kl:=ok.kl;have old:∀ {w':AB} {p:AL},p∈w.AS->RaN w w' p:=λh=> .inl h;unfold doM;split
 .rename_i hk;unfold E8;split
  .rename_i h2;have h2:=AY.1 h2;have hlt:e.wo.toNat<w.AS.length:=J
   have hpc:=v.ra _<|ab6 hlt;split
   .split
    .rename_i h3;simp only[AD,CE]at h3;refine Pg v ok rfl rfl rfl (λp hp=> ?_);obtain h4|h4:=TF hp
     .exact old h4
     .rw[h4];have:=hpc.ayR h3.1 h3.2.1 h3.2.2;refine .inr ⟨this,λf hu=> ?_⟩;have hb:=this.bad rfl;rw[hu]at hb;cases hb
    .exact Le v ok
   .split
    .exact Pg v ok rfl rfl rfl (λp hp=>old<|aDD hp)
    .split
     .have hra:∀p∈(if e.kp=0 then J9 w.AS e.wo.toNat else w.AS),p∈w.AS:=by
       intro p hp;split at hp
       .exact aDD hp
       .exact hp
      unfold EP;split
      .rename_i hc;simp only[AD,decide_eq_true_eq]at hc;obtain⟨f,hu,hfo,_,hd,hg,_⟩:=hpc.frame hc.1;have hv:=v.hv _ (ab6 hlt) f hu;obtain⟨_,⟨d0,d1⟩,_⟩:=La<|Po ok hlt;rw[hu];obtain⟨a,s,na⟩:=auh v ok (i:=(pA w.AS e.wo.toNat).dst.toNat) J hfo (by rw[← hd];omega) hg hv hra;exact⟨_,_,a,s,λ_=>by omega,fun⟨n,e⟩=>absurd e<|na n⟩
      .exact Pg v ok rfl rfl rfl (λp hp=>old<|hra p hp)
     .exact Le v ok
  .exact Le v ok
 split
 .unfold Ef;split
  .exact Pg v ok rfl rfl rfl (λp hp=>old hp)
  .exact Le v ok
 split
 .rename_i ha;have ha:=E7 ha;have hi:e.at_.toNat<4:=J
  have hok:=(ok.k _ hi).1;have lo:=v.lo _ hi;have one:∀ {k':A8},Mvd (kA w.A7 e.at_.toNat) k' .non->(∀h∈k'.AH,h∈(kA w.A7 e.at_.toNat).AH)->Ze e w (GW w e.at_.toNat k'):=λm hh=>
   ⟨_,_,_,⟨hi,m,rfl,.inl ⟨rfl,λ_ e=>(by cases e)⟩,.inl ⟨rfl,λ_ e=>(by cases e)⟩,λ_ e=>(by cases e),λ_ e=>(by cases e),λp hp=>old hp,λh hx=>v.hf _ hi h<|hh h hx⟩,fun⟨_,e⟩=>(by cases e),fun⟨_,e⟩=>(by cases e)⟩
  unfold GZ;split
  .rename_i h1;unfold Jv;split
   .exact Le v ok
   .split
    .exact Le v ok
    .rename_i h0;have hid:=(ok.k _ hi).2;have hn:=aCN (k:=kA w.A7 e.at_.toNat) h0;have m:=awB hok lo (tt:=e.to) (un:=e.un) (tx:=e.tx) h0;have eid:(kA w.A7 e.at_.toNat).id=e.at_:=J
     rw[eid]at hn m;refine⟨_,_,_,⟨hi,m,rfl,.inr ⟨_,rfl,rfl,hn⟩,.inl ⟨rfl,λ_ e=>(by cases e)⟩,λ_ e=>(by cases e),λ_ e=>(by cases e),λp hp=>old hp,λh hx=> ?_⟩,fun⟨_,e⟩=>(by cases e),λ_=>h1⟩;rw[awR]at hx;exact(v.hf _ hi h hx).up (λn hn=>Bw _ hn)
  .split
   .exact one (atk hok lo) (λh hx=>by rw[av5]at hx;exact hx)
   .split
    .split
     .rename_i hb;refine Pg v ok rfl rfl rfl (λp hp=> ?_);obtain hp|⟨x,hx,rfl⟩:=aDJ hp
      .exact old hp
      .rw[CN.1 hx];exact aDT λ_=>⟨awE hok (λn hn=>v.hs _ hi n<|(lo.lf hok).held n hn) hb,λe=>by rw[axM hb]at e;cases e⟩
     .exact Le v ok
    .split
     .exact one (ato hok lo _).2 (λh hx=>by cases hx)
     .split
      .exact one (atl hok lo) (λh hx=>hx)
      .split
       .unfold M7;split
        .rename_i hc;rw[AD]at hc;exact⟨_,_,_,⟨hi,awD hok lo hc.1,rfl,.inl ⟨rfl,λ_ e=>(by cases e)⟩,.inr ⟨_,rfl,rfl⟩,λ_ e=>(by cases e),λ_ e=>(by cases e),λp hp=>old hp,λh hx=>v.hf _ hi h (by rw[axa]at hx;exact hx)⟩,fun⟨_,e⟩=>(by cases e),fun⟨_,e⟩=>(by cases e)⟩
        .exact Le v ok
       .split
        .exact one (atm hok lo) (λh hx=>by rw[avz]at hx;exact hx)
        .split
         .exact one (asZ hok lo) (λh hx=>by rw[auR]at hx;exact hx)
         .exact Le v ok
 .exact Le v ok
def Inv.doM{w:AB}(v:Inv w)(ok:B4 w)(e:Event):Inv (doM w e).1:=by
 obtain⟨_,_,_,s,_⟩:=auF v ok e;exact v.step ok s
def Inv.tick{w:AB}(v:Inv w)(ok:B4 w)(b:Bool):Inv (tick w b):=by
 unfold Go.VS.tick;cases b
 .exact v
 .obtain⟨_,_,_,s,_⟩:=Pg (e:=⟨0,0,0,0,0,0,0,0,0,noB⟩) (w':=⟨w64<|w.ti+1,w.A7,w.Al,w.AS,w.AO,w.got⟩) v ok rfl rfl rfl (λp hp=> .inl hp);exact v.step ok s
def Inv.sim{w:AB}(v:Inv w)(ok:B4 w)(e:Event):Inv (Ck w e):=(v.doM ok e).tick (mQ ok e) _
def Ym{i:Nat}(hi:i<4):stT (kA rv0.A7 i)=⟨(i:Int),0,1,[],[],[]⟩/\LO (kA rv0.A7 i)/\stD (kA rv0.A7 i)=⟨(i:Int),0,1,[],[],[]⟩:=by
 have hk:=(Zm.k i hi).1;have e:=ZG hi;have hf:(kA rv0.A7 i).fo=((kA rv0.A7 i).log.size:Int):=by rw[e];rfl
 have h1:=Sq hk hf;have h2:stT (kA rv0.A7 i)=⟨(i:Int),0,1,[],[],[]⟩:=by
  have l:C7 (kA rv0.A7 i).log (kA rv0.A7 i).fo [] []:=by
   rw[e];exact⟨λr hr=>(by cases hr),(by show noB.size<=2400;decide),rfl,rfl⟩
  have:=(FJ hk).st;rw[l.state]at this;rw[e]at this;unfold CY kp0 at this;rw[A5<|Gw hi]at this;rw[e];exact(Ei this).symm
 exact⟨h2,h1.1,h1.2.trans h2⟩
def ZW:Inv rv0:=by
 refine⟨λi hi=>(Ym hi).2.1,λi hi n hn=> ?_,λi hi n hn=> ?_,λn hn=>(by cases hn),.nil,.nil,λg hg=>(by cases hg),λn hn=>(by cases hn),λi hi m hm=> ?_,λp hp=>(by cases hp),λp hp=>(by cases hp),λi hi h hh=> ?_⟩
 .unfold sD at hn;rw[(Ym hi).2.2]at hn;cases hn
 .unfold sT at hn;rw[(Ym hi).1]at hn;cases hn
 .unfold sT at hm;rw[(Ym hi).1]at hm;cases hm
 .rw[ZG hi]at hh;cases hh
def B6(w:AB)(e:Event):AB:=(EC w e).1
def DV(w:AB)(l:List Event):AB:=l.foldl B6 w
def Dy(l:List Event):AB:=if 2000<l.length then rv0 else DV rv0 l
def Sd:B5 rv0=Y:=aa7 Zm aEp<|by decide
def aCH{P:AB->Prop}{Q:Event->Prop}(hs:∀w e,B5 w=Y->P w->Q e->(doM w e).2=Y->P (Ck w e)):∀(l:List Event) {w:AB},B5 w=Y->P w->(∀e∈l,Q e)->B5 (DV w l)=Y/\P (DV w l)
 | [],w,h,p,_=>⟨h,p⟩
 | e::l,w,h,p,q=>by
  have hq:=q e<|.head _;refine aCH hs l (w:=B6 w e) ?_ ?_ λx hx=>q x<|.tail _ hx
  all_goals
   unfold B6;obtain⟨h0,_⟩|⟨_,h0⟩|⟨_,h1,h2,h0⟩:=S1 w e
   .rw[h]at h0;cases h0
   .rw[h0];assumption
   .rw[h0]
    first|exact aDI h h1 h2|exact hs w e h p hq h2
def aCI(w:AB)(l m:List Event):DV w (l++m)=DV (DV w l) m:=G3
def jD{l:List Event}{w:AB}(h:B5 w=Y)(v:Inv w):B5 (DV w l)=Y/\Inv (DV w l):=
 aCH (Q:=λ_=>True) (λw e h v _ _=>v.sim (Fs h).1 e) l h v (λ_ _=>trivial)
def aCG(l:List Event):B5 (Dy l)=Y/\Inv (Dy l):=by
 unfold Dy;split
 .exact⟨Sd,ZW⟩
 .exact jD Sd ZW
def aht:ba ()=I ((tR rv0,()),()):=by
 have h0:aT (tR zR,tR zR,0,())=I (.inr (tR zR,tR rv0,())):=by
  have st:∀(n:Nat) (l:List A8) (m:List Bool),n<4->l.length<=4->m.length<=4->UP (tR zR,tR ⟨0,l,m,[],[],[]⟩,(n:Int),())=I (.inl (tR zR,tR ⟨0,l++[kp0 n],if n=0 then m else m++[Y],[],[],[]⟩,((n+1:Nat):Int),())):=by
   intro n l m hn hl hm;unfold UP pn;have e1:Ab (l.length+1)=Y:=BD J;have e2:Ab (m.length+1)=Y:=BD J;have e3:w64 ((n:Int)+1)=((n+1:Nat):Int):=Aa J J;simp only[AQ<|show(n:Int)<4 by omega,A2,Je,A6,Gw hn,AA,A4,JJ,e1,e2,e3];by_cases c:n=0
   .subst c;rfl
   .rw[AQ<|show(0:Int)<(n:Int) by omega,A5 rfl,A9 c];rfl
  have fin:UP (tR zR,tR rv0,4,())=I (.inr<|.inr (tR zR,tR rv0,())):=rfl;exact Av (st 0 [] [] aEp aEp aEp)<|Av (st 1 _ _ aEp aEp aEp)<|Av (st 2 _ _ aEp aEp aEp)<|Av (st 3 _ _ aEp aEp aEp)<|BH fin
 unfold ba;rw[show aT _=_ from h0];simp only[AP,RQ Zm.sm,A6]
def agl:RH ()=I ((tR rv0,()),()):=aac
def evA(l:List Event)(i:Nat):Event:=l.getD i<|dfl .CJ
def aDR(l:List Event)(i:Nat): @rd Event aEy l (i:Int)=evA l i:=rfl
def abQ{l:List Event}{i:Nat}(h:i<l.length):evA l i=l[i]:=by
 unfold evA;rw[B8,Au h];rfl
def aAZ{w:AB}{l:List Event}{i:Nat}(h:i<l.length):DV w (l.take<|i+1)=B6 (DV w<|l.take i) (evA l i):=by
 rw[abQ h,JP,Au h,aCI];rfl
def aDY(l:List Event):B5 (DV rv0 l)=Y:=(jD Sd ZW (l:=l)).1
def aus(l:List Event):SmR (DV rv0 l):=(Fs<|aDY l).1.sm
def abP{l:List Event}(h:∀e∈l,e.tx.size<=1048576){i:Nat}(hi:i<l.length):(evA l i).tx.size<=1048576:=by
 rw[abQ hi];exact h _<|Cg hi
def ai6{l:List Event}(hl:l.length<=4294967296)(h:∀e∈l,e.tx.size<=1048576):cS (l,())=I ((tR<|Dy l,()),()):=by
 unfold cS Dy;rw[agl];simp only[A6];by_cases c:2000<l.length
 .rw[A5 c,AQ<|show(2000:Int)<(j8 l:Int) by omega,A5 rfl]
 .rw[A9 c,B1 (J:¬(2000:Int)<(j8 l:Int)),A4];have h0:aL (l,tR zR,tR rv0,0,())=I (.inr (tR zR,tR<|DV rv0<|l.take l.length,())):=
   Ch (λi=>(l,tR zR,tR<|DV rv0<|l.take i,(i:Int),())) l.length (λi hi=>by
    unfold bT;have hd:=alf (aus<|l.take i) (e:=evA l i)<|abP h hi;simp only[BQ hi,AW hi,A2,aDR];rw[show Nc (tR<|DV rv0<|l.take i,tE<|evA l i,())=_ from hd];simp only[A6,BI hi (by omega:l.length<=9223372036854775807),aAZ hi];rfl) (by simp[bT])
  rw[show aL _=_ from h0,E4];rfl
def aii{l:List Event}(hl:l.length<=4294967296)(h:∀e∈l,e.tx.size<=1048576):cH (l,())=I ((tR<|Dy l,()),()):=by
 unfold cH Dy;rw[aht];simp only[A6];by_cases c:2000<l.length
 .rw[A5 c,AQ<|show(2000:Int)<(j8 l:Int) by omega,A5 rfl]
 .rw[A9 c,B1 (J:¬(2000:Int)<(j8 l:Int)),A4];have h0:aS (tR zR,tR rv0,l,(j8 l:Int),0,())=I (.inr (tR zR,tR<|DV rv0<|l.take l.length,())):=
   Ch (λi=>(tR zR,tR<|DV rv0<|l.take i,l,(j8 l:Int),(i:Int),())) l.length (λi hi=>by
    unfold bd;have hr:=aDY<|l.take i;have hw:=Fs hr;have hd:=rj hw.1 hw.2.1 hw.2.2 (e:=evA l i)<|abP h hi;simp only[BQ hi,AW hi,A2,aDR];rw[show Hl (tR<|DV rv0<|l.take i,tE<|evA l i,())=_ from hd];have e:B6 (DV rv0<|l.take i) (evA l i)=(if U (99999<=(DV rv0<|l.take i).ti) then(DV rv0<|l.take i,A0) else if(doM (DV rv0<|l.take i)<|evA l i).2 then(Ck (DV rv0<|l.take i)<|evA l i,Y) else(DV rv0<|l.take i,A0)).1:=by
     unfold B6 EC;rw[A5 hr]
    simp only[A6,BI hi (by omega:l.length<=9223372036854775807),aAZ hi,e]) (by simp[bd])
  rw[show aS _=_ from h0,E4];rfl
def XV(l:List Event):B5 (Dy l)=Y:=(aCG l).1
def aDa(l:List Event):SmR (Dy l):=(Fs<|XV l).1.sm
def Reach.tx{ev:List Event}{w:AB}(h:Reach ev w):∀e∈ev,e.tx.size<=1048576:=by
 induction h with
 | nil=>exact λe he=>by cases he
 | snoc _ _ ht ih=>exact kS ih ht
def aqn(l:List A8)(i:Nat): @rd A8 aEm l (i:Int)=kA l i:=rfl
def aDC(n:Nat):U ((n:Int)<(n:Int))=A0:=by simp
end Go.VS
end
