/- Part 20. -/
import Derived.Test.YtlhpnadjdlppaaaGreatDoorQAS
open BitVec renaming eq_of_toNat_eq->jU,ofInt->Ez,toNat_ofInt->RG
open Bool renaming and_eq_true->AI,and_false->BZ,and_self->Cd,and_true->M4,false->A3,false_and->AN,false_ne_true->CV,false_or->Bo,not_eq_true'->Df,not_false->AE,not_true->AB,or_eq_false_iff->NO,or_eq_true->Cj,or_false->EN,or_self->Fa,or_true->DL,true->A1,true_and->AW,true_or->Bq
open ByteArray renaming size->Vq,size_extract->VU
open Decidable renaming decide->A0
open Eq renaming trans->Kl
open Go.Lib renaming itoa->B6
open Int renaming eq_ofNat_of_zero_le->Gx,le_refl->Ja,mul_comm->QZ,mul_le_mul_of_nonneg_right->cO,mul_nonneg->XR,not_lt->WH,tdiv->Ay,tdiv_eq_ediv_of_nonneg->G5,tdiv_nonneg->kB,tmod->B5,tmod_eq_emod_of_nonneg->KE,tmod_lt_of_pos->Ph,tmod_nonneg->Qn,toNat->AK,toNat_natCast->Bw,toNat_of_nonneg->oR
open List renaming all_cons->PJ,all_eq_true->C0,append_assoc->C2,append_nil->C1,drop->Bp,drop_append_of_le_length->oh,drop_drop->Jw,drop_eq_nil_of_le->KH,drop_sublist->dC,drop_zero->Ib,eq_nil_of_length_eq_zero->E9,ext_getElem?->nY,filter_append->Xf,filter_cons->J7,filter_nil->aD,foldl_cons->E6,getD_eq_getElem?_getD->BG,getElem?_append_right->Ek,getElem?_eq_getElem->B3,getElem?_eq_none->I0,getElem?_map->D5,getElem?_range->Gg,getElem?_replicate->WQ,getElem?_set->To,getElem?_set_self->dm,getElem?_take->Gp,getElem_mem->Cm,getElem_of_mem->Dm,length_append->Ap,length_cons->Bt,length_drop->Dc,length_filter_le->IZ,length_map->EG,length_nil->CB,length_set->FK,length_singleton->JW,length_take->DN,map_append->F1,map_congr_left->GM,map_cons->DI,map_id->S1,map_map->HY,map_nil->JV,mem_append->Bk,mem_cons->Bj,mem_cons_of_mem->Aj,mem_cons_self->An,mem_filter->Hg,mem_iff_getElem->Wq,mem_map->DF,mem_of_mem_drop->Jm,mem_of_mem_take->ID,mem_or_eq_of_mem_set->Qc,mem_range->D7,mem_singleton->DG,mem_singleton_self->OK,nil_append->Ef,nodup_append->LY,not_mem_nil->NN,pairwise_iff_getElem->nt,range->BO,range_succ->Kw,replicate->BX,set->Bn,set_append_right->tl,take->BH,take_add_one->Lm,take_append_drop->Kk,take_length->Ep,take_of_length_le->K8,take_take->aY
open List.Sublist renaming refl->Et
open List.cons renaming injEq->Ln
open Nat renaming add_zero->HN,le_of_ble_eq_true->D8,le_refl->Ar,le_trans->C7,lt_or_ge->GO,min_eq_left->Qe,pow_le_pow_right->ae1,pow_succ->Re,sub_self->Ls,sub_zero->JR,zero_add->DS,zero_le->Ce
open Option renaming bind_some->A9,getD_some->CF,isSome_some->CE,map_some->RA,none->U,some->I
open Or renaming inl->Nv,inr->Nh
open Prod.mk renaming injEq->CD
set_option linter.all false
noncomputable section
namespace Go.VS
open Go
abbrev two(n:Int):List Int:=[w8 (w64<|Ay n 256),w8<|B5 n 256]
abbrev QQ(f:Frame):List Int:=[w8 f.ki,w8 f.src,w8 f.dst,w8 f.fr,w8 f.nu,w8 f.to,w8<|w64<|Ay f.un 256,w8<|B5 f.un 256]
def ET(f:Frame):List Int:=if A0 (f.ki=1) then(QQ f++[w8 f.sz,w8<|w64<|Ay f.mix 256,w8<|B5 f.mix 256])++BB f.da else QQ f
def CY(f:Frame):List Int:=if Co f then ET f++two (Es (ET f) 0 0) else []
def ig{l:List Int}(n:Int)(hl:l.length<=1048576):Np (l,n,())=I ((l++two n,()),()):=by
 unfold Np;rw[A8<|B7 (by simp;omega)]
def cn(f:Frame):BOk (ET f):=by
 unfold ET;split
 .exact BOk.app (.cons _<|.cons _<|.cons _<|.cons _<|.cons _<|.cons _<|.cons _<|.cons _<|.cons _<|.cons _<|.cons _ .nil) (BOk.str _)
 .exact .cons _<|.cons _<|.cons _<|.cons _<|.cons _<|.cons _<|.cons _<|.cons _ .nil
def fN{f:Frame}(h:Co f=A1)(hk:A0 (f.ki=1)=A1):f.da.size=4:=by
 unfold Co Mp at h;simp only[AI]at h;have h:=h.2.2.2.2.2.2;rw[A8 hk]at h;simp only[AI]at h;have:=BP h.2.2.1;omega
def YC{f:Frame}(h:Co f=A1):(ET f).length<=15:=by
 unfold ET;split
 .rename_i hk;have:=fN h hk;simp[Sp,Av];omega
 .simp
def adn(f:Frame):Oa (tF f,())=I ((CY f,()),()):=by
 unfold Oa CY;simp only[qz,A9];rcases tf (Co f) with e|e
 .simp only[e,AB,A6,A5];have hl:=YC e;have hj:∀ {X Ω:Type} (g:X->Option Ω) (y:X),B8 g (I<|.inr y)=g y:=λ_ _=>rfl;have hs:=aqF (cn f) J;have key:∀l,l=ET f->((UP (l,())).bind λr4=>if Ab (l.length+(two r4.1.1).length) then(aM ((l++two r4.1.1),())).bind λr5=>I (r5.1,()) else U)=I ((ET f++two (Es (ET f) 0 0),()),()):=by
   rintro l rfl;simp only[hs,A9];rw[A8<|B7 (by simp;omega),agV (by simp;omega)];rfl
  rcases tf (A0<|f.ki=1) with e1|e1
  .have hd:=fN e e1;have hb:ET f=(QQ f++[w8 f.sz,w8<|w64<|Ay f.mix 256,w8<|B5 f.mix 256])++BB f.da:=by unfold ET;rw[A8 e1]
   rw[A8 e1,A8<|B7<|by simp,A8<|B7 (by simp[Sp,Av];omega),hj];exact key _ hb.symm
  .have hb:ET f=QQ f:=by unfold ET;rw[e1,A6]
   rw[AD (by rw[e1];exact CV),hj];exact key _ hb.symm
 .simp only[e,AE,A5,A6]
def qb(f:Frame):OR (tF f,())=I ((CY f,()),()):=by
 unfold OR CY;simp only[aaN,A9];rcases tf (Co f) with e|e
 .simp only[e,AB,A6,A5];have hl:=YC e;have hs:=afC (cn f) J;have key:∀l,l=ET f->((Pp (l,())).bind λr6=>(Np (l,r6.1)).bind λr7=>I (r7.1,()))=I ((ET f++two (Es (ET f) 0 0),()),()):=by
   rintro l rfl;simp only[hs,A9];rw[ig _ J];rfl
  rw[A8<|by rfl,ig _<|by simp];simp only[A9];rcases tf (A0<|f.ki=1) with e1|e1
  .have hd:=fN e e1;have hb:ET f=(QQ f++[w8 f.sz,w8<|w64<|Ay f.mix 256,w8<|B5 f.mix 256])++BB f.da:=by unfold ET;rw[A8 e1]
   rw[A8 e1,A8<|by rfl,ig _<|by simp];simp only[A9];rw[A8<|B7 J,A8<|B7 (by simp[Sp,Av];omega)];exact key _ (by rw[hb];rfl)
  .have hb:ET f=QQ f:=by unfold ET;rw[e1,A6]
   rw[AD (by rw[e1];exact CV)];exact key _ (by rw[hb];rfl)
 .simp only[e,AE,A5,A6]
abbrev zF:Frame:=⟨0,0,0,0,0,0,0,0,0,noB⟩
abbrev r8(b:List Int)(i:Int):Int:= @rd Int (dfl .u8) b i
def F6(b:List Int):Frame:=
 if A0 ((b.length:Int)=17) then⟨r8 b 0,r8 b 1,r8 b 2,r8 b 3,r8 b 4,r8 b 5,256 * r8 b 6+r8 b 7,r8 b 8,256 * r8 b 9+r8 b 10,BA<|Bp 11<|BH 15 b⟩
 else⟨r8 b 0,r8 b 1,r8 b 2,r8 b 3,r8 b 4,r8 b 5,256 * r8 b 6+r8 b 7,0,0,noB⟩
def Cu(b:List Int):Frame×Bool:=
 if A0 ((b.length:Int)=10)||decide ((b.length:Int)=17) then(if A0 (BA (CY<|F6 b)=BA b) then(F6 b,A1) else(zF,A3)) else(zF,A3)
def ug{b:List Int}(h:BOk b)(i:Int):w64 (r8 b i)=r8 b i:=by
 have:0<=r8 b i/\r8 b i<=255:=h.rd i;exact AY J J
def rZ{b:List Int}(h:BOk b)(i j:Int):w64 (w64 (256 * r8 b i)+r8 b j)=256 * r8 b i+r8 b j:=by
 have h1:0<=r8 b i/\r8 b i<=255:=h.rd i;have h2:0<=r8 b j/\r8 b j<=255:=h.rd j;rw[AY (n:=256 * r8 b i) J J,AY J J]
def xG{b:List Int}(h:BOk b):X4 (b,())=I ((tF (Cu b).1,(Cu b).2,()),()):=by
 unfold X4 Cu;by_cases h1:b.length=10\/b.length=17
 .have hn:10<=b.length:=J
  have hI:∀i:Int,(0<=i/\i<10)->inb i b.length=A1:=λi hi=>by simp[inb];omega
  rw[AD (by simp;omega)];dsimp only;rw[A8<|hI 0 J,A8<|hI 1 J,A8<|hI 2 J,A8<|hI 3 J,A8<|hI 4 J,A8<|hI 5 J,A8<|hI 6 J,A8<|hI 7 J];rw[A8 (show(A0 ((b.length:Int)=10)||decide ((b.length:Int)=17))=A1 by simp;omega)];simp only[ug h,rZ h];have fin:∀f:Frame,F6 b=f->((Oa (tF f,())).bind λr16=>if(!decide ((BA r16.1.1)=(BA b))) then I ((tF zF,A3,()),()) else I ((tF f,A1,()),()))=
    I ((tF (if A0 (BA (CY<|F6 b)=BA b) then(F6 b,A1) else(zF,A3)).1,(if A0 (BA (CY<|F6 b)=BA b) then(F6 b,A1) else(zF,A3)).2,()),()):=by
   rintro f rfl;simp only[adn,A9];rcases tf (A0<|BA (CY<|F6 b)=BA b) with e|e<;>simp only[e,AB,AE,A5,A6]
  rcases tf (A0<|(b.length:Int)=17) with e|e
  .have e17:b.length=17:=by have:=BP e;omega
   have hJ:∀i:Int,(0<=i/\i<17)->inb i b.length=A1:=λi hi=>by simp[inb];omega
   rw[A8 e,A8<|hJ 8 J,A8<|hJ 9 J,A8<|hJ 10 J,A8 (by simp;omega),Bg];refine fin ⟨r8 b 0,r8 b 1,r8 b 2,r8 b 3,r8 b 4,r8 b 5,256 * r8 b 6+r8 b 7,r8 b 8,256 * r8 b 9+r8 b 10,BA<|Bp 11<|BH 15 b⟩ ?_;unfold F6;rw[A8 e]
  .rw[AD (by rw[e];exact CV),Bg];refine fin ⟨r8 b 0,r8 b 1,r8 b 2,r8 b 3,r8 b 4,r8 b 5,256 * r8 b 6+r8 b 7,0,0,noB⟩ ?_;unfold F6;rw[AD (by rw[e];exact CV)]
 .rw[A8 (by simp;omega),AD (by simp;omega)]
def wN{b:List Int}(h:BOk b):Qv (b,())=I ((tF (Cu b).1,(Cu b).2,()),()):=by
 unfold Qv Cu;by_cases h1:b.length=10\/b.length=17
 .have hn:10<=b.length:=J
  have hI:∀i:Int,(0<=i/\i<10)->inb i b.length=A1:=λi hi=>by simp[inb];omega
  rw[AD (by simp;omega)];dsimp only;rw[A8<|hI 0 J,A8<|hI 1 J,A8<|hI 2 J,A8<|hI 3 J,A8<|hI 4 J,A8<|hI 5 J,A8<|hI 6 J,A8<|hI 7 J];rw[A8 (show(A0 ((b.length:Int)=10)||decide ((b.length:Int)=17))=A1 by simp;omega)];simp only[ug h,QZ _ 256,rZ h];have fin:∀f:Frame,F6 b=f->((OR (tF f,())).bind λr16=>if(!decide ((BA r16.1.1)=(BA b))) then I ((tF zF,A3,()),()) else I ((tF f,A1,()),()))=
    I ((tF (if A0 (BA (CY<|F6 b)=BA b) then(F6 b,A1) else(zF,A3)).1,(if A0 (BA (CY<|F6 b)=BA b) then(F6 b,A1) else(zF,A3)).2,()),()):=by
   rintro f rfl;simp only[qb,A9];rcases tf (A0<|BA (CY<|F6 b)=BA b) with e|e<;>simp only[e,AB,AE,A5,A6]
  rcases tf (A0<|(b.length:Int)=17) with e|e
  .have e17:b.length=17:=by have:=BP e;omega
   have hJ:∀i:Int,(0<=i/\i<17)->inb i b.length=A1:=λi hi=>by simp[inb];omega
   rw[A8<|AT J,A8<|hJ 8 J,A8<|hJ 9 J,A8<|hJ 10 J,A8 (by simp;omega),Bg];refine fin ⟨r8 b 0,r8 b 1,r8 b 2,r8 b 3,r8 b 4,r8 b 5,256 * r8 b 6+r8 b 7,r8 b 8,256 * r8 b 9+r8 b 10,BA<|Bp 11<|BH 15 b⟩ ?_;unfold F6;rw[A8 e]
  .have e17:b.length≠17:=by have:=GI e;omega
   rw[AD (by simp;omega),Bg];refine fin ⟨r8 b 0,r8 b 1,r8 b 2,r8 b 3,r8 b 4,r8 b 5,256 * r8 b 6+r8 b 7,0,0,noB⟩ ?_;unfold F6;rw[AD (by rw[e];exact CV)]
 .rw[A8 (by simp;omega),AD (by simp;omega)]
def aah{b:List Int}(h:(Cu b).2=A1):Co (Cu b).1=A1:=by
 unfold Cu at h ⊢;split
 .rename_i h1;rw[A8 h1]at h;split
  .rename_i h2;have h2:=BP h2;unfold CY at h2;split at h2
   .assumption
   .have h3:(BA b).size=b.length:=by simp[BA,Vq]
    have h4:(BA ([]:List Int)).size=0:=rfl;rw[← h2,h4]at h3;rw[← h3]at h1;cases h1
  .rename_i h2;rw[AD h2]at h;cases h
 .rename_i h1;rw[AD h1]at h;cases h
def PZ{n:Int}(h0:0<=n)(k:Nat)(hk:1<=k)(h:n<(10 ^ k:Nat)):(BF n).size<=k:=by
 show(B6 n).length<=k;exact Ka h0 k hk h
def ac7{r:A4}(hr:r.size<=1048576):PW (r,())=I ((CR r,()),()):=by
 have hd:=PZ (n:=(r.size:Int)) J 7 J J;unfold PW;simp only[Ip (n:=(r.size:Int)) J J,A9];rw[A8<|AT (by rw[BK];simp;omega),A8<|AT (by rw[Bb,BK];simp;omega),A8<|AT (by rw[Bb,Bb,BK,BK];simp;omega)];rfl
def aW{r:A4}(hr:r.size<=1048576):Jy (r,())=I ((CR r,()),()):=by
 have hd:=PZ (n:=(r.size:Int)) J 7 J J;unfold Jy;simp only[FE (n:=(r.size:Int)) J J,A9];rw[A8<|AT (by rw[BK];simp;omega),A8<|AT (by rw[Bb,BK];simp;omega),A8<|AT (by rw[Bb,Bb,BK,BK];simp;omega)];rfl
def Q4{r:A4}(hr:r.size<=1048576):(CR r).size<=r.size+9:=by
 have hd:=PZ (n:=(r.size:Int)) J 7 J J;unfold CR;simp only[Bb,BK];simp;omega
def rOk(r:A4):Bool:=inB r.size 1 60
def mP(r:A4):ZP (r,())=I ((rOk r,()),()):=rfl
def kZ(r:A4):Ww (r,())=I ((rOk r,()),()):=rfl
def IJ(lg:A4)(fo:Int)(r:A4):(A4×Int)×Bool:=
 if DB lg fo then(if rOk r&&A0 (lg.size+(CR r).size<=2400) then((lg++CR r,fo),A1) else((lg,fo),A3)) else((noB,0),A3)
def aeX{lg st:A4}{fo:Int}(b:Bool)(hl:lg.size<=1048576)(hs:st.size<=1048585):
  (if((!b)||(A0<|2400<(w64<|(lg.size:Int)+(st.size:Int)))) then I (((lg,fo,()),A3,()),()) else(if A0 (lg.size+st.size<=4611686018427387904) then I (((lg++st,fo,()),A1,()),()) else U))=
   I ((((if b&&A0 (lg.size+st.size<=2400) then((lg++st,fo),A1) else((lg,fo),A3)).1.1,(if b&&A0 (lg.size+st.size<=2400) then((lg++st,fo),A1) else((lg,fo),A3)).1.2,()),(if b&&A0 (lg.size+st.size<=2400) then((lg++st,fo),A1) else((lg,fo),A3)).2,()),()):=by
 rw[AY J J];cases b
 .rfl
 .by_cases h:lg.size+st.size<=2400
  .rw[AD (by simp;omega),A8<|AT J,A8 (by simp;omega)]
  .rw[A8 (by simp;omega),AD (by simp;omega)]
def aAs{lg r:A4}{fo:Int}(hl:lg.size<=1048576)(hr:r.size<=1048576):
  QO ((lg,fo,()),r,())=I ((((IJ lg fo r).1.1,(IJ lg fo r).1.2,()),(IJ lg fo r).2,()),()):=by
 unfold QO IJ;simp only[SU hl,A9];rcases tf (DB lg fo) with e|e
 .simp only[e,AB,A6,A5,mP,ac7 hr,A9,CE,CF,Dr];exact aeX (rOk r) hl (by have:=Q4 hr;omega)
 .simp only[e,AE,A6,A5]
def lJ{lg r:A4}{fo:Int}(hl:lg.size<=1048576)(hr:r.size<=1048576):
  Mx ((lg,fo,()),r,())=I ((((IJ lg fo r).1.1,(IJ lg fo r).1.2,()),(IJ lg fo r).2,()),()):=by
 unfold Mx IJ;simp only[UF hl,A9];rcases tf (DB lg fo) with e|e
 .simp only[e,AB,A6,A5,kZ,aW hr,A9,CE,CF,Dr];exact aeX (rOk r) hl (by have:=Q4 hr;omega)
 .simp only[e,AE,A6,A5]
def Iv(lg:A4)(fo:Int):A4×Int:=if DB lg fo then(lg,(lg.size:Int)) else(noB,0)
def aow{lg:A4}{fo:Int}(hl:lg.size<=1048576):XZ ((lg,fo,()),())=I ((((Iv lg fo).1,(Iv lg fo).2,()),()),()):=by
 unfold XZ Iv;simp only[SU hl,A9];rcases tf (DB lg fo) with e|e<;>simp only[e,AB,AE,A6,A5]
def W9{lg:A4}{fo:Int}(hl:lg.size<=1048576):Nf ((lg,fo,()),())=I ((((Iv lg fo).1,(Iv lg fo).2,()),()),()):=by
 unfold Nf Iv;simp only[UF hl,A9];rcases tf (DB lg fo) with e|e<;>simp only[e,AB,AE,A6,A5]
def Pd{lg:A4}{fo:Int}(h:DB lg fo=A1):lg.size<=2400/\0<=fo/\fo<=lg.size:=by
 unfold DB at h;simp only[AI]at h;have h1:=BP h.1;have h2:=Ae.1 h.2.1;omega
def EO(lg:A4)(fo keep:Int):Nat:=(fo+max 0 (min keep<|(lg.size:Int) - fo)).toNat
def Lw(lg:A4)(fo keep:Int):A4×Int:=
 if DB lg fo then((lg.extract 0<|EO lg fo keep).extract 0 (Cq<|lg.extract 0<|EO lg fo keep).2,((Cq<|lg.extract 0<|EO lg fo keep).2:Int)) else(noB,0)
def asv{lg:A4}{fo keep:Int}(h0:0<=fo)(h1:fo<=lg.size)(h2:lg.size<=2400):
  w64 (fo+(if 0<(if w64 ((lg.size:Int) - fo)<keep then w64 ((lg.size:Int) - fo) else keep) then(if w64 ((lg.size:Int) - fo)<keep then w64 ((lg.size:Int) - fo) else keep) else 0))=(EO lg fo keep:Int)/\EO lg fo keep<=lg.size:=by
 rw[AY (n:=(lg.size:Int) - fo) J J];unfold EO;by_cases h3:(lg.size:Int) - fo<keep
 .rw[A8 h3];by_cases h4:(0:Int)<(lg.size:Int) - fo
  .rw[A8 h4,AY J J];omega
  .rw[AD h4,AY J J];omega
 .rw[AD h3];by_cases h4:(0:Int)<keep
  .rw[A8 h4,AY J J];omega
  .rw[AD h4,AY J J];omega
def anz{lg:A4}{fo keep:Int}(hl:lg.size<=1048576):Zr ((lg,fo,()),keep,())=I ((((Lw lg fo keep).1,(Lw lg fo keep).2,()),()),()):=by
 unfold Zr Lw;simp only[SU hl,A9];rcases tf (DB lg fo) with e|e
 .have hr:=Pd e;obtain⟨c1,c2⟩:=asv (keep:=keep) hr.2.1 hr.2.2 hr.1;simp only[e,AB,A6,A5,c1,Bw];have hz:(lg.extract 0<|EO lg fo keep).size=EO lg fo keep:=by rw[G0 J];omega
  have hg:=PN<|lg.extract 0<|EO lg fo keep;rw[A8 (by simp;omega),ZY J];simp only[A9,Bw];rw[A8 (by simp;omega)]
 .simp only[e,AE,A6,A5]
def ayv{s:A4}{a b:Nat}(h:b<=a)(ha:a<=s.size):s.extract 0 b=(s.extract 0 a).extract 0 b:=by
 apply F9;rw[Ds,Ds,Ds,JR,JR,Ib,Ib,aY,Qe h]
def azK{lg:A4}{fo keep:Int}(hl:lg.size<=1048576):Ym ((lg,fo,()),keep,())=I ((((Lw lg fo keep).1,(Lw lg fo keep).2,()),()),()):=by
 unfold Ym Lw;simp only[UF hl,A9];rcases tf (DB lg fo) with e|e
 .have hr:=Pd e;simp only[e,AB,A6,A5];rw[AY (n:=(lg.size:Int) - fo) J J];have hz:(lg.extract 0<|EO lg fo keep).size=EO lg fo keep:=by rw[G0 (by unfold EO;omega)];omega
  have hg:=PN<|lg.extract 0<|EO lg fo keep;have fin:∀n:Int,n=(EO lg fo keep:Int)->(if(A0 (0<=n)&&A0 (n<=(lg.size:Int))) then(Ky ((lg.extract (0)<|AK n),())).bind λr9=>
    (if(A0 (0<=r9.1.2.1)&&A0 (r9.1.2.1<=(lg.size:Int))) then I (((lg.extract (0)<|AK r9.1.2.1,r9.1.2),()),()) else U) else U)=
    I ((((lg.extract 0<|EO lg fo keep).extract 0 (Cq<|lg.extract 0<|EO lg fo keep).2,((Cq<|lg.extract 0<|EO lg fo keep).2:Int),()),()),()):=by
   rintro n rfl;have hc:EO lg fo keep<=lg.size:=by unfold EO;omega
   rw[A8 (by simp;omega),Bw,VL J];simp only[A9,Bw];rw[A8 (by simp;omega),ayv (a:=EO lg fo keep) J hc]
  rcases tf (A0<|(lg.size:Int) - fo<keep) with h3|h3<;>simp only[h3,A5,A6,Bg]
  .have h3:=BP h3;rcases tf (A0<|(0:Int)<(lg.size:Int) - fo) with h4|h4<;>simp only[h4,A5,A6,Bg]
   .have h4:=BP h4;rw[AY (n:=fo+((lg.size:Int) - fo)) J J];exact fin _ (by unfold EO;omega)
   .have h4:=GI h4;exact fin _ (by unfold EO;omega)
  .have h3:=GI h3;rcases tf (A0<|0<keep) with h4|h4<;>simp only[h4,A5,A6,Bg]
   .have h4:=BP h4;rw[AY (n:=fo+keep) J J];exact fin _ (by unfold EO;omega)
   .have h4:=GI h4;exact fin _ (by unfold EO;omega)
 .simp only[e,AE,A6,A5]
def FR(rs:List A4):Bool:=rs.all rOk
def JO(lg:A4)(fo:Int)(rs:List A4):(A4×Int)×Bool:=
 if DB lg fo then(if FR rs&&A0 ((Cp rs).size<=2400) then((Cp rs,((Cp rs).size:Int)),A1) else((lg,fo),A3)) else((noB,0),A3)
def sd{r:A4}(h:rOk r=A1):1<=r.size/\r.size<=60:=by
 have:=Ae.1 h;omega
def rA(pre:List A4)(r:A4):B (cat<|pre++[r])=B (cat pre)++CR r:=by
 apply F9;rw[Fp,L_B,L_B,LC,IV,KA,C1]
abbrev zS:A4×Int×A2:=(noB,0,())
def akO{sl:A4×Int×A2}(post:List A4):∀(pre:List A4),(pre++post).length<=1048576->(cat pre).length<=69 * pre.length->
  (Rh (sl,zS,B<|cat pre,pre++post,((pre++post).length:Int),(pre.length:Int),())=I (.inl (sl,A3,()))/\(FR post=A3\/2400<(cat<|pre++post).length))\/
  (Rh (sl,zS,B<|cat pre,pre++post,((pre++post).length:Int),(pre.length:Int),())=I (.inr (sl,zS,B<|cat<|pre++post,()))/\FR post=A1):=by
 induction post with
 | nil=>
  intro pre _ _;refine Nh ⟨BT ?_,rfl⟩;unfold Qm;simp only[C1,show A0 ((pre.length:Int)<(pre.length:Int))=A3 from BV J,A6]
 | cons r post ih=>
  intro pre hl hc;have hlen:pre.length<(pre++r::post).length:=by simp
  have hw:=DV hlen hl;have hb:(A0<|(pre.length:Int)<((pre++r::post).length:Int))=A1:=AT J;by_cases h:rOk r=A1/\(cat pre).length<=2400
  .have hz:=sd h.1;have hs:=Q4 (r:=r) J;have ME:Qm (sl,zS,B<|cat pre,pre++r::post,((pre++r::post).length:Int),(pre.length:Int),())=I (.inl (sl,zS,B<|cat<|pre++[r],(pre++[r])++post,(((pre++[r])++post).length:Int),((pre++[r]).length:Int),())):=by
    unfold Qm;simp only[hb,A5,AX hlen,O2,mP,A9,h.1,AB,Bo];rw[AD (by rw[BK];exact λg=>absurd (BP g) J),ac7 (r:=r) J];simp only[A9];rw[A8<|AT (by rw[BK];omega),hw,rA,@Ap _ pre [r],← snoc];rfl
   have hc2:(cat<|pre++[r]).length<=69 * (pre++[r]).length:=by
    rw[LC,IV,KA,C1,Ap,Av,Ap,JW];omega
   have e:FR (r::post)=FR post:=by
    unfold FR;rw[PJ,h.1,AW]
   rw[e];rcases ih (pre++[r]) (by rw[← snoc];exact hl) hc2 with⟨h1,h2⟩|⟨h1,h2⟩
   .rw[← snoc]at h2;exact Nv ⟨B4 ME h1,h2⟩
   .refine Nh ⟨?_,h2⟩;rw[snoc];rw[← snoc]at ME ⊢;rw[snoc pre r post]at ME ⊢;exact B4 ME h1
  .refine Nv ⟨BT ?_, ?_⟩
   .unfold Qm;simp only[hb,A5,AX hlen,O2,mP,A9];rw[A8];rcases tf (rOk r) with e|e
    .rw[e,AB,Bo];refine AT ?_;rw[BK];have:¬(cat pre).length<=2400:=λg=>h ⟨e,g⟩;omega
    .rw[e];rfl
   .rcases tf (rOk r) with e|e
    .have:¬(cat pre).length<=2400:=λg=>h ⟨e,g⟩;refine Nh ?_;rw[LC,Ap];omega
    .refine Nv ?_;unfold FR;rw[PJ,e,AN]
def ave{sl:A4×Int×A2}(post:List A4):∀(pre:List A4),(pre++post).length<=1048576->(cat pre).length<=69 * pre.length->
  aH (pre++post,sl,zS,B<|cat pre,(pre.length:Int),())=I (if FR post then .inr (sl,zS,B<|cat<|pre++post,()) else .inl (sl,A3,())):=by
 induction post with
 | nil=>
  intro pre _ _;refine BT ?_;unfold R6;simp only[C1,show A0 ((pre.length:Int)<(pre.length:Int))=A3 from BV J,A6];rfl
 | cons r post ih=>
  intro pre hl hc;have hlen:pre.length<(pre++r::post).length:=by simp
  have hw:=DV hlen hl;have hb:(A0<|(pre.length:Int)<((pre++r::post).length:Int))=A1:=AT J;rcases tf (rOk r) with h|h
  .have hz:=sd h;have hs:=Q4 (r:=r) J;have ME:R6 (pre++r::post,sl,zS,B<|cat pre,(pre.length:Int),())=I (.inl ((pre++[r])++post,sl,zS,B<|cat<|pre++[r],((pre++[r]).length:Int),())):=by
    unfold R6;simp only[hb,A5,AX hlen,O2,kZ,A9,h,AB,A6];rw[aW (r:=r) J];simp only[A9];rw[A8<|AT (by rw[BK];simp at hl;omega),hw,rA,@Ap _ pre [r],← snoc];rfl
   have hc2:(cat<|pre++[r]).length<=69 * (pre++[r]).length:=by
    rw[LC,IV,KA,C1,Ap,Av,Ap,JW];omega
   have e:FR (r::post)=FR post:=by
    unfold FR;rw[PJ,h,AW]
   rw[e];have:=ih (pre++[r]) (by rw[← snoc];exact hl) hc2;rw[snoc pre r post];rw[snoc pre r post]at ME;exact B4 ME this
  .refine BT ?_;unfold R6;simp only[hb,A5,AX hlen,O2,kZ,A9,h,AE];rw[AD (by unfold FR;rw[PJ,h,AN];exact CV)]
def nE{lg:A4}{fo:Int}(rs:List A4)(s:(((A4×Int×A2)×Bool×A2) ⊕ ((A4×Int×A2)×(A4×Int×A2)×A4×A2)))
  (h:(s= .inl ((lg,fo,()),A3,())/\(FR rs&&A0 ((Cp rs).size<=2400))=A3)\/(s= .inr ((lg,fo,()),zS,Cp rs,())/\FR rs=A1)):
  AS (I s) (λy28=>I (y28,())) (λy28=>(if(A0<|2400<(y28.2.2.1.size:Int)) then I ((y28.1,A3,()),()) else I (((y28.2.2.1,(y28.2.2.1.size:Int),()),A1,()),())))=
   I ((((if FR rs&&A0 ((Cp rs).size<=2400) then((Cp rs,((Cp rs).size:Int)),A1) else((lg,fo),A3)).1.1,(if FR rs&&A0 ((Cp rs).size<=2400) then((Cp rs,((Cp rs).size:Int)),A1) else((lg,fo),A3)).1.2,()),(if FR rs&&A0 ((Cp rs).size<=2400) then((Cp rs,((Cp rs).size:Int)),A1) else((lg,fo),A3)).2,()),()):=by
 obtain⟨rfl,h⟩|⟨rfl,h⟩:=h
 .rw[h];rfl
 .simp only[AS,A9];by_cases h2:(Cp rs).size<=2400
  .rw[AD (by simp;omega),h,AT h2];rfl
  .rw[A8<|AT J,h,BV h2];rfl
def qd{lg:A4}{fo:Int}{rs:List A4}(hl:lg.size<=1048576)(hr:rs.length<=1048576):
  Pr ((lg,fo,()),rs,())=I ((((JO lg fo rs).1.1,(JO lg fo rs).1.2,()),(JO lg fo rs).2,()),()):=by
 unfold Pr JO;simp only[SU hl,A9];rcases tf (DB lg fo) with e|e
 .simp only[e,AB,A6,A5];rcases akO (sl:=(lg,fo,())) rs [] hr (by simp[KA]) with⟨h1,h2⟩|⟨h1,h2⟩
  .rw[show Rh ((lg,fo,()),(noB,0,()),noB,rs,(rs.length:Int),0,())=_ from h1];refine nE rs _<|Nv ⟨rfl, ?_⟩;obtain h2|h2:=h2
   .rw[h2];rfl
   .rw[BV,BZ];show ¬(B<|cat rs).size<=2400;rw[BK];exact Nat.not_le.2 h2
  .rw[show Rh ((lg,fo,()),(noB,0,()),noB,rs,(rs.length:Int),0,())=_ from h1];exact nE rs _ (Nh ⟨rfl,h2⟩)
 .simp only[e,AE,A6,A5]
def qp{lg:A4}{fo:Int}{rs:List A4}(hl:lg.size<=1048576)(hr:rs.length<=1048576):
  RN ((lg,fo,()),rs,())=I ((((JO lg fo rs).1.1,(JO lg fo rs).1.2,()),(JO lg fo rs).2,()),()):=by
 unfold RN JO;simp only[UF hl,A9];rcases tf (DB lg fo) with e|e
 .simp only[e,AB,A6,A5];have h1:=ave (sl:=(lg,fo,())) rs [] hr (by simp[KA]);rw[show aH (rs,(lg,fo,()),(noB,0,()),noB,0,())=_ from h1];refine nE rs _ ?_;rcases tf (FR rs) with h2|h2
  .exact Nh ⟨A8 h2,h2⟩
  .exact Nv ⟨AD (by rw[h2];exact CV),by rw[h2];rfl⟩
 .simp only[e,AE,A6,A5]
def WJ{β:Type}(f:A7->β){l:List A7}{i:Nat}(h:i<l.length):(l.take<|i+1).map f=(l.take i).map f++[f (nA l i)]:=by
 rw[Mo h,F1,EF<|B3 h];rfl
def yz{β:Type}(f:Mark->β){l:List Mark}{i:Nat}(h:i<l.length):(l.take<|i+1).map f=(l.take i).map f++[f (mA l i)]:=by
 rw[Mo h,F1,Ge<|B3 h];rfl
def FQ{α:Type}{l m:List α}(hl:l.length<=1048576)(hm:m.length<=1048576):Ab (l.length+m.length)=A1:=B7 J
def ak{n:A7}(h:B9 n=A1):(wr n).size<=4000:=by have:=Pq h;omega
def QG{n:A7}(h:B9 n=A1):n.tx.size<=1048576:=by
 have h2:=Pq h;by_cases hs:n.tx.size<=1048576
 .exact hs
 .exfalso;unfold B9 at h;simp only[AI]at h;have hx:Lx n.tx=A1:=by simp_all
  unfold Lx at hx;rw[AI]at hx;have:=Ae.1 hx.1;omega
def nw{n:A7}(h:B9 n=A1):(if B9 ⟨n.fr,n.nu,n.to,n.un,n.tx⟩ then wr ⟨n.fr,n.nu,n.to,n.un,n.tx⟩ else noB)=wr n:=by
 rw[show(⟨n.fr,n.nu,n.to,n.un,n.tx⟩:A7)=n from rfl,A8 h]
def HA{n:Int}(h0:0<=n)(h1:n<=999):(BF n).size<=3:=PZ h0 3 J J
def ns{w:A4}{a b c:Int}(hw:w.size<=1048576)(ha:0<=a/\a<=999)(hb:0<=b/\b<=999)(hc:0<=c/\c<=999):PV (w,a,b,c,())=I ((EA w a b c,()),()):=by
 have h1:=HA ha.1 ha.2;have h2:=HA hb.1 hb.2;have h3:=HA hc.1 hc.2;unfold PV;simp only[Ip (n:=a) J J,Ip (n:=b) J J,Ip (n:=c) J J,A9];rw[A8<|AT (by simp[BK];omega),A8<|AT (by simp[Bb,BK];omega),A8<|AT (by simp[Bb,BK];omega),A8<|AT (by simp[Bb,BK];omega),A8<|AT (by simp[Bb,BK];omega),A8<|AT (by simp[Bb,BK];omega)];rfl
def I7{i n:Nat}(h:i<n):A0 ((i:Int)<(n:Int))=A1:=AT J
def Fv(n:Nat):A0 ((n:Int)<(n:Int))=A3:=BV J
section
variable {k:AU} (hf:EU k)
include hf
def aoW(o:List A4)(ho:o.length<=100):
  X8 (tK k,o,k.marks,(k.marks.length:Int),0,())=I (.inr (tK k,o++k.marks.map λm=>EA D3 m.mf m.mn m.mu,())):=by
 have ml:=hf.ml;refine Kl (congrArg _ ?_) (Ca (λi=>(tK k,o++(k.marks.take i).map (λm=>EA D3 m.mf m.mn m.mu),k.marks,(k.marks.length:Int),(i:Int),())) k.marks.length ?_ ?_)
 .simp
 .intro i hi;have hm:=PI<|Sy hf.m hi;unfold Zj;simp only[I7 hi,A5,AX hi,Eu,ns (w:=D3) (by decide) (show 0<=(mA k.marks i).mf/\(mA k.marks i).mf<=999 by omega) (show 0<=(mA k.marks i).mn/\(mA k.marks i).mn<=999 by omega)<|show 0<=(mA k.marks i).mu/\(mA k.marks i).mu<=999 by omega,A9];rw[A8<|FQ (by simp;omega)<|by simp,yz _ hi,DV hi J,C2]
 .unfold Zj;simp only[Fv,A6,Ep]
def axA(o:List A4)(ho:o.length<=200):
  YV (tK k,o,k.held,(k.held.length:Int),0,())=I (.inr (tK k,o++k.held.map ML,())):=by
 have hl:=hf.hl;refine Kl (congrArg _ ?_) (Ca (λi=>(tK k,o++(k.held.take i).map ML,k.held,(k.held.length:Int),(i:Int),())) k.held.length ?_ ?_)
 .simp
 .intro i hi;have hm:=G7 hf.h hi;have hz:=ak hm;unfold dJ;simp only[I7 hi,A5,AX hi,Dd,Ta<|QG hm,nw hm,A9];rw[A8<|AT (by rw[BK];simp;omega),A8<|FQ (by simp;omega)<|by simp,WJ _ hi,DV hi J,C2];rfl
 .unfold dJ;simp only[Fv,A6,Ep]
def afp(o:List A4)(ho:o.length<=200):
  bu (o,k.inbox,(k.inbox.length:Int),0,())=I (.inr (o++k.inbox.map M3,())):=by
 have il:=hf.il;refine Kl (congrArg _ ?_) (Ca (λi=>(o++(k.inbox.take i).map M3,k.inbox,(k.inbox.length:Int),(i:Int),())) k.inbox.length ?_ ?_)
 .simp
 .intro i hi;have hm:=G7 hf.i hi;have hz:=ak hm;unfold cE;simp only[I7 hi,A5,AX hi,Dd,Ta<|QG hm,nw hm,A9];rw[A8<|AT (by rw[BK];simp;omega),A8<|FQ (by simp;omega)<|by simp,WJ _ hi,DV hi J,C2];rfl
 .unfold cE;simp only[Fv,A6,Ep]
def aly(o:List A4)(ho:o.length<=100):
  Vk (tK k,o,0,())=I (.inr (tK k,o++k.marks.map λm=>EA D3 m.mf m.mn m.mu,())):=by
 have ml:=hf.ml;refine Kl (congrArg _ ?_) (Ca (λi=>(tK k,o++(k.marks.take i).map (λm=>EA D3 m.mf m.mn m.mu),(i:Int),())) k.marks.length ?_ ?_)
 .simp
 .intro i hi;have hm:=PI<|Sy hf.m hi;have h1:=HA (n:=(mA k.marks i).mf) J J;have h2:=HA (n:=(mA k.marks i).mn) J J;have h3:=HA (n:=(mA k.marks i).mu) J J;unfold YX;simp only[I7 hi,A5,AX hi,Eu,FE (n:=(mA k.marks i).mf) J J,FE (n:=(mA k.marks i).mn) J J,FE (n:=(mA k.marks i).mu) J J,A9];rw[A8<|AT (by simp[Bb,BK];omega),A8<|AT (by simp[Bb,BK];omega),A8<|AT (by simp[Bb,BK];omega),A8<|AT (by simp[Bb,BK];omega),A8<|AT (by simp[Bb,BK];omega)];rw[A8<|FQ (by simp;omega)<|by simp,yz _ hi,DV hi J,C2];rfl
 .unfold YX;simp only[Fv,A6,Ep]
def agH(o:List A4)(ho:o.length<=200):
  Vw (tK k,o,0,())=I (.inr (tK k,o++k.held.map ML,())):=by
 have hl:=hf.hl;refine Kl (congrArg _ ?_) (Ca (λi=>(tK k,o++(k.held.take i).map ML,(i:Int),())) k.held.length ?_ ?_)
 .simp
 .intro i hi;have hm:=G7 hf.h hi;have hz:=ak hm;unfold Wj;simp only[I7 hi,A5,AX hi,Dd,RR<|QG hm,nw hm,A9];rw[A8<|AT (by rw[BK];simp;omega),A8<|FQ (by simp;omega)<|by simp,WJ _ hi,DV hi J,C2];rfl
 .unfold Wj;simp only[Fv,A6,Ep]
def auD(o:List A4)(ho:o.length<=200):
  Yy (tK k,o,0,())=I (.inr (o++k.inbox.map M3,())):=by
 have il:=hf.il;refine Kl (congrArg _ ?_) (Ca (λi=>(tK k,o++(k.inbox.take i).map M3,(i:Int),())) k.inbox.length ?_ ?_)
 .simp
 .intro i hi;have hm:=G7 hf.i hi;have hz:=ak hm;unfold aR;simp only[I7 hi,A5,AX hi,Dd,RR<|QG hm,nw hm,A9];rw[A8<|AT (by rw[BK];simp;omega),A8<|FQ (by simp;omega)<|by simp,WJ _ hi,DV hi J,C2];rfl
 .unfold aR;simp only[Fv,A6,Ep]
def QS:DM k.held k.marks k.inbox:=by
 have hl:=hf.hl;have ml:=hf.ml;have il:=hf.il;refine⟨J,λx hx=> ?_,J,J,λx hx=> ?_⟩
 .obtain⟨i,hi,rfl⟩:=Dm hx;have:=G7 hf.h hi;rw[EF<|B3 hi]at this;exact QG this
 .obtain⟨i,hi,rfl⟩:=Dm hx;have:=G7 hf.i hi;rw[EF<|B3 hi]at this;exact QG this
def aia:(AS (X8 (tK k,(if 0<k.ti then [Fz k.ti] else [])++(if 1<k.nx then [KD k.nx] else []),k.marks,(k.marks.length:Int),0,()))
  (λ_=>U)
  (λy34=>(AS (YV (y34.1,y34.2.1,y34.1.2.2.2.1,(y34.1.2.2.2.1.length:Int),0,()))
  (λ_=>U)
  (λy72=>(AS (bu (y72.2.1,y72.1.2.2.2.2.2.1,(y72.1.2.2.2.2.2.1.length:Int),0,()))
  (λ_=>U)
  (λiy=>(RU iy).bind λiG=>
  I (iG.1,())))))))=I ((CS k,()),()):=by
 have hl:=hf.hl;have ml:=hf.ml;have il:=hf.il;have ho:((if 0<k.ti then [Fz k.ti] else [])++(if 1<k.nx then [KD k.nx] else [])).length<=2:=by
  rw[Ap];split<;>split<;>simp
 rw[aoW hf _ J];simp only[AS,A9];rw[axA hf _ (by rw[Ap,EG];omega)];simp only[A9];rw[afp hf _ (by rw[Ap,Ap,EG,EG];omega)];simp only[A9];rw[pW (by rw[Ap,Ap,Ap,EG,EG,EG];omega)];rfl
def ap5:(AS (Vk (tK k,(if 0<k.ti then [Fz k.ti] else [])++(if 1<k.nx then [KD k.nx] else []),0,()))
  (λ_=>U)
  (λy46=>(AS (Vw (y46.1,y46.2.1,0,()))
  (λ_=>U)
  (λy54=>(AS (Yy (y54.1,y54.2.1,0,()))
  (λ_=>U)
  (λy62=>I (y62,())))))))=I ((CS k,()),()):=by
 have hl:=hf.hl;have ml:=hf.ml;have il:=hf.il;have ho:((if 0<k.ti then [Fz k.ti] else [])++(if 1<k.nx then [KD k.nx] else [])).length<=2:=by
  rw[Ap];split<;>split<;>simp
 rw[aly hf _ J];simp only[AS,A9];rw[agH hf _ (by rw[Ap,EG];omega)];simp only[A9];rw[auD hf _ (by rw[Ap,Ap,EG,EG];omega)];rfl
end
def yj{k:AU}(sm:DM k.held k.marks k.inbox):Ry (tK k,())=I ((if BI k then CS k else [],()),()):=by
 unfold Ry;rw[oE sm];simp only[A9];rcases tf (BI k) with e|e
 .have hf:=Ci e;have t0:=hf.t0;have t1:=hf.t1;have n0:=hf.n0;have n1:=hf.n1;have e2:BI ⟨k.id,k.ti,k.nx,k.held,k.marks,k.inbox⟩=A1:=e;have d1:=HA t0 J;have d2:=HA (n:=k.nx) J J;have fin:=aia hf;simp only[e,e2,AB,A6,A5,Ip (n:=k.ti) J J,Ip (n:=k.nx) J J,A9];have h5:A0 ((B [116,105,109,101,32]).size+(BF k.ti).size<=4611686018427387904)=A1:=AT (by rw[BK];simp;omega);have h6:A0 ((B [110,101,120,116,32]).size+(BF k.nx).size<=4611686018427387904)=A1:=AT (by rw[BK];simp;omega);have q1:∀a:A4,Ab ([a]:List A4).length=A1:=λ_=>rfl;have q2:∀a b:A4,Ab (([a]:List A4).length+([b]:List A4).length)=A1:=λ_ _=>rfl;have q3:∀b:A4,Ab (([]:List A4).length+([b]:List A4).length)=A1:=λ_=>rfl;have q4:∀a b:A4,Ab ((([]:List A4)++[a]).length+([b]:List A4).length)=A1:=λ_ _=>rfl;by_cases h1:0<k.ti<;>by_cases h2:1<k.nx<;>simp only[h1,h2,AO,Af,A5,A6,if_false]at fin ⊢ <;>simp only[Bg,h2,AO,Af,A5,A6,h5,h6,q1,q2,q3,q4,Ip (n:=k.nx) J J,FE (n:=k.nx) J J,A9]<;>exact fin
 .have e2:BI ⟨k.id,k.ti,k.nx,k.held,k.marks,k.inbox⟩=A3:=e;simp only[e,e2,AE,A6,A5]
def vC{k:AU}(sm:DM k.held k.marks k.inbox):TW (tK k,())=I ((if BI k then CS k else [],()),()):=by
 unfold TW;rw[oz sm];simp only[A9];rcases tf (BI k) with e|e
 .have hf:=Ci e;have t0:=hf.t0;have t1:=hf.t1;have n0:=hf.n0;have n1:=hf.n1;have e2:BI ⟨k.id,k.ti,k.nx,k.held,k.marks,k.inbox⟩=A1:=e;have d1:=HA t0 J;have d2:=HA (n:=k.nx) J J;have fin:=ap5 hf;simp only[e,e2,AB,A6,A5,FE (n:=k.ti) J J,FE (n:=k.nx) J J,A9];have h5:A0 ((B [116,105,109,101,32]).size+(BF k.ti).size<=4611686018427387904)=A1:=AT (by rw[BK];simp;omega);have h6:A0 ((B [110,101,120,116,32]).size+(BF k.nx).size<=4611686018427387904)=A1:=AT (by rw[BK];simp;omega);have q1:∀a:A4,Ab ([a]:List A4).length=A1:=λ_=>rfl;have q2:∀a b:A4,Ab (([a]:List A4).length+([b]:List A4).length)=A1:=λ_ _=>rfl;have q3:∀b:A4,Ab (([]:List A4).length+([b]:List A4).length)=A1:=λ_=>rfl;have q4:∀a b:A4,Ab ((([]:List A4)++[a]).length+([b]:List A4).length)=A1:=λ_ _=>rfl;by_cases h1:0<k.ti<;>by_cases h2:1<k.nx<;>simp only[h1,h2,AO,Af,A5,A6,if_false]at fin ⊢ <;>simp only[Bg,h2,AO,Af,A5,A6,h5,h6,q1,q2,q3,q4,Ip (n:=k.nx) J J,FE (n:=k.nx) J J,A9]<;>exact fin
 .have e2:BI ⟨k.id,k.ti,k.nx,k.held,k.marks,k.inbox⟩=A3:=e;simp only[e,e2,AE,A6,A5]
end Go.VS
namespace Go.VS
open Go
def yB{l:List AQ}{m:AQ}(h:m∈l):∃i,i<l.length/\xA l i=m:=by
 obtain⟨i,hi,rfl⟩:=Wq.1 h;exact⟨i,hi,by rw[xA,BG,B3 hi];rfl⟩
def cd{l:List AG}{m:AG}(h:m∈l):∃i,i<l.length/\hA l i=m:=by
 obtain⟨i,hi,rfl⟩:=Wq.1 h;exact⟨i,hi,by rw[hA,BG,B3 hi];rfl⟩
def akJ{h:AG}(ok:FW h=A1):NM h:=by
 unfold FW at ok;simp only[AI]at ok;have h1:=BP ok.2.2.2.2.2.1;have h2:=Dq.1 ok.2.2.2.2.2.2;refine⟨J,λm hm=> ?_⟩;obtain⟨i,hi,rfl⟩:=yB hm;have:=h2 i hi;unfold IL at this;simp only[AI]at this;have:=BP this.1.2;show(xA h.got i).da.size<=1048576;omega
def Cn{k:AA}(h:Au k=A1):EL k:=by
 have hf:=FH h;have hr:=Pd hf.sh;have hl:=hf.hl;refine⟨J,J,λx hx=> ?_⟩;obtain⟨i,hi,rfl⟩:=cd hx;have:=hf.hv i hi;unfold G2 at this;rw[AI]at this;exact akJ this.1
def an1{l:List AG}(hl:l.length<=1048576):nR (l,())=I ((l,()),()):=Kb hl
def afO{l:List AQ}(hl:l.length<=1048576):lP (l,())=I ((l,()),()):=Kb hl
def Jh(l:List AG)(i:Nat): @rd AG (dfl .half) l (i:Int)=hA l i:=rfl
def HK{l:List AG}{i:Nat}(h:i<l.length):hA l i=l[i]:=by
 rw[hA,BG,B3 h];rfl
def K5{k:AA}(sm:EL k):Hc (tKp k,())=I ((tKp k,()),()):=by
 obtain⟨id,up,lg,fo,hv⟩:=k;obtain⟨sl,hl,hs⟩:=sm;simp only at sl hl hs;unfold Hc;simp only[an1 hl,A9];have h:pr ((0,A3,noB,0,[],()),(id,up,lg,fo,hv,()),(hv.length:Int),0,())=I (.inr ((0,A3,noB,0,[],()),(id,up,lg,fo,hv,()),())):=by
  refine Ca (λi=>((0,A3,noB,0,[],()),(id,up,lg,fo,hv,()),(hv.length:Int),(i:Int),())) hv.length ?_ ?_
  .intro i hi;unfold di;have hg:(hA hv i).got.length<=1048576:=by rw[HK hi];exact(hs _<|Cm hi).1
   simp only[I7 hi,A5,AX hi,Jh,afO hg,A9,Bw];rw[DV hi hl,show(⟨(hA hv i).fr,(hA hv i).nu,(hA hv i).to,(hA hv i).un,(hA hv i).sz,(hA hv i).got⟩:AG)=hA hv i from rfl,HK hi,List.set_getElem_self]
  .unfold di;simp only[Fv,A6]
 rw[h];rfl
def Ku{k:AA}(sm:EL k):Fg (tKp k,())=I ((tKp k,()),()):=by
 obtain⟨id,up,lg,fo,hv⟩:=k;obtain⟨sl,hl,hs⟩:=sm;simp only at sl hl hs;unfold Fg;have h:fS ((id,up,lg,fo,hv,()),(0,A3,noB,0,[],()),[],0,())=I (.inr ((id,up,lg,fo,hv,()),(0,A3,noB,0,[],()),hv,())):=by
  refine Ca (λi=>((id,up,lg,fo,hv,()),(0,A3,noB,0,[],()),hv.take i,(i:Int),())) hv.length ?_ ?_
  .intro i hi;unfold ZD;have hg:(hA hv i).got.length<=1048576:=by rw[HK hi];exact(hs _<|Cm hi).1
   have e1:Ab (([]:List AQ).length+(hA hv i).got.length)=A1:=FQ (by simp) hg;have e2:∀h:AG,Ab ((hv.take i).length+([h]:List AG).length)=A1:=λh=>FQ (by simp;omega) (by simp);simp only[I7 hi,A5,AX hi,Jh,Ef,e1,e2];rw[DV hi hl,Mo hi,← HK hi]
  .unfold ZD;simp only[Fv,A6,Ep]
 rw[h];rfl
structure HR (k:AA) (st:AU):Prop where
 sh:DB k.log k.fo=A1
 st:DR k.id k.log=I st
def DJ.L8{k:AA}{st:AU}(h:DJ k st):HR k st:=⟨(FH h.ok).sh,h.st⟩
def HR.kok{k:AA}{st:AU}(h:HR k st):BI st=A1:=W1 h.st
def HR.sz{k:AA}{st:AU}(h:HR k st):k.log.size<=1048576:=by have:=Pd h.sh;omega
def HR.stT{k:AA}{st:AU}(h:HR k st):Go.VS.stT k=st:=by
 unfold Go.VS.stT;rw[h.st];rfl
def aL{k:AU}(hk:BI k=A1):(Cp<|CS k).size<=800:=by
 have:=(Sq hk).2;unfold Cp;rw[BK];exact this
def al{k:AU}(hk:BI k=A1):(CS k).length<=1048576:=by
 have hf:=Ci hk;have h1:=hf.hl;have h2:=hf.ml;have h3:=hf.il;unfold CS;simp only[Ap,EG];have a2:(if 0<k.ti then [Fz k.ti] else []).length<=1:=by split<;>simp
 have b2:(if 1<k.nx then [KD k.nx] else []).length<=1:=by split<;>simp
 omega
def UC{k:AA}{st o:AU}{r:A4}(h:HR k st)(hr:C6 st r=I o):
  DB (Ej st k.log k.fo r).1 (Ej st k.log k.fo r).2=A1/\
  (IJ k.log k.fo r=(Ej st k.log k.fo r,A1)\/
   (IJ k.log k.fo r=((k.log,k.fo),A3)/\JO k.log k.fo (CS st)=((Cp<|CS st,((Cp<|CS st).size:Int)),A1)/\
    IJ (Cp<|CS st) ((Cp<|CS st).size:Int) r=(Ej st k.log k.fo r,A1))):=by
 have hz:=yP h.kok hr;have hrk:rOk r=A1:=Ae.2 J;have hrs:=Sq h.kok;have hps:=aL h.kok;have hpo:=(ph h.kok).mj;have hst:=PG hz.2;obtain⟨rs,ts,hl⟩:=xw h.sh;obtain⟨rs',ts',hl',_⟩:=abe (id:=k.id) (k:=st) hl (by rw[← hl.state];exact h.st) hr;refine⟨hl'.mj, ?_⟩;unfold Ej IJ;rw[A8 h.sh,hrk,AW];by_cases hc:k.log.size+(CR r).size<=2400
 .rw[A8 hc,A8<|AT hc];exact .inl rfl
 .rw[AD hc,AD (by rw[BV hc];exact CV)];refine .inr ⟨rfl, ?_, ?_⟩
  .unfold JO;rw[A8 h.sh,A8];rw[AI];refine⟨?_,AT J⟩;unfold FR;rw[C0];exact λx hx=>by
    have:=hrs.1 x hx;exact Ae.2 J
  .rw[A8 hpo,AW,A8<|AT J]
def wrR(k:AA)(r:A4)(f:Bool):AA×Bool:=
 match C6 (stT k) r with
 | none=>(k,A3)
 | some _=>(if f then foM (wrM k r) else wrM k r,A1)
def acI{k:AU}{r:A4}:(FA k r).2=(C6 k r).isSome:=by
 unfold C6;rcases tf (FA k r).2 with e|e<;>rw[e]<;>rfl
def aqU{k:AU}(hk:BI k=A1){r:A4}(hr:r.size<=1048576):RP (tK k,r,())=I ((tK (FA k r).1,(FA k r).2,()),()):=aa5 (QS<|Ci hk) hr
def aru{k:AU}(hk:BI k=A1){r:A4}(hr:r.size<=1048576):RZ (tK k,r,())=I ((tK (FA k r).1,(FA k r).2,()),()):=yQ (QS<|Ci hk) hr
def ayN{k:AA}{st o:AU}{r:A4}(h:HR k st)(hr:C6 st r=I o):Iv (Ej st k.log k.fo r).1 (Ej st k.log k.fo r).2=((Ej st k.log k.fo r).1,((Ej st k.log k.fo r).1.size:Int)):=by
 unfold Iv;rw[A8 (UC h hr).1]
def Tm{k:AA}{st:AU}(h:HR k st){r:A4}(hr:r.size<=1048576)(f:Bool):KT (tKp k,r,f,())=I ((tKp (wrR k r f).1,(wrR k r f).2,()),()):=by
 have hs:=h.sz;have hk:=h.kok;have hsm:=QS<|Ci hk;have hrl:=al hk;have hpz:=aL hk;unfold KT wrR;rw[h.stT];rw[show FN (tKp k,())=I ((tK<|(DR k.id k.log).getD zK,(DR k.id k.log).isSome,()),()) from pC hs];rw[h.st];simp only[A9,CF,aqU hk hr,acI];cases hc:C6 st r with
 | none=>rfl
 | some o=>
  have hL:=ayN h hc;have hwr:wrM k r=⟨k.id,k.up,(Ej st k.log k.fo r).1,(Ej st k.log k.fo r).2,k.AM⟩:=by unfold wrM;rw[h.stT]
  have hsz:(Ej st k.log k.fo r).1.size<=1048576:=by have:=Pd (UC h hc).1;omega
  have hF:=W9 (lg:=(Ej st k.log k.fo r).1) (fo:=(Ej st k.log k.fo r).2) hsz;rw[hL]at hF;simp only[CE,AB,A6,lJ hs hr,A9];have fin:B8 (X:=Bool×(Int×Bool×A4×Int×List AG×A2)×(Int×Bool×A4×Int×List AG×A2)×(A4×Int×A2)×Bool×A2) (λj7=>
    (if(!j7.2.2.2.2.1) then
    I ((j7.2.1,A3,()),())
    else
    (if j7.1 then
    (Nf (j7.2.2.2.1,())).bind λr12=>
    I (((j7.2.1.1,j7.2.1.2.1,r12.1.1.1,r12.1.1.2.1,j7.2.1.2.2.2.2),A1,()),())
    else
    I (((j7.2.1.1,j7.2.1.2.1,j7.2.2.2.1.1,j7.2.2.2.1.2.1,j7.2.1.2.2.2.2),A1,()),())))) (I<|.inr (f,tKp k,(0,A3,noB,0,[],()),((Ej st k.log k.fo r).1,(Ej st k.log k.fo r).2,()),A1,()))=
    I ((tKp<|if f then foM (wrM k r) else wrM k r,A1,()),()):=by
   rw[Bg,hwr];cases f
   .rfl
   .simp only[AB,A6,A5,hF,A9];rfl
  rcases(UC h hc).2 with ha|⟨ha,hb,hd⟩
  .rw[ha];simp only[AB,A6];exact fin
  .rw[ha];simp only[AE,A5,vC hsm,hk,A9];rw[show RN ((k.log,k.fo,()),CS st,())=_ from qp hs hrl,hb];simp only[A9];rw[show Mx ((Cp<|CS st,((Cp<|CS st).size:Int),()),r,())=_ from lJ J hr,hd];simp only[A9];exact fin
def Zy{k:AA}{st:AU}(h:HR k st){r:A4}(hr:r.size<=1048576):O0 (tKp k,r,())=I ((tKp (wrR k r A3).1,(wrR k r A3).2,()),()):=by
 have hs:=h.sz;have hk:=h.kok;have hsm:=QS<|Ci hk;have hrl:=al hk;have hpz:=aL hk;unfold O0 wrR;rw[h.stT];simp only[aq hs,h.st,A9,CF,aru hk hr,acI];cases hc:C6 st r with
 | none=>rfl
 | some o=>
  have hwr:wrM k r=⟨k.id,k.up,(Ej st k.log k.fo r).1,(Ej st k.log k.fo r).2,k.AM⟩:=by unfold wrM;rw[h.stT]
  simp only[CE,AB,A6,aAs hs hr,A9];rcases(UC h hc).2 with ha|⟨ha,hb,hd⟩
  .rw[ha];simp only[AB,A6,Bg,hwr]
  .rw[ha];simp only[AE,A5,yj hsm,hk,A9];rw[show Pr ((k.log,k.fo,()),CS st,())=_ from qd hs hrl,hb];simp only[A9,AB,A6];rw[show QO ((Cp<|CS st,((Cp<|CS st).size:Int),()),r,())=_ from aAs J hr,hd];simp only[A9,Bg,AB,A6,hwr]
def af{k:AA}(h:DB k.log k.fo=A1):Nd (tKp k,())=I ((tKp<|foM k,()),()):=by
 have hs:k.log.size<=1048576:=by have:=Pd h;omega
 unfold Nd;simp only[aow hs,A9];unfold Iv;rw[A8 h];rfl
def aec{k:AA}{st o:AU}{r:A4}(h:HR k st)(hr:C6 st r=I o):DB (wrM k r).log (wrM k r).fo=A1:=by
 have:=(UC h hr).1;unfold wrM;rw[h.stT];exact this
def dE{k:AA}{st:AU}(h:DJ k st){r:A4}(hr:r.size<=1048576):OI (tKp k,r,())=I ((tKp (wrR k r A1).1,(wrR k r A1).2,()),()):=by
 have hl:=h.L8;unfold OI;simp only[Zy hl hr,A9];unfold wrR;rw[hl.stT];cases hc:C6 st r with
 | none=>
  simp only[AE,A5,K5<|Cn h.ok,A9]
 | some o=>
  simp only[AB,A6,A5];rw[af<|aec hl hc];simp only[A9];have hsm:EL (foM<|wrM k r):=Cn (Ye<|QA h hc).ok;rw[show Hc (tKp<|foM<|wrM k r,())=_ from K5 hsm];rfl
abbrev zKp:AA:=⟨0,A3,noB,0,[]⟩
abbrev zN:A7:=⟨0,0,0,0,noB⟩
abbrev tN(n:A7):Int×Int×Int×Int×A4×A2:=(n.fr,n.nu,n.to,n.un,n.tx,())
def Pm{k:AA}(h:Au k=A1):k.log.size<=1048576:=(Cn h).1
def N1{k:AA}(h:Au k=A1):FN (tKp k,())=I ((tK<|stT k,A1,()),()):=by
 have:=pC (id:=k.id) (fo:=k.fo) (up:=k.up) (hv:=k.AM)<|Pm h;rw[(FH h).st]at this;exact this
def JX{k:AA}(h:Au k=A1):IU (tKp k,())=I ((tK<|stT k,()),()):=by
 unfold IU;rw[Jb<|Cn h];simp only[A9,h,AB,A6];rw[show Le (k.id,k.log,())=_ from aq<|Pm h,(FH h).st];rfl
def cu{w:A4}{n:A7}(hw:w.size<=10)(hn:B9 n=A1):(w++wr n).size<=1048576:=by
 have:=Pq hn;rw[Bb];omega
def E5(k:AA):AA×Bool:=if k.up then wrR k (Fz<|(stT k).ti+1) A1 else(k,A3)
def aev{st:AU}(hk:BI st=A1)(h:999<=st.ti):C6 st (Fz<|st.ti+1)=U:=by
 have hf:=Ci hk;have h1:=hf.t1;cases hc:C6 st (Fz<|st.ti+1) with
 | none=>rfl
 | some o=>
  exfalso;obtain⟨a,b⟩:=(JJ hk).1 hc;rw[KQ fF<|XY _]at a;have c:=jH (k:=st) (t:=st.ti+1) (by have:=hf.t0;omega) J J;rw[show B [116,105,109,101]=Dk from rfl,c]at a;injection a with a;have:=(Ci b).t1;rw[← a]at this;simp only at this;omega
def wT{t:Int}(h0:0<=t)(h1:t<=1000):(Fz t).size<=100:=by
 unfold Fz;have:=PZ h0 4 J J;rw[Bb,BK];simp;omega
def amG{k:AA}(h:Au k=A1):VQ (tKp k,())=I ((tKp (E5 k).1,(E5 k).2,()),()):=by
 have hk:=Cb h;have hf:=Ci hk.kok;have t0:=hf.t0;have t1:=hf.t1;have hz:=wT (t:=(stT k).ti+1) J J;have hd:=PZ (n:=(stT k).ti+1) J 4 J J;unfold VQ E5;rw[LS<|Cn h];simp only[A9,h,AB,A6,N1 h,Ku<|Cn h];rcases tf k.up with e|e
 .simp only[e,AB,Bo,A5];rw[AY J J,FE J J];simp only[A9];by_cases hc:999<=(stT k).ti
  .rw[A8<|AT hc];unfold wrR;rw[aev hk.kok hc]
  .rw[AD (by rw[BV hc];exact CV),A8<|AT (by rw[BK];simp;omega)];rw[show KT (tKp k,B [116,105,109,101,32]++BF ((stT k).ti+1),A1,())=_ from Tm hk.L8 (r:=Fz<|(stT k).ti+1) J A1];rfl
 .simp only[e,AE,Bq,A5,A6]
def asL{k:AA}(h:Au k=A1):Tk (tKp k,())=I ((tKp (E5 k).1,(E5 k).2,()),()):=by
 have hk:=Cb h;have hf:=Ci hk.kok;have t0:=hf.t0;have t1:=hf.t1;have hz:=wT (t:=(stT k).ti+1) J J;have hd:=PZ (n:=(stT k).ti+1) J 4 J J;unfold Tk E5;rw[Jb<|Cn h];simp only[A9,h,AB,A6,JX h,K5<|Cn h];rcases tf k.up with e|e
 .simp only[e,AB,A6,A5];rw[AY J J,Ip J J];simp only[A9];rw[A8<|AT (by rw[BK];simp;omega)];rw[show OI (tKp k,B [116,105,109,101,32]++BF ((stT k).ti+1),())=_ from dE hk (r:=Fz<|(stT k).ti+1) J];rfl
 .simp only[e,AE,A5,A6]
def Ml(n:A7):A4:=B [111,119,110,32]++wr n
def Dg(k:AA)(tt un:Int)(tx:A4):AA×Int:=
 if k.up&&B9 ⟨k.id,(stT k).nx,tt,un,tx⟩ then
  ((wrR k (Ml ⟨k.id,(stT k).nx,tt,un,tx⟩) A1).1,if(wrR k (Ml ⟨k.id,(stT k).nx,tt,un,tx⟩) A1).2 then(stT k).nx else 0)
 else(k,0)
def fj{n:A7}:wr n≠noB:=by
 intro h;have h1:(wr n).size=0:=by rw[h];rfl
 unfold wr at h1;simp only[Bb,BK,Bt,CB]at h1;omega
def sG:D0 (B [])=U:=by
 unfold D0;split
 .rename_i h;obtain⟨n,_,h⟩:=h;exact absurd h fj
 .rfl
def qm:CH [111,119,110]:=by unfold CH;decide
def zm:CH [116,97,107,101]:=by unfold CH;decide
def aaE{st:AU}{w:List UInt8}(hk:BI st=A1)(hw:CH w)(h:B w=Di\/B w=EM):C6 st (B (w++[32])++noB)=U:=by
 cases hc:C6 st (B (w++[32])++noB) with
 | none=>rfl
 | some o=>
  exfalso;obtain⟨a,_⟩:=(JJ hk).1 hc;rw[KQ (w:=w) (r:=[]) hw (by rw[Fp,L_B];simp[L,noB])]at a;have h2:∀v,v=Di\/v=EM->Bs st v (B [])=U:=by
   rintro v (rfl|rfl)
   .unfold Bs;rw[AD<|by decide,A8<|by decide,sG]
   .unfold Bs;rw[AD<|by decide,A8<|by decide,sG]
  rw[h2 _ h]at a;cases a
def adY{k:AA}{r:A4}{f:Bool}(h:C6 (stT k) r=U):wrR k r f=(k,A3):=by
 unfold wrR;rw[h]
def aZ{k:AA}{r:A4}{f:Bool}(h:(wrR k r f).2=A3):(wrR k r f).1=k:=by
 unfold wrR at h ⊢;split at h
 .rfl
 .cases h
def al3{k:AA}(h:Au k=A1)(tt un:Int){tx:A4}(ht:tx.size<=1048576):UI (tKp k,tt,un,tx,())=I ((tKp (Dg k tt un tx).1,(Dg k tt un tx).2,()),()):=by
 have hk:=Cb h;unfold UI Dg;rw[LS<|Cn h];simp only[A9,h,AB,A6,N1 h,Ku<|Cn h,RR ht];rcases tf k.up with e|e
 .rcases tf (B9 ⟨k.id,(stT k).nx,tt,un,tx⟩) with e2|e2
  .have hz:=cu (w:=B [111,119,110,32]) (by rw[BK];decide) e2;simp only[e,e2,AB,Bo,Cd,A5];rw[AD (by rw[BV fj];exact CV),A8<|AT (by rw[Bb]at hz;omega)];rw[show KT (tKp k,B [111,119,110,32]++wr ⟨k.id,(stT k).nx,tt,un,tx⟩,A1,())=_ from Tm hk.L8 (r:=Ml ⟨k.id,(stT k).nx,tt,un,tx⟩) hz A1];simp only[A9];rcases tf (wrR k (Ml ⟨k.id,(stT k).nx,tt,un,tx⟩) A1).2 with e3|e3
   .simp only[e3,AB,A6,A5]
   .simp only[e3,AE,A6,A5,aZ e3]
  .simp only[e,e2,AB,Bo,BZ,A6,AO,A5]
 .simp only[e,AE,Bq,AN,A5,A6]
def azS{k:AA}(h:Au k=A1)(tt un:Int){tx:A4}(ht:tx.size<=1048576):Uo (tKp k,tt,un,tx,())=I ((tKp (Dg k tt un tx).1,(Dg k tt un tx).2,()),()):=by
 have hk:=Cb h;unfold Uo Dg;rw[Jb<|Cn h];simp only[A9,h,AB,A6,JX h,K5<|Cn h,Ta ht];rcases tf k.up with e|e
 .rcases tf (B9 ⟨k.id,(stT k).nx,tt,un,tx⟩) with e2|e2
  .have hz:=cu (w:=B [111,119,110,32]) (by rw[BK];decide) e2;simp only[e,e2,AB,A6,Cd,A5];rw[A8<|AT (by rw[Bb]at hz;omega)];rw[show OI (tKp k,B [111,119,110,32]++wr ⟨k.id,(stT k).nx,tt,un,tx⟩,())=_ from dE hk (r:=Ml ⟨k.id,(stT k).nx,tt,un,tx⟩) hz];simp only[A9];rcases tf (wrR k (Ml ⟨k.id,(stT k).nx,tt,un,tx⟩) A1).2 with e3|e3
   .simp only[e3,AB,A6,A5]
   .simp only[e3,AE,A6,A5]
  .simp only[e,e2,AB,A6,BZ];have hb:C6 (stT k) (B [111,119,110,32]++noB)=U:=aaE hk.kok qm<|.inl rfl;have hz0:(B [111,119,110,32]++noB).size<=1048576:=by rw[Bb,BK];show 4+0<=1048576;omega
   have hl:=dE hk (r:=B [111,119,110,32]++noB) hz0;rw[adY hb]at hl;rw[A8<|AT (show(B [111,119,110,32]).size+noB.size<=4611686018427387904 by rw[BK];show 4+0<=4611686018427387904;omega),hl];rfl
 .simp only[e,AE,AN,A5,A6]
def CN(k:AA)(fr nu:Int):AA×A7×Bool:=
 if k.up&& !decide (Aa (stT k).inbox fr nu<0) then
  ((wrR k (EA CM fr nu (nA (stT k).inbox (Aa (stT k).inbox fr nu).toNat).un) A1).1,
   (if(wrR k (EA CM fr nu (nA (stT k).inbox (Aa (stT k).inbox fr nu).toNat).un) A1).2 then nA (stT k).inbox (Aa (stT k).inbox fr nu).toNat else zN),
   (wrR k (EA CM fr nu (nA (stT k).inbox (Aa (stT k).inbox fr nu).toNat).un) A1).2)
 else(k,zN,A3)
def R7(l:List A7)(i:Int): @rd A7 (dfl .note) l i=nA l i.toNat:=rfl
def Wd{n:A7}(h:B9 n=A1):(0<=n.fr/\n.fr<=999)/\(0<=n.nu/\n.nu<=999)/\(0<=n.un/\n.un<=999)/\isN n.fr=A1/\isN n.to=A1/\inB n.nu 1 99=A1/\inB n.un 1 999=A1/\n.tx.size<=24/\1<=n.tx.size:=by
 unfold B9 at h;simp only[AI]at h;obtain⟨a,b,c,d,e⟩:=h;have a1:=Ae.1 a;have c1:=Ae.1 c;have d1:=Ae.1 d;unfold Lx at e;rw[AI]at e;have e1:=Ae.1 e.1;exact⟨J,J,J,a,b,c,d,J,J⟩
def Yx{w:A4}{a b c:Int}(hw:w.size<=10)(ha:0<=a/\a<=999)(hb:0<=b/\b<=999)(hc:0<=c/\c<=999):(EA w a b c).size<=100:=by
 have h1:=HA ha.1 ha.2;have h2:=HA hb.1 hb.2;have h3:=HA hc.1 hc.2;unfold EA;simp only[Bb,BK,Bt,CB];omega
def fV{a b c:Int}(ha:0<=a/\a<=999)(hb:0<=b/\b<=999)(hc:0<=c/\c<=999):Nt (a,b,c,())=I ((((((BF a++B [32])++BF b)++B [32])++BF c),()),()):=by
 have h1:=HA ha.1 ha.2;have h2:=HA hb.1 hb.2;have h3:=HA hc.1 hc.2;unfold Nt;simp only[FE (n:=a) J J,FE (n:=b) J J,FE (n:=c) J J,A9];rw[A8<|AT (by simp only[Bb,BK,Bt,CB];omega),A8<|AT (by simp only[Bb,BK,Bt,CB];omega),A8<|AT (by simp only[Bb,BK,Bt,CB];omega),A8<|AT (by simp only[Bb,BK,Bt,CB];omega)]
def X6(w:List UInt8)(a b c:Int):B (w++[32])++((((BF a++B [32])++BF b)++B [32])++BF c)=EA (B w) a b c:=by
 apply F9;unfold EA;simp only[Fp,L_B,C2]
def arN{k:AA}(h:Au k=A1)(fr nu:Int):Tg (tKp k,fr,nu,())=I ((tKp (CN k fr nu).1,tN (CN k fr nu).2.1,(CN k fr nu).2.2,()),()):=by
 have hk:=Cb h;have hf:=Ci hk.kok;have il:=hf.il;unfold Tg CN;rw[LS<|Cn h];simp only[A9,h,AB,A6,N1 h,Ku<|Cn h,J4 (l:=(stT k).inbox)<|show(stT k).inbox.length<=1048576 by omega];rcases tf k.up with e|e
 .by_cases hi:Aa (stT k).inbox fr nu<0
  .simp only[e,AB,Bo,AT hi,A5,BZ,A6]
  .have hi':0<=Aa (stT k).inbox fr nu:=J
   obtain⟨i1,i2,i3,i4⟩:=Ii hi';have hn:=G7 hf.i i1;obtain⟨r1,r2,r3,_⟩:=Wd hn;rw[i3]at r1;rw[i4]at r2;have hz:=Yx (w:=CM) (by decide) r1 r2 r3;have hl:=Tm hk.L8 (r:=EA CM fr nu (nA (stT k).inbox (Aa (stT k).inbox fr nu).toNat).un) J A1;simp only[e,AB,Bo,BV hi,A6,AE,Cd,A5,MM hi',R7,fV r1 r2 r3,A9];rw[A8<|AT (by rw[← X6 [101,97,116]]at hz;rw[Bb]at hz;rw[show(B [101,97,116,32]).size=(B<|[101,97,116]++[32]).size from rfl];omega)];rw[show(B [101,97,116,32])=B ([101,97,116]++[32]) from rfl,X6 [101,97,116],hl];simp only[A9];rcases tf (wrR k (EA CM fr nu (nA (stT k).inbox (Aa (stT k).inbox fr nu).toNat).un) A1).2 with e3|e3
   .simp only[e3,AB,A6,A5]
   .simp only[e3,AE,A6,A5,aZ e3]
 .simp only[e,AE,Bq,AN,A5,A6]
def axr{k:AA}(h:Au k=A1)(fr nu:Int):So (tKp k,fr,nu,())=I ((tKp (CN k fr nu).1,tN (CN k fr nu).2.1,(CN k fr nu).2.2,()),()):=by
 have hk:=Cb h;have hf:=Ci hk.kok;have il:=hf.il;unfold So CN;rw[Jb<|Cn h];simp only[A9,h,AB,A6,JX h,K5<|Cn h,L9 (l:=(stT k).inbox)<|show(stT k).inbox.length<=1048576 by omega];rcases tf k.up with e|e
 .by_cases hi:Aa (stT k).inbox fr nu<0
  .simp only[e,AB,Bo,AT hi,A5,BZ,A6]
  .have hi':0<=Aa (stT k).inbox fr nu:=J
   obtain⟨i1,i2,i3,i4⟩:=Ii hi';have hn:=G7 hf.i i1;obtain⟨r1,r2,r3,_⟩:=Wd hn;rw[i3]at r1;rw[i4]at r2;have hz:=Yx (w:=CM) (by decide) r1 r2 r3;have hl:=dE hk (r:=EA CM fr nu (nA (stT k).inbox (Aa (stT k).inbox fr nu).toNat).un) J;simp only[e,AB,Bo,BV hi,A6,AE,Cd,A5,MM hi',R7,ns (w:=CM) (by decide) r1 r2 r3,A9,hl];rcases tf (wrR k (EA CM fr nu (nA (stT k).inbox (Aa (stT k).inbox fr nu).toNat).un) A1).2 with e3|e3
   .simp only[e3,AB,A6,A5]
   .simp only[e3,AE,A6,A5]
 .simp only[e,AE,Bq,AN,A5,A6]
def GN(k:AA)(fr nu mix:Int):Frame×Bool:=
 if k.up&&(!decide (Aa (stT k).held fr nu<0)&&inB mix 0 999) then
  let n:=nA (stT k).held (Aa (stT k).held fr nu).toNat
  (⟨1,k.id,EH k.id n.to,n.fr,n.nu,n.to,n.un,n.tx.size,mix,IY n.tx mix⟩,A1)
 else(zF,A3)
def alE{k:AA}(sm:EL k)(fr nu mix:Int):UZ (tKp k,fr,nu,mix,())=I ((tF (if Au k then GN k fr nu mix else(zF,A3)).1,(if Au k then GN k fr nu mix else(zF,A3)).2,()),()):=by
 unfold UZ GN;rw[LS sm];rcases tf (Au k) with h|h
 .have hk:=Cb h;have hf:=Ci hk.kok;have hl:=hf.hl;rcases tf k.up with e|e
  .simp only[A9,h,e,AB,Fa,A6,A5,N1 h,J4 (l:=(stT k).held)<|show(stT k).held.length<=1048576 by omega,HZ,CE,CF,Dr];by_cases hi:Aa (stT k).held fr nu<0
   .simp only[AT hi,Bq,A5,AB,AN,BZ,A6]
   .have hi':0<=Aa (stT k).held fr nu:=J
    rcases tf (inB mix 0 999) with e2|e2
    .simp only[BV hi,e2,AB,Fa,A6,AE,Cd,A5,MM hi',R7,lm,aqT,A9]
    .simp only[BV hi,e2,AE,DL,A5,BZ,A6]
  .simp only[A9,h,e,AB,AE,DL,A5,AN,A6]
 .simp only[A9,h,AE,Bq,A5,A6]
def an3{k:AA}(sm:EL k)(fr nu mix:Int):TU (tKp k,fr,nu,mix,())=I ((tF (if Au k then GN k fr nu mix else(zF,A3)).1,(if Au k then GN k fr nu mix else(zF,A3)).2,()),()):=by
 unfold TU GN;rw[Jb sm];rcases tf (Au k) with h|h
 .have hk:=Cb h;have hf:=Ci hk.kok;have hl:=hf.hl;rcases tf k.up with e|e
  .simp only[A9,h,e,AB,A6,A5,ED];rcases tf (inB mix 0 999) with e2|e2
   .simp only[e2,AB,A6,JX h,L9 (l:=(stT k).held)<|show(stT k).held.length<=1048576 by omega,A9];by_cases hi:Aa (stT k).held fr nu<0
    .simp only[AT hi,A5,AB,AN,BZ,A6]
    .have hi':0<=Aa (stT k).held fr nu:=J
     simp only[BV hi,A6,AE,Cd,A5,MM hi',R7,yJ,amm,A9]
   .simp only[e2,AE,A5,BZ,A6]
  .simp only[A9,h,e,AB,AE,A5,AN,A6]
 .simp only[A9,h,AE,A5,A6]
def EW(k:AA):AA×Bool:=if k.up then(pkM k,A1) else(k,A3)
def aBd{k:AA}{st:AU}(h:HR k st):JO k.log k.fo (CS st)=((Cp<|CS st,((Cp<|CS st).size:Int)),A1):=by
 have hrs:=Sq h.kok;have hps:=aL h.kok;unfold JO;rw[A8 h.sh,A8];rw[AI];refine⟨?_,AT J⟩;unfold FR;rw[C0];exact λx hx=>by
  have:=hrs.1 x hx;exact Ae.2 J
def afZ{k:AA}(h:Au k=A1):U8 (tKp k,())=I ((tKp (EW k).1,(EW k).2,()),()):=by
 have hk:=Cb h;have hsm:=QS<|Ci hk.kok;have hP:=qp (lg:=k.log) (fo:=k.fo) (rs:=CS<|stT k) (Pm h)<|al hk.kok;rw[aBd hk.L8]at hP;unfold U8 EW;rw[LS<|Cn h];simp only[A9,h,AB,A6,N1 h,Ku<|Cn h,vC hsm,hk.kok,A5,hP];rcases tf k.up with e|e
 .simp only[e,AB,Fa,A6,A5];unfold pkM;simp only[e]
 .simp only[e,AE,Bq,A5,A6]
def ajf{k:AA}(h:Au k=A1):Ud (tKp k,())=I ((tKp (EW k).1,(EW k).2,()),()):=by
 have hk:=Cb h;have hsm:=QS<|Ci hk.kok;have hP:=qd (lg:=k.log) (fo:=k.fo) (rs:=CS<|stT k) (Pm h)<|al hk.kok;rw[aBd hk.L8]at hP;unfold Ud EW;rw[Jb<|Cn h];simp only[A9,h,AB,A6,K5<|Cn h];rcases tf k.up with e|e
 .simp only[e,AB,A6,A5,JX h,yj hsm,hk.kok,hP,A9];unfold pkM;simp only[e]
 .simp only[e,AE,A5,A6]
def Eb(k:AA):AA×Bool:=if k.up&& !decide (k.fo=(k.log.size:Int)) then(foM k,A1) else(k,A3)
def anl{k:AA}(h:Au k=A1):SN (tKp k,())=I ((tKp (Eb k).1,(Eb k).2,()),()):=by
 have hf:=FH h;have hF:=W9 (lg:=k.log) (fo:=k.fo)<|Pm h;rw[show Iv k.log k.fo=(k.log,(k.log.size:Int)) from A8 hf.sh]at hF;unfold SN Eb;rw[LS<|Cn h];simp only[A9,h,AB,A6,Ku<|Cn h];rcases tf k.up with e|e<;>rcases tfp (k.fo=(k.log.size:Int)) with e2|e2<;>simp only[e,e2,AO,Af,AB,AE,DL,Bq,Fa,Cd,BZ,AN,A5,A6,hF,A9];unfold foM;simp only[e]
def aiV{k:AA}(h:Au k=A1):T7 (tKp k,())=I ((tKp (Eb k).1,(Eb k).2,()),()):=by
 have hf:=FH h;unfold T7 Eb;rw[Jb<|Cn h];simp only[A9,h,AB,A6,K5<|Cn h];rcases tf k.up with e|e<;>rcases tfp (k.fo=(k.log.size:Int)) with e2|e2<;>simp only[e,e2,AO,Af,AB,AE,DL,Bq,Fa,Cd,BZ,AN,A5,A6];rw[show Nd ((tKp k,()))=_ from af hf.sh];rfl
def abR{k:AA}(h:Au k=A1)(keep:Int):(faM k keep)=⟨k.id,A3,(Lw k.log k.fo keep).1,(Lw k.log k.fo keep).2,[]⟩:=by
 unfold faM Lw EO;rw[A8 (FH h).sh]
def axE{k:AA}(sm:EL k)(keep:Int):Uy (tKp k,keep,())=I ((tKp<|if Au k then faM k keep else zKp,()),()):=by
 unfold Uy;rw[LS sm];rcases tf (Au k) with h|h
 .simp only[A9,h,AB,A6,A5,azK sm.1,abR h]
 .simp only[A9,h,AE,A5,A6]
def au1{k:AA}(sm:EL k)(keep:Int):Uj (tKp k,keep,())=I ((tKp<|if Au k then faM k keep else zKp,()),()):=by
 unfold Uj;rw[Jb sm];rcases tf (Au k) with h|h
 .simp only[A9,h,AB,A6,A5,anz sm.1,abR h]
 .simp only[A9,h,AE,A5,A6]
def zi{k:AA}(h:Au k=A1)(hu:k.up=A3):k.AM=[]:=by
 rcases(FH h).up with h1|h1
 .rw[hu]at h1;cases h1
 .exact E9 h1
def agn{k:AA}(h:Au k=A1):SW (tKp k,())=I ((tKp<|riM k,()),()):=by
 unfold SW riM;rw[LS<|Cn h];simp only[A9,h,AB,A6];rcases tf k.up with e|e
 .simp only[e,A5,Ku<|Cn h,A9];rw[← e]
 .simp only[e,A6,zi h e]
def auI{k:AA}(h:Au k=A1):Sw (tKp k,())=I ((tKp<|riM k,()),()):=by
 unfold Sw riM;rw[Jb<|Cn h];simp only[A9,h,AB,A6,K5<|Cn h]
def acC{hv:List AG}{i:Nat}(h:i<hv.length)(x:AG):hA (hv.set i x) i=x:=by
 rw[hA,BG,dm h];rfl
def akT{l:List AG}{f n:Int}(hl:l.length<=1048576):Yp (l,f,n,())=I ((ER l f n,()),()):=by
 have h:fQ (l,f,n,0,())=I (if ER l f n<0 then .inr () else .inl (ER l f n,())):=
  OZ (λi=>(l,f,n,(i:Int),())) l.length (λi=>A0 ((hA l i).fr=f)&&A0 ((hA l i).nu=n)) (λi=>(i,())) () (λi hi=>by
   unfold cF;simp only[I7 hi,AX hi,A5,Jh,Dr,DV hi hl];rcases tfp ((hA l i).fr=f) with e|e<;>rcases tfp ((hA l i).nu=n) with e2|e2<;>simp only[e,e2,AO,Af,Cd,BZ,AN,A5,A6]) (by
   unfold cF;simp only[Fv,A6])
 unfold Yp;rw[h];by_cases e':ER l f n<0
 .have:ER l f n= -1:=by
   rcases Gw l.length (λi=>A0 ((hA l i).fr=f)&&A0 ((hA l i).nu=n)) with h|⟨i,h,_⟩
   .exact h.1
   .have:ER l f n=(i:Int):=h;omega
  rw[A8 e',this];rfl
 .rw[AD e'];rfl
def QJ(l:List AG)(f n:Int):ER l f n<0\/ ∃i:Nat,ER l f n=(i:Int)/\i<l.length/\(hA l i).fr=f/\(hA l i).nu=n:=by
 rcases Gw l.length (λi=>A0 ((hA l i).fr=f)&&A0 ((hA l i).nu=n)) with h|⟨i,h,h2,h3,_⟩
 .left;have:ER l f n= -1:=h.1;omega
 .right;rw[AI]at h3;exact⟨i,h,h2,BP h3.1,BP h3.2⟩
def Az(hv:List AG)(f:Frame):List AG×Nat:=
 if ER hv f.fr f.nu<0 then((if 3<=hv.length then hv.drop 1 else hv)++[⟨f.fr,f.nu,f.to,f.un,f.sz,[]⟩],(if 3<=hv.length then hv.drop 1 else hv).length)
 else(hv,(ER hv f.fr f.nu).toNat)
def RI{hv:List AG}{f:Frame}:(Az hv f).2<(Az hv f).1.length:=by
 unfold Az;rcases QJ hv f.fr f.nu with h|⟨i,h1,h2,_⟩
 .rw[A8 h];simp
 .rw[AD J];show(ER hv f.fr f.nu).toNat<hv.length;omega
def UJ{hv:List AG}{f:Frame}(h:hv.length<=3):(Az hv f).1.length<=3:=by
 unfold Az;split
 .simp only[Ap,JW];split
  .rw[Dc];omega
  .omega
 .exact h
def EQ(mix:Int)(m:AQ):Bool:= !decide (m.nu=mix)
def EP(got:List AQ)(mix:Int)(da:A4):List AQ:=
 (if 14<=(got.filter<|EQ mix).length then(got.filter<|EQ mix).drop 1 else got.filter (EQ mix))++[⟨mix,da⟩]
def xy{p:AQ->Bool}(pre:List AQ)(m:AQ):(pre++[m]).filter p=pre.filter p++if p m then [m] else []:=by
 rw[Xf];congr 1;simp only[J7,aD]
def azP{mix:Int}{da:A4}(post:List AQ):∀(pre:List AQ),(pre++post).length<=1048576->
  cI ((mix,da,()),pre.filter<|EQ mix,pre++post,((pre++post).length:Int),(pre.length:Int),())=I (.inr ((mix,da,()),(pre++post).filter<|EQ mix,())):=by
 induction post with
 | nil=>
  intro pre _;refine BT ?_;unfold ZG;simp only[C1,Fv,A6]
 | cons m post ih=>
  intro pre hl;have hlen:pre.length<(pre++m::post).length:=by simp
  have hw:=DV hlen hl;have hf:(pre.filter<|EQ mix).length<=pre.length:=IZ _ _;have:=ih (pre++[m]) (by rw[← snoc];exact hl);rw[← snoc]at this;refine B4 ?_ this;unfold ZG;simp only[I7 hlen,A5,AX hlen,MW,hw,xy,@Ap _ pre [m],JW];rcases tfp (m.nu=mix) with e|e
  .have:EQ mix m=A3:=by unfold EQ;simp only[e,AO,AB]
   simp only[e,this,AO,AB,A6,C1]
  .have:EQ mix m=A1:=by unfold EQ;simp only[e,Af,AE]
   simp only[e,this,Af,AE,A5];rw[A8<|B7 (by simp at hl ⊢; omega)]
def ak2{got:List AQ}{mix:Int}{da:A4}(hl:got.length<=1048576):Yq (got,(mix,da,()),())=I ((EP got mix da,()),()):=by
 have hf:(got.filter<|EQ mix).length<=got.length:=IZ _ _;unfold Yq EP;rw[show cI ((mix,da,()),[],got,(got.length:Int),0,())=_ from azP got [] hl];simp only[AS,A9,Ef];by_cases h:14<=(got.filter<|EQ mix).length
 .rw[A8<|AT J,A8 h,A8 (by simp;omega),A8<|FQ (by rw[Dc];omega)<|by simp];rfl
 .rw[AD (by rw[BV J];exact CV),AD h,A8<|FQ J<|by simp]
def as1{k:Int×Bool×A4×Int×List AG×A2}{f:Frame}{z:Int×Bool×A4×Int×List AG×A2}{i:Int}{h:AG}(post:List AQ):∀(pre:List AQ),h.got=pre++post->(pre++post).length<=1048576->
  Zf (k,tF f,z,i,(h.fr,h.nu,h.to,h.un,h.sz,h.got,()),pre.filter<|EQ f.mix,(pre.length:Int),())=I (.inr (k,tF f,z,i,(h.fr,h.nu,h.to,h.un,h.sz,h.got,()),h.got.filter<|EQ f.mix,())):=by
 induction post with
 | nil=>
  intro pre hg _;rw[C1]at hg;refine BT ?_;unfold W2;simp only[hg,Fv,A6]
 | cons m post ih=>
  intro pre hg hl;have hlen:pre.length<(pre++m::post).length:=by simp
  have hw:=DV hlen hl;have hf:(pre.filter<|EQ f.mix).length<=pre.length:=IZ _ _;have:=ih (pre++[m]) (by rw[hg,snoc]) (by rw[← snoc];exact hl);refine B4 ?_ this;unfold W2;simp only[hg,I7 hlen,A5,AX hlen,MW,hw,xy,@Ap _ pre [m],JW];rcases tfp (m.nu=f.mix) with e|e
  .have:EQ f.mix m=A3:=by unfold EQ;simp only[e,AO,AB]
   simp only[e,this,AO,AB,A6,C1]
  .have:EQ f.mix m=A1:=by unfold EQ;simp only[e,Af,AE]
   simp only[e,this,Af,AE,A5];rw[A8<|B7 (by simp at hl ⊢; omega)]
def Ea(hv:List AG)(i:Nat):List AG:=hv.take i++hv.drop (i+1)
def adE{hv:List AG}{i:Nat}(hi:i<hv.length)(hl:hv.length<=1048576):Ok (hv,(i:Int),())=I ((Ea hv i,()),()):=by
 unfold Ok Ea;simp only[Bw,Ef];rw[DV hi hl,A8 (by simp;omega),A8<|FQ (l:=([]:List AG)) (by simp) (by simp;omega),A8 (by simp;omega),A8<|FQ (by simp;omega) (by simp;omega),Bw]
def D2(hv:List AG)(i:Nat)(f:Frame):List AG:=hv.set i ⟨(hA hv i).fr,(hA hv i).nu,(hA hv i).to,(hA hv i).un,(hA hv i).sz,EP (hA hv i).got f.mix f.da⟩
def PX(h:AG)(f:Frame):Bool:=A0 (h.to=f.to)&&(A0 (h.un=f.un)&&A0 (h.sz=f.sz))
def auQ{k:AA}(sm:EL k)(h3:k.AM.length<=3)(f:Frame):
  WX (tKp k,tF f,())=I ((if PX (hA (Az k.AM f).1 (Az k.AM f).2) f then((k.id,k.up,k.log,k.fo,D2 (Az k.AM f).1 (Az k.AM f).2 f,()),((Az k.AM f).2:Int),()) else((k.id,k.up,k.log,k.fo,(Az k.AM f).1,()),-1,()),())):=by
 obtain⟨id,up,lg,fo,hv⟩:=k;obtain⟨sl,hl,hs⟩:=sm;simp only at sl hl hs h3;unfold WX;simp only[akT hl,A9];have EX:=RI (hv:=hv) (f:=f);have Kh:=UJ (hv:=hv) (f:=f) h3;have UN:(hA (Az hv f).1 (Az hv f).2).got.length<=1048576:=by
  unfold Az;rcases QJ hv f.fr f.nu with h|⟨i,h1,h2,_⟩
  .rw[A8 h];simp only;rw[hA,BG,Ek<|Ar _];simp
  .rw[AD J];show(hA hv (ER hv f.fr f.nu).toNat).got.length<=1048576;rw[h1,Bw,HK h2];exact(hs _<|Cm h2).1
 have mJ:∀ {Ω:Type} (F:(Int×Bool×A4×Int×List AG×A2)×(Int×Int×Int×Int×Int×Int×Int×Int×Int×A4×A2)×(Int×Bool×A4×Int×List AG×A2)×Int×A2->Option Ω),
   B8 F ((if(A0<|ER hv f.fr f.nu<0) then
    (B8 (X:=(Int×Bool×A4×Int×List AG×A2)×(Int×Int×Int×Int×Int×Int×Int×Int×Int×A4×A2)×(Int×Bool×A4×Int×List AG×A2)×A2) (λj7=>
    (if Ab (j7.1.2.2.2.2.1.length+([(AG.mk j7.2.1.2.2.2.1 j7.2.1.2.2.2.2.1 j7.2.1.2.2.2.2.2.1 j7.2.1.2.2.2.2.2.2.1 j7.2.1.2.2.2.2.2.2.2.1 ([]:List AQ))]:List AG).length) then
    let v9:=(w64<|((j7.1.2.2.2.2.1++([(AG.mk j7.2.1.2.2.2.1 j7.2.1.2.2.2.2.1 j7.2.1.2.2.2.2.2.1 j7.2.1.2.2.2.2.2.2.1 j7.2.1.2.2.2.2.2.2.2.1 ([]:List AQ))]:List AG)).length:Int) - 1)
    I (.inr ((j7.1.1,j7.1.2.1,j7.1.2.2.1,j7.1.2.2.2.1,(j7.1.2.2.2.2.1++([(AG.mk j7.2.1.2.2.2.1 j7.2.1.2.2.2.2.1 j7.2.1.2.2.2.2.2.1 j7.2.1.2.2.2.2.2.2.1 j7.2.1.2.2.2.2.2.2.2.1 ([]:List AQ))]:List AG)),()),j7.2.1,j7.2.2.1,v9,()))
    else U))
    ((if(A0<|3<=(hv.length:Int)) then
    (Ok (hv,0,())).bind λr8=>
    I (.inr ((id,up,lg,fo,r8.1),tF f,(0,A3,noB,0,([]:List AG),()),()))
    else
    I (.inr ((id,up,lg,fo,hv,()),tF f,(0,A3,noB,0,([]:List AG),()),())))))
    else
    I (.inr ((id,up,lg,fo,hv,()),tF f,(0,A3,noB,0,([]:List AG),()),(ER hv f.fr f.nu,())))))=F ((id,up,lg,fo,(Az hv f).1,()),tF f,(0,A3,noB,0,[],()),((Az hv f).2:Int),()):=by
  intro Ω F;unfold Az;rcases QJ hv f.fr f.nu with h|⟨i,h1,h2,_⟩
  .rw[A8<|AT h,A8 h];by_cases h4:3<=hv.length
   .have hd:=adE (hv:=hv) (i:=0) J hl;rw[A8<|AT J,show Ok (hv,0,())=_ from hd];simp only[A9,Bg,A8 h4];rw[show Ea hv 0=hv.drop 1 from by simp[Ea],A8<|FQ (by simp;omega)<|by simp,Bg,AY (by first|(simp;done)|(simp;omega)) (by first|(simp;done)|(simp;omega))];congr 1;simp
   .rw[AD (by rw[BV J];exact CV)];simp only[Bg,AD h4];rw[A8<|FQ J<|by simp,Bg,AY (by first|(simp;done)|(simp;omega)) (by first|(simp;done)|(simp;omega))];congr 1;simp
  .rw[AD (by rw[BV J];exact CV),AD<|show ¬ER hv f.fr f.nu<0 by omega,Bg];simp only;rw[h1,Bw]
 rw[mJ];revert EX Kh UN;generalize (Az hv f).1=l;generalize (Az hv f).2=i;intro EX Kh UN;unfold PX;have hff:((hA l i).got.filter<|EQ f.mix).length<=(hA l i).got.length:=IZ _ _;simp only[AX EX,A5,Jh,Bw];rcases tfp ((hA l i).to=f.to) with e1|e1<;>simp only[e1,AO,Af,AB,AE,A6,A5,AW,AN];rcases tfp ((hA l i).un=f.un) with e2|e2<;>simp only[e2,AO,Af,AB,AE,A6,A5,AW,AN];rcases tfp ((hA l i).sz=f.sz) with e3|e3<;>simp only[e3,AO,Af,AB,AE,A6,A5];have hgo:=as1 (k:=(id,up,lg,fo,l,())) (f:=f) (z:=(0,A3,noB,0,[],())) (i:=(i:Int)) (h:=hA l i) (hA l i).got [] rfl UN;rw[show Zf ((id,up,lg,fo,l,()),tF f,(0,A3,noB,0,[],()),(i:Int),((hA l i).fr,(hA l i).nu,(hA l i).to,(hA l i).un,(hA l i).sz,(hA l i).got,()),[],0,())=_ from hgo];simp only[AS,A9];unfold D2 EP;by_cases h:14<=((hA l i).got.filter<|EQ f.mix).length
 .rw[A8<|AT J,A8 h,A8 (by simp;omega),A8<|FQ (l:=([]:List AQ)) (by simp) (by rw[Dc];omega),Bg];simp only[Ef,show AK 1=1 from rfl];rw[A8<|FQ (by rw[Dc];omega)<|by simp,A8<|AX EX];rfl
 .rw[AD (by rw[BV J];exact CV),AD h,Bg];dsimp only;rw[A8<|FQ J<|by simp,A8<|AX EX];rfl
def ON(kind:Int)(f:Frame):Frame:=⟨kind,f.dst,f.src,f.fr,f.nu,f.to,f.un,0,0,noB⟩
def M8(n:A7):A4:=B [116,97,107,101,32]++wr n
abbrev L6(k:AA)(hv:List AG):AA:=⟨k.id,k.up,k.log,k.fo,hv⟩
def KW(k:AA)(n:A7)(f:Frame):AA×List Frame:=
 if B9 n&&(wrR k (M8 n) A1).2 then((wrR k (M8 n) A1).1,[ON 2 f]) else(k,[])
def KF(k:AA)(f:Frame):AA×List Frame:=
 if PX (hA (Az k.AM f).1 (Az k.AM f).2) f then
  (if(Fh f.sz<|EP (hA (Az k.AM f).1 (Az k.AM f).2).got f.mix f.da).2 then
   KW (L6 k<|Ea (D2 (Az k.AM f).1 (Az k.AM f).2 f) (Az k.AM f).2) ⟨f.fr,f.nu,f.to,f.un,(Fh f.sz<|EP (hA (Az k.AM f).1 (Az k.AM f).2).got f.mix f.da).1⟩ f
  else(L6 k<|D2 (Az k.AM f).1 (Az k.AM f).2 f,[]))
 else(L6 k (Az k.AM f).1,[])
def HX(k:AA)(f:Frame):AA×List Frame:=
 if f.un<=(stT k).ti then(k,[ON 3 f])
 else if 0<=Aa (stT k).held f.fr f.nu\/0<=Cf (stT k).marks f.fr f.nu then(foM k,[ON 2 f])
 else if f.fr=k.id then(k,[])
 else KF k f
def uh{s:Int}{l:List AQ}:(Fh s l).1.size<=24:=by
 unfold Fh;split
 .rename_i h;have h1:=Ae.1 h;split
  .exact Ce _
  .rename_i c hc;split
   .have hb:inB (Ay (s+3) 4) 1 6=A1:=by
     have hd:Ay (s+3) 4=(s+3) / 4:=G5 J;exact Ae.2 J
    have hk:=gG hb l;have hz:=cH hk.all hc;have hz0:noB.size=0:=rfl;have hd:Ay (s+3) 4=(s+3) / 4:=G5 J;rw[hk.1,hz0]at hz;rw[G0 J];omega
   .exact Ce _
 .exact Ce _
def aA6(got:List AQ)(mix:Int)(da:A4):(EP got mix da).length<=got.length+1:=by
 have hf:(got.filter<|EQ mix).length<=got.length:=IZ _ _;unfold EP;simp only[Ap,JW];split
 .rw[Dc];omega
 .omega
def wM{h:AG}(ok:FW h=A1):h.got.length<=14:=by
 unfold FW at ok;simp only[AI]at ok;have h1:=BP ok.2.2.2.2.2.1;omega
def ab1{hv:List AG}{f:Frame}(hs:∀h∈hv,FW h=A1):(hA (Az hv f).1 (Az hv f).2).got.length<=14:=by
 unfold Az;rcases QJ hv f.fr f.nu with h|⟨i,h1,h2,_⟩
 .rw[A8 h];simp only;rw[hA,BG,Ek<|Ar _];simp
 .rw[AD J];show(hA hv (ER hv f.fr f.nu).toNat).got.length<=14;rw[h1,Bw,HK h2];exact wM<|hs _<|Cm h2
def aa1{k:AA}{st:AU}(h:HR k st)(hv:List AG):HR (L6 k hv) st:=⟨h.sh,h.st⟩
def ux{k:AA}(h:Au k=A1):∀x∈k.AM,FW x=A1:=by
 intro x hx;obtain⟨i,hi,rfl⟩:=cd hx;have:=(FH h).hv i hi;unfold G2 at this;rw[AI]at this;exact this.1
def anD{k:AA}(h:Au k=A1){f:Frame}(hf:Co f=A1)(h1:f.ki=1):Um (tKp k,tF f,())=I ((tKp (HX k f).1,(HX k f).2,()),()):=by
 have hk:=Cb h;have hkf:=Ci hk.kok;have sm:=Cn h;have kf:=FH h;have hF:=W9 (lg:=k.log) (fo:=k.fo)<|Pm h;rw[show Iv k.log k.fo=(k.log,(k.log.size:Int)) from A8 kf.sh]at hF;have hl:=hkf.hl;have ml:=hkf.ml;have hfr:inB f.sz 1 24=A1/\inB f.mix 0 999=A1:=by
  unfold Co Mp at hf;simp only[AI]at hf;have:=hf.2.2.2.2.2.2;rw[A8<|AT h1]at this;simp only[AI]at this;exact⟨this.1,this.2.1⟩
 have hsz:=Ae.1 hfr.1;have hmx:DU (Ay (f.sz+3) 4) f.mix=A1:=by
  have hd:Ay (f.sz+3) 4=(f.sz+3) / 4:=G5 J;unfold DU;rw[hfr.2,M4];exact Ae.2 J
 unfold Um HX;simp only[N1 h,A9];by_cases c1:f.un<=(stT k).ti
 .rw[A8<|AT c1,A8 c1];rfl
 .rw[AD (by rw[BV c1];exact CV),AD c1];simp only[J4 (l:=(stT k).held)<|show(stT k).held.length<=1048576 by omega,Pt (l:=(stT k).marks)<|show(stT k).marks.length<=1048576 by omega,A9,CE,CF,Dr,A5];by_cases c2:0<=Aa (stT k).held f.fr f.nu\/0<=Cf (stT k).marks f.fr f.nu
  .rw[A8 (by rw[Cj];exact c2.imp AT AT),A8 c2];simp only[hF,A9];rfl
  .rw[AD (by rw[Cj];exact λh=>c2<|h.imp BP BP),AD c2];simp only[ZR (n:=f.sz) J J,Zt,hmx,CE,CF,Dr,A5,AB,EN];by_cases c3:f.fr=k.id
   .rw[A8<|AT c3,A8 c3]
   .rw[AD (by rw[BV c3];exact CV),AD c3];have lT:=auQ sm kf.hl f;rw[lT];simp only[A9];unfold KF;rcases tf (PX (hA (Az k.AM f).1 (Az k.AM f).2) f) with c4|c4
    .have EX:=RI (hv:=k.AM) (f:=f);have Kh:=UJ (hv:=k.AM) (f:=f) kf.hl;have hal:(D2 (Az k.AM f).1 (Az k.AM f).2 f).length=(Az k.AM f).1.length:=by unfold D2;rw[FK]
     have lI:=ab1 (f:=f)<|ux h;have hgl:=aA6 (hA (Az k.AM f).1 (Az k.AM f).2).got f.mix f.da;have UN:(hA (D2 (Az k.AM f).1 (Az k.AM f).2 f) (Az k.AM f).2).got=EP (hA (Az k.AM f).1 (Az k.AM f).2).got f.mix f.da:=by
      unfold D2;rw[acC EX]
     simp only[c4,A5];rw[AD (by rw[BV J];exact CV),A8<|AX (by rw[hal];exact EX)];simp only[Jh,UN,aqL f.sz _<|show(EP (hA (Az k.AM f).1 (Az k.AM f).2).got f.mix f.da).length<=1048576 by omega,A9];rcases tf (Fh f.sz<|EP (hA (Az k.AM f).1 (Az k.AM f).2).got f.mix f.da).2 with c5|c5
     .simp only[c5,AB,A6,A5];rw[adE (by rw[hal];exact EX) (by rw[hal];omega)];simp only[A9];rw[RR (by have:=uh (s:=f.sz) (l:=EP (hA (Az k.AM f).1 (Az k.AM f).2).got f.mix f.da);omega)];simp only[A9];unfold KW;generalize hn:(⟨f.fr,f.nu,f.to,f.un,(Fh f.sz<|EP (hA (Az k.AM f).1 (Az k.AM f).2).got f.mix f.da).1⟩:A7)=n;rcases tf (B9 n) with c6|c6
      .have hz:=cu (w:=B [116,97,107,101,32]) (by rw[BK];decide) c6;have hw:=Tm (aa1 hk.L8<|Ea (D2 (Az k.AM f).1 (Az k.AM f).2 f) (Az k.AM f).2) (r:=M8 n) hz A1;simp only[c6,A5,AW];rw[AD (by rw[BV fj];exact CV),A8<|AT (by rw[Bb]at hz;omega)];rw[show KT ((k.id,k.up,k.log,k.fo,Ea (D2 (Az k.AM f).1 (Az k.AM f).2 f) (Az k.AM f).2,()),B [116,97,107,101,32]++wr n,A1,())=_ from hw];simp only[A9];rcases tf (wrR (L6 k<|Ea (D2 (Az k.AM f).1 (Az k.AM f).2 f) (Az k.AM f).2) (M8 n) A1).2 with c7|c7
       .simp only[c7,AB,A6,A5];rfl
       .simp only[c7,AE,A6,A5,aZ c7]
      .simp only[c6,A6,AO,A5,AN]
     .simp only[c5,AE,A6,A5]
    .simp only[c4,A6];rfl
def auc{k:AA}(h:Au k=A1){f:Frame}:VY (tKp k,tF f,())=I ((tKp (HX k f).1,(HX k f).2,()),()):=by
 have hk:=Cb h;have hkf:=Ci hk.kok;have sm:=Cn h;have kf:=FH h;have hl:=hkf.hl;have ml:=hkf.ml;have hl3:=kf.hl;have hlen:k.AM.length<=1048576:=J
 unfold VY HX;simp only[JX h,A9];by_cases c1:f.un<=(stT k).ti
 .rw[A8<|AT c1,A8 c1];rfl
 .rw[AD (by rw[BV c1];exact CV),AD c1];simp only[L9 (l:=(stT k).held)<|show(stT k).held.length<=1048576 by omega,RO (l:=(stT k).marks)<|show(stT k).marks.length<=1048576 by omega,A9,CE,CF,Dr,A5];by_cases c2:0<=Aa (stT k).held f.fr f.nu\/0<=Cf (stT k).marks f.fr f.nu
  .rw[A8 (by rw[Cj];exact c2.imp AT AT),A8 c2,af kf.sh];rfl
  .rw[AD (by rw[Cj];exact λh=>c2<|h.imp BP BP),AD c2];by_cases c3:f.fr=k.id
   .rw[A8<|AT c3,A8 c3]
   .rw[AD (by rw[BV c3];exact CV),AD c3];simp only[uR hlen,A9];have EX:=RI (hv:=k.AM) (f:=f);have Kh:=UJ (hv:=k.AM) (f:=f) kf.hl;have lI:=ab1 (f:=f)<|ux h;have mJ:∀ {Ω:Type} (F:(Int×Bool×A4×Int×List AG×A2)×(Int×Int×Int×Int×Int×Int×Int×Int×Int×A4×A2)×(Int×Bool×A4×Int×List AG×A2)×Int×A2->Option Ω),
      B8 F ((if(A0<|ER k.AM f.fr f.nu<0) then
      (if Ab (k.AM.length+([(AG.mk f.fr f.nu f.to f.un f.sz ([]:List AQ))]:List AG).length) then
      (if(A0<|3<((k.AM++([(AG.mk f.fr f.nu f.to f.un f.sz ([]:List AQ))]:List AG)).length:Int)) then
      (if(A0 (0<=1)&&A0 (1<=((k.AM++([(AG.mk f.fr f.nu f.to f.un f.sz ([]:List AQ))]:List AG)).length:Int))) then
      let v22:=(w64<|((Bp (AK 1)<|k.AM++([(AG.mk f.fr f.nu f.to f.un f.sz ([]:List AQ))]:List AG)).length:Int) - 1)
      I (.inr ((k.id,k.up,k.log,k.fo,(Bp (AK 1)<|k.AM++([(AG.mk f.fr f.nu f.to f.un f.sz ([]:List AQ))]:List AG)),()),tF f,(0,A3,noB,0,([]:List AG),()),v22,()))
      else U)
      else
      let v23:=(w64<|((k.AM++([(AG.mk f.fr f.nu f.to f.un f.sz ([]:List AQ))]:List AG)).length:Int) - 1)
      I (.inr ((k.id,k.up,k.log,k.fo,(k.AM++([(AG.mk f.fr f.nu f.to f.un f.sz ([]:List AQ))]:List AG)),()),tF f,(0,A3,noB,0,([]:List AG),()),v23,())))
      else U)
      else
      I (.inr (tKp k,tF f,(0,A3,noB,0,([]:List AG),()),(ER k.AM f.fr f.nu,())))))=F ((k.id,k.up,k.log,k.fo,(Az k.AM f).1,()),tF f,(0,A3,noB,0,[],()),((Az k.AM f).2:Int),()):=by
     intro Ω F;unfold Az;rcases QJ k.AM f.fr f.nu with h|⟨i,h1,h2,_⟩
     .rw[A8<|AT h,A8 h,A8<|FQ hlen<|by simp];by_cases h4:3<=k.AM.length
      .rw[A8<|AT (by simp;omega),A8 (by simp;omega),A8 h4];have e1:Bp (AK 1) (k.AM++[(⟨f.fr,f.nu,f.to,f.un,f.sz,[]⟩:AG)])=k.AM.drop 1++[⟨f.fr,f.nu,f.to,f.un,f.sz,[]⟩]:=by
        show Bp 1 _=_;rw[oh J]
       simp only[e1];rw[Bg,AY (by first|(simp;done)|(simp;omega)) (by first|(simp;done)|(simp;omega))];congr 1;simp
      .rw[AD (by simp;omega),AD h4];simp only;rw[Bg,AY (by first|(simp;done)|(simp;omega)) (by first|(simp;done)|(simp;omega))];congr 1;simp
     .rw[AD (by rw[BV J];exact CV),AD<|show ¬ER k.AM f.fr f.nu<0 by omega,Bg];simp only;rw[h1,Bw]
    rw[mJ];have hgl:=aA6 (hA (Az k.AM f).1 (Az k.AM f).2).got f.mix f.da;unfold KF;have hLg:=λhv=>aa1 hk.L8 hv;revert EX Kh lI hgl;generalize (Az k.AM f).1=l;generalize (Az k.AM f).2=i;intro EX Kh lI hgl;have asU:l.set i ⟨(hA l i).fr,(hA l i).nu,(hA l i).to,(hA l i).un,(hA l i).sz,EP (hA l i).got f.mix f.da⟩=D2 l i f:=rfl;have hal:(D2 l i f).length=l.length:=by unfold D2;rw[FK]
    have hat:hA (D2 l i f) i=⟨(hA l i).fr,(hA l i).nu,(hA l i).to,(hA l i).un,(hA l i).sz,EP (hA l i).got f.mix f.da⟩:=acC EX _;simp only[AX EX,A5,Jh,Bw];unfold PX;rcases tfp ((hA l i).to=f.to) with e1|e1<;>simp only[e1,AO,Af,AB,AE,A6,A5,AW,AN];rcases tfp ((hA l i).un=f.un) with e2|e2<;>simp only[e2,AO,Af,AB,AE,A6,A5,AW,AN];rcases tfp ((hA l i).sz=f.sz) with e3|e3<;>simp only[e3,AO,Af,AB,AE,A6,A5];have e3':(hA l i).sz=f.sz:=of_eq_true e3;rw[ak2<|show(hA l i).got.length<=1048576 by omega];simp only[A9,asU,hat];rw[e3'];rw[awP f.sz _<|show(EP (hA l i).got f.mix f.da).length<=1048576 by omega];simp only[A9];rcases tf (Fh f.sz<|EP (hA l i).got f.mix f.da).2 with c5|c5
    .simp only[c5,AB,A6,A5];rw[A8 (by simp;omega),A8<|FQ (l:=([]:List AG)) (by simp) (by simp;omega),DV (n:=i) (m:=l.length) EX J,A8 (by simp;omega),A8<|FQ (by simp;omega) (by simp;omega)];rw[Ta (by have:=uh (s:=f.sz) (l:=EP (hA l i).got f.mix f.da);omega)];simp only[A9,Ef,Bw];unfold KW;generalize hn:(⟨f.fr,f.nu,f.to,f.un,(Fh f.sz<|EP (hA l i).got f.mix f.da).1⟩:A7)=n;have hL:=hLg<|Ea (D2 l i f) i;have hdr:BH i (D2 l i f)++Bp (i+1) (D2 l i f)=Ea (D2 l i f) i:=rfl;rw[hdr];rcases tf (B9 n) with c6|c6
     .have hz:=cu (w:=B [116,97,107,101,32]) (by rw[BK];decide) c6;have hw:=Zy hL (r:=M8 n) hz;simp only[c6,A5,AW];rw[A8<|AT (by rw[Bb]at hz;omega)];rw[show O0 ((k.id,k.up,k.log,k.fo,Ea (D2 l i f) i,()),B [116,97,107,101,32]++wr n,())=_ from hw];simp only[A9];unfold wrR;rw[hL.stT];cases hc:C6 (stT k) (M8 n) with
      | none=>rfl
      | some o=>
       simp only[AB,A6,A5];rw[af<|aec hL hc];rfl
     .have hb:C6 (stT k) (B [116,97,107,101,32]++noB)=U:=aaE hk.kok zm<|.inr rfl;have hz0:(B [116,97,107,101,32]++noB).size<=1048576:=by rw[Bb,BK];show 5+0<=1048576;omega
      have hw:=Zy hL (r:=B [116,97,107,101,32]++noB) hz0;rw[adY (by rw[hL.stT];exact hb)]at hw;simp only[c6,A6,AN];rw[A8<|AT (show(B [116,97,107,101,32]).size+noB.size<=4611686018427387904 by rw[BK];show 5+0<=4611686018427387904;omega)];rw[show O0 ((k.id,k.up,k.log,k.fo,Ea (D2 l i f) i,()),B [116,97,107,101,32]++noB,())=_ from hw];rfl
    .simp only[c5,AE,A6,A5]
def Vm{α β:Type}[DecidableEq β]{l:List α}{f:α->β}:(l.map f).Nodup↔ ∀(i j:Nat) (hi:i<l.length) (hj:j<l.length),j<i->f l[j]≠f l[i]:=by
 unfold List.Nodup;rw[nt];constructor
 .intro h i j hi hj hlt;have:=h j i (by simpa using hj) (by simpa using hi) hlt;simpa using this
 .intro h i j hi hj hlt;have:=h j i (by simpa using hj) (by simpa using hi) hlt;simpa using this
def WV{l:List AQ}{i:Nat}(h:i<l.length):xA l i=l[i]:=by
 rw[xA,BG,B3 h];rfl
def Ic(m:AQ):Prop:=inB m.nu 0 999=A1/\(m.da.size:Int)=4
structure R8 (l:List AQ):Prop where
 el:∀m∈l,Ic m
 nd:(l.map (·.nu)).Nodup
def xX{l:List AQ}:BJ l.length (IL l)=A1↔R8 l:=by
 rw[Dq];constructor
 .intro h;refine⟨λm hm=> ?_,Vm.2 λi j hi hj hlt=> ?_⟩
  .obtain⟨i,hi,rfl⟩:=yB hm;have:=h i hi;unfold IL at this;simp only[AI]at this;exact⟨this.1.1,BP this.1.2⟩
  .have:=h i hi;unfold IL at this;simp only[AI]at this;have:=Dq.1 this.2 j hlt;rw[WV hi,WV hj]at this;simpa using this
 .intro h i hi;unfold IL;simp only[AI];have h1:=h.el l[i] (Cm hi);rw[WV hi];refine⟨⟨h1.1,AT h1.2⟩,Dq.2 λj hj=> ?_⟩;have:=Vm.1 h.nd i j hi J hj;rw[WV<|show j<l.length by omega];simpa using this
def amZ{l:List AQ}(h:R8 l)(hl:l.length<=14){mix:Int}{da:A4}(hm:Ic ⟨mix,da⟩):R8 (EP l mix da)/\(EP l mix da).length<=14:=by
 have hf:(l.filter<|EQ mix).length<=l.length:=IZ _ _;have Kq:∀g:List AQ,g.Sublist (l.filter<|EQ mix)->R8 (g++[⟨mix,da⟩]):=by
  intro g hg;refine⟨λm hm'=> ?_, ?_⟩
  .rcases Bk.1 hm' with h1|h1
   .exact h.el m (Hg.1<|hg.subset h1).1
   .rw[DG.1 h1];exact hm
  .rw[F1,LY];refine⟨h.nd.sublist<|(hg.trans List.filter_sublist).map _,by simp,λa ha b hb=> ?_⟩;obtain⟨m,h1,rfl⟩:=DF.1 ha;have h2:=(Hg.1<|hg.subset h1).2;have hb:b=mix:=by simpa using hb
   rw[hb];unfold EQ at h2;simpa using h2
 unfold EP;split
 .refine⟨Kq _<|dC _ _, ?_⟩;simp only[Ap,JW,Dc];omega
 .refine⟨Kq _<|Et _, ?_⟩;simp only[Ap,JW];omega
abbrev O9(h:AG):Int×Int:=(h.fr,h.nu)
structure JE (l:List AG):Prop where
 el:∀h∈l,FW h=A1
 nd:(l.map O9).Nodup
def ng{l:List AG}:(∀i,i<l.length->G2 l i=A1)↔JE l:=by
 constructor
 .intro h;refine⟨λm hm=> ?_,Vm.2 λi j hi hj hlt=> ?_⟩
  .obtain⟨i,hi,rfl⟩:=cd hm;have:=h i hi;unfold G2 at this;rw[AI]at this;exact this.1
  .have:=h i hi;unfold G2 at this;rw[AI]at this;have:=Dq.1 this.2 j hlt;rw[HK hi,HK hj]at this;intro e;simp only[O9,CD]at e;simp[e.1,e.2]at this
 .intro h i hi;unfold G2;rw[AI];refine⟨by rw[HK hi];exact h.el _<|Cm hi,Dq.2 λj hj=> ?_⟩;have:=Vm.1 h.nd i j hi J hj;rw[HK hi,HK<|show j<l.length by omega];simp only[O9,ne_eq,CD,not_and]at this;by_cases e:l[j].fr=l[i].fr
  .simp[e,this e]
  .simp[e]
def Ti{f:Frame}(h:Co f=A1):isN f.src=A1/\isN f.dst=A1/\isN f.fr=A1/\isN f.to=A1/\inB f.nu 1 99=A1/\inB f.un 1 999=A1/\Mp f=A1:=by
 unfold Co at h;simp only[AI]at h;exact h
def YZ{f:Frame}(h:Co f=A1)(h1:f.ki=1):inB f.sz 1 24=A1/\Ic ⟨f.mix,f.da⟩/\f.dst=EH f.src f.to:=by
 have:=(Ti h).2.2.2.2.2.2;unfold Mp at this;rw[A8<|AT h1]at this;simp only[AI]at this;exact⟨this.1,⟨this.2.1,BP this.2.2.1⟩,BP this.2.2.2⟩
def JE.sub{l g:List AG}(h:JE l)(hg:g.Sublist l):JE g:=⟨λx hx=>h.el x<|hg.subset hx,h.nd.sublist<|hg.map _⟩
def s8{l:List AG}(h:JE l){f:Frame}(hf:Co f=A1)(h1:f.ki=1):JE (Az l f).1:=by
 obtain⟨_,_,r3,r4,r5,r6,_⟩:=Ti hf;have hp:=YZ hf h1;unfold Az;split
 .rename_i hi;have U5:∀x∈l,O9 x≠(f.fr,f.nu):=by
   intro x hx e;obtain⟨i,hi',rfl⟩:=cd hx;simp only[O9,CD]at e;rcases Gw l.length (λi=>A0 ((hA l i).fr=f.fr)&&A0 ((hA l i).nu=f.nu)) with h|⟨i,h,_⟩
   .have:=h.2 i hi';simp[e.1,e.2]at this
   .have:ER l f.fr f.nu=(i:Int):=h;omega
  have Kq:∀g:List AG,g.Sublist l->JE (g++[⟨f.fr,f.nu,f.to,f.un,f.sz,[]⟩]):=by
   intro g hg;refine⟨λx hx=> ?_, ?_⟩
   .rcases Bk.1 hx with h2|h2
    .exact h.el x (hg.subset h2)
    .rw[DG.1 h2];unfold FW;simp only[r3,r4,r5,r6,hp.1,AW];rfl
   .rw[F1,LY];refine⟨h.nd.sublist<|hg.map _,by simp,λa ha b hb=> ?_⟩;obtain⟨m,h2,rfl⟩:=DF.1 ha;have hb:b=(f.fr,f.nu):=by simpa using hb
    rw[hb];exact U5 m<|hg.subset h2
  simp only;split
  .exact Kq _ (dC _ _)
  .exact Kq _ (Et _)
 .exact h
def avB{h:AG}(ok:FW h=A1):R8 h.got/\h.got.length<=14:=by
 have h1:=wM ok;unfold FW at ok;simp only[AI]at ok;exact⟨xX.1 ok.2.2.2.2.2.2,h1⟩
def apq{h:AG}(ok:FW h=A1){g:List AQ}(hg:R8 g)(hl:g.length<=14):FW ⟨h.fr,h.nu,h.to,h.un,h.sz,g⟩=A1:=by
 unfold FW at ok ⊢;simp only[AI]at ok ⊢;exact⟨ok.1,ok.2.1,ok.2.2.1,ok.2.2.2.1,ok.2.2.2.2.1,AT J,xX.2 hg⟩
def rr{l:List AG}(h:JE l){i:Nat}(hi:i<l.length){f:Frame}(hm:Ic ⟨f.mix,f.da⟩):JE (D2 l i f):=by
 have hh:=h.el l[i] (Cm hi);have hg:=avB hh;have hn:=amZ hg.1 hg.2 hm;unfold D2;rw[HK hi];refine⟨λx hx=> ?_, ?_⟩
 .rcases Qc hx with h1|h1
  .exact h.el x h1
  .rw[h1];exact apq hh hn.1 hn.2
 .rw[List.map_set];have:(l.map O9).set i (O9 ⟨l[i].fr,l[i].nu,l[i].to,l[i].un,l[i].sz,EP l[i].got f.mix f.da⟩)=l.map O9:=by
   apply List.ext_getElem (by simp);intro j h1 h2;rw[List.getElem_set];split
   .rename_i e;subst e;simp
   .rfl
  rw[this];exact h.nd
def uH{l:List AG}(h:JE l)(i:Nat):JE (Ea l i):=by
 refine h.sub ?_;unfold Ea;have:(l.take i++l.drop (i+1)).Sublist (l.take i++l.drop i):=List.Sublist.append (Et _) (by rw[← Jw];exact dC _ _);rw[Kk]at this;exact this
def aU{k:AA}{st:AU}(h:DJ k st)(hu:k.up=A1){hv:List AG}(hl:hv.length<=3)(hf:JE hv):DJ (L6 k hv) st:=by
 obtain⟨rs,ts,h1,h2⟩:=h.lg;have kf:=FH h.ok;exact⟨SO (k:=L6 k hv) kf.id h1 hl (.inl hu) (by rw[show(L6 k hv).id=k.id from rfl,h2];rfl)<|ng.2 hf,h.st⟩
def Tv{k:AA}{st:AU}(h:DJ k st)(r:A4)(b:Bool):∃o,DJ (wrR k r b).1 o/\((wrR k r b).2=A1->C6 st r=I o)/\((wrR k r b).2=A3->o=st/\C6 st r=U):=by
 unfold wrR;rw[h.stT];cases hc:C6 st r with
 | none=>exact⟨st,h,(λe=>absurd e CV),λ_=>⟨rfl,rfl⟩⟩
 | some o=>
  refine⟨o, ?_,(λ_=>rfl),λe=>absurd e.symm CV⟩;simp only;split
  .exact Ye (QA h hc)
  .exact QA h hc
def n7{k:AA}(h:Au k=A1)(hu:k.up=A1){f:Frame}(hf:Co f=A1)(h1:f.ki=1):Au (HX k f).1=A1:=by
 have hk:=Cb h;have kf:=FH h;have hv:=ng.1 kf.hv;have hp:=YZ hf h1;have EX:=RI (hv:=k.AM) (f:=f);have Kh:=UJ (hv:=k.AM) (f:=f) kf.hl;have hpf:=s8 hv hf h1;have haf:=rr hpf EX hp.2.1;have hal:(D2 (Az k.AM f).1 (Az k.AM f).2 f).length=(Az k.AM f).1.length:=by unfold D2;rw[FK]
 unfold HX;split
 .exact h
 split
 .exact(Ye hk).ok
 split
 .exact h
 unfold KF;split
 .split
  .unfold KW;have hw:=aU hk hu (hv:=Ea (D2 (Az k.AM f).1 (Az k.AM f).2 f) (Az k.AM f).2) (by unfold Ea;simp;omega)<|uH haf _;split
   .obtain⟨o,ho,_⟩:=Tv hw (M8 ⟨f.fr,f.nu,f.to,f.un,(Fh f.sz<|EP (hA (Az k.AM f).1 (Az k.AM f).2).got f.mix f.da).1⟩) A1;exact ho.ok
   .exact hw.ok
  .exact(aU hk hu (by rw[hal];exact Kh) haf).ok
 .exact(aU hk hu Kh hpf).ok
def JS(k:AA)(f:Frame):AA×List Frame:=
 if k.up&&(Co f&&A0 (f.dst=k.id)) then
  (if A0 (f.ki=1) then HX k f
   else if A0 (f.ki=2)&&(!decide (Aa (stT k).held f.fr f.nu<0)&&(A0 ((nA (stT k).held (Aa (stT k).held f.fr f.nu).toNat).to=f.to)&&A0 ((nA (stT k).held (Aa (stT k).held f.fr f.nu).toNat).un=f.un))) then
    ((wrR k (EA Cs f.fr f.nu f.un) A3).1,[])
   else(k,[]))
 else(k,[])
def Ck(k:AA)(f:Frame):AA×List Frame:=if Au k then JS k f else(zKp,[])
def acV{f:Frame}(h:Co f=A1):(0<=f.fr/\f.fr<=999)/\(0<=f.nu/\f.nu<=999)/\(0<=f.un/\f.un<=999):=by
 obtain⟨_,_,r3,_,r5,r6,_⟩:=Ti h;have a:=Ae.1 r3;have b:=Ae.1 r5;have c:=Ae.1 r6;exact⟨J,J,J⟩
def ajy{k:AA}(sm:EL k)(f:Frame):Ue (tKp k,tF f,())=I ((tKp (Ck k f).1,(Ck k f).2,()),()):=by
 unfold Ue Ck;rw[LS sm];rcases tf (Au k) with h|h
 .have hk:=Cb h;have hkf:=Ci hk.kok;have hl:=hkf.hl;have hl':(stT k).held.length<=1048576:=J
  unfold JS;simp only[A9,h,AB,A6,A5,Ku sm,aaN,N1 h,J4 hl'];rcases tf k.up with e|e<;>simp only[e,AB,AE,A6,A5,AW,AN];rcases tf (Co f) with e2|e2<;>simp only[e2,AB,AE,A6,A5,AW,AN];rcases tfp (f.dst=k.id) with e3|e3<;>simp only[e3,AO,Af,AB,AE,A6,A5];obtain⟨r1,r2,r3⟩:=acV e2;rcases tfp (f.ki=1) with e4|e4
  .have e4':=of_eq_true e4;simp only[e4,AO,A5];rw[show Um (tKp k,tF f,())=_ from anD h e2 e4'];simp only[A9];rw[Ku<|Cn<|n7 h e e2 e4'];rfl
  .simp only[e4,Af,A6];rcases tfp (f.ki=2) with e5|e5<;>simp only[e5,AO,Af,AB,AE,A6,A5,AW,AN];by_cases hi:Aa (stT k).held f.fr f.nu<0
   .simp only[AT hi,A5,AB,AN,A6]
   .have hi':0<=Aa (stT k).held f.fr f.nu:=J
    simp only[BV hi,A6,AE,AW,A5,MM hi',R7];rcases tfp ((nA (stT k).held (Aa (stT k).held f.fr f.nu).toNat).un=f.un) with e6|e6<;>simp only[e6,AO,Af,AB,AE,A6,A5,M4,BZ];rcases tfp ((nA (stT k).held (Aa (stT k).held f.fr f.nu).toNat).to=f.to) with e7|e7<;>simp only[e7,AO,Af,AB,AE,A6,A5];have hz:=Yx (w:=Cs) (by decide) r1 r2 r3;have hw:=Tm hk.L8 (r:=EA Cs f.fr f.nu f.un) J A3;rw[fV r1 r2 r3];simp only[A9];rw[A8<|AT (by rw[← X6 [108,101,116]]at hz;rw[Bb]at hz;rw[show(B [108,101,116,32]).size=(B<|[108,101,116]++[32]).size from rfl];omega)];rw[show(B [108,101,116,32])=B ([108,101,116]++[32]) from rfl,X6 [108,101,116],hw];rfl
 .simp only[A9,h,AE,A5,A6]
def aAF{k:AA}(sm:EL k)(f:Frame):Rc (tKp k,tF f,())=I ((tKp (Ck k f).1,(Ck k f).2,()),()):=by
 unfold Rc Ck;rw[Jb sm];rcases tf (Au k) with h|h
 .have hk:=Cb h;have hkf:=Ci hk.kok;have hl:=hkf.hl;have hl':(stT k).held.length<=1048576:=J
  unfold JS;simp only[A9,h,AB,A6,A5,K5 sm,qz,JX h,L9 hl'];rcases tf k.up with e|e<;>simp only[e,AB,AE,A6,A5,AW,AN];rcases tf (Co f) with e2|e2<;>simp only[e2,AB,AE,A6,A5,AW,AN];rcases tfp (f.dst=k.id) with e3|e3<;>simp only[e3,AO,Af,AB,AE,A6,A5];obtain⟨r1,r2,r3⟩:=acV e2;rcases tfp (f.ki=1) with e4|e4
  .have e4':=of_eq_true e4;simp only[e4,AO,A5];rw[show VY (tKp k,tF f,())=_ from auc h];simp only[A9];rw[K5<|Cn<|n7 h e e2 e4'];rfl
  .simp only[e4,Af,A6];rcases tfp (f.ki=2) with e5|e5<;>simp only[e5,AO,Af,A6,A5,AW,AN];by_cases hi:Aa (stT k).held f.fr f.nu<0
   .rw[AD (show ¬A0 (0<=Aa (stT k).held f.fr f.nu)=A1 by simp;omega)];simp only[AT hi,HF,A5,Bg,AB,AN,A6]
   .have hi':0<=Aa (stT k).held f.fr f.nu:=J
    rw[A8<|AT hi'];simp only[BV hi,AE,AW,A5,MM hi',R7,Dr,Bg];rcases tfp ((nA (stT k).held (Aa (stT k).held f.fr f.nu).toNat).to=f.to) with e7|e7<;>simp only[e7,AO,Af,A6,A5,AW,AN];rcases tfp ((nA (stT k).held (Aa (stT k).held f.fr f.nu).toNat).un=f.un) with e6|e6<;>simp only[e6,AO,Af,A6,A5];have hz:=Yx (w:=Cs) (by decide) r1 r2 r3;have hw:=Zy hk.L8 (r:=EA Cs f.fr f.nu f.un) J;rw[show PV (B [108,101,116],f.fr,f.nu,f.un,())=_ from ns (w:=Cs) (by decide) r1 r2 r3];simp only[A9];rw[hw];rfl
 .simp only[A9,h,AE,A5,A6]
def agw{k:AA}(h:Au k=A1)(f:Frame):Au (Ck k f).1=A1:=by
 have hk:=Cb h;unfold Ck JS;rw[A8 h];split
 .rename_i hc;simp only[AI]at hc;split
  .rename_i h1;exact n7 h hc.1 hc.2.1 (BP h1)
  .split
   .obtain⟨o,ho,_⟩:=Tv hk (EA Cs f.fr f.nu f.un) A3;exact ho.ok
   .exact h
 .exact h
def awX{k:AA}(h:Au k=A1):Au (E5 k).1=A1:=by
 unfold E5;split
 .obtain⟨o,ho,_⟩:=Tv (Cb h) (Fz<|(stT k).ti+1) A1;exact ho.ok
 .exact h
def akr{k:AA}(h:Au k=A1)(tt un:Int)(tx:A4):Au (Dg k tt un tx).1=A1:=by
 unfold Dg;split
 .obtain⟨o,ho,_⟩:=Tv (Cb h) (Ml ⟨k.id,(stT k).nx,tt,un,tx⟩) A1;exact ho.ok
 .exact h
def av0{k:AA}(h:Au k=A1)(fr nu:Int):Au (CN k fr nu).1=A1:=by
 unfold CN;split
 .obtain⟨o,ho,_⟩:=Tv (Cb h) (EA CM fr nu (nA (stT k).inbox (Aa (stT k).inbox fr nu).toNat).un) A1;exact ho.ok
 .exact h
def axe{k:AA}(h:Au k=A1):Au (EW k).1=A1:=by
 unfold EW;split
 .exact(yO<|Cb h).ok
 .exact h
def axO{k:AA}(h:Au k=A1):Au (Eb k).1=A1:=by
 unfold Eb;split
 .exact(Ye<|Cb h).ok
 .exact h
def SC(l:List Int):(BA l).size=l.length:=by
 show(List.toArray _).size=_;simp
def ah5(f:Frame):(CY f).length<=17:=by
 unfold CY;split
 .rename_i h;have:=YC h;simp only[Ap,Bt,CB];omega
 .simp
def frA(l:List Frame)(i:Nat):Frame:=l.getD i<|dfl .frame
def qR(l:List Frame)(i:Nat): @rd Frame (dfl .frame) l (i:Int)=frA l i:=rfl
def pcF(f:Frame):AR:=⟨f.src,f.dst,BA<|CY f,A3⟩
def DH(ra:List AR)(fs:List Frame):List AR:=ra++(fs.take<|30 - ra.length).map pcF
def aeU{l:List Frame}{i:Nat}(h:i<l.length):frA l i=l[i]:=by
 rw[frA,BG,B3 h];rfl
def xq{ra:List AR}{fs:List Frame}(hf:fs.length<=1048576):R5 (ra,fs,())=I ((DH ra fs,()),()):=by
 have GZ:eS (ra,fs,0,())=I (.inr (DH ra fs,())):=by
  have h0:=Ca (b:=Vf) (y:= .inr (DH ra fs,())) (λi=>(ra++(fs.take i).map pcF,fs,(i:Int),())) (min fs.length<|30 - ra.length) (λi hi=>by
   have h1:i<fs.length:=J
   have h2:(ra++(fs.take i).map pcF).length=ra.length+i:=by simp;omega
   unfold Vf;simp only[BS h1,AX h1,qR,BL h1 (by omega:fs.length<=9223372036854775807),h2];rw[A8 (by simp;omega)];simp only[A5];rw[show OR ((_,_,_,_,_,_,_,_,_,_,()),())=_ from qb<|frA fs i];simp only[A9];rw[A8<|B7 (by simp;omega)];have h3:ra++(fs.take<|i+1).map pcF=(ra++(fs.take i).map pcF)++[pcF (frA fs i)]:=by
    rw[aeU h1,C2,← List.map_singleton (f:=pcF),← F1,List.take_append_getElem h1]
   rw[h3];rfl) (by
   unfold Vf;have h2:(ra++(fs.take<|min fs.length<|30 - ra.length).map pcF).length=ra.length+min fs.length (30 - ra.length):=by simp
   simp only[h2];rw[AD (by simp only[AI,decide_eq_true_eq];omega)];have h3:fs.take (min fs.length<|30 - ra.length)=fs.take (30 - ra.length):=by
    rw[Nat.min_comm,← aY,Ep]
   rw[h3];rfl)
  simp only[List.take_zero,JV,C1]at h0;exact h0
 unfold R5;simp only[GZ,De]
def PT(f:Frame):Prop:=isN f.src=A1/\isN f.dst=A1/\(f.src - f.dst=1\/f.dst - f.src=1)
def ajN{f:Frame}(h:PT f):Dw (pcF f)=A1:=by
 have:=ah5 f;unfold Dw pcF;simp only[h.1,h.2.1,AW,SC,AI,Cj,decide_eq_true_eq];exact⟨h.2.2,J⟩
def aaA{ra:List AR}{fs:List Frame}(h:ra.length<=30):(DH ra fs).length<=30:=by
 unfold DH;simp;omega
def zv{ra:List AR}{fs:List Frame}(h:∀p∈ra,Dw p=A1)(hf:∀f∈fs,PT f):∀p∈DH ra fs,Dw p=A1:=by
 intro p hp;rcases Bk.1 hp with h1|h1
 .exact h p h1
 .obtain⟨f,h2,rfl⟩:=DF.1 h1;exact ajN<|hf f<|ID h2
def lH{a t:Int}(h:isN (EH a t)=A1):isN a=A1/\(a - EH a t=1\/EH a t - a=1):=by
 have h0:=Gq h;revert h0;unfold EH;split
 .omega
 .rename_i h1;intro _;simp only[Cj,Df,not_or,Bool.not_eq_false]at h1;refine⟨h1.1, ?_⟩;split<;>omega
def aer{f:Frame}(h:Co f=A1):PT f:=by
 obtain⟨r1,r2,_,_,_,_,r7⟩:=Ti h;refine⟨r1,r2, ?_⟩;unfold Mp at r7;split at r7
 .simp only[AI,decide_eq_true_eq]at r7;have h1:=r7.2.2.2;have:=lH (a:=f.src) (t:=f.to) (by rw[← h1];exact r2);rw[← h1]at this;exact this.2
 .simp only[AI,decide_eq_true_eq]at r7;have h1:=r7.2.2.2.2;have:=lH (a:=f.dst) (t:=f.to) (by rw[← h1];exact r1);rw[← h1]at this;exact this.2.symm
def awL{f:Frame}(n:Int)(h:PT f):PT (ON n f):=⟨h.2.1,h.1,h.2.2.symm⟩
def ahm(k:AA)(f:Frame):(Ck k f).2=[]\/(Co f=A1/\ ∃n,(Ck k f).2=[ON n f]):=by
 unfold Ck;split
 .unfold JS;split
  .rename_i hc;simp only[AI]at hc;split
   .unfold HX;split
    .exact .inr ⟨hc.2.1,3,rfl⟩
    .split
     .exact .inr ⟨hc.2.1,2,rfl⟩
     .split
      .exact .inl rfl
      .unfold KF;split
       .split
        .unfold KW;split
         .exact .inr ⟨hc.2.1,2,rfl⟩
         .exact .inl rfl
        .exact .inl rfl
       .exact .inl rfl
   .split<;>exact .inl rfl
  .exact .inl rfl
 .exact .inl rfl
def cT(k:AA)(f:Frame):(Ck k f).2.length<=1/\ ∀g∈(Ck k f).2,PT g:=by
 rcases ahm k f with h|⟨h,n,h1⟩
 .rw[h];exact⟨by simp,λg hg=>by cases hg⟩
 .rw[h1];exact⟨by simp,λg hg=>by rw[DG.1 hg];exact awL n<|aer h⟩
def au8{k:AA}(h:Au k=A1){fr nu mix:Int}(hb:(GN k fr nu mix).2=A1):PT (GN k fr nu mix).1:=by
 unfold GN at hb ⊢;split
 .rename_i hc;simp only[AI,Df,decide_eq_false_iff_not]at hc;have hk:=Cb h;have h0:=(Ii<|WH.1 hc.2.1).1;have:=fY hk.kok (n:=nA (stT k).held (Aa (stT k).held fr nu).toNat) (by rw[nA,BG,B3 h0];exact Cm h0);rw[hk.id]at this;have h2:=lH this;exact⟨h2.1,this,h2.2⟩
 .rename_i hc;rw[AD hc]at hb;cases hb
structure BR (w:Ak):Prop where
 kl:w.AH.length=4
 ll:w.B0.length=3
 rl:w.AP.length<=30
 sl:w.Aw.length<=6
 gl:w.got.length<=6
 k:∀i,i<4->Au (kA w.AH i)=A1/\(kA w.AH i).id=(i:Int)
 p:∀p∈w.AP,Dw p=A1
 s:∀n∈w.Aw,B9 n=A1
 g:∀n∈w.got,B9 n=A1
def Fo(w:Ak)(p:AR)(ra:List AR):Ak:=
 if(Cu<|BB p.data).2&&(A0 ((Cu<|BB p.data).1.src=p.src)&&A0 ((Cu<|BB p.data).1.dst=p.dst)) then
  ⟨w.ti,w.AH.set p.dst.toNat (Ck (kA w.AH p.dst.toNat) (Cu<|BB p.data).1).1,w.B0,DH ra (Ck (kA w.AH p.dst.toNat) (Cu<|BB p.data).1).2,w.Aw,w.got⟩
 else⟨w.ti,w.AH,w.B0,ra,w.Aw,w.got⟩
def Jf(p:AR)(mix kp:Int):AR:=⟨p.src,p.dst,BA<|Bn (BB p.data) mix.toNat<|DY .u8 (@rd Int (dfl .u8) (BB p.data) mix)<|w8 kp,A1⟩
def Fw(ra:List AR)(i:Nat):List AR:=ra.take i++ra.drop (i+1)
def lnk(p:AR):Int:=if p.src<p.dst then p.src else p.dst
def DD(w:Ak)(e:Event):Ak×Bool:=
 if inB e.wo 0 ((w.AP.length:Int) - 1) then
  if e.ki=6 then
   if !(pA w.AP e.wo.toNat).sp&&(inB e.mix 0 (((pA w.AP e.wo.toNat).data.size:Int) - 1)&&inB e.kp 1 255) then
    (⟨w.ti,w.AH,w.B0,w.AP.set e.wo.toNat<|Jf (pA w.AP e.wo.toNat) e.mix e.kp,w.Aw,w.got⟩,A1)
   else(w,A3)
  else if e.ki=5 then(⟨w.ti,w.AH,w.B0,Fw w.AP e.wo.toNat,w.Aw,w.got⟩,A1)
  else if bA w.B0 (lnk<|pA w.AP e.wo.toNat).toNat then(Fo w (pA w.AP e.wo.toNat)<|if e.kp=0 then Fw w.AP e.wo.toNat else w.AP,A1)
  else(w,A3)
 else(w,A3)
def GL(w:Ak)(i:Nat)(k:AA):Ak:=⟨w.ti,w.AH.set i k,w.B0,w.AP,w.Aw,w.got⟩
def Jz(w:Ak)(e:Event)(k:AA):Ak×Bool:=
 if 6<=w.Aw.length then(w,A3)
 else if(Dg k e.to e.un e.tx).2=0 then(w,A3)
 else(⟨w.ti,w.AH.set e.at_.toNat (Dg k e.to e.un e.tx).1,w.B0,w.AP,w.Aw++[⟨e.at_,(Dg k e.to e.un e.tx).2,e.to,e.un,e.tx⟩],w.got⟩,A1)
def J9(w:Ak)(e:Event)(k:AA):Ak×Bool:=
 if(CN k e.fr e.nu).2.2&&A0 (w.got.length<6) then
  (⟨w.ti,w.AH.set e.at_.toNat (CN k e.fr e.nu).1,w.B0,w.AP,w.Aw,w.got++[(CN k e.fr e.nu).2.1]⟩,A1)
 else(w,A3)
def Hx(w:Ak)(e:Event)(k:AA):Ak×Bool:=
 if e.ki=1 then Jz w e k
 else if e.ki=2 then(GL w e.at_.toNat (E5 k).1,(E5 k).2)
 else if e.ki=3 then(if(GN k e.fr e.nu e.mix).2 then(⟨w.ti,w.AH,w.B0,DH w.AP [(GN k e.fr e.nu e.mix).1],w.Aw,w.got⟩,A1) else(w,A3))
 else if e.ki=7 then(GL w e.at_.toNat<|faM k e.kp,k.up)
 else if e.ki=8 then(GL w e.at_.toNat<|riM k,!k.up)
 else if e.ki=11 then J9 w e k
 else if e.ki=12 then(GL w e.at_.toNat (EW k).1,(EW k).2)
 else if e.ki=13 then(GL w e.at_.toNat (Eb k).1,(Eb k).2)
 else(w,A3)
def FF(w:Ak)(e:Event):Ak×Bool:=
 if inB e.at_ 0 ((w.B0.length:Int) - 1)&& !decide (bA w.B0 e.at_.toNat=A0 (e.ki=9)) then
  (⟨w.ti,w.AH,w.B0.set e.at_.toNat<|A0<|e.ki=9,w.AP,w.Aw,w.got⟩,A1)
 else(w,A3)
def doM(w:Ak)(e:Event):Ak×Bool:=
 if e.ki=4\/e.ki=5\/e.ki=6 then DD w e
 else if e.ki=9\/e.ki=10 then FF w e
 else if isN e.at_ then Hx w e (kA w.AH e.at_.toNat)
 else(w,A3)
abbrev tE(e:Event):Int×Int×Int×Int×Int×Int×Int×Int×Int×A4×A2:=(e.ki,e.at_,e.fr,e.nu,e.wo,e.mix,e.kp,e.to,e.un,e.tx,())
abbrev tS(w:Ak)(ev:List Event):Int×List AA×List Bool×List AR×List A7×List A7×List Event×A2:=(w.ti,w.AH,w.B0,w.AP,w.Aw,w.got,ev,())
def HS(w:Ak)(b:Bool):Ak:=if b then⟨w64<|w.ti+1,w.AH,w.B0,w.AP,w.Aw,w.got⟩ else w
def At(w:Ak)(e:Event):Ak:=HS (doM w e).1 (doM w e).2
def Jd(ev:List Event)(e:Event)(b:Bool):List Event:=if b then ev++[e] else ev
def abG(l:List AR)(i:Int): @rd AR (dfl .Ad) l i=pA l i.toNat:=rfl
def Sv(l:List Bool)(i:Int): @rd Bool (dfl .bool) l i=bA l i.toNat:=rfl
def kM{l:List AR}{i:Nat}(h:i<l.length):pA l i=l[i]:=by
 rw[pA,BG,B3 h];rfl
def CI{i:Int}{n:Nat}(h0:0<=i)(h1:i<n):inb i n=A1:=by unfold inb;simp;omega
def KY{p:AR}(h:Dw p=A1):(0<=p.src/\p.src<=3)/\(0<=p.dst/\p.dst<=3)/\p.data.size<=40/\0<=lnk p/\lnk p<3:=by
 unfold Dw at h;simp only[AI,Cj,decide_eq_true_eq]at h;have a:=Gq h.1;have b:=Gq h.2.1;refine⟨a,b,J, ?_, ?_⟩<;>unfold lnk<;>split<;>omega
def aqu(a b:Int):ao (a,b,())=I ((if a<b then a else b,()),()):=by
 unfold ao;rcases tfp (a<b) with e|e<;>simp only[e,AO,Af,A5,if_false,A6]
def La{w:Ak}(h:BR w){i:Nat}(hi:i<w.AP.length):Dw (pA w.AP i)=A1:=by
 rw[kM hi];exact h.p _<|Cm hi
def P6{w:Ak}(h:BR w){i:Nat}(hi:i<4):EL (kA w.AH i):=Cn (h.k i hi).1
def OD{n:Nat}(h:n<=1048576):w64 ((n:Int) - 1)=(n:Int) - 1:=AY J J
def nd{p:Prop}[Decidable p](h:¬p):¬(A0 p=A1):=by simpa using h
def vz{α:Type}(l:List α)(i:Nat)(x y:α):(l.set i x).set i y=l.set i y:=by simp
def kq{l:List AR}{i:Nat}(h:i<l.length)(p:AR):pA (l.set i p) i=p:=by
 rw[pA,BG,dm h];rfl
def jf(s:A4):(BB s).length=s.size:=by rw[Sp,EG,Av]
def R9{n:Int}(h:isN n=A1):n.toNat<4:=by have:=Gq h;omega
section
variable {Ω:Type} {K2:List AA->List AR->Option Ω} {F:Option Ω}
def ss{w:Ak}(h:BR w){e:Event}(hk:e.ki≠5){p:AR}(hp:Dw p=A1)(ra:List AR):QD w.AH ra (tE e) p K2=K2 (Fo w p ra).AH (Fo w p ra).AP:=by
 obtain⟨p1,p2,p3,p4,p5⟩:=KY hp;have hin:inb p.dst w.AH.length=A1:=CI p2.1 (by rw[h.kl];omega);unfold QD Fo;rw[AD<|nd hk,A8<|B7 J,wN<|BOk.str _];generalize Cu (BB p.data)=u;simp only[A9];rcases tf u.2 with e2|e2<;>simp only[e2,AB,AE,A6,A5,AW,AN];rcases tfp (u.1.src=p.src) with e3|e3<;>simp only[e3,AO,Af,AB,AE,A6,A5,AW,AN];rcases tfp (u.1.dst=p.dst) with e4|e4<;>simp only[e4,AO,Af,AB,AE,A6,A5];simp only[hin,A5,Pe];rw[show Ue ((_,_,_,_,_,()),_,())=_ from ajy (P6 h (i:=p.dst.toNat) J) u.1];simp only[A9];rw[xq (by have:=(cT (kA w.AH p.dst.toNat) u.1).1;omega)];rfl
def yY{a:List AA}{ra:List AR}{e:Event}(h0:0<=e.wo)(h1:e.wo<ra.length)(hl:ra.length<=1048576)(p:AR):YI a ra (tE e) p K2=QD a (Fw ra e.wo.toNat) (tE e) p K2:=by
 have hw:w64 (e.wo+1)=e.wo+1:=AY J J;have hn:(e.wo+1).toNat=e.wo.toNat+1:=J
 unfold YI;simp only[hw,hn];rw[A8 (by simp;omega),A8<|B7 (by simp;omega),A8 (by simp;omega),A8<|B7 (by simp;omega)];rfl
def apg{w:Ak}(h:BR w){e:Event}(hk:e.ki=4\/e.ki=5\/e.ki=6):QT w.AH w.B0 w.AP (tE e) K2 F=if(DD w e).2 then K2 (DD w e).1.AH (DD w e).1.AP else F:=by
 have rl:=h.rl;unfold QT DD;simp only[HZ,A9,OD<|show w.AP.length<=1048576 by omega,abG];rcases tf (inB e.wo 0<|(w.AP.length:Int) - 1) with e0|e0
 .have ha:=Ae.1 e0;have hb:inb e.wo w.AP.length=A1:=CI ha.1 J;have hwl:e.wo.toNat<w.AP.length:=J
  have hp:=La h (i:=e.wo.toNat) hwl;obtain⟨p1,p2,p3,p4,p5⟩:=KY hp;rw[e0,hb];simp only[AB,A6,A5];rcases tfp (e.ki=6) with c6|c6
  .simp only[c6,AO,A5,OD<|show(pA w.AP e.wo.toNat).data.size<=1048576 by omega];rcases tf (pA w.AP e.wo.toNat).sp with e1|e1<;>simp only[e1,AB,AE,A6,A5,AW,AN];rcases tf (inB e.mix 0<|((pA w.AP e.wo.toNat).data.size:Int) - 1) with e2|e2<;>simp only[e2,AB,AE,A6,A5,AW,AN];rcases tf (inB e.kp 1 255) with e3|e3<;>simp only[e3,AB,AE,A6,A5];have hm:=Ae.1 e2;have hmb:inb e.mix (BB (pA w.AP e.wo.toNat).data).length=A1:=CI hm.1 (by rw[jf];omega);simp only[FK,vz,kq hwl,hb,A5];rw[A8<|B7 J,A8 hmb,A8 hmb];rfl
  .simp only[c6,Af,A6,if_false];rcases tfp (e.ki=4) with c4|c4
   .have c5:¬e.ki=5:=by have:e.ki=4:=of_eq_true c4;omega
    have hl:inb (lnk<|pA w.AP e.wo.toNat) w.B0.length=A1:=by
     have:=h.ll;exact CI p4 (by rw[this];exact p5)
    have hlk:∀q:AR,(if q.src<q.dst then q.src else q.dst)=lnk q:=λ_=>rfl;simp only[c4,AO,A5,aqu,A9,hlk,hl,Sv,AD c5];rcases tf (bA w.B0 (lnk<|pA w.AP e.wo.toNat).toNat) with e1|e1<;>simp only[e1,AB,AE,A6,A5];unfold cJ;rw[AD<|nd c5];by_cases e5:e.kp=0
    .rw[A8<|AT e5,A8 e5,yY ha.1 J J,ss h c5 hp]
    .rw[AD<|nd e5,AD e5,ss h c5 hp]
   .have c5:e.ki=5:=by
     have:¬e.ki=4:=by simpa using c4
     have:¬e.ki=6:=by simpa using c6
     omega
    simp only[c4,Af,A6,A8 c5];unfold cJ;rw[A8<|AT c5,yY ha.1 J J];unfold QD;rw[A8<|AT c5];rfl
 .rw[e0];simp only[AE,A5,A6]
def ajS{w:Ak}(h:BR w){e:Event}{K1:List Bool->Option Ω}:VR w.B0 (tE e) K1 F=if(FF w e).2 then K1 (FF w e).1.B0 else F:=by
 have ll:=h.ll;unfold VR FF;simp only[HZ,A9,OD<|show w.B0.length<=1048576 by omega,Sv];rcases tf (inB e.at_ 0<|(w.B0.length:Int) - 1) with e0|e0
 .have ha:=Ae.1 e0;have hb:inb e.at_ w.B0.length=A1:=CI ha.1 J;rw[e0,hb];simp only[AB,A6,A5,AW];rcases tfp (bA w.B0 e.at_.toNat=A0 (e.ki=9)) with c|c<;>simp only[c,AO,Af,AB,AE,A5,A6]
 .rw[e0];simp only[AE,AN,A5,A6]
end
section
variable {Ω:Type} {K:List AA->List Bool->List AR->List A7->List A7->Option Ω} {F:Option Ω} {Kv:List AA->Bool->Option Ω} {Km:List AR->Bool->Option Ω} {Kz:Bool->Option Ω} {R:Option Ω}
def ayi{w:Ak}(h:BR w){e:Event}(hk:¬(e.ki=4\/e.ki=5\/e.ki=6))(hk':¬(e.ki=9\/e.ki=10))(ht:e.tx.size<=1048576){D:Ak×Bool}
  (hK:D.2=A1->K D.1.AH D.1.B0 D.1.AP D.1.Aw D.1.got=R)(hF:D.2=A3->D.1=w->F=R)(hKv:∀k' b,D=(GL w e.at_.toNat k',b)->Kv (w.AH.set e.at_.toNat k') b=R)
  (hKm:∀ra',D=(⟨w.ti,w.AH,w.B0,ra',w.Aw,w.got⟩,A1)->Km ra' A1=R)(hKz:D=(w,A3)->Kz A3=R):
  ∀X,gO w.AH w.AP w.Aw w.got (tE e) (λx y z=>K x w.B0 w.AP y z) F Kv Km Kz=X->doM w e=D->X=R:=by
 intro X;obtain⟨ki,at_,fr,nu,wo,mix,kp,t',un,tx⟩:=e;simp only at hk hk' ht hKv;have hn:∀(l:List A7) (x:A7),l.length<=6->Ab (l.length+[x].length)=A1:=λl x hl=>B7 (by simp;omega);unfold gO doM;rw[AD hk,AD hk'];simp only[JA,A9];rcases tf (isN at_) with e0|e0
 .have ha:=Gq e0;have hal:=R9 e0;have hb:inb at_ w.AH.length=A1:=CI ha.1 (by rw[h.kl];omega);have hko:=(h.k _ hal).1;have hks:=P6 h hal;simp only[e0,AB,A6,hb,A5,Pe];unfold Hx;rcases tfp (ki=1) with e1|e1
  .simp only[e1,AO,A5];unfold Jz;by_cases hs:6<=w.Aw.length
   .rw[A8<|AT<|show 6<=(w.Aw.length:Int) by omega,A8 hs];intro hX hd;subst hd;rw[← hX];exact hF rfl rfl
   .rw[AD<|nd<|show ¬6<=(w.Aw.length:Int) by omega,AD hs];rw[show UI ((_,_,_,_,_,()),_,_,_,())=_ from al3 hko t' un ht];simp only[A9];rcases tfp ((Dg (kA w.AH at_.toNat) t' un tx).2=0) with e2|e2<;>simp only[e2,AO,Af,A6,A5,if_false]
    .intro hX hd;subst hd;rw[← hX];exact hF rfl rfl
    .rw[A8<|hn _ _ h.sl];intro hX hd;subst hd;rw[← hX];exact hK rfl
  .simp only[e1,Af,A6,if_false];rcases tfp (ki=2) with e2|e2
   .simp only[e2,AO,A5];rw[show VQ ((_,_,_,_,_,()),())=_ from amG hko];simp only[A9];intro hX hd;subst hd;rw[← hX];exact hKv _ _ rfl
   .simp only[e2,Af,A6,if_false];rcases tfp (ki=3) with e3|e3
    .simp only[e3,AO,A5];rw[show UZ ((_,_,_,_,_,()),_,_,_,())=_ from alE hks fr nu mix];simp only[A9];rw[A8 hko];rcases tf (GN (kA w.AH at_.toNat) fr nu mix).2 with e4|e4<;>simp only[e4,A5,A6]
     .rw[show R5 (_,_,())=_ from xq (ra:=w.AP) (fs:=[(GN (kA w.AH at_.toNat) fr nu mix).1])<|by simp];simp only[A9];intro hX hd;subst hd;rw[← hX];exact hKm _ rfl
     .intro hX hd;subst hd;rw[← hX];exact hKz rfl
    .simp only[e3,Af,A6,if_false];rcases tfp (ki=7) with e4|e4
     .simp only[e4,AO,A5];rw[show Uy ((_,_,_,_,_,()),_,())=_ from axE hks kp];simp only[A9];rw[A8 hko];intro hX hd;subst hd;rw[← hX];exact hKv _ _ rfl
     .simp only[e4,Af,A6,if_false];rcases tfp (ki=8) with e5|e5
      .simp only[e5,AO,A5];rw[show SW ((_,_,_,_,_,()),())=_ from agn hko];simp only[A9];intro hX hd;subst hd;rw[← hX];exact hKv _ _ rfl
      .simp only[e5,Af,A6,if_false];rcases tfp (ki=11) with e6|e6
       .simp only[e6,AO,A5];unfold J9;rw[show Tg ((_,_,_,_,_,()),_,_,())=_ from arN hko fr nu];simp only[A9];rcases tf (CN (kA w.AH at_.toNat) fr nu).2.2 with e7|e7<;>simp only[e7,A5,A6,AW,AN]
        .by_cases hs:w.got.length<6
         .rw[A8<|AT<|show(w.got.length:Int)<6 by omega,A8<|AT hs,A8<|hn _ _ h.gl];intro hX hd;subst hd;rw[← hX];exact hK rfl
         .rw[AD<|nd<|show ¬(w.got.length:Int)<6 by omega,AD<|nd hs];intro hX hd;subst hd;rw[← hX];exact hF rfl rfl
        .intro hX hd;subst hd;rw[← hX];exact hF rfl rfl
       .simp only[e6,Af,A6,if_false];rcases tfp (ki=12) with e7|e7
        .simp only[e7,AO,A5];rw[show U8 ((_,_,_,_,_,()),())=_ from afZ hko];simp only[A9];intro hX hd;subst hd;rw[← hX];exact hKv _ _ rfl
        .simp only[e7,Af,A6,if_false];rcases tfp (ki=13) with e8|e8
         .simp only[e8,AO,A5];rw[show SN ((_,_,_,_,_,()),())=_ from anl hko];simp only[A9];intro hX hd;subst hd;rw[← hX];exact hKv _ _ rfl
         .simp only[e8,Af,A6,if_false];intro hX hd;subst hd;rw[← hX];exact hF rfl rfl
 .simp only[e0,AE,A6,A5];intro hX hd;subst hd;rw[← hX];exact hF rfl rfl
def az1{w:Ak}{e:Event}(h:(DD w e).2=A3):(DD w e).1=w:=by
 unfold DD at h ⊢;split
 .rename_i h2;rw[A8 h2]at h;split
  .rename_i h3;rw[A8 h3]at h;split
   .rename_i h4;rw[A8 h4]at h;cases h
   .rfl
  .rename_i h3;rw[AD h3]at h;split
   .rename_i h4;rw[A8 h4]at h;cases h
   .rename_i h4;rw[AD h4]at h;split
    .rename_i h5;rw[A8 h5]at h;cases h
    .rfl
 .rfl
def atj(w:Ak)(e:Event):(DD w e).1.B0=w.B0/\(DD w e).1.Aw=w.Aw/\(DD w e).1.got=w.got:=by
 unfold DD;split
 .split
  .split<;>exact⟨rfl,rfl,rfl⟩
  .split
   .exact⟨rfl,rfl,rfl⟩
   .split
    .unfold Fo;split<;>exact⟨rfl,rfl,rfl⟩
    .exact⟨rfl,rfl,rfl⟩
 .exact⟨rfl,rfl,rfl⟩
def zq{w:Ak}(h:BR w){e:Event}(ht:e.tx.size<=1048576)
  (hK:(doM w e).2=A1->K (doM w e).1.AH (doM w e).1.B0 (doM w e).1.AP (doM w e).1.Aw (doM w e).1.got=R)(hF:(doM w e).2=A3->(doM w e).1=w->F=R)(hKv:∀k' b,doM w e=(GL w e.at_.toNat k',b)->Kv (w.AH.set e.at_.toNat k') b=R)
  (hKm:∀ra',doM w e=(⟨w.ti,w.AH,w.B0,ra',w.Aw,w.got⟩,A1)->Km ra' A1=R)(hKz:doM w e=(w,A3)->Kz A3=R):
  doK w.AH w.B0 w.AP w.Aw w.got (tE e) K F Kv Km Kz=R:=by
 have rad:(e.ki=4\/e.ki=5\/e.ki=6)->QT w.AH w.B0 w.AP (tE e) (λx y=>K x w.B0 y w.Aw w.got) F=R:=by
  intro hk;have hd:doM w e=DD w e:=by
   unfold doM;rw[A8 hk]
  rw[apg h hk];rw[hd]at hK hF;obtain⟨r1,r2,r3⟩:=atj w e;rcases tf (DD w e).2 with c|c
  .have:=hK c;rw[r1,r2,r3]at this;rw[c,A8 rfl];exact this
  .rw[c,A6];exact hF c<|az1 c
 have lk:(e.ki=9\/e.ki=10)->VR w.B0 (tE e) (λy=>K w.AH y w.AP w.Aw w.got) F=R:=by
  intro hk;have hd:doM w e=FF w e:=by
   unfold doM;rw[AD J,A8 hk]
  rw[ajS h];rw[hd]at hK hF;rcases tf (FF w e).2 with c|c
  .have:=hK c;rw[c,A8 rfl,← this];unfold FF;split<;>rfl
  .rw[c,A6];refine hF c ?_;unfold FF at c ⊢;split
   .rename_i h3;rw[A8 h3]at c;cases c
   .rfl
 unfold doK;by_cases h4:e.ki=4
 .rw[A8<|AT h4];exact rad J
 .rw[AD<|nd h4];by_cases h5:e.ki=5
  .rw[A8<|AT h5];exact rad J
  .rw[AD<|nd h5];by_cases h6:e.ki=6
   .rw[A8<|AT h6];exact rad J
   .rw[AD<|nd h6];by_cases h9:e.ki=9
    .rw[A8<|AT h9];exact lk J
    .rw[AD<|nd h9];by_cases h10:e.ki=10
     .rw[A8<|AT h10];exact lk J
     .rw[AD<|nd h10];exact ayi h J J ht hK hF hKv hKm hKz _ rfl rfl
end
def alT(w:Ak)(p:AR)(ra:List AR):(Fo w p ra).ti=w.ti:=by unfold Fo;split<;>rfl
def Wa(w:Ak)(e:Event):(doM w e).1.ti=w.ti:=by
 unfold doM;split
 .unfold DD;split
  .split
   .split<;>rfl
   .split
    .rfl
    .split
     .exact alT _ _ _
     .rfl
  .rfl
 .split
  .unfold FF;split<;>rfl
  .split
   .unfold Hx;split
    .unfold Jz;split
     .rfl
     .split<;>rfl
    .split
     .rfl
     .split
      .split<;>rfl
      .split
       .rfl
       .split
        .rfl
        .split
         .unfold J9;split<;>rfl
         .split
          .rfl
          .split<;>rfl
   .rfl
def akN{w:Ak}(h:BR w){r:List Int×Int×A2}{ev:List Event}(hev:ev.length<=1048576){e:Event}(ht:e.tx.size<=1048576):
  F7 ((r,tS w ev),tE e,())=I (((doM w e).2,()),((r,tS (At w e)<|Jd ev e (doM w e).2),())):=by
 have hr:∀x:Event,Ab (ev.length+[x].length)=A1:=λx=>B7 (by simp;omega);have hti:=Wa w e;unfold F7;refine zq (w:=w) h (e:=e) ht (λc=> ?_) (λc c2=> ?_) (λk b c=> ?_) (λra c=> ?_) (λc=> ?_)
 .unfold At HS Jd;rw[c,A8<|hr _,A8 rfl,A8 rfl,hti]
 .unfold At HS Jd;rw[c,A6,A6,c2]
 .unfold At HS Jd;rw[c];cases b
  .rfl
  .show(if Ab _ then _ else _)=_;rw[A8<|hr _];rfl
 .unfold At HS Jd;rw[c,A8 rfl,A8<|hr _];rfl
 .unfold At HS Jd;rw[c];rfl
end Go.VS
namespace Go.VS
open Go
def Tu(k:AA)(r:A4)(f:Bool):(wrR k r f).1.id=k.id:=by
 unfold wrR;split
 .rfl
 .cases f<;>rfl
def ahp{k:AA}(h:Au k=A1)(f:Frame):(Ck k f).1.id=k.id:=by
 unfold Ck;rw[A8 h];unfold JS;split
 .split
  .unfold HX;split
   .rfl
   .split
    .rfl
    .split
     .rfl
     .unfold KF;split
      .split
       .unfold KW;split
        .exact Tu _ _ _
        .rfl
       .rfl
      .rfl
  .split
   .exact Tu _ _ _
   .rfl
 .rfl
def afB(k:AA):(E5 k).1.id=k.id:=by
 unfold E5;split
 .exact Tu _ _ _
 .rfl
def azn(k:AA)(tt un:Int)(tx:A4):(Dg k tt un tx).1.id=k.id:=by
 unfold Dg;split
 .exact Tu _ _ _
 .rfl
def arU(k:AA)(fr nu:Int):(CN k fr nu).1.id=k.id:=by
 unfold CN;split
 .exact Tu _ _ _
 .rfl
def aja(k:AA):(EW k).1.id=k.id:=by unfold EW;split<;>rfl
def age(k:AA):(Eb k).1.id=k.id:=by unfold Eb;split<;>rfl
def adL(k:AA)(n:Int):(faM k n).id=k.id:=by unfold faM;rfl
def afU(k:AA):(riM k).id=k.id:=rfl
def al6{k:AA}(h:Au k=A1):Au (riM k)=A1:=(axL<|Cb h).ok
def JQ{l:List AA}{i j:Nat}(hi:i<l.length)(k:AA):kA (l.set i k) j=if j=i then k else kA l j:=by
 unfold kA;simp only[BG,To];by_cases h:j=i
 .subst h;simp[hi]
 .have h':¬i=j:=λe=>h e.symm;simp[h,h']
def BR.put{w:Ak}(h:BR w){i:Nat}(hi:i<4){k:AA}(hk:Au k=A1)(hid:k.id=(kA w.AH i).id)(ra:List AR)(se go:List A7)
  (rl:ra.length<=30)(sl:se.length<=6)(gl:go.length<=6)(p:∀p∈ra,Dw p=A1)(s:∀n∈se,B9 n=A1)(g:∀n∈go,B9 n=A1):
  BR ⟨w.ti,w.AH.set i k,w.B0,ra,se,go⟩:=by
 refine⟨by rw[FK];exact h.kl,h.ll,rl,sl,gl,λj hj=> ?_,p,s,g⟩;show Au (kA (w.AH.set i k) j)=A1/\(kA (w.AH.set i k) j).id=(j:Int);rw[JQ (by rw[h.kl];exact hi)];split
 .rename_i e;rw[e,hid];exact⟨hk,(h.k i hi).2⟩
 .exact h.k j hj
def BR.GL{w:Ak}(h:BR w){i:Nat}(hi:i<4){k:AA}(hk:Au k=A1)(hid:k.id=(kA w.AH i).id):BR (GL w i k):=
 h.put hi hk hid w.AP w.Aw w.got h.rl h.sl h.gl h.p h.s h.g
def BR.ra{w:Ak}(h:BR w){ra:List AR}(rl:ra.length<=30)(p:∀p∈ra,Dw p=A1):BR ⟨w.ti,w.AH,w.B0,ra,w.Aw,w.got⟩:=
 ⟨h.kl,h.ll,rl,h.sl,h.gl,h.k,p,h.s,h.g⟩
def BR.ti{w:Ak}(h:BR w)(n:Int):BR ⟨n,w.AH,w.B0,w.AP,w.Aw,w.got⟩:=⟨h.kl,h.ll,h.rl,h.sl,h.gl,h.k,h.p,h.s,h.g⟩
def Ru{w:Ak}(h:BR w)(i:Nat):(Fw w.AP i).length<=30/\ ∀p∈Fw w.AP i,Dw p=A1:=by
 have:=h.rl;refine⟨by unfold Fw;simp;omega,λp hp=>h.p p ?_⟩;rcases Bk.1 hp with h1|h1
 .exact ID h1
 .exact Jm h1
def afg{w:Ak}(h:BR w){p:AR}(hp:Dw p=A1){ra:List AR}(rl:ra.length<=30)(hra:∀p∈ra,Dw p=A1):BR (Fo w p ra):=by
 unfold Fo;obtain⟨_,p2,_⟩:=KY hp;split
 .have hi:p.dst.toNat<4:=J
  exact h.put hi (agw (h.k _ hi).1 _) (ahp (h.k _ hi).1 _) _ _ _ (aaA rl) h.sl h.gl (zv hra (cT _ _).2) h.s h.g
 .exact h.ra rl hra
def awA{p:AR}(hp:Dw p=A1)(mix kp:Int):Dw (Jf p mix kp)=A1:=by
 unfold Dw Jf at *;simpa[SC,jf] using hp
def akf{w:Ak}(h:BR w)(e:Event):BR (DD w e).1:=by
 unfold DD;split
 .rename_i h0;have h0:=Ae.1 h0;have hlt:e.wo.toNat<w.AP.length:=J
  have hp:=La h hlt;split
  .split
   .refine h.ra (by rw[FK];exact h.rl) λp hp'=> ?_;rcases Qc hp' with h1|h1
    .exact h.p p h1
    .rw[h1];exact awA hp _ _
   .exact h
  .split
   .exact h.ra (Ru h _).1 (Ru h _).2
   .split
    .refine afg h hp ?_ ?_<;>split
     .exact(Ru h _).1
     .exact h.rl
     .exact(Ru h _).2
     .exact h.p
    .exact h
 .exact h
def azG{w:Ak}(h:BR w)(e:Event):BR (FF w e).1:=by
 unfold FF;split
 .exact⟨h.kl,by show(w.B0.set _ _).length=3;rw[FK];exact h.ll,h.rl,h.sl,h.gl,h.k,h.p,h.s,h.g⟩
 .exact h
def agQ{k:AA}{tt un:Int}{tx:A4}(h:(Dg k tt un tx).2≠0):B9 ⟨k.id,(Dg k tt un tx).2,tt,un,tx⟩=A1:=by
 unfold Dg at h ⊢;split
 .rename_i hc;rw[A8 hc]at h;simp only[AI]at hc;simp only at h ⊢;split
  .exact hc.2
  .rename_i h1;rw[AD h1]at h;exact absurd rfl h
 .rename_i hc;rw[AD hc]at h;exact absurd rfl h
def ag2{k:AA}(hk:Au k=A1){fr nu:Int}(h:(CN k fr nu).2.2=A1):B9 (CN k fr nu).2.1=A1:=by
 unfold CN at h ⊢;split
 .rename_i hc;rw[A8 hc]at h;simp only at h ⊢;rw[A8 h];simp only[AI,Df,decide_eq_false_iff_not]at hc;exact G7 (Ci (Cb hk).kok).i (Ii<|WH.1 hc.2).1
 .rename_i hc;rw[AD hc]at h;cases h
def NB{α:Type}{l:List α}{P:α->Prop}{a:α}(h:∀x∈l,P x)(ha:P a):∀x∈l++[a],P x:=by
 intro x hx;rcases Bk.1 hx with h1|h1
 .exact h x h1
 .rw[DG.1 h1];exact ha
def afk{w:Ak}(h:BR w)(e:Event)(ha:isN e.at_=A1):BR (Hx w e<|kA w.AH e.at_.toNat).1:=by
 have hi:=R9 ha;have hr:=Gq ha;obtain⟨hk,hid⟩:=h.k _ hi;unfold Hx;split
 .unfold Jz;split
  .exact h
  .split
   .exact h
   .rename_i h1 h2;refine h.put hi (akr hk _ _ _) (azn _ _ _ _) _ _ _ h.rl (by simp;omega) h.gl h.p (NB h.s ?_) h.g;have:=agQ h2;rw[hid,oR hr.1]at this;exact this
 .split
  .exact h.GL hi (awX hk) (afB _)
  .split
   .split
    .rename_i h1;exact h.ra (aaA h.rl) (zv h.p λf hf=>by rw[DG.1 hf];exact au8 hk h1)
    .exact h
   .split
    .exact h.GL hi (yy hk _) (adL _ _)
    .split
     .exact h.GL hi (al6 hk) (afU _)
     .split
      .unfold J9;split
       .rename_i h1;simp only[AI,decide_eq_true_eq]at h1;exact h.put hi (av0 hk _ _) (arU _ _ _) _ _ _ h.rl h.sl (by simp;omega) h.p h.s (NB h.g<|ag2 hk h1.1)
       .exact h
      .split
       .exact h.GL hi (axe hk) (aja _)
       .split
        .exact h.GL hi (axO hk) (age _)
        .exact h
def yW{w:Ak}(h:BR w)(e:Event):BR (doM w e).1:=by
 unfold doM;split
 .exact akf h e
 .split
  .exact azG h e
  .split
   .rename_i h1;exact afk h e h1
   .exact h
def ru{w:Ak}(h:BR w)(b:Bool):BR (HS w b):=by
 unfold HS;split
 .exact h.ti _
 .exact h
def VE{w:Ak}(h:BR w)(e:Event):BR (At w e):=ru (yW h e) _
def kp0(i:Int):AA:=⟨i,A1,noB,0,[]⟩
def rv0:Ak:=⟨0,[kp0 0,kp0 1,kp0 2,kp0 3],[A1,A1,A1],[],[],[]⟩
def aej{i:Int}(h:isN i=A1):Au (kp0 i)=A1:=by
 refine SO (k:=kp0 i) (rs:=[]) (ts:=[]) h ⟨?_,(show noB.size<=2400 by decide),by rfl,by rfl⟩ (show 0<=3 by decide) (.inl rfl) ?_ (λi hi=>absurd hi<|Nat.not_lt_zero _)
 .intro r hr;cases hr
 .unfold Cr;rw[A8<|show isN (kp0 i).id=A1 from h];rfl
def dz{i:Nat}(hi:i<4):kA rv0.AH i=kp0 i:=by
 have:i=0\/i=1\/i=2\/i=3:=J
 obtain rfl|rfl|rfl|rfl:=this<;>rfl
def agZ{i:Nat}(hi:i<4):isN (i:Int)=A1:=Ae.2 ⟨J,J⟩
def ag0:BR rv0:=by
 refine⟨rfl,rfl,by decide,by decide,by decide,λi hi=> ?_,(λp hp=>by cases hp),(λp hp=>by cases hp),(λp hp=>by cases hp)⟩;rw[dz hi];exact⟨aej<|agZ hi,rfl⟩
def Pa(k:AA):Prop:=k.up=A3->k.fo=(k.log.size:Int)
def Sr(k:AA)(r:A4)(f:Bool):(wrR k r f).1.up=k.up:=by
 unfold wrR;split
 .rfl
 .cases f<;>rfl
def amY{k:AA}(h:Au k=A1)(f:Frame):(Ck k f).1.up=k.up:=by
 unfold Ck;rw[A8 h];unfold JS;split
 .split
  .unfold HX;split
   .rfl
   .split
    .rfl
    .split
     .rfl
     .unfold KF;split
      .split
       .unfold KW;split
        .exact Sr _ _ _
        .rfl
       .rfl
      .rfl
  .split
   .exact Sr _ _ _
   .rfl
 .rfl
def apb{k:AA}(ok:Au k=A1)(h:k.up=A3)(f:Frame):Ck k f=(k,[]):=by
 unfold Ck;rw[A8 ok];unfold JS;rw[h,AN,A6]
def anP{k:AA}(h:k.up=A3)(tt un:Int)(tx:A4):Dg k tt un tx=(k,0):=by
 unfold Dg;rw[h,AN,A6]
def ayz{k:AA}(h:k.up=A3)(a b:Int):CN k a b=(k,zN,A3):=by
 unfold CN;rw[h,AN,A6]
def avy{k:AA}(h:k.up=A3):E5 k=(k,A3):=by
 unfold E5;rw[h,A6]
def atz{k:AA}(h:k.up=A3):EW k=(k,A3):=by
 unfold EW;rw[h,A6]
def alm{k:AA}(h:k.up=A3):Eb k=(k,A3):=by
 unfold Eb;rw[h,AN,A6]
def asc(k:AA)(tt un:Int)(tx:A4):(Dg k tt un tx).1.up=k.up:=by
 unfold Dg;split
 .exact Sr _ _ _
 .rfl
def at0(k:AA)(a b:Int):(CN k a b).1.up=k.up:=by
 unfold CN;split
 .exact Sr _ _ _
 .rfl
def ajd(k:AA):(E5 k).1.up=k.up:=by
 unfold E5;split
 .exact Sr _ _ _
 .rfl
def asC(k:AA):(EW k).1.up=k.up:=by unfold EW;split<;>rfl
def azq(k:AA):(Eb k).1.up=k.up:=by unfold Eb;split<;>rfl
def QY{k k':AA}(h:Pa k)(hu:k'.up=k.up)(hd:k.up=A3->k'=k):Pa k':=λe=>by
 rw[hu]at e;rw[hd e];exact h e
def ak9(k:AA)(n:Int):Pa (faM k n):=by
 intro _;unfold faM;simp only;have h:=(PN<|k.log.extract 0 (k.fo+max 0 (min n<|(k.log.size:Int) - k.fo)).toNat).1;rw[@VU];omega
def aku{k:AA}(ok:Au k=A1)(h:k.up=A3)(d:Pa k)(n:Int):faM k n=k:=by
 obtain⟨_,h2,h3⟩:=amk (Cb ok) (d h) n;have h4:=zi ok h;have:faM k n=⟨(faM k n).id,(faM k n).up,(faM k n).log,(faM k n).fo,(faM k n).AM⟩:=rfl;rw[this,h2,h3,adL,show(faM k n).up=k.up from by rw[h];rfl,show(faM k n).AM=k.AM from by rw[h4];rfl]
def ahh{k:AA}(h:k.up=A1):riM k=k:=by
 unfold riM;rw[← h]
def S7{l:List AA}{i:Nat}:l.set i (kA l i)=l:=by
 apply nY;intro j;rw[To];by_cases h:i=j
 .subst h;by_cases h1:i<l.length
  .rw[A8 rfl,A8 h1,kA,BG,B3 h1];rfl
  .rw[A8 rfl,AD h1,I0 J]
 .rw[AD h]
def Rr{w:Ak}{i:Nat}{k:AA}(h:k=kA w.AH i):GL w i k=w:=by
 subst h;unfold GL;rw[S7]
structure OT (w:Ak):Prop where
 d:∀i,i<4->Pa (kA w.AH i)
def agy{w:Ak}(h:BR w)(hd:OT w){e:Event}(ho:(doM w e).2=A3):(doM w e).1=w:=by
 unfold doM at ho ⊢;split
 .rename_i h1;rw[A8 h1]at ho;unfold DD at ho ⊢;split
  .rename_i h2;rw[A8 h2]at ho;split
   .rename_i h3;rw[A8 h3]at ho;split
    .rename_i h4;rw[A8 h4]at ho;cases ho
    .rfl
   .rename_i h3;rw[AD h3]at ho;split
    .rename_i h4;rw[A8 h4]at ho;cases ho
    .rename_i h4;rw[AD h4]at ho;split
     .rename_i h5;rw[A8 h5]at ho;cases ho
     .rfl
  .rfl
 .rename_i h1;rw[AD h1]at ho;split
  .rename_i h2;rw[A8 h2]at ho;unfold FF at ho ⊢;split
   .rename_i h3;rw[A8 h3]at ho;cases ho
   .rfl
  .rename_i h2;rw[AD h2]at ho;split
   .rename_i h3;rw[A8 h3]at ho;have hi:=R9 h3;obtain⟨ok,_⟩:=h.k _ hi;have hdk:=hd.d _ hi;unfold Hx at ho ⊢;split
    .rename_i c;rw[A8 c]at ho;unfold Jz at ho ⊢;split
     .rfl
     .rename_i c1;rw[AD c1]at ho;split
      .rfl
      .rename_i c2;rw[AD c2]at ho;cases ho
    .rename_i c;rw[AD c]at ho;split
     .rename_i c;rw[A8 c]at ho;refine Rr ?_;unfold E5 at ho ⊢;split
      .rename_i c1;rw[A8 c1]at ho;exact aZ ho
      .rfl
     .rename_i c;rw[AD c]at ho;split
      .rename_i c;rw[A8 c]at ho;split
       .rename_i c1;rw[A8 c1]at ho;cases ho
       .rfl
      .rename_i c;rw[AD c]at ho;split
       .rename_i c;rw[A8 c]at ho;exact Rr (aku ok ho hdk _)
       .rename_i c;rw[AD c]at ho;split
        .rename_i c;rw[A8 c]at ho;exact Rr (ahh<|by simpa using ho)
        .rename_i c;rw[AD c]at ho;split
         .rename_i c;rw[A8 c]at ho;unfold J9 at ho ⊢;split
          .rename_i c1;rw[A8 c1]at ho;cases ho
          .rfl
         .rename_i c;rw[AD c]at ho;split
          .rename_i c;rw[A8 c]at ho;refine Rr ?_;unfold EW at ho ⊢;split
           .rename_i c1;rw[A8 c1]at ho;cases ho
           .rfl
          .rename_i c;rw[AD c]at ho;split
           .rename_i c;rw[A8 c]at ho;refine Rr ?_;unfold Eb at ho ⊢;split
            .rename_i c1;rw[A8 c1]at ho;cases ho
            .rfl
           .rfl
   .rfl
inductive KMv (k:AA):AA->Prop
 | sO (f:Frame):KMv k (Ck k f).1
 | own (tt un:Int) (tx:A4):KMv k (Dg k tt un tx).1
 | time:KMv k (E5 k).1
 | eat (a b:Int):KMv k (CN k a b).1
 | W7 (n:Int):KMv k (faM k n)
 | aaH:KMv k (riM k)
 | pack:KMv k (EW k).1
 | force:KMv k (Eb k).1
def rm{w:Ak}(h:BR w)(e:Event):(doM w e).1.AH=w.AH\/ ∃i k',i<4/\KMv (kA w.AH i) k'/\(doM w e).1.AH=w.AH.set i k':=by
 unfold doM;split
 .unfold DD;split
  .rename_i h2;split
   .split
    .exact .inl rfl
    .exact .inl rfl
   .split
    .exact .inl rfl
    .split
     .unfold Fo;split
      .refine .inr ⟨_,_, ?_,.sO _,rfl⟩;have:=Ae.1 h2;have:=KY<|La h (i:=e.wo.toNat) J;omega
      .exact .inl rfl
     .exact .inl rfl
  .exact .inl rfl
 .split
  .unfold FF;split
   .exact .inl rfl
   .exact .inl rfl
  .split
   .rename_i h3;have hi:=R9 h3;unfold Hx;split
    .unfold Jz;split
     .exact .inl rfl
     .split
      .exact .inl rfl
      .exact .inr ⟨_,_,hi,.own _ _ _,rfl⟩
    .split
     .exact .inr ⟨_,_,hi,.time,rfl⟩
     .split
      .split
       .exact .inl rfl
       .exact .inl rfl
      .split
       .exact .inr ⟨_,_,hi,.W7 _,rfl⟩
       .split
        .exact .inr ⟨_,_,hi,.aaH,rfl⟩
        .split
         .unfold J9;split
          .exact .inr ⟨_,_,hi,.eat _ _,rfl⟩
          .exact .inl rfl
         .split
          .exact .inr ⟨_,_,hi,.pack,rfl⟩
          .split
           .exact .inr ⟨_,_,hi,.force,rfl⟩
           .exact .inl rfl
   .exact .inl rfl
def apm{w:Ak}(h:BR w)(e:Event):(At w e).AH=w.AH\/ ∃i k',i<4/\KMv (kA w.AH i) k'/\(At w e).AH=w.AH.set i k':=by
 have:=rm h e;unfold At HS;split<;>exact this
def alS{P:AA->Prop}(hP:∀k k',Au k=A1->P k->KMv k k'->P k'){w:Ak}(h:BR w)(hw:∀i,i<4->P (kA w.AH i))(e:Event):∀i,i<4->P (kA (At w e).AH i):=by
 intro i hi;rcases apm h e with e1|⟨j,k',hj,m,e1⟩
 .rw[e1];exact hw i hi
 .rw[e1,JQ (by rw[h.kl];exact hj)];split
  .exact hP _ _ (h.k j hj).1 (hw j hj) m
  .exact hw i hi
def KMv.dur{k k':AA}(ok:Au k=A1)(h:Pa k)(m:KMv k k'):Pa k':=by
 cases m with
 | sO f=>exact QY h (amY ok f) λe=>by rw[apb ok e]
 | own a b c=>exact QY h (asc _ _ _ _) λe=>by rw[anP e]
 | time=>exact QY h (ajd _) λe=>by rw[avy e]
 | eat a b=>exact QY h (at0 _ _ _) λe=>by rw[ayz e]
 | W7 n=>exact ak9 _ _
 | aaH=>intro e;cases e
 | pack=>exact QY h (asC _) λe=>by rw[atz e]
 | force=>exact QY h (azq _) λe=>by rw[alm e]
def OT.sim{w:Ak}(hd:OT w)(h:BR w)(e:Event):OT (At w e):=⟨alS (λ_ _ ok d m=>m.dur ok d) h hd.d e⟩
inductive Reach:List Event->Ak->Prop
 | nil:Reach [] rv0
 | snoc {ev:List Event} {w:Ak} {e:Event} :Reach ev w->(doM w e).2=A1->e.tx.size<=1048576->Reach (ev++[e]) (At w e)
def Reach.both{ev:List Event}{w:Ak}(h:Reach ev w):BR w/\OT w:=by
 induction h with
 | nil=>exact⟨ag0,⟨λi hi e=>by rw[dz hi]at e;cases e⟩⟩
 | snoc _ _ _ ih=>exact⟨VE ih.1 _,ih.2.sim ih.1 _⟩
def Reach.ok{ev:List Event}{w:Ak}(h:Reach ev w):BR w:=h.both.1
def Reach.dur{ev:List Event}{w:Ak}(h:Reach ev w):OT w:=h.both.2
def Reach.step{ev:List Event}{w:Ak}(h:Reach ev w){e:Event}(ht:e.tx.size<=1048576):Reach (Jd ev e (doM w e).2) (At w e):=by
 unfold Jd;rcases tf (doM w e).2 with c|c
 .rw[c,A8 rfl];exact h.snoc c ht
 .have:=agy h.ok h.dur c;rw[c,A6];unfold At HS;rw[c,A6,this];exact h
def Reach.ind{P:Ak->Prop}(h0:P rv0)(hs:∀w e,BR w->OT w->P w->(doM w e).2=A1->P (At w e)){ev:List Event}{w:Ak}(h:Reach ev w):P w:=by
 induction h with
 | nil=>exact h0
 | snoc h1 h2 _ ih=>exact hs _ _ h1.ok h1.dur ih h2
def Sf{l:List Int}(h:BOk l):BB (BA l)=l:=by
 unfold BB BA;simp only[HY]
 conv=>rhs;rw[← S1 l]
 refine GM λn hn=> ?_;have:=h n hn;simp only[Function.comp,id];rw[UInt8.toNat_ofNat'];omega
def aiS{a b:List Int}(ha:BOk a)(hb:BOk b)(h:BA a=BA b):a=b:=by
 rw[← Sf ha,h,Sf hb]
def Vj(f:Frame):BOk (CY f):=by
 unfold CY;split
 .exact BOk.app (cn f) (.cons _<|.cons _ .nil)
 .exact .nil
def IT{n:Int}(h0:0<=n)(h1:n<=255):w8 n=n:=by
 rw[N9];omega
def V9{n:Int}(h0:0<=n)(h1:n<=65535):256 * w8 (w64<|Ay n 256)+w8 (B5 n 256)=n:=by
 rw[N9,N9,G5 h0,KE h0,AY J J];omega
def aiP{s:A4}(h:s.size=4):∃a b c d,s=B [a,b,c,d]:=by
 have h':(L s).length=4:=h;rcases hl:L s with _|⟨a,_|⟨b,_|⟨c,_|⟨d,_|⟨e,l⟩⟩⟩⟩⟩<;>rw[hl]at h'<;>simp at h';exact⟨a,b,c,d,F9 (by rw[L_B,hl])⟩
def acU{a1 a2 a3 a4 a5 a6 a7 a8 a9 b1 b2 b3 b4 b5 b6 b7 b8 b9:Int}{s t:A4}(h1:a1=b1)(h2:a2=b2)(h3:a3=b3)(h4:a4=b4)(h5:a5=b5)(h6:a6=b6)(h7:a7=b7)(h8:a8=b8)(h9:a9=b9)(h:s=t):
  (⟨a1,a2,a3,a4,a5,a6,a7,a8,a9,s⟩:Frame)=⟨b1,b2,b3,b4,b5,b6,b7,b8,b9,t⟩:=by
 subst h1 h2 h3 h4 h5 h6 h7 h8 h9 h;rfl
def ay5{f:Frame}(h:Co f=A1):Cu (CY f)=(f,A1):=by
 have hr:=Ti h;have r1:=Ae.1 hr.1;have r2:=Ae.1 hr.2.1;have r3:=Ae.1 hr.2.2.1;have r4:=Ae.1 hr.2.2.2.1;have r5:=Ae.1 hr.2.2.2.2.1;have r6:=Ae.1 hr.2.2.2.2.2.1;have r7:=hr.2.2.2.2.2.2;have wh:F6 (CY f)=f/\((CY f).length=10\/(CY f).length=17):=by
  obtain⟨ki,src,dst,fr,nu,t',un,sz,mix,da⟩:=f;simp only at r1 r2 r3 r4 r5 r6 r7;unfold CY;rw[A8 h];unfold Mp at r7;by_cases hk:ki=1
  .subst hk;simp only[AO,A5,AI,decide_eq_true_eq]at r7;obtain⟨q1,q2,q3,q4⟩:=r7;have q1:=Ae.1 q1;have q2:=Ae.1 q2;obtain⟨a,b,c,d,rfl⟩:=aiP (s:=da) J;unfold ET;simp only[AO,A5];have hb:BB (B [a,b,c,d])=[(a.toNat:Int),b.toNat,c.toNat,d.toNat]:=rfl;rw[hb];refine⟨?_,.inr rfl⟩;have e1:=V9 (n:=un) J J;have e2:=V9 (n:=mix) J J;unfold F6;rw[A8<|by rfl];have g1:=IT (n:=src) J J;have g2:=IT (n:=dst) J J;have g3:=IT (n:=fr) J J;have g4:=IT (n:=nu) J J;have g5:=IT (n:=t') J J;have g6:=IT (n:=sz) J J;have g7:=Tn [a,b,c,d];exact acU rfl g1 g2 g3 g4 g5 e1 g6 e2 g7
  .rw[AD<|by simpa using hk]at r7;simp only[AI,Cj,decide_eq_true_eq]at r7;obtain⟨q0,q1,q2,q3,q4⟩:=r7;unfold ET;simp only[BV hk,A6];refine⟨?_,.inl rfl⟩;have e1:=V9 (n:=un) J J;unfold F6;rw[AD<|by simp];have g0:=IT (n:=ki) J J;have g1:=IT (n:=src) J J;have g2:=IT (n:=dst) J J;have g3:=IT (n:=fr) J J;have g4:=IT (n:=nu) J J;have g5:=IT (n:=t') J J;exact acU g0 g1 g2 g3 g4 g5 e1 q1.symm q2.symm q3.symm
 unfold Cu;rw[wh.1,A8,A8<|AT rfl];rw[Cj,decide_eq_true_eq,decide_eq_true_eq];have:=wh.2;omega
def Ns:List Int->Nat->Int
 | [],_=>0
 | x::r,i=>x * ((i % 1000:Nat)+1)+Ns r (i+1)
def oP:∀ {l:List Int} {i:Nat} {n:Int},BOk l->0<=n->n<65521->Es l i n=(n+Ns l i) % 65521
 | [],i,n,_,h0,h1=>by
  unfold Es Ns;omega
 | x::r,i,n,hb,h0,h1=>by
  have hx:=hb x An;have hp:0<=x * ((i % 1000:Nat)+1:Int):=XR hx.1 J;unfold Es Ns;rw[KE J,oP (λy hy=>hb y<|Aj x hy) J J];omega
def ad8:∀ {l:List Int} {j i:Nat} {x:Int} (h:j<l.length),Ns (l.set j x) i=Ns l i+(x - l[j]) * (((i+j) % 1000:Nat)+1)
 | y::r,0,i,x,h=>by
  rw[List.set_cons_zero];unfold Ns;simp only[List.getElem_cons_zero,HN];rw[Int.sub_mul];omega
 | y::r,j+1,i,x,h=>by
  rw[List.set_cons_succ];unfold Ns;rw[ad8 (j:=j) (i:=i+1)<|by simpa using h,List.getElem_cons_succ,show i+1+j=i+(j+1) by omega];omega
structure YN (b body:List Int):Prop where
 e:b=body++two (Es body 0 0)
 ok:BOk body
 len:body.length<=15
def av7{a b:Int}(h0:0<=a/\a<65521)(h1:0<=b/\b<65521)(h:two a=two b):a=b:=by
 have e1:=V9 (n:=a) J J;have e2:=V9 (n:=b) J J;unfold two at h;simp only[Ln,and_true]at h;rw[← e1,← e2,h.1,h.2]
def aln{b body OP:List Int}{j:Nat}{x:Int}(h:YN b body)(hj:j<b.length)(hx:x≠b[j])(hr:0<=x/\x<=255):¬YN (b.set j x) OP:=by
 intro h';have hlb:b.length=body.length+2:=by rw[h.e];simp
 have ajJ:(b.set j x).length=OP.length+2:=by rw[h'.e];simp
 rw[FK]at ajJ;have hs:=nq (i:=0) (n:=0) h.ok J J;have hs':=nq (i:=0) (n:=0) h'.ok J J;have e:=h'.e;have hbl:body.length=OP.length:=J
 by_cases hlt:j<body.length
 .have e1:(body.set j x)++two (Es body 0 0)=OP++two (Es OP 0 0):=by
   rw[← e,h.e,List.set_append_left _ _ hlt]
  obtain⟨e2,e3⟩:=List.append_inj e1 (by rw[FK];exact hbl);have e4:=av7 hs hs' e3;have hbj:b[j]=body[j]:=by simp only[h.e,List.getElem_append_left hlt]
  rw[← e2]at e4 h';rw[oP h.ok J J,oP h'.ok J J,ad8 hlt]at e4;have hb1:=h.ok body[j] (Cm hlt);have hlen:=h.len;rw[hbj]at hx;have hm:((0+j) % 1000:Nat)=j:=J
  rw[hm]at e4;have hd:∃d:Int,d=(x - body[j]) * ((j:Int)+1):=⟨_,rfl⟩;obtain⟨d,hd⟩:=hd;rw[← hd]at e4;have h1:d≠0:=by
   rw[hd];exact Int.mul_ne_zero J J
  have h2:d<=255 * 15:=by
   rw[hd];have a1:(x - body[j]) * ((j:Int)+1)<=255 * ((j:Int)+1):=cO J J;omega
  have h3: -(255 * 15)<=d:=by
   rw[hd];have a1:(-255) * ((j:Int)+1)<=(x - body[j]) * ((j:Int)+1):=cO J J;omega
  omega
 .have e1:body++(two<|Es body 0 0).set (j - body.length) x=OP++two (Es OP 0 0):=by
   rw[← e,h.e,tl _ _ J]
  obtain⟨e2,e3⟩:=List.append_inj e1 hbl;rw[← e2]at e3;have e4:b.set j x=b:=by
   rw[e,← e2];exact h.e.symm
  have:(b.set j x)[j]'(by rw[FK];exact hj)=x:=List.getElem_set_self ..;rw[List.getElem_of_eq e4]at this;exact hx this.symm
def aaD{f:Frame}(h:Co f=A1):YN (CY f) (ET f):=⟨by unfold CY;rw[A8 h],cn f,YC h⟩
def aup{b:List Int}(hb:BOk b)(h:(Cu b).2=A1):YN b (ET (Cu b).1):=by
 have ok:=aah h;have:CY (Cu b).1=b:=by
  unfold Cu at h ⊢;split
  .rename_i h1;rw[A8 h1]at h;split
   .rename_i h2;exact aiS (Vj _) hb (BP h2)
   .rename_i h2;rw[AD h2]at h;cases h
  .rename_i h1;rw[AD h1]at h;cases h
 have hs:=aaD ok;rw[this]at hs;exact hs
def awN{x k:Int}(hx:0<=x/\x<=255)(hk:1<=k/\k<=255):DY .u8 x (w8 k)≠x/\0<=DY .u8 x (w8 k)/\DY .u8 x (w8 k)<=255:=by
 rw[IT J J];have e:DY .u8 x k=w8 ((Ez 8 x ^^^ Ez 8 k).toNat:Int):=rfl;have hlt:=(Ez 8 x ^^^ Ez 8 k).isLt;rw[e,IT J J];refine⟨λh=> ?_,J,J⟩;obtain⟨m,rfl⟩:=Gx hx.1;obtain⟨n,rfl⟩:=Gx (show 0<=k by omega);have e1:(Ez 8 (m:Int) ^^^ Ez 8 (n:Int))=Ez 8 (m:Int):=by
  apply jU;rw[RG];omega
 have e2:Ez 8 (n:Int)=0#8:=by
  have:=congrArg (λz=>Ez 8 (m:Int) ^^^ z) e1;simpa[← BitVec.xor_assoc] using this
 have e3:=congrArg BitVec.toNat e2;rw[RG]at e3;simp at e3;omega
def aAK{f:Frame}{p:AR}(hf:Co f=A1)(hd:p.data=BA (CY f)){mix kp:Int}(hm:inB mix 0 ((p.data.size:Int) - 1)=A1)(hk:inB kp 1 255=A1):(Cu<|BB (Jf p mix kp).data).2=A3:=by
 have hm:=Ae.1 hm;have hk:=Ae.1 hk;rw[hd,SC]at hm;rcases tf (Cu<|BB (Jf p mix kp).data).2 with h|h
 .exfalso;have hs:=aup (BOk.str _) h;unfold Jf at hs;simp only at hs;rw[hd,Sf<|Vj f]at hs;have hlt:mix.toNat<(CY f).length:=J
  have hrd: @rd Int (dfl .u8) (CY f) mix=(CY f)[mix.toNat]:=by
   show(CY f).getD mix.toNat 0=_;rw[BG,B3 hlt];rfl
  rw[hrd]at hs;have hx:=Vj f _<|Cm hlt;have hne:=awN hx hk;have hb:BOk ((CY f).set mix.toNat<|DY .u8 (CY f)[mix.toNat] (w8 kp)):=by
   intro y hy;rcases Qc hy with h1|h1
   .exact Vj f y h1
   .rw[h1];exact hne.2
  rw[Sf hb]at hs;exact aln (aaD hf) hlt hne.1 hne.2 hs
 .exact h
def vm{α β:Type}{f g:α->β->α}:∀ {l:List β} {a:α},(∀a,∀b∈l,f a b=g a b)->l.foldl f a=l.foldl g a
 | [],_,_=>rfl
 | x::l,a,h=>by
  rw[E6,E6,h a x An];exact vm λa b hb=>h a b<|Aj x hb
def No(b:Nat)(bl:Nat->List UInt8)(kn:List A4):Prop:=∀k,k<b->bsA kn k=noB\/bsA kn k=B (bl k)
def aoC{b:Nat}{bl:Nat->List UInt8}{kn kn':List A4}{m:AQ}(hb:∀k,(bl k).length=4)(hm:Ic m->m.da=B (DX 4 bl<|Bh (b:Int) m.nu))
  (h:CU b kn)(ht:No b bl kn)(e:F4 b kn m=I kn'):No b bl kn':=by
 unfold F4 at e;split at e
 .rename_i hc;rw[AI]at hc;have hda:=hm ⟨hc.1,BP hc.2⟩;split at e
  .rename_i u hu;injection e with e;subst e;have FG:u∈D1 kn (Bh (b:Int) m.nu):=by rw[hu];exact OK u
   obtain⟨h1,h2⟩:=Hg.1 FG;have h3:=Lg h1;have hul:u<kn.length:=by rw[h.1];omega
   have hv:E7 kn (Bh (b:Int) m.nu) (L m.da)=bl u:=by
    have hp:=aoe (n:=4) (bl:=bl) (p:=λk=> !unk kn k) (ks:=Bh (b:Int) m.nu) (u:=u) (λk _=>hb k) (by
     have:(Bh (b:Int) m.nu).filter (λk=> !(!unk kn k))=D1 kn (Bh (b:Int) m.nu):=by
      unfold D1;congr 1;funext k;rw[Bool.not_not]
     rw[this,hu])
    rw[← hp,hda,L_B];unfold E7;refine vm λx k hk=> ?_;rcases tf (unk kn k) with c|c
    .rw[c];rfl
    .rw[c];have hkb:=Lg hk;rcases ht k J with h4|h4
     .exact absurd h4 (GI c)
     .rw[h4,L_B];rfl
   intro k hk;rw[TX _ hul];by_cases ek:k=u
   .rw[A8 ek,hv,ek];exact .inr rfl
   .rw[AD ek];exact ht k hk
  .cases e
 .cases e
def o8{b:Nat}{bl:Nat->List UInt8}(hb:∀k,(bl k).length=4):∀(list:List AQ) (s:List A4×Bool),(∀m∈list,Ic m->m.da=B (DX 4 bl<|Bh (b:Int) m.nu))->CU b s.1->No b bl s.1->No b bl (list.foldl (C9 b) s).1
 | [],_,_,_,h=>h
 | m::list,s,hm,h,ht=>by
  rw[E6];cases e:F4 b s.1 m with
  | none=>
   rw[show C9 b s m=s by unfold C9;rw[e]];exact o8 hb list s (λx hx=>hm x<|Aj m hx) h ht
  | some kn=>
   rw[show C9 b s m=(kn,A1) by unfold C9;rw[e]];exact o8 hb list (kn,A1) (λx hx=>hm x<|Aj m hx) (Tp h e).1<|aoC hb (hm m An) h ht e
def aAN{b:Nat}{bl:Nat->List UInt8}(hb:∀k,(bl k).length=4){list:List AQ}(hm:∀m∈list,Ic m->m.da=B (DX 4 bl<|Bh (b:Int) m.nu)):∀(n:Nat) (kn:List A4),CU b kn->No b bl kn->No b bl (Gj b list n kn)
 | 0,_,_,h=>h
 | n+1,kn,h,ht=>by
  have h1:=(Lp list (kn,A3) h).1;have h2:=o8 hb list (kn,A3) hm h ht;unfold Gj;split
  .exact aAN hb hm n _ h1 h2
  .exact h2
def adP{b:Nat}{list:List AQ}:∀(n:Nat) (kn:List A4),CU b kn->∀k,unk (Gj b list n kn) k=A1->unk kn k=A1
 | 0,_,_,_,h=>h
 | n+1,kn,h,k,hk=>by
  obtain⟨h1,h2,_⟩:=Lp list (kn,A3) h;unfold Gj at hk;split at hk
  .exact h2 k (adP n _ h1 k hk)
  .exact h2 k hk
def adt{b:Nat}{k:Nat}:∀(list:List AQ) (s:List A4×Bool),(∃m∈list,Ic m/\Bh (b:Int) m.nu=[k])->CU b s.1->unk (list.foldl (C9 b) s).1 k=A3
 | [],_,h,_=>by
  obtain⟨m,hm,_⟩:=h;cases hm
 | m::list,s,h,hk=>by
  rw[E6];have hs:CU b (C9 b s m).1:=by
   unfold C9;split
   .rename_i kn e;exact(Tp hk e).1
   .exact hk
  obtain⟨x,hx,hf,hof⟩:=h;rcases Bj.1 hx with rfl|hx
  .have h1:unk (C9 b s x).1 k=A3:=by
    unfold C9 F4;rw[A8 (by rw[AI];exact⟨hf.1,AT hf.2⟩),hof];unfold D1;rw[J7,aD];rcases tf (unk s.1 k) with c|c
    .have hul:k<s.1.length:=by
      have h3:=Lg (b:=(b:Int)) (n:=x.nu) (k:=k) (by rw[hof];exact OK k);rw[hk.1];omega
     simp only[c,A5];unfold unk;rw[TX _ hul,A8 rfl];refine BV λhh=> ?_;have h4:(B<|E7 s.1 [k] (L x.da)).size=4:=by
      rw[BK,gA hk (by have:=hf.2;rw[Av];omega) λj hj=>by rw[DG.1 hj,← hk.1];exact hul]
     rw[hh]at h4;cases h4
    .simp only[c,A6]
   rcases tf (unk (list.foldl (C9 b)<|C9 b s x).1 k) with c|c
   .have:=(Lp list (C9 b s x) hs).2.1 k c;rw[h1]at this;cases this
   .exact c
  .exact adt list _ ⟨x,hx,hf,hof⟩ hs
def ahB{b:Nat}{k:Nat}{list:List AQ}(h:∃m∈list,Ic m/\Bh (b:Int) m.nu=[k])(n:Nat){kn:List A4}(hk:CU b kn):unk (Gj b list (n+1) kn) k=A3:=by
 have h1:=adt list (kn,A3) h hk;have h2:=(Lp list (kn,A3) hk).1;unfold Gj;split
 .rcases tf (unk (Gj b list n (IE b list kn).1) k) with c|c
  .have:=adP n _ h2 k c;rw[h1]at this;cases this
  .exact c
 .exact h1
def aAn:∀ {l:List (List UInt8)} {a:A4},(∀x∈l,x.length=4)->GW (l.map B) a=I (a++B l.flatten)
 | [],a,_=>by
  show I a=_;congr 1;apply F9;rw[Fp,L_B];simp
 | x::l,a,h=>by
  rw[DI];unfold GW;have hx:=h x An;rw[AD (λe=>by have:(B x).size=0:=(by rw[e];rfl);rw[BK]at this;omega),aAn λy hy=>h y<|Aj x hy];congr 1;apply F9;simp only[Fp,L_B,List.flatten_cons,C2]
def azk{b:Nat}{bl:Nat->List UInt8}{kn:List A4}(h:CU b kn)(ht:No b bl kn)(hu:∀k,k<b->unk kn k=A3):kn=((BO b).map bl).map B:=by
 apply nY;intro i;by_cases hi:i<b
 .rw[HY,D5,Gg hi];have h1:=hu i hi;rcases ht i hi with h2|h2
  .exact absurd h2 (GI h1)
  .have hl:i<kn.length:=by rw[h.1];exact hi
   rw[bsA,BG,B3 hl]at h2;rw[B3 hl];exact congrArg I h2
 .rw[I0 (by rw[h.1];omega),I0 (by simp;omega)]
def vJ(t:List UInt8):∀b:Nat,((BO b).map<|Ff t).flatten=(BO<|4 * b).map λi=>t.getD i 0
 | 0=>rfl
 | b+1=>by
  rw[Kw,F1,List.flatten_append,vJ t b];have:BO (4 * (b+1))=BO (4 * b)++[4 * b,4 * b+1,4 * b+2,4 * b+3]:=by
   rw[show 4 * (b+1)=4 * b+1+1+1+1 by omega];simp only[Kw,C2];rfl
  rw[this,F1];rfl
def aqZ{s:Int}(h:inB s 1 24=A1):Ay (s+3) 4=(((s.toNat+3) / 4:Nat):Int)/\inB (Ay (s+3) 4) 1 6=A1:=by
 have h:=Ae.1 h;have:Ay (s+3) 4=(((s.toNat+3) / 4:Nat):Int):=by
  rw[G5 J];omega
 refine⟨this,Ae.2 ?_⟩;rw[this];omega
def aol{s:Int}(h:inB s 1 24=A1)(list:List AQ):Fh s list=(match GW (Gj ((s.toNat+3) / 4) list 7<|BX ((s.toNat+3) / 4) noB) noB with
  | none=>(noB,A3)
  | some c=>if Mw c s.toNat then(c.extract 0 s.toNat,A1) else(noB,A3)):=by
 obtain⟨h1,h2⟩:=aqZ h;unfold Fh HM;rw[A8 h,A8 h2,h1,Bw];rfl
def apf{tx:A4}(h:inB tx.size 1 24=A1):(let c:=noB++B ((BO<|(tx.size+3) / 4).map<|Ff<|L tx).flatten
  (if Mw c tx.size then(c.extract 0 tx.size,A1) else(noB,A3)))=(tx,A1):=by
 have h:=Ae.1 h;have hc:L (noB++B ((BO<|(tx.size+3) / 4).map<|Ff<|L tx).flatten)=(BO<|4 * ((tx.size+3) / 4)).map λi=>(L tx).getD i 0:=by
  rw[Fp,L_B,vJ];rfl
 generalize noB++B ((BO<|(tx.size+3) / 4).map<|Ff<|L tx).flatten=c at hc;have hsz:c.size=4 * ((tx.size+3) / 4):=by rw[← Av,hc];simp
 have hz:Mw c tx.size=A1:=by
  unfold Mw;rw[Dq];intro i hi;refine AT ?_;unfold bt;show(((L c).getD (tx.size+i) 0).toNat:Int)=0;rw[hc,BG,D5,Gg J];simp only[RA,CF];rw[BG,I0 (by rw[Av];omega)];rfl
 show(if Mw c tx.size then(c.extract 0 tx.size,A1) else(noB,A3))=(tx,A1);rw[A8 hz];congr 1;apply F9;rw[Ds,Ib,hc,JR];apply nY;intro i;rw[Gp];split
 .rename_i hi;rw[D5,Gg J];simp only[RA];rw[BG,B3 (by rw[Av];exact hi)];rfl
 .rw[I0 (by rw[Av];omega)]
def vd(tx:A4)(list:List AQ):Prop:=∀m∈list,Ic m->m.da=IY tx m.nu
def alg{tx:A4}(h:inB tx.size 1 24=A1):(Cy tx).length=(tx.size+3) / 4:=by
 unfold Cy;rw[A8 h];simp
def asH{tx:A4}(h:inB tx.size 1 24=A1):inB (((tx.size+3) / 4:Nat):Int) 1 6=A1:=by
 have h:=Ae.1 h;exact Ae.2 J
def aeB{b:Nat}{f:Nat->Bool}:∀(n:Nat) (x:Int),0<b->(∃k,k<b/\f k=A1)->∃k,k<b/\JT b n f x k=A1
 | 0,_,_,h=>h
 | n+1,x,hb,h=>by
  obtain⟨k,hk,e⟩:=h;exact aeB n _ hb ⟨k,hk,by unfold IK;split;rfl;exact e⟩
def axb{b:Nat}{f:Nat->Bool}{n:Nat}{x:Int}(hb:0<b)(hn:0<n):∃k,k<b/\JT b n f x k=A1:=by
 obtain⟨n,rfl⟩:∃m,n=m+1:=⟨n - 1,J⟩;rw[JT];refine aeB n _ hb ⟨_, ?_,by unfold IK;rw[A8 rfl]⟩;refine S6 _ _ ?_;have:B5 (Ay (rnd x) 16) (b:Int)<b:=Ph _ J;have h0:0<=B5 (Ay (rnd x) 16) (b:Int):=Qn _<|kB (V5 x).1 J;omega
def wH{b r:Int}(hb:1<=b):∀(ws:List Int) (acc d:Int),1<=d->1<=Lu (Kj b r ws acc d)
 | [],_,_,_=>hb
 | w::ws,acc,d,h=>by
  unfold Kj;split
  .exact h
  .exact wH hb ws _ _ J
def axQ{b n:Int}(h:DU b n=A1):1<=Ft b n:=by
 have hb:1<=b:=by
  unfold DU at h;rw[AI]at h;exact(Ae.1 h.1).1
 unfold Ft;rw[A8 h];split
 .exact Ja _
 .exact wH hb _ _ _<|Ja _
def sU{b n:Int}(h:DU b n=A1):Bh b n≠[]:=by
 have hb:1<=b:=by
  unfold DU at h;rw[AI]at h;exact(Ae.1 h.1).1
 unfold Bh;rw[A8 h];split
 .simp
 .obtain⟨k,hk,e⟩:=axb (b:=b.toNat) (f:=λ_=>A3) (n:=(Ft b n).toNat) (x:=rnd<|7 * n+1) J (by have:=axQ h;omega);intro hh;have:k∈H4 (JT b.toNat (Ft b n).toNat (λ_=>A3)<|rnd<|7 * n+1) b.toNat:=Hg.2 ⟨D7.2 hk,e⟩;rw[hh]at this;cases this
def avr{n:Int}(h:inB n 0 999=A1):Bh 1 n=[0]:=by
 have hm:DU 1 n=A1:=by unfold DU;rw[h];rfl
 have hne:=sU hm;unfold Bh at hne ⊢;rw[A8 hm]at hne ⊢;split
 .rename_i hc;rw[A8 hc]at hne;have h1:=BP hc;have h2:=Ae.1 h;rw[show n.toNat=0 by omega]
 .rename_i hc;rw[AD hc]at hne;unfold H4 at hne ⊢;rw[show(1:Int).toNat=1 from rfl,List.range_one]at hne ⊢;rw[J7]at hne ⊢;split
  .rfl
  .rename_i h3;rw[AD h3]at hne;exact absurd rfl hne
def rp{tx:A4}(h:inB tx.size 1 24=A1){n:Int}(hn:inB n 0 999=A1):IY tx n=B (DX 4 (Ff<|L tx)<|Bh (((tx.size+3) / 4:Nat):Int) n):=by
 unfold IY;rw[alg h];have:=sU (b:=(((tx.size+3) / 4:Nat):Int)) (n:=n) (by unfold DU;rw[asH h,hn];rfl);rw[AD (by rw[List.isEmpty_iff];exact this)]
def avH{tx:A4}(h:inB tx.size 1 24=A1){n:Int}(hn:inB n 0 999=A1):Ic ⟨n,IY tx n⟩:=by
 refine⟨hn, ?_⟩;show((IY tx n).size:Int)=4;rw[rp h hn,BK,Qj λk _=>Tb _ k];rfl
def amu{tx:A4}(h:inB tx.size 1 24=A1){list:List AQ}(hl:vd tx list):∀m∈list,Ic m->m.da=B (DX 4 (Ff<|L tx)<|Bh (((tx.size+3) / 4:Nat):Int) m.nu):=by
 intro m hm hf;rw[hl m hm hf,rp h hf.1]
def awy(b:Nat)(bl:Nat->List UInt8):No b bl (BX b noB):=by
 intro k hk;left;rw[bsA,BG,WQ,A8 hk];rfl
def aq7{tx:A4}(h:inB tx.size 1 24=A1){list:List AQ}(hl:vd tx list)(hf:∀k:Nat,k<(tx.size+3) / 4->∃m∈list,Ic m/\Bh (((tx.size+3) / 4:Nat):Int) m.nu=[k]):Fh tx.size list=(tx,A1):=by
 rw[aol h,Bw];have h1:=pE list 7 _<|CU.new<|(tx.size+3) / 4;have h2:=aAN (λk=>Tb (L tx) k) (amu h hl) 7 _ (CU.new<|(tx.size+3) / 4)<|awy _ _;have h3:∀k,k<(tx.size+3) / 4->unk (Gj ((tx.size+3) / 4) list 7<|BX ((tx.size+3) / 4) noB) k=A3:=λk hk=>ahB (hf k hk) 6<|CU.new<|(tx.size+3) / 4;rw[azk h1 h2 h3,aAn (by
  intro x hx;obtain⟨k,_,rfl⟩:=DF.1 hx;exact Tb _ _)]
 exact apf h
def OO(S:A7->Prop)(f:Frame):Prop:=f.ki=1->∃n,S n/\B9 n=A1/\f.fr=n.fr/\f.nu=n.nu/\f.to=n.to/\f.un=n.un/\f.sz=n.tx.size/\f.da=IY n.tx f.mix
structure PcI (S:A7->Prop) (p:AR):Prop where
 aAV:p.sp=A3->∃f,p.data=BA (CY f)/\p.src=f.src/\p.dst=f.dst/\(Co f=A1->OO S f)
 bad:p.sp=A1->(Cu<|BB p.data).2=A3
def ai2:(Cu<|BB<|BA []).2=A3:=by rfl
def PcI.frame{S:A7->Prop}{p:AR}(h:PcI S p)(hu:(Cu<|BB p.data).2=A1):∃f,Cu (BB p.data)=(f,A1)/\Co f=A1/\p.src=f.src/\p.dst=f.dst/\OO S f/\p.data=BA (CY f):=by
 rcases tf p.sp with c|c
 .rw[h.bad c]at hu;cases hu
 .obtain⟨f,h1,h2,h3,h4⟩:=h.aAV c;rcases tf (Co f) with e|e
  .refine⟨f, ?_,e,h2,h3,h4 e,h1⟩;rw[h1,Sf<|Vj f,ay5 e]
  .rw[h1]at hu;unfold CY at hu;rw[e,A6,ai2]at hu;cases hu
def PcI.ah2{S:A7->Prop}{p:AR}(h:PcI S p)(hs:p.sp=A3){mix kp:Int}(hm:inB mix 0 ((p.data.size:Int) - 1)=A1)(hk:inB kp 1 255=A1):PcI S (Jf p mix kp):=by
 obtain⟨f,h1,_,_,_⟩:=h.aAV hs;refine⟨λe=>(by cases e),λ_=> ?_⟩;rcases tf (Co f) with e|e
 .exact aAK e h1 hm hk
 .have h2:=Ae.1 hm;rw[h1]at h2;unfold CY at h2;rw[e,A6,SC]at h2;simp at h2;omega
def PcI.send{S:A7->Prop}{f:Frame}(h:Co f=A1->OO S f):PcI S (pcF f):=⟨λ_=>⟨f,rfl,rfl,rfl,h⟩,λe=>by cases e⟩
def adR{ra:List AR}{fs:List Frame}{p:AR}(h:p∈DH ra fs):p∈ra\/ ∃f∈fs,p=pcF f:=by
 unfold DH at h;rcases Bk.1 h with h|h
 .exact .inl h
 .obtain⟨f,hf,rfl⟩:=DF.1 h;exact .inr ⟨f,ID hf,rfl⟩
def abW{ra:List AR}{i:Nat}{p:AR}(h:p∈Fw ra i):p∈ra:=by
 unfold Fw at h;rcases Bk.1 h with h|h
 .exact ID h
 .exact Jm h
def aei{k:AA}{f g:Frame}(h:g∈(Ck k f).2):g=ON 2 f\/g=ON 3 f:=by
 unfold Ck at h;split at h
 .unfold JS at h;split at h
  .split at h
   .unfold HX at h;split at h
    .exact .inr (DG.1 h)
    .split at h
     .exact .inl (DG.1 h)
     .split at h
      .cases h
      .unfold KF at h;split at h
       .split at h
        .unfold KW at h;split at h
         .exact .inl (DG.1 h)
         .cases h
        .cases h
       .cases h
   .split at h<;>cases h
  .cases h
 .cases h
def apQ(S:A7->Prop){k:AA}{f g:Frame}(h:g∈(Ck k f).2):OO S g:=by
 intro hk;rcases aei h with rfl|rfl
 .exact absurd hk (show ¬(2:Int)=1 by decide)
 .exact absurd hk<|show ¬(3:Int)=1 by decide
def auu{l:List A7}{i:Int}(h0:0<=i)(h1:i.toNat<l.length):nA l i.toNat∈l:=by
 rw[nA,BG,B3 h1];exact Cm h1
def arc{st:AU}(h:BI st=A1){n:A7}(hn:n∈st.held):B9 n=A1:=by
 unfold BI at h;simp only[AI]at h;have hh:=h.2.2.2.1.2;obtain⟨j,hj,rfl⟩:=Dm hn;have:=Dq.1 hh j hj;rw[AI,nA,BG,B3 hj]at this;exact this.1
def agB{S:A7->Prop}{k:AA}(h:Au k=A1)(hS:∀n∈(stT k).held,S n){fr nu mix:Int}(hb:(GN k fr nu mix).2=A1):OO S (GN k fr nu mix).1:=by
 intro _;unfold GN at hb ⊢;split at hb
 .rename_i hc;rw[A8 hc];simp only[AI,Df,decide_eq_false_iff_not]at hc;have h0:=Ii<|WH.1 hc.2.1;have hm:=auu (WH.1 hc.2.1) h0.1;exact⟨_,hS _ hm,arc (Cb h).kok hm,rfl,rfl,rfl,rfl,rfl,rfl⟩
 .cases hb
def mB{n:A7}(h:B9 n=A1):inB n.tx.size 1 24=A1:=by
 unfold B9 Lx at h;simp only[AI]at h;exact h.2.2.2.2.1
def ay0(hv:List AG)(f:Frame):(∃i,Az hv f=(hv,i)/\i<hv.length/\(hA hv i).fr=f.fr/\(hA hv i).nu=f.nu/\ER hv f.fr f.nu=(i:Int))\/
  (ER hv f.fr f.nu<0/\ ∃l:List AG,l.Sublist hv/\Az hv f=(l++[⟨f.fr,f.nu,f.to,f.un,f.sz,[]⟩],l.length)):=by
 unfold Az;rcases QJ hv f.fr f.nu with h|⟨i,h1,h2,h3,h4⟩
 .rw[A8 h];refine .inr ⟨h,_, ?_,rfl⟩;split
  .exact dC _ _
  .exact Et _
 .rw[AD J];exact .inl ⟨i,by rw[h1];rfl,h2,h3,h4,h1⟩
def ao2(l:List AG)(h:AG):hA (l++[h]) l.length=h:=by
 unfold hA;rw[BG,Ek<|Ar _];simp
def aho(mix:Int)(da:A4):EP [] mix da=[⟨mix,da⟩]:=rfl
def au5(l:List AG)(h:AG):Ea (l++[h]) l.length=l:=by
 unfold Ea;rw[List.take_left,KH<|by simp,C1]
def awK(l:List AG)(h:AG)(f:Frame):∃g,D2 (l++[h]) l.length f=l++[g]:=by
 unfold D2;rw[tl _ _<|Ar _,Ls];exact⟨_,rfl⟩
def UB(k:AA)(r:A4)(f:Bool):(wrR k r f).1.AM=k.AM:=by
 unfold wrR;split
 .rfl
 .cases f<;>rfl
def Gu(k:AA):Prop:=∀h∈k.AM,5<=h.sz
def vR{l:List AG}{i:Nat}{f:Frame}(hi:i<l.length)(h:∀x∈l,5<=x.sz):∀x∈D2 l i f,5<=x.sz:=by
 intro x hx;unfold D2 at hx;rcases Qc hx with h1|h1
 .exact h x h1
 .rw[h1];exact h (hA l i) (by rw[HK hi];exact Cm hi)
def wm{l:List AG}{i:Nat}{x:AG}(h:x∈Ea l i):x∈l:=by
 unfold Ea at h;rcases Bk.1 h with h|h
 .exact ID h
 .exact Jm h
def amI{f:Frame}{n:A7}(hn:B9 n=A1)(hs:f.sz=n.tx.size)(hd:f.da=IY n.tx f.mix)(h4:f.sz<=4)(hm:inB f.mix 0 999=A1):Fh f.sz [⟨f.mix,f.da⟩]=(n.tx,A1):=by
 have htx:=mB hn;have h1:=Ae.1 htx;rw[hs];refine aq7 htx ?_ ?_
 .intro m hmm _;rw[DG.1 hmm];exact hd
 .intro k hk;refine⟨_,OK _, ?_, ?_⟩
  .rw[hd];exact avH htx hm
  .have hb:(n.tx.size+3) / 4=1:=J
   rw[hb];have hk0:k=0:=J
   rw[hk0];exact avr hm
def iE(k:AA)(n:A7)(f:Frame):(KW k n f).1.AM=k.AM:=by
 unfold KW;split
 .exact UB _ _ _
 .rfl
def ag9(f:Frame):PX ⟨f.fr,f.nu,f.to,f.un,f.sz,[]⟩ f=A1:=by
 unfold PX;simp
def apx{S:A7->Prop}{k:AA}{f:Frame}(hb:Gu k)(hf:Co f=A1)(h1:f.ki=1)(g:OO S f):Gu (KF k f).1:=by
 obtain⟨n,_,hn,_,_,_,_,hs,hd⟩:=g h1;have hp:=YZ hf h1;have hlt:=RI (hv:=k.AM) (f:=f);unfold KF;rcases ay0 k.AM f with⟨i,e,hi,_,_,_⟩|⟨_,l,hl,e⟩
 .rw[e]at hlt ⊢;split
  .have hab:=vR (f:=f) hi hb;split
   .intro h hh;rw[iE]at hh;exact hab h (wm hh)
   .exact hab
  .exact hb
 .have hlb:∀x∈l,5<=x.sz:=λx hx=>hb x<|hl.subset hx;rw[e]at hlt ⊢;simp only[ao2,ag9,A5];obtain⟨g',hg'⟩:=awK l ⟨f.fr,f.nu,f.to,f.un,f.sz,[]⟩ f;by_cases h5:5<=f.sz
  .have hab:=vR (f:=f) (l:=l++[⟨f.fr,f.nu,f.to,f.un,f.sz,[]⟩]) (i:=l.length) hlt (by
    intro x hx;rcases Bk.1 hx with h|h
    .exact hlb x h
    .rw[DG.1 h];exact h5)
   split
   .intro h hh;rw[iE]at hh;exact hab h (wm hh)
   .exact hab
  .rw[aho,amI hn hs hd J hp.2.1.1];simp only[A5];intro h hh;rw[iE,hg']at hh;rw[show(L6 k<|Ea (l++[g']) l.length).AM=Ea (l++[g']) l.length from rfl,au5]at hh;exact hlb h hh
def ah9{S:A7->Prop}{k:AA}{f:Frame}(hk:Au k=A1)(hb:Gu k)(g:Co f=A1->OO S f):Gu (Ck k f).1:=by
 unfold Ck;rw[A8 hk];unfold JS;split
 .rename_i hc;simp only[AI]at hc;split
  .rename_i h1;unfold HX;split
   .exact hb
   .split
    .exact hb
    .split
     .exact hb
     .exact apx hb hc.2.1 (BP h1) (g hc.2.1)
  .split
   .intro h hh;rw[UB]at hh;exact hb h hh
   .exact hb
 .exact hb
structure K3 (S:A7->Prop) (w:Ak):Prop where
 p:∀p∈w.AP,PcI S p
 b:∀i,i<4->Gu (kA w.AH i)
def ano(k:AA)(tt un:Int)(tx:A4):(Dg k tt un tx).1.AM=k.AM:=by
 unfold Dg;split
 .exact UB _ _ _
 .rfl
def am4(k:AA)(a b:Int):(CN k a b).1.AM=k.AM:=by
 unfold CN;split
 .exact UB _ _ _
 .rfl
def awQ(k:AA):(E5 k).1.AM=k.AM:=by
 unfold E5;split
 .exact UB _ _ _
 .rfl
def avt(k:AA):(EW k).1.AM=k.AM:=by unfold EW;split<;>rfl
def alB(k:AA):(Eb k).1.AM=k.AM:=by unfold Eb;split<;>rfl
def Gu.of{k k':AA}(h:Gu k)(e:k'.AM=k.AM):Gu k':=λx hx=>h x (by rw[← e];exact hx)
def K3.put{S:A7->Prop}{w:Ak}(h:K3 S w)(hr:BR w){i:Nat}(hi:i<4){k':AA}(hb:Gu k')(li:List Bool)(se go:List A7):K3 S ⟨w.ti,w.AH.set i k',li,w.AP,se,go⟩:=by
 refine⟨h.p,λj hj=> ?_⟩;show Gu (kA (w.AH.set i k') j);rw[JQ (by rw[hr.kl];exact hi)];split
 .exact hb
 .exact h.b j hj
def arQ{l:List AR}{i:Nat}(h:i<l.length):pA l i∈l:=by
 rw[kM h];exact Cm h
def K3.doM{S:A7->Prop}{w:Ak}(h:K3 S w)(hr:BR w)(hS:∀i,i<4->∀n∈(stT<|kA w.AH i).held,S n)(e:Event):K3 S (doM w e).1:=by
 unfold Go.VS.doM;split
 .unfold DD;split
  .rename_i h2;have h2:=Ae.1 h2;have hlt:e.wo.toNat<w.AP.length:=J
   have hpc:=h.p _<|arQ hlt;split
   .split
    .rename_i h3;simp only[AI,Df]at h3;refine⟨λp hp=> ?_,h.b⟩;rcases Qc hp with h4|h4
     .exact h.p p h4
     .rw[h4];exact hpc.ah2 h3.1 h3.2.1 h3.2.2
    .exact h
   .split
    .exact⟨λp hp=>h.p p<|abW hp,h.b⟩
    .split
     .have hra:∀p∈(if e.kp=0 then Fw w.AP e.wo.toNat else w.AP),PcI S p:=by
       intro p hp;split at hp
       .exact h.p p (abW hp)
       .exact h.p p hp
      unfold Fo;split
      .rename_i hc;simp only[AI,decide_eq_true_eq]at hc;obtain⟨f,hu,hfo,_,hd,hg,_⟩:=hpc.frame hc.1;rw[hu];have hrg:=KY<|La hr hlt;have hi:(pA w.AP e.wo.toNat).dst.toNat<4:=J
       have hb:Gu (Ck (kA w.AH (pA w.AP e.wo.toNat).dst.toNat) f).1:=ah9 (hr.k _ hi).1 (h.b _ hi) (λ_=>hg);refine⟨λp hp=> ?_,(h.put hr hi hb w.B0 w.Aw w.got).b⟩;rcases adR hp with h4|⟨g,hg',rfl⟩
       .exact hra p h4
       .exact PcI.send λ_=>apQ S hg'
      .exact⟨hra,h.b⟩
     .exact h
  .exact h
 .split
  .unfold FF;split
   .exact⟨h.p,h.b⟩
   .exact h
  .split
   .rename_i h3;have hi:=R9 h3;have hb:=h.b _ hi;unfold Hx;split
    .unfold Jz;split
     .exact h
     .split
      .exact h
      .exact h.put hr hi (hb.of<|ano _ _ _ _) _ _ _
    .split
     .exact h.put hr hi (hb.of<|awQ _) _ _ _
     .split
      .split
       .rename_i hm;refine⟨λp hp=> ?_,h.b⟩;rcases adR hp with h4|⟨g,hg',rfl⟩
        .exact h.p p h4
        .rw[DG.1 hg'];exact PcI.send λ_=>agB (hr.k _ hi).1 (hS _ hi) hm
       .exact h
      .split
       .exact h.put hr hi (λx hx=>by cases hx) _ _ _
       .split
        .exact h.put hr hi (k':=riM<|kA w.AH e.at_.toNat) (hb.of rfl) _ _ _
        .split
         .unfold J9;split
          .exact h.put hr hi (hb.of<|am4 _ _ _) _ _ _
          .exact h
         .split
          .exact h.put hr hi (hb.of<|avt _) _ _ _
          .split
           .exact h.put hr hi (hb.of<|alB _) _ _ _
           .exact h
   .exact h
def K3.sim{S:A7->Prop}{w:Ak}(h:K3 S w)(hr:BR w)(hS:∀i,i<4->∀n∈(stT<|kA w.AH i).held,S n)(e:Event):K3 S (At w e):=by
 have:=h.doM hr hS e;unfold At HS;split
 .exact⟨this.p,this.b⟩
 .exact this
def Reach.gen{ev:List Event}{w:Ak}(h:Reach ev w):K3 (λ_=>True) w:=
 h.ind (P:=K3 λ_=>True) ⟨λp hp=>(by cases hp),λi hi=>by rw[dz hi];intro x hx;cases hx⟩ λ_ e hr _ hg _=>hg.sim hr (λ_ _ _ _=>trivial) e
structure azx (k o:AU) (n:A7):Prop where
 id:o.id=k.id
 ti:o.ti=k.ti
 nx:o.nx=k.nx
 at_:(n.to=k.id/\o.held=k.held/\o.marks=Fm k.marks ⟨n.fr,n.nu,n.un⟩/\o.inbox=Eg k.inbox n)\/(n.to≠k.id/\o.held=Eg k.held n/\o.marks=k.marks/\o.inbox=k.inbox)
structure Safe (k:AA) (st:AU):Prop where
 is:DJ k st
 fo:k.fo=(k.log.size:Int)
structure agh (a b:A7):Prop where
 fr:a.fr=b.fr
 nu:a.nu=b.nu
 to':a.to=b.to
 un:a.un=b.un
 ok:B9 a=B9 b
structure azs (l m:List A7):Prop where
 len:l.length=m.length
 nA:∀i,agh (nA l i)<|nA m i
def Om(hv:List AG):Prop:=∀h∈hv,5<=h.sz\/ ∃n,h.got=[⟨n,B [97,98,99,100]⟩]
def eY(tx:A4)(i:Nat):List AQ:=(BO i).map λj:Nat=>⟨(j:Int),IY tx (j:Int)⟩
structure aBh (x:AA) (d t:Int) (hv:List AG):Prop where
 ok:Au x=A1
 up:x.up=A1
 id:x.id=d
 st:stT x=⟨d,t,1,[],[],[]⟩
 hv:x.AM=hv
variable {E:List Event}
def Tot{α:Type}(o:Option α)(P:α->Prop):Prop:=∃a,o=I a/\P a
def Rn{α β:Type}(A:α->Prop)(B:β->Prop):α ⊕ β->Prop
 | .inl a=>A a
 | .inr b=>B b
def Tot.ret{α:Type}{a:α}{P:α->Prop}(h:P a):Tot (I a) P:=⟨a,rfl,h⟩
def Tot.eq{α:Type}{o:Option α}{a:α}(h:o=I a):Tot o (λx=>x=a):=⟨a,h,rfl⟩
def Tot.mono{α:Type}{o:Option α}{P Q:α->Prop}(h:Tot o P)(hq:∀a,P a->Q a):Tot o Q:=by
 obtain⟨a,e,p⟩:=h;exact⟨a,e,hq a p⟩
def Tot.bind{α β:Type}{o:Option α}{f:α->Option β}{P:α->Prop}{Q:β->Prop}(h:Tot o P)(hf:∀a,P a->Tot (f a) Q):Tot (o.bind f) Q:=by
 obtain⟨a,rfl,p⟩:=h;exact hf a p
def Tot.ite{α:Type}{c:Bool}{a b:Option α}{P:α->Prop}(ha:c=A1->Tot a P)(hb:c=A3->Tot b P):Tot (if c=A1 then a else b) P:=by
 cases c
 .rw[A6];exact hb rfl
 .rw[A8 rfl];exact ha rfl
def Tot.pos{α:Type}{c:Bool}{a b:Option α}{P:α->Prop}(hc:c=A1)(ha:Tot a P):Tot (if c=A1 then a else b) P:=by
 rw[A8 hc];exact ha
def Tot.neg{α:Type}{c:Bool}{a b:Option α}{P:α->Prop}(hc:c=A3)(hb:Tot b P):Tot (if c=A1 then a else b) P:=by
 rw[hc,A6];exact hb
def Tot.join{Ω X:Type}{f:X->Option Ω}{m:Option (Ω ⊕ X)}{A:X->Prop}{Q:Ω->Prop}(h:Tot m (Rn Q A))(hf:∀x,A x->Tot (f x) Q):Tot (B8 f m) Q:=by
 obtain⟨r,rfl,p⟩:=h;cases r with
 | inl o=>exact⟨o,rfl,p⟩
 | inr x=>exact hf x p
def Tot.sum{A D Ω:Type}{m:Option (A ⊕ D)}{f:A->Option Ω}{g:D->Option Ω}{P:A->Prop}{Q:D->Prop}{R:Ω->Prop}(h:Tot m (Rn P Q))
  (hf:∀a,P a->Tot (f a) R)(hg:∀d,Q d->Tot (g d) R):Tot (AS m f g) R:=by
 obtain⟨r,rfl,p⟩:=h;cases r with
 | inl o=>exact hf o p
 | inr x=>exact hg x p
def Tot.loop{σ ρ:Type}{b:σ->Option (σ ⊕ ρ)}(Inv:Nat->σ->Prop)(O1:ρ->Prop)(n:Nat)
  (h:∀i s,i<=n->Inv i s->Tot (b s) (Rn (λs'=>i<n/\Inv (i+1) s') O1)){s0:σ}(h0:Inv 0 s0):Tot (AZ b s0) O1:=by
 refine az7 Inv O1 n (λi s hi hs=> ?_) (λs hs=> ?_) h0
 .obtain⟨r,e,p⟩:=h i s J hs;cases r with
  | inl s'=>exact .inl ⟨s',e,p.2⟩
  | inr y=>exact .inr ⟨y,e,p⟩
 .obtain⟨r,e,p⟩:=h n s (Ar _) hs;cases r with
  | inl s'=>exact absurd p.1<|Nat.lt_irrefl _
  | inr y=>exact⟨y,e,p⟩
structure Bx (N:Nat) (r:List Int×Int×A2):Prop where
 l:r.1.length<=2000
 b:BOk r.1
 p0:0<=r.2.1
 p1:r.2.1<=(N:Int)
def Bx.up{N M:Nat}{r:List Int×Int×A2}(h:Bx N r)(hM:N<=M):Bx M r:=⟨h.l,h.b,h.p0,by have:=h.p1;omega⟩
def axu{a b:Int}(ha:0<=a)(ha':a<9223372036854775808)(hb:0<=b)(hb':b<9223372036854775808):0<=DY .i64 a b:=by
 obtain⟨m,rfl⟩:=Gx ha;obtain⟨n,rfl⟩:=Gx hb;have hm:m<2 ^ 63:=J
 have hn:n<2 ^ 63:=J
 have hx:=Nat.xor_lt_two_pow hm hn;have e:(Ez 64 (m:Int) ^^^ Ez 64 (n:Int)).toNat=m ^^^ n:=by
  rw[BitVec.toNat_xor,RG,RG];congr 1<;>omega
 show 0<=w64 (((Ez 64 (m:Int) ^^^ Ez 64 (n:Int)).toNat:Int));rw[e,AY J J];omega
def As{N:Nat}{x:(List Int×Int×A2)×Int×A2}(h:Bx N x.1)(hN:N<=1000000):
  Tot (Aq x) λa=>Bx (N+1) a.2.1/\0<=a.1.1/\(1<=x.2.1->a.1.1<x.2.1):=by
 obtain⟨⟨l,p,_⟩,n,_⟩:=x;obtain⟨hl,hb,p0,p1⟩:=h;simp only at hl hb p0 p1;have e1:w64 (p+1)=p+1:=AY J J;have e2:w64 (p+1 - 1)=p:=by rw[AY J J];omega
 have hq:Bx (N+1) (l,p+1,()):=⟨hl,hb,by show 0<=p+1;omega,by show p+1<=((N+1:Nat):Int);omega⟩;unfold Aq;simp only[e1,e2];refine Tot.ite (λhc=> ?_) (λhc=> ?_)
 .refine Tot.ret ⟨hq,Ja _,λh=>by show(0:Int)<n;omega⟩
 .simp only[NO,decide_eq_false_iff_not]at hc;have hn:1<=n:=J
  have hln:0<l.length:=J
  have hl0:¬((l.length:Int)=0):=hc.2;have hn0:(!decide (n=0))=A1:=by simp;omega
  have nQ:(!decide ((l.length:Int)=0))=A1:=by simpa using hl0
  refine Tot.ite (λhc1=> ?_) (λhc1=> ?_)
  .have hc1:=BP hc1;refine Tot.pos (CI p0 hc1) (Tot.pos hn0<|Tot.ret ⟨hq, ?_,λ_=> ?_⟩)
   .have:=hb.rd p;exact Qn _ (by rw[AY J J];exact this.1)
   .exact Ph _ J
  .have hp:0<=B5 p l.length/\B5 p l.length<l.length:=⟨Qn _ p0,Ph _ J⟩;have e3:w64 (w64 (p * 7)+3)=p * 7+3:=by rw[AY (n:=p * 7) J J,AY J J]
   have hp2:0<=B5 (p * 7+3) l.length/\B5 (p * 7+3) l.length<l.length:=⟨Qn _ J,Ph _ J⟩;simp only[e3];refine Tot.pos nQ (Tot.pos (CI hp.1 hp.2)<|Tot.pos nQ<|Tot.pos (CI hp2.1 hp2.2)<|Tot.pos nQ<|Tot.pos hn0<|Tot.ret ⟨hq, ?_,λ_=> ?_⟩)
   .have b1:=hb.rd<|B5 p l.length;have b2:=hb.rd<|B5 (p * 7+3) l.length;have hd:0<=Ay p l.length/\Ay p l.length<=p:=⟨kB p0 J,Int.tdiv_le_self _ p0⟩;generalize @rd Int (dfl .u8) l (B5 p l.length)=u1 at b1 ⊢;generalize @rd Int (dfl .u8) l (B5 (p * 7+3) l.length)=u2 at b2 ⊢;generalize Ay p l.length=d at hd ⊢;have w1:w64 u1=u1:=AY J J;have w2:w64 u2=u2:=AY J J;have w3:w64 (u1 * 131)=u1 * 131:=AY J J;have w4:w64 (u2 * 1117)=u2 * 1117:=AY J J;have w5:w64 (p * 29)=p * 29:=AY J J;have w6:w64 d=d:=AY J J;have w7:w64 (d * 53)=d * 53:=AY J J;simp only[w1,w2,w3,w4,w5,w6,w7];have w8:w64 (u1 * 131+u2 * 1117)=u1 * 131+u2 * 1117:=AY J J;rw[w8];have w9:w64 (u1 * 131+u2 * 1117+p * 29)=u1 * 131+u2 * 1117+p * 29:=AY J J;rw[w9];have w10:w64 (u1 * 131+u2 * 1117+p * 29+d * 53)=u1 * 131+u2 * 1117+p * 29+d * 53:=AY J J;rw[w10];have hv:0<=u1 * 131+u2 * 1117+p * 29+d * 53/\u1 * 131+u2 * 1117+p * 29+d * 53<=1000000000:=J
    generalize u1 * 131+u2 * 1117+p * 29+d * 53=v at hv ⊢;have hdv:0<=Ay v 64/\Ay v 64<=v:=⟨kB hv.1 J,Int.tdiv_le_self _ hv.1⟩;have w11:w64 (Ay v 64)=Ay v 64:=AY J J;rw[w11];exact Qn _ (axu hv.1 J hdv.1 J)
   .exact Ph _ J
def ah0(l:List A4){i:Int}(h0:0<=i)(h1:i<l.length): @rd A4 (dfl .str) l i∈l:=by
 unfold rd;rw[BG,B3 (by omega:i.toNat<l.length)];exact Cm _
def Ny{N:Nat}{r:List Int×Int×A2}{l:List A4}(h:Bx N r)(hN:N<=1000000)(hl:1<=l.length):
  Tot (Jk (r,l,())) λa=>Bx (N+1) a.2.1/\a.1.1∈l:=by
 unfold Jk;refine Tot.bind (As h hN) λa ha=> ?_;have h1:=ha.2.2 (by show(1:Int)<=(l.length:Int);omega);exact Tot.pos (CI ha.2.1 h1)<|Tot.ret ⟨ha.1,ah0 l ha.2.1 h1⟩
def WOk(E:List Event)(N:Nat)(t:Int×List AA×List Bool×List AR×List A7×List A7×List Event×A2):Prop:=∃w ev,t=tS w ev/\Reach (E++ev) w/\ev.length<=N
structure SOk (E:List Event) (N:Nat) (s:(List Int×Int×A2)×Int×List AA×List Bool×List AR×List A7×List A7×List Event×A2):Prop where
 r:Bx N s.1
 w:WOk E N s.2
def WOk.up{N M:Nat}{t:_}(h:WOk E N t)(hM:N<=M):WOk E M t:=by
 obtain⟨w,ev,e,h1,h2⟩:=h;exact⟨w,ev,e,h1,J⟩
def SOk.up{N M:Nat}{s:_}(h:SOk E N s)(hM:N<=M):SOk E M s:=⟨h.r.up hM,h.w.up hM⟩
def SOk.rd{N M:Nat}{s:_}(h:SOk E N s){r:List Int×Int×A2}(hr:Bx M r)(hM:N<=M):SOk E M (r,s.2):=⟨hr,h.w.up hM⟩
abbrev zTx(y:Int×Int×Int×Int×Int×Int×Int×Int×Int×A4×A2):A4:=y.2.2.2.2.2.2.2.2.2.1
def GS{N:Nat}{s:_}{y:Int×Int×Int×Int×Int×Int×Int×Int×Int×A4×A2}(h:SOk E N s)(hN:N<=1000000)(hy:(zTx y).size<=1048576):
  Tot (F7 (s,y,())) λa=>SOk E (N+1) a.2.1:=by
 obtain⟨hr,w,ev,e,hw,hev⟩:=h;obtain⟨r,t⟩:=s;obtain⟨a,b,c,d,f,g,i,j,k,tx,_⟩:=y;simp only at e hr;subst e;have:=akN hw.ok (r:=r) (ev:=ev) J (e:=⟨a,b,c,d,f,g,i,j,k,tx⟩) hy;refine⟨_,this,hr.up J,⟨_,Jd ev ⟨a,b,c,d,f,g,i,j,k,tx⟩ (doM w ⟨a,b,c,d,f,g,i,j,k,tx⟩).2,rfl, ?_, ?_⟩⟩
 .have:=hw.step (e:=⟨a,b,c,d,f,g,i,j,k,tx⟩) hy;unfold Jd at this ⊢;split
  .rename_i hc;rw[A8 hc,C2]at this;exact this
  .rename_i hc;rw[AD hc]at this;exact this
 unfold Jd;split
 .simp;omega
 .omega
def WOk.has{N:Nat}{t:_}(h:WOk E N t){i:Int}(h0:0<=i)(h1:i<4):Au (kA t.2.1 i.toNat)=A1/\(kA t.2.1 i.toNat).id=i/\inb i t.2.1.length=A1:=by
 obtain⟨w,ev,rfl,hw,_⟩:=h;have:=hw.ok.k i.toNat J;refine⟨this.1, ?_,CI h0 (by show i<(w.AH.length:Int);rw[hw.ok.kl];exact h1)⟩;rw[this.2];omega
def WOk.big{N:Nat}{t:_}(h:WOk E N t){i:Int}(h0:0<=i)(h1:i<4):Gu (kA t.2.1 i.toNat):=by
 obtain⟨w,ev,rfl,hw,_⟩:=h;exact hw.gen.b i.toNat J
def ck{l:List AA}{i:Int}(h:Au (kA l i.toNat)=A1):
  Tot (FN (((@rd AA (dfl .AL) l i).id,(@rd AA (dfl .AL) l i).up,(@rd AA (dfl .AL) l i).log,(@rd AA (dfl .AL) l i).fo,(@rd AA (dfl .AL) l i).AM,()),()))
   λa=>a=((tK<|stT<|kA l i.toNat,A1,()),()):=Tot.eq<|N1 h
end Go.VS
namespace Go.VS
open Go
variable {E:List Event}
def QH{l:List A4}{s:A4}(h:s∈l)(hl:(l.all λx=>A0<|x.size<=1000)=A1):s.size<=1000:=by
 have:=C0.1 hl s h;exact BP this
def uF{N:Nat}{s:_}(h:SOk E N s)(hN:N<=900000):Tot (Tc (s,())) λa=>SOk E (N+10) a.2.1:=by
 unfold Tc;refine Tot.bind (As h.r J) λr1 h1=>Tot.bind (Ny h1.1 J<|by decide) λr2 h2=>Tot.join (A:=λj=>SOk E (N+2) j.1/\0<=j.2.1/\j.2.1<4/\j.2.2.1.size<=1000) ?_ (λj hj=> ?_)
 .have hz:=QH h2.2 (by decide);have hat:r1.1.1<4:=h1.2.2 (show(1:Int)<=4 by decide);refine Tot.ite (λhc=>Tot.pos ?_<|Tot.ret ⟨h.rd h2.1 J,h1.2.1,hat, ?_⟩) (λhc=>Tot.ret ⟨h.rd h2.1 J,h1.2.1,hat,hz⟩)
  .have:=BP hc;simp;omega
  .show(r2.1.1.extract 0 24).size<=1000;rw[VU];omega
 .obtain⟨hs,a0,a1,hz⟩:=hj;have hk:=hs.w.has a0 a1;refine Tot.pos hk.2.2 (Tot.bind (ck hk.1) λr6 h6=>Tot.bind (As hs.r J) λr7 h7=>Tot.bind (As h7.1 J) λr8 h8=>
   Tot.bind (GS (hs.rd h8.1 J) J ?_) λr9 h9=>Tot.ret<|h9.up J)
  show j.2.2.1.size<=1048576;omega
def aAA{a:Int}(h0:0<=a)(h1:a<4):0<=B5 (w64<|a+1) 4/\B5 (w64<|a+1) 4<4:=by
 rw[AY J J];exact⟨Qn _ J,Ph _ J⟩
def uO{N:Nat}{s:_}(h:SOk E N s)(hN:N<=900000):Tot (VN (s,())) λa=>SOk E (N+2) a.2.1/\a.2.1.2=s.2/\(a.1.2.2.1=A1->0<=a.1.1/\a.1.1<4/\isN (EH a.1.1 a.1.2.1.2.2.1)=A1):=by
 unfold VN;refine Tot.bind (As h.r J) λr1 h1=>Tot.sum (P:=λy=>SOk E (N+2) y.1/\y.1.2=s.2/\(0<=y.2.1/\y.2.1<4/\isN (EH y.2.1 y.2.2.1.2.2.1)=A1)) (Q:=λy=>SOk E (N+2) y.1/\y.1.2=s.2) ?_ (λy hy=>Tot.ret ⟨hy.1,hy.2.1,λ_=>hy.2.2⟩) (λy hy=>Tot.ret ⟨hy.1,hy.2,λh=>by cases h⟩);refine Tot.loop (λi x=>SOk E (N+1) x.1/\x.1.2=s.2/\0<=x.2.2.1/\x.2.2.1<4/\x.2.2.2.1=(i:Int)) _ 4 (λi x hi hx=> ?_) ⟨h.rd h1.1 J,rfl,h1.2.1,h1.2.2<|show(1:Int)<=4 by decide,rfl⟩;obtain⟨hs,hw,a0,a1,hx⟩:=hx;have hk:=hs.w.has a0 a1;unfold gD;refine Tot.ite (λhc=> ?_) (λhc=>Tot.ret ⟨hs.up J,hw⟩);have hc:=BP hc;refine Tot.pos hk.2.2 (Tot.bind (ck hk.1) λr6 h6=> ?_);subst h6;refine Tot.ite (λhl=> ?_) (λhl=> ?_)
 .have hl:(0:Int)<((stT<|kA x.1.2.2.1 x.2.2.1.toNat).held.length:Int):=BP hl;refine Tot.bind (As hs.r J) λr7 h7=> ?_;have hlt:=h7.2.2 hl;refine Tot.pos (CI h7.2.1 hlt)<|Tot.ret ⟨hs.rd h7.1 J,hw,a0,a1, ?_⟩;have hkk:=Cb hk.1;have hid:=hkk.id;have h9:r7.1.1.toNat<(stT<|kA x.1.2.2.1 x.2.2.1.toNat).held.length:=by
   have:r7.1.1<((stT<|kA x.1.2.2.1 x.2.2.1.toNat).held.length:Int):=hlt;have:=h7.2.1;omega
  have:=fY hkk.kok (n:=nA (stT<|kA x.1.2.2.1 x.2.2.1.toNat).held r7.1.1.toNat) (by rw[nA,BG,B3 h9];exact Cm h9);rw[hid,hk.2.1]at this;exact this
 .have hm:=aAA a0 a1;refine Tot.ret ⟨?_,hs,hw,hm.1,hm.2, ?_⟩
  .omega
  .show w64 (x.2.2.2.1+1)=_;rw[hx,AY J J];rfl
def atC{N:Nat}{s:_}(h:SOk E N s)(hN:N<=900000):Tot (Xv (s,())) λa=>SOk E (N+2) a.2.1/\a.2.1.2=s.2/\(a.1.2.2.1=A1->0<=a.1.1/\a.1.1<4/\isN (EH a.1.1 a.1.2.1.2.2.1)=A1):=by
 unfold Xv;refine Tot.bind (As h.r J) λr1 h1=>Tot.sum (P:=λy=>SOk E (N+2) y.1/\y.1.2=s.2/\(0<=y.2.1/\y.2.1<4/\isN (EH y.2.1 y.2.2.1.2.2.1)=A1)) (Q:=λy=>SOk E (N+2) y.1/\y.1.2=s.2) ?_ (λy hy=>Tot.ret ⟨hy.1,hy.2.1,λ_=>hy.2.2⟩) (λy hy=>Tot.ret ⟨hy.1,hy.2,λh=>by cases h⟩);refine Tot.loop (λi x=>SOk E (N+1) x.1/\x.1.2=s.2/\0<=x.2.2.1/\x.2.2.1<4/\x.2.2.2.1=(i:Int)) _ 4 (λi x hi hx=> ?_) ⟨h.rd h1.1 J,rfl,h1.2.1,h1.2.2<|show(1:Int)<=4 by decide,rfl⟩;obtain⟨hs,hw,a0,a1,hx⟩:=hx;have hk:=hs.w.has a0 a1;unfold iO;refine Tot.ite (λhc=> ?_) (λhc=>Tot.ret ⟨hs.up J,hw⟩);have hc:=BP hc;refine Tot.pos hk.2.2 (Tot.bind (ck hk.1) λr6 h6=> ?_);subst h6;refine Tot.ite (λhl=> ?_) (λhl=> ?_)
 .have hl:(0:Int)<((stT<|kA x.1.2.2.1 x.2.2.1.toNat).held.length:Int):=BP hl;refine Tot.bind (As hs.r J) λr7 h7=> ?_;have hlt:=h7.2.2 hl;refine Tot.pos (CI h7.2.1 hlt)<|Tot.ret ⟨hs.rd h7.1 J,hw,a0,a1, ?_⟩;have hkk:=Cb hk.1;have hid:=hkk.id;have h9:r7.1.1.toNat<(stT<|kA x.1.2.2.1 x.2.2.1.toNat).held.length:=by
   have:r7.1.1<((stT<|kA x.1.2.2.1 x.2.2.1.toNat).held.length:Int):=hlt;have:=h7.2.1;omega
  have:=fY hkk.kok (n:=nA (stT<|kA x.1.2.2.1 x.2.2.1.toNat).held r7.1.1.toNat) (by rw[nA,BG,B3 h9];exact Cm h9);rw[hid,hk.2.1]at this;exact this
 .have hm:=aAA a0 a1;refine Tot.ret ⟨?_,hs,hw,hm.1,hm.2, ?_⟩
  .omega
  .show w64 (x.2.2.2.1+1)=_;rw[hx,AY J J];rfl
def UM{N:Nat}{s:_}(h:SOk E N s){DC odd:Int}(hm:DC<=64)(hN:N<=900000):Tot (NX (s,DC,odd,())) λa=>SOk E (N+1000) a.2.1:=by
 unfold NX;refine Tot.sum (P:=λ_=>False) (Q:=λy=>SOk E (N+1000) y.1) ?_ (λ_ h=>h.elim) (λy hy=>Tot.ret hy);refine Tot.loop (λi x=>SOk E (N+12 * i) x.1/\x.2.1=DC/\x.2.2.2.1=(i:Int)) _ DC.toNat (λi x hi hx=> ?_) ⟨h,rfl,rfl⟩;obtain⟨hs,hx1,hx⟩:=hx;unfold nf;refine Tot.ite (λhc=> ?_) (λhc=>Tot.ret<|show SOk E (N+1000) _ from hs.up J);rw[AI,hx1,hx]at hc;have hlt:(i:Int)<DC:=BP hc.1;have hN1:N+12 * i<=950000:=J
 generalize hM:N+12 * i=M at hs hN1;refine Tot.join (A:=λj=>SOk E (M+5) j.1/\j.2.1=DC/\j.2.2.2.1=(i:Int)/\(zTx j.2.2.2.2.1).size<=1000) ?_ (λj hj=> ?_)
 .refine Tot.join (A:=λj=>SOk E (M+1) j.1/\j.2.1=DC/\j.2.2.2.1=(i:Int)/\(zTx j.2.2.2.2.1).size<=1000) ?_ (λj hj=> ?_)
  .refine Tot.ite (λhc=>Tot.bind (As hs.r J) λr1 h1=>Tot.ret ?_) (λhc=>Tot.ret ?_)
   .exact⟨hs.rd h1.1 J,hx1,hx,show noB.size<=1000 by decide⟩
   .exact⟨hs.up J,hx1,hx,show noB.size<=1000 by decide⟩
  .obtain⟨hs,hj1,hj2,hj3⟩:=hj;refine Tot.ite (λhc=> ?_) (λhc=>Tot.ret ⟨hs.up J,hj1,hj2,hj3⟩);refine Tot.bind (As hs.r J) λr1 h1=> ?_;refine Tot.ite (λhc=>Tot.ret ⟨hs.rd (h1.1.up J) J,hj1,hj2,hj3⟩) (λhc=> ?_);refine Tot.ite (λhc=>Tot.ret ⟨hs.rd (h1.1.up J) J,hj1,hj2,hj3⟩) (λhc=> ?_);refine Tot.ite (λhc=> ?_) (λhc=> ?_)
   .exact Tot.bind (As h1.1 J) λr2 h2=>Tot.bind (As h2.1 J) λr3 h3=>Tot.bind (As h3.1 J) λr4 h4=>
     Tot.ret ⟨hs.rd (h4.1.up J) J,hj1,hj2,hj3⟩
   .exact Tot.bind (As h1.1 J) λr2 h2=>Tot.ret ⟨hs.rd (h2.1.up J) J,hj1,hj2,hj3⟩
 .obtain⟨hs,hj1,hj2,hj3⟩:=hj;have hw:w64 (j.2.2.2.1+1)=((i+1:Nat):Int):=by rw[hj2,AY J J];rfl
  refine Tot.join (A:=λj=>SOk E (M+7) j.1/\j.2.1=DC/\j.2.2.2.1=(i:Int)/\(zTx j.2.2.2.2.1).size<=1000) ?_ (λj hj=> ?_)
  .refine Tot.bind (GS hs J<|C7 hj3<|by decide) λr1 h1=>Tot.ite (λhc=> ?_) (λhc=>Tot.ret ⟨h1.up J,hj1,hj2,hj3⟩);exact Tot.bind (GS h1 J<|show noB.size<=1048576 by decide) λr2 h2=>Tot.ret ⟨h2.up J,hj1,hj2,hj3⟩
  .obtain⟨hs,hj1,hj2,hj3⟩:=hj;refine Tot.join (A:=λj=>SOk E (M+8) j.1/\j.2.1=DC/\j.2.2.2.1=(i:Int)/\(zTx j.2.2.2.2.1).size<=1000) ?_ (λj hj=> ?_)
   .refine Tot.ite (λhc=>Tot.bind (As hs.r J) λr1 h1=>Tot.ret ⟨hs.rd h1.1 J,hj1,hj2,hj3⟩) (λhc=>Tot.ret ⟨hs.up J,hj1,hj2,hj3⟩)
   .obtain⟨hs,hj1,hj2,hj3⟩:=hj;have hw:w64 (j.2.2.2.1+1)=((i+1:Nat):Int):=by rw[hj2,AY J J];rfl
    refine Tot.ite (λhc=> ?_) (λhc=>Tot.ret ⟨J, ?_,hj1,hw⟩)
    .refine Tot.bind (As hs.r J) λr1 h1=>Tot.bind (As h1.1 J) λr2 h2=>Tot.bind (GS (hs.rd h2.1 J) J ?_) λr3 h3=>Tot.ret ⟨J, ?_,hj1,hw⟩
     .show(zTx j.2.2.2.2.1).size<=1048576;omega
     .exact h3.up J
    .exact hs.up J
end Go.VS
namespace Go.VS
open Go
variable {E:List Event}
def nz:noB.size<=1048576:=by decide
def WOk.rl{N:Nat}{t:_}(h:WOk E N t):t.2.2.2.1.length<=30:=by
 obtain⟨w,ev,rfl,hw,_⟩:=h;exact hw.ok.rl
def Ll{n:Int}{i:Nat}(h:n=(i:Int))(hi:i<=1000000):w64 (n+1)=((i+1:Nat):Int):=by
 rw[h,AY J J];rfl
def V0{N:Nat}{s:_}(h:SOk E N s){DC odd:Int}(h0:0<=DC)(hm:DC<=8)(hN:N<=800000):Tot (NK (s,DC,odd,())) λa=>SOk E (N+1100) a.2.1:=by
 unfold NK;refine Tot.bind (uO h J) λr1 h1=>Tot.ite (λhc=>Tot.ret<|h1.1.up J) (λhc=> ?_);refine Tot.bind (As h1.1.r J) λr2 h2=>Tot.bind (As h2.1 J) λr3 h3=> ?_;refine Tot.sum (P:=λ_=>False) (Q:=λy=>SOk E (N+20) y.1/\y.2.1=DC) ?_ (λ_ h=>h.elim) (λy hy=> ?_)
 .refine Tot.loop (λi x=>SOk E (N+4+i) x.1/\x.2.1=DC/\x.2.2.2.2.2.2.1=(i:Int)) _ DC.toNat (λi x hi hx=> ?_) ⟨h1.1.rd h3.1 J,rfl,rfl⟩;obtain⟨hs,hx1,hx⟩:=hx;unfold mK;refine Tot.ite (λhc=> ?_) (λhc=>Tot.ret ⟨hs.up J,hx1⟩);have hc:=BP hc;exact Tot.bind (GS hs J nz) λr4 h4=>Tot.ret ⟨J,h4.up J,hx1,Ll hx J⟩
 .have hy2:=hy.2;refine Tot.bind (As hy.1.r J) λr4 h4=> ?_;have h5:r4.1.1<=64:=by
   have:w64 (y.2.1+4)=DC+4:=by rw[hy.2,AY J J]
   have:=h4.2.2 (by show 1<=w64 (y.2.1+4);omega);have:r4.1.1<w64 (y.2.1+4):=this;omega
  exact Tot.bind (UM (hy.1.rd h4.1 J) h5 J) λr5 h6=>Tot.ret<|h6.up J
def arv{N:Nat}{s:_}(h:SOk E N s)(hN:N<=700000):Tot (WZ (s,())) λa=>SOk E (N+4500) a.2.1:=by
 unfold WZ;refine Tot.bind (UM h (by decide) J) λr1 h1=>Tot.bind (V0 h1 (by decide) (by decide) J) λr2 h2=> ?_;refine Tot.sum (P:=λ_=>False) (Q:=λy=>SOk E (N+2220) y.1) ?_ (λ_ h=>h.elim) (λy hy=> ?_)
 .refine Tot.loop (λi x=>SOk E (N+2100+40 * i) x.1/\x.2.1=(i:Int)) _ 2 (λi x hi hx=> ?_) ⟨h2.up J,rfl⟩;obtain⟨hs,hx⟩:=hx;unfold kR;refine Tot.bind (As hs.r J) λr3 h3=>Tot.ite (λhc=> ?_) (λhc=>Tot.ret<|show SOk E (N+2220) _ from hs.rd (h3.1.up J) J);have hc:=BP hc;have hv:=h3.2.2 (show(1:Int)<=2 by decide);have hv:r3.1.1<2:=hv;have hv0:=h3.2.1;rw[AY J J]at hc;have hrl:=hs.w.rl;refine Tot.sum (P:=λ_=>False) (Q:=λy=>SOk E (N+2100+40 * (i+1)) y.1/\y.2.1=(i:Int)) ?_ (λ_ h=>h.elim) (λy hy=>Tot.ret ⟨J,hy.1,Ll hy.2 J⟩);refine Tot.loop (λk y=>SOk E (N+2100+40 * i+1+k) y.1/\y.2.1=(i:Int)/\y.2.2.1=(x.1.2.2.2.2.1.length:Int)/\y.2.2.2.1=(k:Int)) _ x.1.2.2.2.2.1.length (λk y hk hy=> ?_) ⟨hs.rd h3.1 J,hx,rfl,rfl⟩;obtain⟨hs,y1,y2,y3⟩:=hy;unfold gY;refine Tot.ite (λhc=> ?_) (λhc=>Tot.ret ⟨hs.up J,y1⟩);have hc:=BP hc;exact Tot.bind (GS hs J nz) λr4 h4=>Tot.ret ⟨J,h4.up J,y1,y2,Ll y3 J⟩
 .refine Tot.bind (As (SOk.r hy) J) λr3 h3=>Tot.join (A:=λj=>SOk E (N+2240) j.1) ?_ (λj hj=> ?_)
  .refine Tot.bind (As h3.1 J) λr4 h4=>Tot.ite (λhc=> ?_) (λhc=>Tot.ite (λhc=> ?_) λhc=> ?_)
   .exact Tot.bind (As h4.1 J) λr5 h5=>Tot.bind (GS (SOk.rd hy h5.1 J) J nz) λr6 h6=>Tot.bind (GS h6 J nz) λr7 h7=>Tot.ret (show SOk E (N+2240) _ from h7.up J)
   .refine Tot.bind (As h4.1 J) λr5 h5=>Tot.sum (P:=λ_=>False) (Q:=λy=>SOk E (N+2240) y.1) ?_ (λ_ h=>h.elim) (λy hy=>Tot.ret<|show SOk E (N+2240) y.1 from hy);have hv:r5.1.1<9:=h5.2.2 (show(1:Int)<=9 by decide);have hv0:=h5.2.1;refine Tot.loop (λk y=>SOk E (N+2224+k) y.1/\y.2.2.1=r5.1.1 - (k:Int)) _ r5.1.1.toNat (λk y hk hy=> ?_) ⟨SOk.rd hy (h5.1.up J) J,by show r5.1.1=r5.1.1 - 0;omega⟩;obtain⟨hs,y1⟩:=hy;unfold lh;refine Tot.ite (λhc=> ?_) (λhc=>Tot.ret<|show SOk E (N+2240) _ from hs.up J);have hc:=BP hc;refine Tot.bind (GS hs J nz) λr6 h6=>Tot.ret ⟨J,h6.up J, ?_⟩;show w64 (y.2.2.1 - 1)=r5.1.1 - ((k+1:Nat):Int);rw[AY J J];omega
   .exact Tot.ret (show SOk E (N+2240) _ from SOk.rd hy (h4.1.up J) J)
  .have hj:SOk E (N+2240) j.1:=hj;refine Tot.bind (V0 hj (by decide) (by decide) J) λr4 h4=>Tot.sum (P:=λ_=>False) (Q:=λy=>SOk E (N+3400) y.1) ?_ (λ_ h=>h.elim) (λy hy=> ?_)
   .refine Tot.loop (λk y=>SOk E (N+3340+k) y.1/\y.2.2.1=(k:Int)) _ 12 (λk y hk hy=> ?_) ⟨h4.up J,rfl⟩;obtain⟨hs,y1⟩:=hy;unfold ou;refine Tot.ite (λhc=> ?_) (λhc=>Tot.ret<|show SOk E (N+3400) _ from hs.up J);rw[AI]at hc;have hc:=BP hc.1;exact Tot.bind (GS hs J nz) λr6 h6=>Tot.ret ⟨J,h6.up J,Ll y1 J⟩
   .exact Tot.bind (UM (SOk.up hy<|Ar _) (by decide) J) λr5 h5=>Tot.ret<|h5.up J
def aw4{N:Nat}{s:_}(h:SOk E N s)(odd:Int)(hN:N<=690000):Tot (dN (s,odd,())) λa=>SOk E (N+25000) a.2.1:=by
 unfold dN;refine Tot.bind (As h.r J) λr1 h1=>Tot.bind (As h1.1 J) λr2 h2=> ?_;have a0:=h1.2.1;have a1:r1.1.1<4:=h1.2.2 (show(1:Int)<=4 by decide);have hs:SOk E (N+2) (r2.2.1,s.2):=h.rd h2.1 J;refine Tot.join (A:=λj=>SOk E (N+2) j.1/\0<=j.2.2.1/\j.2.2.1<4) ?_ (λj hj=> ?_)
 .exact Tot.ite (λ_=>Tot.ret ⟨hs,a0,a1⟩) λ_=>Tot.ite (λ_=>Tot.ret ⟨hs,a0,a1⟩) λ_=>Tot.ret ⟨hs,a0,a1⟩
 clear hs a0 a1;refine Tot.ite (λ_=>Tot.bind (uF hj.1 J) λr4 h4=>Tot.ret<|h4.up J) (λ_=> ?_);refine Tot.join (A:=λj=>SOk E (N+2) j.1/\0<=j.2.2.1/\j.2.2.1<4) ?_ (λj hj=> ?_)
 .exact Tot.ite (λ_=>Tot.ret hj) λ_=>Tot.ite (λ_=>Tot.ret hj) λ_=>Tot.ite (λ_=>Tot.ret hj) λ_=>Tot.ite (λ_=>Tot.ret hj) λ_=>Tot.ite (λ_=>Tot.ret hj) λ_=>Tot.ret hj
 refine Tot.ite (λ_=> ?_) (λ_=> ?_)
 .refine Tot.bind (As hj.1.r J) λr3 h3=> ?_;have hv:r3.1.1<7:=h3.2.2 (show(1:Int)<=7 by decide);have hv0:=h3.2.1;have hw:w64 (1+r3.1.1)=1+r3.1.1:=AY J J;exact Tot.bind (V0 (hj.1.rd h3.1 J) (by rw[hw];omega) (by rw[hw];omega) J) λr4 h4=>Tot.ret<|h4.up J
 refine Tot.join (A:=λj=>SOk E (N+2) j.1/\0<=j.2.2.1/\j.2.2.1<4) ?_ (λj hj=> ?_)
 .exact Tot.ite (λ_=>Tot.ret hj) λ_=>Tot.ret hj
 refine Tot.ite (λ_=> ?_) (λ_=> ?_)
 .refine Tot.bind (As hj.1.r J) λr3 h3=> ?_;have hv:r3.1.1<20:=h3.2.2 (show(1:Int)<=20 by decide);have hv0:=h3.2.1;have hw:w64 (1+r3.1.1)=1+r3.1.1:=AY J J;exact Tot.bind (UM (hj.1.rd h3.1 J) (by rw[hw];omega) J) λr4 h4=>Tot.ret<|h4.up J
 refine Tot.join (A:=λj=>SOk E (N+2) j.1/\0<=j.2.1/\j.2.1<4) ?_ (λj hj=> ?_)
 .exact Tot.ite (λ_=>Tot.ret hj) λ_=>Tot.ret hj
 refine Tot.ite (λ_=>Tot.bind (GS hj.1 J nz) λr4 h4=>Tot.ret<|h4.up J) (λ_=> ?_);refine Tot.ite (λ_=>Tot.bind (As hj.1.r J) λr3 h3=>Tot.bind (GS (hj.1.rd h3.1 J) J nz) λr4 h4=>Tot.ret<|h4.up J) (λ_=> ?_);refine Tot.join (A:=λj=>SOk E (N+2) j.1/\0<=j.2.1/\j.2.1<4) ?_ (λj hj=> ?_)
 .exact Tot.ite (λ_=>Tot.ret hj) λ_=>Tot.ret hj
 refine Tot.ite (λ_=>Tot.bind (GS hj.1 J nz) λr4 h4=>Tot.ret<|h4.up J) (λ_=> ?_);refine Tot.ite (λ_=>Tot.bind (As hj.1.r J) λr3 h3=>Tot.bind (As h3.1 J) λr4 h4=>Tot.bind (GS (hj.1.rd h4.1 J) J nz) λr5 h5=>Tot.ret<|h5.up J) (λ_=> ?_);refine Tot.join (A:=λj=>SOk E (N+2) j.1/\0<=j.2.1/\j.2.1<4) ?_ (λj hj=> ?_)
 .exact Tot.ite (λ_=>Tot.ret hj) λ_=>Tot.ret hj
 refine Tot.ite (λ_=> ?_) (λ_=> ?_)
 .have hk:=hj.1.w.has hj.2.1 hj.2.2;refine Tot.pos hk.2.2 (Tot.bind (ck hk.1) λr6 h6=> ?_);subst h6;refine Tot.ite (λhl=> ?_) (λhl=>Tot.ret<|hj.1.up J);have hl:(0:Int)<((stT<|kA j.1.2.2.1 j.2.1.toNat).inbox.length:Int):=BP hl;refine Tot.bind (As hj.1.r J) λr7 h7=>Tot.pos (CI h7.2.1<|h7.2.2 hl)<|Tot.bind (GS (hj.1.rd h7.1 J) J nz) λr8 h8=>Tot.ret<|h8.up J
 refine Tot.ite (λ_=>Tot.bind (As hj.1.r J) λr3 h3=>Tot.bind (GS (hj.1.rd h3.1 J) J nz) λr4 h4=>Tot.ret<|h4.up J) (λ_=> ?_);refine Tot.join (A:=λj=>SOk E (N+2) j.1) ?_ (λj hj=> ?_)
 .exact Tot.ite (λ_=>Tot.ret hj.1) λ_=>Tot.ite (λ_=>Tot.ret hj.1) λ_=>Tot.ret hj.1
 have hj:SOk E (N+2) j.1:=hj;refine Tot.ite (λ_=>Tot.bind (arv hj J) λr4 h4=>Tot.ret<|h4.up J) (λ_=> ?_);refine Tot.sum (P:=λ_=>False) (Q:=λy=>SOk E (N+25000) y.1) ?_ (λ_ h=>h.elim) (λy hy=>Tot.ret hy);refine Tot.loop (λk y=>SOk E (N+2+2200 * k) y.1/\y.2.1=(k:Int)) _ 4 (λk y hk hy=> ?_) ⟨hj,rfl⟩;unfold oJ;refine Tot.ite (λhc=> ?_) (λhc=>Tot.ret<|show SOk E (N+25000) _ from hy.1.up J);have hc:=BP hc;have hy2:=hy.2;exact Tot.bind (V0 hy.1 (by decide) (by decide) J) λr5 h5=>Tot.bind (UM h5 (by decide) J) λr6 h6=>Tot.ret ⟨J,h6.up J,Ll hy.2 J⟩
end Go.VS
namespace Go.VS
open Go
variable {E:List Event}
def ah7{i:Int}(h:isN i=A1):Se (i,())=I (((i,A1,noB,0,[],()),()),()):=by
 unfold Se;simp only[JA,A9,h,AB,A6]
def ayG:aP ()=I (((rv0.ti,rv0.AH,rv0.B0,rv0.AP,rv0.Aw,rv0.got,()),()),()):=by
 have h0:oy ((0,([]:List AA),([]:List Bool),([]:List AR),([]:List A7),([]:List A7),()),(0,([]:List AA),([]:List Bool),([]:List AR),([]:List A7),([]:List A7),()),0,())
   =I (.inr ((0,[],[],[],[],[],()),(0,[kp0 0,kp0 1,kp0 2,kp0 3],[],[],[],[],()),())):=by
  have st:∀(n:Nat) (l:List AA),n<4->l.length<=4->Xb ((0,[],[],[],[],[],()),(0,l,[],[],[],[],()),(n:Int),())=I (.inl ((0,[],[],[],[],[],()),(0,l++[kp0 n],[],[],[],[],()),((n+1:Nat):Int),())):=by
   intro n l hn hl;unfold Xb;have hi:isN (n:Int)=A1:=Ae.2 ⟨J,J⟩;rw[A8<|AT<|show(n:Int)<4 by omega];rw[show Se (_,())=_ from ah7 hi];simp only[A9];rw[A8<|B7 (by simp;omega),AY J J];rfl
  exact B4 (st 0 [] (by decide)<|by decide)<|B4 (st 1 _ (by decide)<|by decide)<|B4 (st 2 _ (by decide)<|by decide)<|B4 (st 3 _ (by decide)<|by decide)<|BT<|by rfl
 have h1:iV ((0,([]:List AA),([]:List Bool),([]:List AR),([]:List A7),([]:List A7),()),(0,[kp0 0,kp0 1,kp0 2,kp0 3],[],[],[],[],()),0,())
   =I (.inr ((0,[],[],[],[],[],()),(0,[kp0 0,kp0 1,kp0 2,kp0 3],[A1,A1,A1],[],[],[],()),())):=by
  have st:∀(n:Nat) (l:List Bool),n<3->l.length<=4->Td ((0,[],[],[],[],[],()),(0,[kp0 0,kp0 1,kp0 2,kp0 3],l,[],[],[],()),(n:Int),())=I (.inl ((0,[],[],[],[],[],()),(0,[kp0 0,kp0 1,kp0 2,kp0 3],l++[A1],[],[],[],()),((n+1:Nat):Int),())):=by
   intro n l hn hl;unfold Td;have hw:w64 ((n:Int)+1)=((n+1:Nat):Int):=by rw[AY J J];rfl
   simp only[hw];rw[A8<|AT<|show((n+1:Nat):Int)<4 by omega,A8<|B7 (by simp;omega)]
  refine B4 (st 0 [] (by decide)<|by decide) (B4 (st 1 _ (by decide)<|by decide)<|B4 (st 2 _ (by decide)<|by decide)<|BT ?_);unfold Td;have hw:w64 (((2+1:Nat):Int)+1)=4:=by rw[AY J J];rfl
  simp only[hw];rfl
 unfold aP;rw[h0];simp only[De];rw[h1];rfl
def sj{N M:Nat}{r:List Int×Int×A2}(h:Bx N r){DC:Int}(hm0:1<=DC)(hm:DC<=(M:Int))(hN:N+25000 * M<=710000):
  Tot (Q9 (r,DC,())) λa=>Bx (N+12+25000 * M) a.2.1/\WOk [] (N+12+25000 * M) a.1.1.2:=by
 unfold Q9;rw[ayG];simp only[A9];refine Tot.bind (As h J) λr2 h2=>Tot.pos (CI h2.2.1<|h2.2.2<|show(1:Int)<=5 by decide) ?_;have hs:SOk [] (N+1) (r2.2.1,rv0.ti,rv0.AH,rv0.B0,rv0.AP,rv0.Aw,rv0.got,([]:List Event),()):=⟨h2.1,rv0,[],rfl,.nil,Ce _⟩;refine Tot.bind (uF hs J) λr4 h4=>Tot.bind (As h4.r J) λr9 h9=> ?_;refine Tot.sum (P:=λ_=>False) (Q:=λy=>Bx (N+12+25000 * M) y.1/\WOk [] (N+12+25000 * M) y.2.1.2) ?_ (λ_ h=>h.elim) (λy hy=>Tot.ret hy);have hn0:=h9.2.1;have hn:r9.1.1<(M:Int):=by
  have:r9.1.1<DC:=h9.2.2 hm0;omega
 refine Tot.loop (λi y=>Bx (N+12+25000 * i) y.1/\WOk [] (N+12+25000 * i) y.2.1.2/\y.2.2.2.1=r9.1.1 - (i:Int)) _ r9.1.1.toNat (λi y hi hy=> ?_) ⟨h9.1.up J,h4.w.up J,by show r9.1.1=r9.1.1 - 0;omega⟩;obtain⟨hr,hw,hy⟩:=hy;unfold gx;refine Tot.ite (λhc=> ?_) (λhc=>Tot.ret ⟨hr.up J,hw.up J⟩);have hc:=BP hc;refine Tot.bind (aw4 (s:=(y.1,y.2.1.2)) ⟨hr,hw⟩ _ J) λr5 h5=>Tot.ret ⟨J,h5.r.up J,h5.w.up J, ?_⟩;show w64 (y.2.2.2.1 - 1)=r9.1.1 - ((i+1:Nat):Int);rw[AY J J];omega
def ahn{N:Nat}{r:List Int×Int×A2}(h:Bx N r){DC:Int}(hm0:1<=DC)(hm:DC<=12)(hN:N<=400000):
  Tot (Q9 (r,DC,())) λa=>Bx (N+310000) a.2.1/\WOk [] (N+310000) a.1.1.2:=
 (sj (M:=12) h hm0 hm J).mono λ_ ha=>⟨ha.1.up J,ha.2.up J⟩
end Go.VS
namespace Go.VS
open Go
def afS{l:List Int}(hb:BOk l):Tot (Wc (l,())) λa=>Bx 0 a.1.1:=by
 unfold Wc;refine Tot.ite (λhc=> ?_) (λhc=>Tot.ret ⟨?_,hb,Ja _,Ja _⟩)
 .have hc:(2000:Int)<(l.length:Int):=BP hc;refine Tot.pos (by simp;omega) (Tot.ret ⟨?_,λx hx=>hb x<|ID hx,Ja _,Ja _⟩);show(BH (AK 2000) l).length<=2000;rw[DN];omega
 .have:¬(2000:Int)<(l.length:Int):=GI hc;show l.length<=2000;omega
def Qt{s:A4}{n:Int}(hs:s.size<=1)(h0:0<=n)(hn:n<128):Tot (Mh (s,n,())) λa=>a.1.1.size<=1000:=by
 unfold Mh;refine Tot.sum (P:=λ_=>False) (Q:=λy=>y.1.size<=1000) ?_ (λ_ h=>h.elim) (λy hy=>Tot.ret hy);refine Tot.loop (λi x=>x.1.size<=2 ^ i/\0<=x.2.1/\x.2.1<((2 ^ (7 - i):Nat):Int)/\x.2.2.1.size<=128 * i) _ 7 (λi x hi hx=> ?_) ⟨by simpa using hs,h0,by simpa using hn,Ce _⟩;obtain⟨h1,h2,h3,h4⟩:=hx;unfold o7;refine Tot.ite (λhc=> ?_) (λhc=>Tot.ret<|show x.2.2.1.size<=1000 by omega);have hc:=BP hc;have hi7:i<7:=by
  rcases GO i 7 with h|h
  .exact h
  .have:i=7:=J
   subst this;simp at h3;omega
 have hp:2 ^ i<=128:=ae1 (by decide) (by omega:i<=7);have hp2:(2:Nat) ^ (i+1)=2 * 2 ^ i:=by rw[Re];omega
 have hp3:(2:Nat) ^ (7 - i)=2 * 2 ^ (7 - (i+1)):=by
  rw[show 7 - i=(7 - (i+1))+1 by omega,Re];omega
 have hp4:(2:Nat) ^ (7 - i)<=128:=ae1 (by decide) (by omega:7 - i<=7);refine Tot.join (A:=λj=>j.1=x.1/\j.2.1=x.2.1/\j.2.2.1.size<=128 * (i+1)) ?_ (λj hj=> ?_)
 .refine Tot.ite (λhc=>Tot.pos (by simp;omega)<|Tot.ret ⟨rfl,rfl, ?_⟩) (λhc=>Tot.ret ⟨rfl,rfl,J⟩);show(x.2.2.1++x.1).size<=128 * (i+1);rw[Bb];omega
 .obtain⟨j1,j2,j3⟩:=hj;refine Tot.pos (by rw[j1];simp;omega) (Tot.ret ⟨J, ?_, ?_, ?_,j3⟩)
  .show(j.1++j.1).size<=2 ^ (i+1);rw[Bb,j1];omega
  .show 0<=w64 (Ay j.2.1 2);rw[j2,G5 h2,AY J J];omega
  .show w64 (Ay j.2.1 2)<((2 ^ (7 - (i+1)):Nat):Int);rw[j2,G5 h2,AY J J];omega
def apn{N:Nat}{r:List Int×Int×A2}(h:Bx N r)(hN:N<=900000):Tot (Wo (r,())) λa=>Bx (N+30) a.2.1/\a.1.1.size<=1000:=by
 unfold Wo;refine Tot.bind (As h J) λr1 h1=>Tot.ite (λ_=> ?_) (λ_=>Tot.ite (λ_=> ?_) λ_=> ?_)
 .refine Tot.bind (Qt (by decide) (by decide)<|by decide) λr14 h14=>Tot.bind (Qt (by decide) (by decide)<|by decide) λr15 h15=>Tot.bind (Ny h1.1 J<|by simp) λr16 h16=>Tot.ret ⟨h16.1.up J, ?_⟩;have hx:=h16.2;simp only[Bj,NN,or_false]at hx;obtain hx|hx|hx|hx|hx:=hx<;>rw[hx]
  .decide
  .exact h14
  .exact h15
  .decide
  .decide
 .refine Tot.bind (As h1.1 J) λr2 h2=>Tot.sum (P:=λ_=>False) (Q:=λy=>Bx (N+30) y.1/\y.2.1.length<=30) ?_ (λ_ h=>h.elim) (λy hy=>Tot.ret ⟨hy.1, ?_⟩)
  .have hv:r2.1.1<20:=h2.2.2 (show(1:Int)<=20 by decide);have hv0:=h2.2.1;have hw:w64 (1+r2.1.1)=1+r2.1.1:=AY J J;refine Tot.loop (λi x=>Bx (N+2+i) x.1/\x.2.1.length<=i/\x.2.2.1=1+r2.1.1 - (i:Int)) _ (1+r2.1.1).toNat (λi x hi hx=> ?_) ⟨h2.1,Ce _,by show w64 (1+r2.1.1)=1+r2.1.1 - 0;omega⟩;obtain⟨x1,x2,x3⟩:=hx;unfold kb;refine Tot.ite (λhc=> ?_) (λhc=>Tot.ret ⟨x1.up J,by show x.2.1.length<=30;omega⟩);have hc:=BP hc;refine Tot.bind (As x1 J) λr3 h3=>Tot.pos (B7 (by simp;omega)) (Tot.ret ⟨J,h3.1.up J,by simp;omega, ?_⟩);show w64 (x.2.2.1 - 1)=1+r2.1.1 - ((i+1:Nat):Int);rw[AY J J];omega
  .show(BA y.2.1).size<=1000;rw[SC];omega
 .exact Tot.bind (Ny h1.1 J<|by decide) λr16 h16=>Tot.ret ⟨h16.1.up J,QH h16.2<|by decide⟩
def lW{N:Nat}{r:List Int×Int×A2}(h:Bx N r)(hN:N<=800000):Tot (QM (r,())) λa=>Bx (N+60) a.2.1/\a.1.1.2.2.2.2.1.size<=1000:=by
 unfold QM;refine Tot.bind (As h J) λr1 h1=>Tot.bind (As h1.1 J) λr2 h2=>Tot.bind (As h2.1 J) λr3 h3=>Tot.bind (As h3.1 J) λr4 h4=>Tot.bind (Ny h4.1 J<|by decide) λr5 h5=>Tot.bind (As h5.1 J) λr6 h6=> ?_;have hz:=QH h5.2 (by decide);refine Tot.ite (λ_=> ?_) (λ_=> ?_)
 .exact Tot.bind (As h6.1 J) λr7 h7=>Tot.pos (CI h7.2.1<|h7.2.2<|show(1:Int)<=2 by decide)<|Tot.ret ⟨h7.1.up J,hz⟩
 refine Tot.ite (λ_=> ?_) (λ_=> ?_)
 .exact Tot.bind (As h6.1 J) λr7 h7=>Tot.pos (CI h7.2.1<|h7.2.2<|show(1:Int)<=3 by decide)<|Tot.ret ⟨h7.1.up J,hz⟩
 refine Tot.ite (λ_=> ?_) (λ_=> ?_)
 .exact Tot.bind (As h6.1 J) λr7 h7=>Tot.pos (CI h7.2.1<|h7.2.2<|show(1:Int)<=3 by decide)<|Tot.ret ⟨h7.1.up J,hz⟩
 refine Tot.ite (λ_=> ?_) (λ_=> ?_)
 .exact Tot.bind (apn h6.1 J) λr7 h7=>Tot.ret ⟨h7.1.up J,h7.2⟩
 refine Tot.ite (λ_=> ?_) (λ_=> ?_)
 .exact Tot.bind (As h6.1 J) λr7 h7=>Tot.pos (CI h7.2.1<|h7.2.2<|show(1:Int)<=2 by decide) (Tot.ret ⟨h7.1.up J,hz⟩)
 .exact Tot.ret ⟨h6.1.up J,hz⟩
def ayB{n:A7}(h:B9 n=A1):(wr n).size<=100:=by
 obtain⟨⟨a,b⟩,⟨c,d⟩,⟨e,f⟩,_,t,_,_,z,_⟩:=Wd h;have t:=Gq t;have h1:(BF n.fr).size<=3:=GU a J (by decide);have h2:(BF n.nu).size<=3:=GU c J (by decide);have h3:(BF n.to).size<=3:=GU t.1 J (by decide);have h4:(BF n.un).size<=3:=GU e J (by decide);unfold wr;simp only[Bb,BK,Bt,CB];omega
def ap6{a b c:Int}(ha:0<=a/\a<=999)(hb:0<=b/\b<=999)(hc:0<=c/\c<=999):(((((BF a++B [32])++BF b)++B [32])++BF c)).size<=100:=by
 have h1:(BF a).size<=3:=GU ha.1 J (by decide);have h2:(BF b).size<=3:=GU hb.1 J (by decide);have h3:(BF c).size<=3:=GU hc.1 J (by decide);simp only[Bb,BK,Bt,CB];omega
def sE{a b c:Int}(ha:0<=a/\a<=999)(hb:0<=b/\b<=999)(hc:0<=c/\c<=999):Tot (Nt (a,b,c,())) λr=>r.1.1.size<=100:=
 ⟨_,fV ha hb hc,ap6 ha hb hc⟩
def ke{N S:Nat}{w:List UInt8}{s:A4}{r:(List Int×Int×A2)×A2}(hw:w.length<=10)(hs:s.size<=S)(hS:S<=100000)(hr:Bx N r.1):
  Tot (if A0 ((B w).size+s.size<=4611686018427387904)=A1 then(let v:=B w++s;I ((v,()),r)) else U) λa=>Bx N a.2.1/\a.1.1.size<=S+10:=by
 have hw:(B w).size<=10:=by rw[BK];exact hw
 refine Tot.pos (AT J)<|Tot.ret ⟨hr, ?_⟩;show(B w++s).size<=S+10;rw[Bb];omega
def we{N:Nat}{r:List Int×Int×A2}(h:Bx N r)(hN:N<=700000):Tot (SS (r,())) λa=>Bx (N+80) a.2.1/\a.1.1.size<=2000:=by
 unfold SS;refine Tot.bind (As h J) λr1 h1=> ?_;refine Tot.ite (λ_=> ?_) (λ_=> ?_)
 .refine Tot.bind (As h1.1 J) λr2 h2=> ?_;have hv:r2.1.1<30:=h2.2.2 (show(1:Int)<=30 by decide);have hv0:=h2.2.1;refine Tot.bind (Tot.eq<|FE (n:=r2.1.1) J J) λr3 h3=> ?_;subst h3;have hz:(BF r2.1.1).size<=2:=GU hv0 J (by decide);exact(ke (N:=N+2) (S:=2) (by decide) hz (by decide)<|show Bx (N+2) _ from h2.1).mono λa ha=>⟨ha.1.up J,J⟩
 refine Tot.ite (λ_=> ?_) (λ_=> ?_)
 .refine Tot.bind (As h1.1 J) λr2 h2=>Tot.bind (As h2.1 J) λr3 h3=>Tot.bind (As h3.1 J) λr4 h4=> ?_;have u1:r2.1.1<4:=h2.2.2 (show(1:Int)<=4 by decide);have u2:r3.1.1<3:=h3.2.2 (show(1:Int)<=3 by decide);have u3:r4.1.1<30:=h4.2.2 (show(1:Int)<=30 by decide);have v1:=h2.2.1;have v2:=h3.2.1;have v3:=h4.2.1;rw[AY (n:=1+r3.1.1) J J,AY (n:=1+r4.1.1) J J];refine Tot.bind (sE J J J) λr5 h5=> ?_;exact(ke (N:=N+4) (S:=100) (by decide) h5 (by decide)<|show Bx (N+4) _ from h4.1).mono λa ha=>⟨ha.1.up J,J⟩
 refine Tot.ite (λ_=> ?_) (λ_=> ?_)
 .refine Tot.bind (As h1.1 J) λr2 h2=>Tot.bind (As h2.1 J) λr3 h3=>Tot.bind (As h3.1 J) λr4 h4=> ?_;have u1:r2.1.1<4:=h2.2.2 (show(1:Int)<=4 by decide);have u2:r3.1.1<3:=h3.2.2 (show(1:Int)<=3 by decide);have u3:r4.1.1<30:=h4.2.2 (show(1:Int)<=30 by decide);have v1:=h2.2.1;have v2:=h3.2.1;have v3:=h4.2.1;rw[AY (n:=1+r3.1.1) J J,AY (n:=1+r4.1.1) J J];refine Tot.bind (sE J J J) λr5 h5=> ?_;exact(ke (N:=N+4) (S:=100) (by decide) h5 (by decide)<|show Bx (N+4) _ from h4.1).mono λa ha=>⟨ha.1.up J,J⟩
 refine Tot.ite (λ_=> ?_) (λ_=> ?_)
 .refine Tot.bind (Qt (by decide) (by decide)<|by decide) λr14 h14=>Tot.bind (Qt (by decide) (by decide)<|by decide) λr15 h15=>Tot.bind (Ny h1.1 J<|by simp) λr16 h16=>Tot.ret ⟨h16.1.up J, ?_⟩;have hx:=h16.2;simp only[Bj,NN,or_false]at hx;show r16.1.1.size<=2000;obtain hx|hx|hx|hx|hx|hx|hx|hx|hx|hx|hx|hx|hx|hx:=hx<;>rw[hx]
  all_goals first|decide|(exact C7 h14<|by decide)|(exact C7 h15<|by decide)
 .refine Tot.bind (Ny h1.1 J<|by decide) λr2 h2=>Tot.bind (lW h2.1 J) λr3 h3=> ?_;have hz:=QH h2.2 (by decide);have hn:=h3.2;have hw:Tot (Ju r3.1) λa=>a.1.1.size<=100:=by
   obtain⟨⟨⟨fr,nu,tt,un,tx,_⟩,_⟩,q⟩:=r3;refine⟨_,RR (show tx.size<=1048576 by have:tx.size<=1000:=hn;omega), ?_⟩;show Vq (if B9 ⟨fr,nu,tt,un,tx⟩=A1 then _ else _)<=100;split
   .exact ayB (by assumption)
   .decide
  refine Tot.bind hw λr4 h4=>Tot.pos (AT J)<|Tot.ret ⟨h3.1.up J, ?_⟩;show(r2.1.1++r4.1.1).size<=2000;rw[Bb];omega
def gb(s:A4)(a b:Nat):(s.extract a b).size<=s.size:=by
 rw[VU];omega
def ase{N S:Nat}{r:List Int×Int×A2}{s:A4}(h:Bx N r)(hN:N<=900000)(hs:s.size<=S)(hS:S<=100000):Tot (ZT (r,s,())) λa=>Bx (N+10) a.2.1/\a.1.1.size<=2 * S+1000:=by
 unfold ZT;refine Tot.ite (λ_=>Tot.ret ⟨h.up J,show s.size<=2 * S+1000 by omega⟩) (λhc=> ?_);have hc:¬((s.size:Int)=0):=GI hc;refine Tot.bind (As h J) λr1 h1=>Tot.ite (λ_=>Tot.ret ⟨h1.1.up J,show s.size<=2 * S+1000 by omega⟩) (λ_=> ?_);refine Tot.bind (As h1.1 J) λr4 h4=>Tot.bind (As h4.1 J) λr5 h5=> ?_;have v0:=h4.2.1;have v1:r4.1.1<(s.size:Int):=h4.2.2 (show(1:Int)<=(s.size:Int) by omega);have hw:w64 (r4.1.1+1)=r4.1.1+1:=AY J J;have c1:(A0 (0<=r4.1.1)&&A0 (r4.1.1<=(s.size:Int)))=A1:=by simp;omega
 have c2:(A0 (0<=r4.1.1+1)&&A0 (r4.1.1+1<=(s.size:Int)))=A1:=by simp;omega
 simp only[hw];have e1:=gb s 0 r4.1.1.toNat;have e2:=gb s (r4.1.1+1).toNat s.size;have e3:=gb s r4.1.1.toNat s.size;have app:∀a b:A4,(a++b).size=a.size+b.size:=Bb;refine Tot.ite (λ_=>Tot.pos c1<|Tot.pos c2<|Tot.pos (AT J)<|Tot.ret ⟨h5.1.up J, ?_⟩) (λ_=> ?_)
 .show(s.extract 0 r4.1.1.toNat++s.extract (r4.1.1+1).toNat s.size).size<=2 * S+1000;rw[app];omega
 refine Tot.ite (λ_=>Tot.pos c1<|Tot.bind (Ny h5.1 J<|by decide) λr6 h6=> ?_) (λ_=> ?_)
 .have hz:=QH h6.2 (by decide);refine Tot.pos (AT J) (Tot.pos c1<|Tot.pos (AT (by rw[app];omega))<|Tot.ret ⟨h6.1.up J, ?_⟩);show((s.extract 0 r4.1.1.toNat++r6.1.1)++s.extract r4.1.1.toNat s.size).size<=2 * S+1000;rw[app,app];rw[VU,VU]at *;omega
 refine Tot.ite (λ_=>Tot.pos c1<|Tot.bind (Ny h5.1 J<|by decide) λr6 h6=> ?_) (λ_=> ?_)
 .have hz:=QH h6.2 (by decide);refine Tot.pos (AT J) (Tot.pos c2<|Tot.pos (AT (by rw[app];omega))<|Tot.ret ⟨h6.1.up J, ?_⟩);show((s.extract 0 r4.1.1.toNat++r6.1.1)++s.extract (r4.1.1+1).toNat s.size).size<=2 * S+1000;rw[app,app];omega
 refine Tot.ite (λ_=>Tot.pos (AT<|show s.size+s.size<=4611686018427387904 by omega)<|Tot.ret ⟨h5.1.up J, ?_⟩) (λ_=>Tot.pos c1<|Tot.ret ⟨h5.1.up J, ?_⟩)
 .show(s++s).size<=2 * S+1000;rw[app];omega
 .show(s.extract 0 r4.1.1.toNat).size<=2 * S+1000;omega
def akq{lg r:A4}{fo:Int}(h:lg.size<=2400):(IJ lg fo r).1.1.size<=2400:=by
 unfold IJ;split
 .split
  .rename_i h1;simp only[AI,decide_eq_true_eq]at h1;show(lg++CR r).size<=2400;rw[Bb];omega
  .exact h
 .exact Ce _
def ayY{lg:A4}{fo:Int}(h:lg.size<=2400):(Iv lg fo).1.size<=2400:=by
 unfold Iv;split
 .exact h
 .exact Ce _
def aml{N:Nat}{r:List Int×Int×A2}(h:Bx N r)(hN:N<=690000):Tot (dW (r,())) λa=>Bx (N+2000) a.2.1/\a.1.1.1.size<=100000:=by
 unfold dW;refine Tot.bind (As h J) λr1 h1=> ?_;have v0:=h1.2.1;have v1:r1.1.1<9:=h1.2.2 (show(1:Int)<=9 by decide);refine Tot.sum (P:=λ_=>False) (Q:=λy=>Bx (N+1000) y.1/\y.2.2.1.1.size<=2400) ?_ (λ_ h=>h.elim) (λy hy=> ?_)
 .refine Tot.loop (λi x=>Bx (N+1+81 * i) x.1/\x.2.2.1.1.size<=2400/\x.2.2.2.1=r1.1.1 - (i:Int)) _ r1.1.1.toNat (λi x hi hx=> ?_) ⟨h1.1,show noB.size<=2400 by decide,by show r1.1.1=r1.1.1 - 0;omega⟩;obtain⟨x1,x2,x3⟩:=hx;unfold pR;refine Tot.ite (λhc=> ?_) (λhc=>Tot.ret ⟨x1.up J,x2⟩);have hc:=BP hc;have hw:w64 (x.2.2.2.1 - 1)=r1.1.1 - ((i+1:Nat):Int):=by
   rw[AY J J];omega
  refine Tot.bind (we x1 J) λr2 h2=> ?_;have ha:=lJ (lg:=x.2.2.1.1) (r:=r2.1.1) (fo:=x.2.2.1.2.1) J J;refine Tot.bind (Tot.eq<|show Mx (x.2.2.1,r2.1)=_ from ha) λr3 h3=> ?_;subst h3;have hz:=akq (r:=r2.1.1) (fo:=x.2.2.1.2.1) x2;refine Tot.bind (As h2.1 J) λr4 h4=>Tot.ite (λ_=> ?_) (λ_=>Tot.ret ⟨J,h4.1.up J,hz,hw⟩);refine Tot.bind (Tot.eq<|W9 J) λr5 h5=> ?_;subst h5;exact Tot.ret ⟨J,h4.1.up J,ayY hz,hw⟩
 .obtain⟨y1,y2⟩:=hy;refine Tot.bind (As y1 J) λr2 h2=> ?_;refine Tot.ite (λ_=>Tot.bind (ase h2.1 J y2<|by decide) λr3 h3=>Tot.ret ⟨h3.1.up J,C7 h3.2<|by decide⟩) (λ_=> ?_);refine Tot.ite (λ_=> ?_) (λ_=> ?_)
  .exact Tot.bind (As h2.1 J) λr3 h3=>Tot.bind (As h3.1 J) λr4 h4=>Tot.pos (CI h4.2.1<|h4.2.2<|show(1:Int)<=3 by decide)<|Tot.ret ⟨h4.1.up J,C7 y2<|by decide⟩
  refine Tot.ite (λ_=> ?_) (λ_=>Tot.ret ⟨h2.1.up J,C7 y2<|by decide⟩);refine Tot.sum (P:=λ_=>False) (Q:=λy=>Bx (N+2000) y.1/\y.2.2.1.1.size<=100000) ?_ (λ_ h=>h.elim) (λy hy=>Tot.ret hy);refine Tot.loop (λi x=>Bx (N+1001+2 * i) x.1/\x.2.2.1.1.size<=2400+1100 * i/\x.2.2.2.1=(i:Int)) _ 40 (λi x hi hx=> ?_) ⟨h2.1,y2,rfl⟩;obtain⟨x1,x2,x3⟩:=hx;unfold fT;refine Tot.bind (As x1 J) λr3 h3=>Tot.ite (λhc=> ?_) (λhc=>Tot.ret ⟨h3.1.up J,by show x.2.2.1.1.size<=100000;omega⟩);have hc:=BP hc;have v0:=h3.2.1;have v1:r3.1.1<3:=h3.2.2 (show(1:Int)<=3 by decide);rw[AY J J]at hc;refine Tot.bind (As h3.1 J) λr4 h4=> ?_;have u0:=h4.2.1;have u1:r4.1.1<3:=h4.2.2 (show(1:Int)<=3 by decide);have hw:w64 (58+r4.1.1)=58+r4.1.1:=AY J J;refine Tot.bind (Qt (by decide) (by rw[hw];omega) (by rw[hw];omega)) λr5 h5=> ?_;refine Tot.bind (Tot.eq<|show Jy r5.1=_ from aW (r:=r5.1.1) J) λr6 h6=> ?_;subst h6;have hz:=Q4 (r:=r5.1.1) J;refine Tot.pos (AT (by show x.2.2.1.1.size+(CR r5.1.1).size<=4611686018427387904;omega))<|Tot.ret ⟨J,h4.1.up J, ?_,Ll x3 J⟩;show(x.2.2.1.1++CR r5.1.1).size<=2400+1100 * (i+1);rw[Bb];omega
variable {E:List Event}
def KOk(y:Int×Bool×A4×Int×List AG×A2):Prop:=∃k,y=tKp k/\EL k/\Om k.AM
def Gu.odd{k:AA}(h:Gu k):Om k.AM:=λx hx=> .inl<|h x hx
def YOk(t:Int×List AA×List Bool×List AR×List A7×List A7×A2):Prop:=∃(w:Ak) (ev:List Event),t=(w.ti,w.AH,w.B0,w.AP,w.Aw,w.got,())/\Reach ev w
def atm{N:Nat}{r:List Int×Int×A2}(h:Bx N r)(hN:N<=370000):Tot (cw (r,())) λa=>Bx (N+320000) a.2.1/\YOk a.1.1/\KOk a.1.2.1:=by
 unfold cw;refine Tot.bind (ahn h (by decide) (by decide) J) λr1 h1=>Tot.join (A:=λj=>Bx (N+312000) j.1/\WOk [] (N+312000) j.2.2.2.1.2) ?_ (λj hj=> ?_)
 .refine Tot.bind (As h1.1 J) λr2 h2=>Tot.ite (λ_=> ?_) (λ_=>Tot.ret ⟨h2.1.up J,h1.2.up J⟩);exact Tot.bind (V0 (s:=(r2.2.1,r1.1.1.2)) ⟨h2.1,h1.2.up J⟩ (by decide) (by decide) J) λr3 h3=>Tot.ret ⟨h3.r.up J,h3.w.up J⟩
 .obtain⟨hr,hw⟩:=hj;have hy:YOk (j.2.2.2.1.2.1,j.2.2.2.1.2.2.1,j.2.2.2.1.2.2.2.1,j.2.2.2.1.2.2.2.2.1,j.2.2.2.1.2.2.2.2.2.1,j.2.2.2.1.2.2.2.2.2.2.1,()):=by
   obtain⟨w,ev,e,hw,_⟩:=hw;rw[e];exact⟨w,_,rfl,hw⟩
  refine Tot.bind (As hr J) λr7 h7=> ?_;have hk:=hw.has h7.2.1 (h7.2.2<|show(1:Int)<=4 by decide);have hsm:=Cn hk.1;have Sb:=hw.big h7.2.1 (h7.2.2<|show(1:Int)<=4 by decide);refine Tot.pos hk.2.2 (Tot.bind (Tot.eq<|show Fg ((_,_,_,_,_,()),())=_ from Ku hsm) λr8 h8=>Tot.bind (As h7.1 J) λr9 h9=> ?_);have h8':∃K,r8=((tKp K,()),())/\EL K/\Om K.AM/\K.log.size<=2400/\K.AM.length<=3:=⟨_,h8,hsm,Sb.odd,(Pd (FH hk.1).sh).1,(FH hk.1).hl⟩;obtain⟨K,rfl,hsm,Ow,hlg,hhl⟩:=h8';refine Tot.ite (λ_=> ?_) (λ_=> ?_)
  .exact Tot.bind (As h9.1 J) λr10 h10=>Tot.pos (CI h10.2.1<|h10.2.2<|show(1:Int)<=3 by decide)<|Tot.ret ⟨h10.1.up J,hy,⟨_,K.up,K.log,K.fo,K.AM⟩,rfl,hsm,Ow⟩
  refine Tot.ite (λ_=> ?_) (λ_=> ?_)
  .exact Tot.bind (aml h9.1 J) λr10 h10=>Tot.ret ⟨h10.1.up J,hy,⟨K.id,K.up,_,_,K.AM⟩,rfl,⟨C7 h10.2<|by decide,hsm.2⟩,Ow⟩
  refine Tot.ite (λ_=> ?_) (λ_=> ?_)
  .exact Tot.bind (As h9.1 J) λr10 h10=>Tot.pos (CI h10.2.1<|h10.2.2<|show(1:Int)<=4 by decide)<|Tot.ret ⟨h10.1.up J,hy,⟨K.id,K.up,K.log,_,K.AM⟩,rfl,hsm,Ow⟩
  refine Tot.ite (λ_=> ?_) (λ_=> ?_)
  .refine Tot.bind (As h9.1 J) λr10 h10=>Tot.bind (As h10.1 J) λr11 h11=>Tot.bind (As h11.1 J) λr12 h12=>Tot.bind (As h12.1 J) λr13 h13=>Tot.bind (As h13.1 J) λr14 h14=> ?_;refine Tot.pos (B7 (by show K.AM.length+1<=4294967296;have:=hsm.2.1;omega)) (Tot.ret ⟨h14.1.up J,hy,⟨K.id,K.up,K.log,K.fo,K.AM++[⟨r10.1.1,w64<|1+r11.1.1,r12.1.1,9,r13.1.1,[⟨r14.1.1,B [97,98,99,100]⟩]⟩]⟩,rfl,⟨hsm.1, ?_,NB hsm.2.2 ?_⟩, ?_⟩)
   .show(K.AM++[_]).length<=1048576;simp;omega
   .refine⟨D8 rfl,λm hm=> ?_⟩;rw[DG.1 hm];show(B [97,98,99,100]).size<=1048576;decide
   .exact NB Ow<|.inr ⟨_,rfl⟩
  refine Tot.ite (λ_=> ?_) (λ_=> ?_)
  .exact Tot.ret ⟨h9.1.up J,hy,⟨K.id,!K.up,K.log,K.fo,K.AM⟩,rfl,hsm,Ow⟩
  refine Tot.ite (λ_=> ?_) (λ_=> ?_)
  .refine Tot.bind (we h9.1 J) λr10 h10=> ?_;refine Tot.bind (Tot.eq<|show Jy r10.1=_ from aW (r:=r10.1.1) J) λr11 h11=> ?_;subst h11;have hz:=Q4 (r:=r10.1.1) J;refine Tot.pos (AT (by show K.log.size+(CR r10.1.1).size<=4611686018427387904;omega))<|Tot.ret ⟨h10.1.up J,hy,⟨K.id,K.up,K.log++CR r10.1.1,K.fo,K.AM⟩,rfl,⟨?_,hsm.2⟩,Ow⟩;show(K.log++CR r10.1.1).size<=1048576;rw[Bb];omega
  .exact Tot.ret ⟨h9.1.up J,hy,K,rfl,hsm,Ow⟩
end Go.VS
namespace Go.VS
open Go
abbrev tR(w:Ak):YR:=(w.ti,w.AH,w.B0,w.AP,w.Aw,w.got,())
abbrev zR:Ak:=⟨0,[],[],[],[],[]⟩
abbrev SmR(w:Ak):Prop:=PQ w.AH w.B0 w.AP w.Aw w.got
def BR.sm{w:Ak}(h:BR w):SmR w:=by
 have h1:=h.kl;have h2:=h.ll;have h3:=h.rl;have h4:=h.sl;have h5:=h.gl;refine⟨J,λk hk=> ?_,J,J,λp hp=> ?_,J,λn hn=> ?_,J,λn hn=> ?_⟩
 .obtain⟨i,hi,rfl⟩:=Dm hk;have:=(h.k i J).1;rw[kA,BG,B3 hi]at this;exact Cn this
 .have:=(KY<|h.p p hp).2.2.1;unfold jb;omega
 .have:=Ae.1<|mB<|h.s n hn;unfold Fj;omega
 .have:=Ae.1<|mB<|h.g n hn;unfold Fj;omega
def auH{l:List AA}(hl:l.length<=1048576):Wn (l,())=I ((l,()),()):=Kb hl
def aq5{l:List Bool}(hl:l.length<=1048576):dK (l,())=I ((l,()),()):=Kb hl
def avo{l:List AR}(hl:l.length<=1048576):aN (l,())=I ((l,()),()):=Kb hl
def du{w:Ak}(sm:SmR w):MQ (tR w,())=I ((tR w,()),()):=by
 obtain⟨ti,ks,ls,ra,se,go⟩:=w;have kl:=sm.kl;unfold MQ;rw[show Wn ((tR ⟨ti,ks,ls,ra,se,go⟩).2.1,())=_ from auH sm.kl,show dK ((tR ⟨ti,ks,ls,ra,se,go⟩).2.2.1,())=_ from aq5 sm.l,show aN ((tR ⟨ti,ks,ls,ra,se,go⟩).2.2.2.1,())=_ from avo sm.rl,
  show O5 ((tR ⟨ti,ks,ls,ra,se,go⟩).2.2.2.2.1,())=_ from bX sm.sl,show O5 (tR ⟨ti,ks,ls,ra,se,go⟩).2.2.2.2.2=_ from bX sm.gl]
 simp only[A9];have h:dY (tR zR,tR ⟨ti,ks,ls,ra,se,go⟩,(ks.length:Int),0,())=I (.inr (tR zR,tR ⟨ti,ks,ls,ra,se,go⟩,())):=by
  refine Ca (λi=>(tR zR,tR ⟨ti,ks,ls,ra,se,go⟩,(ks.length:Int),(i:Int),())) ks.length ?_ ?_
  .intro i hi;unfold dP;have hc:=K5<|Qz sm.k i;simp only[I7 hi,A5,AX hi,NU,hc,A9,Bw];rw[DV hi kl,show(⟨(kA ks i).id,(kA ks i).up,(kA ks i).log,(kA ks i).fo,(kA ks i).AM⟩:AA)=kA ks i from rfl,S7]
  .unfold dP;simp only[Fv,A6]
 rw[show dY _=_ from h];rfl
def fL{w:Ak}{fs:List Frame}(hr:w.AP.length<=1048000)(hf:fs.length<=40):N2 (tR w,fs,())=I ((),(tR ⟨w.ti,w.AH,w.B0,DH w.AP fs,w.Aw,w.got⟩,())):=by
 obtain⟨ti,ks,ls,ra,se,go⟩:=w;unfold N2;have h0:DH ra (fs.take 0)=ra:=by
  unfold DH;simp
 have h:Zh (tR ⟨ti,ks,ls,DH ra<|fs.take 0,se,go⟩,fs,(fs.length:Int),((0:Nat):Int),())=I (.inr (tR ⟨ti,ks,ls,DH ra fs,se,go⟩,())):=by
  refine Ca (λi=>(tR ⟨ti,ks,ls,DH ra<|fs.take i,se,go⟩,fs,(fs.length:Int),(i:Int),())) fs.length ?_ ?_
  .intro i hi;unfold ZJ;simp only[I7 hi,A5,AX hi,qR];have hz:(DH ra<|fs.take i).length<=1048100:=by
    unfold DH;simp;have:min (30 - ra.length) (min i fs.length)<=40:=J
    simp only at hr;omega
   have hw:w64 ((i:Int)+1)=((i+1:Nat):Int):=DV hi J;have hrm:∀p:AR,Ab ((DH ra<|fs.take i).length+[p].length)=A1:=λp=>B7 (by simp;omega);have ht:fs.take (i+1)=fs.take i++[frA fs i]:=by rw[Lm,B3 hi,aeU hi];rfl
   have hl:(fs.take i).length=i:=by rw[DN];omega
   have hlen:(DH ra<|fs.take i).length=ra.length+min (30 - ra.length) i:=by
    unfold DH;simp;omega
   by_cases h30:(DH ra<|fs.take i).length<30
   .rw[A8<|AT<|show((DH ra<|fs.take i).length:Int)<30 by omega];rw[show Oa ((_,_,_,_,_,_,_,_,_,_,()),())=_ from adn<|frA fs i];simp only[A9,hrm,A5];have e:DH ra (fs.take<|i+1)=DH ra (fs.take i)++[pcF (frA fs i)]:=by
     rw[hlen]at h30;have a1:BH (30 - ra.length) (fs.take i++[frA fs i])=fs.take i++[frA fs i]:=K8 (by rw[Ap,hl];simp;omega);have a2:BH (30 - ra.length) (fs.take i)=fs.take i:=K8 (by rw[hl];omega);unfold DH;rw[ht,a1,a2,F1,← C2];rfl
    rw[e,hw];rfl
   .rw[AD<|nd<|show ¬((DH ra<|fs.take i).length:Int)<30 by omega];have e:DH ra (fs.take<|i+1)=DH ra (fs.take i):=by
     rw[hlen]at h30;unfold DH;rw[ht,List.take_append_of_le_length (by rw[hl];omega)]
    rw[e,hw]
  .unfold ZJ;simp only[Fv,A6,Ep]
 rw[h0]at h;have h':Zh (tR ⟨ti,ks,ls,ra,se,go⟩,fs,(fs.length:Int),0,())=I (.inr (tR ⟨ti,ks,ls,DH ra fs,se,go⟩,())):=h;simp only[h'];rfl
def aou{l:List AR}{i:Int}(h0:0<=i)(h1:i<l.length)(hl:l.length<=1048576):Uv (l,i,())=I ((Fw l i.toNat,()),()):=by
 unfold Uv;have hw:w64 (i+1)=i+1:=AY J J;have hn:(i+1).toNat=i.toNat+1:=J
 simp only[hw,hn];rw[A8 (by simp;omega),A8<|B7 (by simp;omega),A8 (by simp;omega),A8<|B7 (by simp;omega)];rfl
def agD{w:Ak}(h:BR w)(e:Event):((e.ki=9\/e.ki=10)->XH (tR w,tE e,())=I (((FF w e).2,()),(tR (FF w e).1,()))):=by
 intro _;have ll:=h.ll;unfold XH FF;simp only[ED,A9,OD<|show w.B0.length<=1048576 by omega,Sv];rcases tf (inB e.at_ 0<|(w.B0.length:Int) - 1) with e0|e0
 .have ha:=Ae.1 e0;have hb:inb e.at_ w.B0.length=A1:=CI ha.1 J;rw[e0,hb];simp only[AB,AE,Dr,A5,Bo,AW];rcases tfp (bA w.B0 e.at_.toNat=A0 (e.ki=9)) with c|c<;>simp only[c,AO,Af,AB,AE,A5,A6]
 .rw[e0];simp only[AB,AE,HF,A5,Bq,AN,A6]
def at6(l:List AR)(i:Int){inst:Decidable ((@rd AR (dfl .Ad) l i).dst<(@rd AR (dfl .Ad) l i).src)}:(@ite Int ((@rd AR (dfl .Ad) l i).dst<(@rd AR (dfl .Ad) l i).src) inst (@rd AR (dfl .Ad) l i).dst (@rd AR (dfl .Ad) l i).src)=lnk (pA l i.toNat):=by
 show _=lnk (@rd AR (dfl .Ad) l i);unfold lnk;split<;>split<;>omega
def aj8{w:Ak}(h:BR w)(e:Event):((e.ki=4\/e.ki=5\/e.ki=6)->Rj (tR w,tE e,())=I (((DD w e).2,()),(tR (DD w e).1,()))):=by
 intro hk;have rl:=h.rl;unfold Rj DD;simp only[↓at6,ED,A9,OD<|show w.AP.length<=1048576 by omega,abG];rcases tf (inB e.wo 0<|(w.AP.length:Int) - 1) with e0|e0
 .have ha:=Ae.1 e0;have hb:inb e.wo w.AP.length=A1:=CI ha.1 J;have hwl:e.wo.toNat<w.AP.length:=J
  have hp:=La h (i:=e.wo.toNat) hwl;obtain⟨p1,p2,p3,p4,p5⟩:=KY hp;have Eo:=aou (l:=w.AP) ha.1 J J;rw[e0,hb];simp only[AB,A6,A5];rcases tfp (e.ki=5) with c5|c5
  .have c6:¬e.ki=6:=by have:e.ki=5:=of_eq_true c5;omega
   simp only[c5,AO,A5,Eo,A9,c6,if_false]
  .rcases tfp (e.ki=6) with c6|c6
   .simp only[c5,c6,AO,Af,A5,A6,OD<|show(pA w.AP e.wo.toNat).data.size<=1048576 by omega];rcases tf (inB e.mix 0<|((pA w.AP e.wo.toNat).data.size:Int) - 1) with e2|e2<;>simp only[e2,AB,AE,A6,A5,AW,AN,BZ];rcases tf (pA w.AP e.wo.toNat).sp with e1|e1<;>simp only[e1,AB,AE,A6,A5,AW,AN];rcases tf (inB e.kp 1 255) with e3|e3<;>simp only[e3,AB,AE,A6,A5];have hm:=Ae.1 e2;have hmb:inb e.mix (BB (pA w.AP e.wo.toNat).data).length=A1:=CI hm.1 (by rw[jf];omega);simp only[FK,vz,kq hwl,hb,A5];rw[A8<|B7 J,A8 hmb,A8 hmb];rfl
   .have c4:e.ki=4:=by
     have:¬e.ki=5:=by simpa using c5
     have:¬e.ki=6:=by simpa using c6
     omega
    have hl:inb (lnk<|pA w.AP e.wo.toNat) w.B0.length=A1:=by
     have:=h.ll;exact CI p4 (by rw[this];exact p5)
    have hin:inb (pA w.AP e.wo.toNat).dst w.AH.length=A1:=CI p2.1 (by rw[h.kl];omega);have c4':(e.ki=4)=True:=eq_true c4;simp only[c5,c6,c4',AO,Af,A5,A6,hl,Sv,if_false];rcases tf (bA w.B0 (lnk<|pA w.AP e.wo.toNat).toNat) with e1|e1<;>simp only[e1,AB,AE,A6,A5];have hlo:=(Ru h e.wo.toNat).1;rcases tfp (e.kp=0) with e5|e5
    .simp only[e5,AO,A5,Eo,A9,Bg];simp only[B7<|show(pA w.AP e.wo.toNat).data.size<=4294967296 by omega,A5,xG<|BOk.str _,A9];unfold Fo;generalize Cu (BB (pA w.AP e.wo.toNat).data)=u;rcases tf u.2 with e2|e2<;>simp only[e2,A6,A5,AW,AN,Bg];rcases tf (A0 (u.1.src=(pA w.AP e.wo.toNat).src)&&A0 (u.1.dst=(pA w.AP e.wo.toNat).dst)) with e3|e3<;>simp only[e3,A6,A5,hin,Pe];rw[show Rc ((_,_,_,_,_,()),_,())=_ from aAF (P6 h (i:=(pA w.AP e.wo.toNat).dst.toNat) J) u.1];simp only[A9];have hs:=fL (w:=⟨w.ti,w.AH.set (pA w.AP e.wo.toNat).dst.toNat (Ck (kA w.AH (pA w.AP e.wo.toNat).dst.toNat) u.1).1,w.B0,Fw w.AP e.wo.toNat,w.Aw,w.got⟩) (fs:=(Ck (kA w.AH (pA w.AP e.wo.toNat).dst.toNat) u.1).2) (by show(Fw w.AP e.wo.toNat).length<=1048000;omega) (by have:=(cT (kA w.AH (pA w.AP e.wo.toNat).dst.toNat) u.1).1;omega);rw[show N2 _=_ from hs];rfl
    .simp only[e5,Af,A6,Bg,if_false];simp only[B7<|show(pA w.AP e.wo.toNat).data.size<=4294967296 by omega,A5,xG<|BOk.str _,A9];unfold Fo;generalize Cu (BB (pA w.AP e.wo.toNat).data)=u;rcases tf u.2 with e2|e2<;>simp only[e2,A6,A5,AW,AN,Bg];rcases tf (A0 (u.1.src=(pA w.AP e.wo.toNat).src)&&A0 (u.1.dst=(pA w.AP e.wo.toNat).dst)) with e3|e3<;>simp only[e3,A6,A5,hin,Pe];rw[show Rc ((_,_,_,_,_,()),_,())=_ from aAF (P6 h (i:=(pA w.AP e.wo.toNat).dst.toNat) J) u.1];simp only[A9];have hs:=fL (w:=⟨w.ti,w.AH.set (pA w.AP e.wo.toNat).dst.toNat (Ck (kA w.AH (pA w.AP e.wo.toNat).dst.toNat) u.1).1,w.B0,w.AP,w.Aw,w.got⟩) (fs:=(Ck (kA w.AH (pA w.AP e.wo.toNat).dst.toNat) u.1).2) (by show(w.AP).length<=1048000;omega) (by have:=(cT (kA w.AH (pA w.AP e.wo.toNat).dst.toNat) u.1).1;omega);rw[show N2 _=_ from hs];rfl
 .rw[e0];simp only[AE,A5,A6]
def al7{w:Ak}(h:BR w){e:Event}(hk:¬(e.ki=4\/e.ki=5\/e.ki=6))(hk':¬(e.ki=9\/e.ki=10))(ht:e.tx.size<=1048576):
  Pj (tR w,tE e,())=I (((doM w e).2,()),(tR (doM w e).1,())):=by
 obtain⟨ki,at_,fr,nu,wo,mix,kp,t',un,tx⟩:=e;simp only at hk hk' ht;have hn:∀(l:List A7) (x:A7),l.length<=6->Ab (l.length+[x].length)=A1:=λl x hl=>B7 (by simp;omega);have rl:=h.rl;unfold Pj doM;rw[AD hk,AD hk'];simp only[KI,A9];rcases tf (isN at_) with e0|e0
 .have ha:=Gq e0;have hal:=R9 e0;have hb:inb at_ w.AH.length=A1:=CI ha.1 (by rw[h.kl];omega);have hko:=(h.k _ hal).1;have hks:=P6 h hal;simp only[e0,AB,A6,hb,A5,Pe];unfold Hx;rcases tfp (ki=1) with e1|e1
  .simp only[e1,AO,A5];unfold Jz;by_cases hs:6<=w.Aw.length
   .rw[A8<|AT<|show 6<=(w.Aw.length:Int) by omega,A8 hs];rfl
   .rw[AD<|nd<|show ¬6<=(w.Aw.length:Int) by omega,AD hs];rw[show Uo ((_,_,_,_,_,()),_,_,_,())=_ from azS hko t' un ht];simp only[A9];rcases tfp ((Dg (kA w.AH at_.toNat) t' un tx).2=0) with e2|e2<;>simp only[e2,AO,Af,A6,A5,if_false]
    .rfl
    .rw[A8<|hn _ _ h.sl,Bg];simp only[hb,A5]
  .simp only[e1,Af,A6,if_false];rcases tfp (ki=2) with e2|e2
   .simp only[e2,AO,A5];rw[show Tk ((_,_,_,_,_,()),())=_ from asL hko];simp only[A9,Bg,hb,A5];rfl
   .simp only[e2,Af,A6,if_false];rcases tfp (ki=3) with e3|e3
    .simp only[e3,AO,A5];rw[show TU ((_,_,_,_,_,()),_,_,_,())=_ from an3 hks fr nu mix];simp only[A9];rw[A8 hko];rcases tf (GN (kA w.AH at_.toNat) fr nu mix).2 with e4|e4<;>simp only[e4,A5,A6]
     .have hs:=fL (w:=w) (fs:=[(GN (kA w.AH at_.toNat) fr nu mix).1]) J (by simp);rw[show N2 (_,_,())=_ from hs];simp only[A9,Bg,hb,A5];rw[show(⟨(kA w.AH at_.toNat).id,(kA w.AH at_.toNat).up,(kA w.AH at_.toNat).log,(kA w.AH at_.toNat).fo,(kA w.AH at_.toNat).AM⟩:AA)=kA w.AH at_.toNat from rfl,S7]
     .simp only[Bg,hb,A5];rw[show(⟨(kA w.AH at_.toNat).id,(kA w.AH at_.toNat).up,(kA w.AH at_.toNat).log,(kA w.AH at_.toNat).fo,(kA w.AH at_.toNat).AM⟩:AA)=kA w.AH at_.toNat from rfl,S7]
    .simp only[e3,Af,A6,if_false];rcases tfp (ki=7) with e4|e4
     .simp only[e4,AO,A5];rw[show Uj ((_,_,_,_,_,()),_,())=_ from au1 hks kp];rw[A8 hko];simp only[A9,Bg,hb,A5];rfl
     .simp only[e4,Af,A6,if_false];rcases tfp (ki=8) with e5|e5
      .simp only[e5,AO,A5];rw[show Sw ((_,_,_,_,_,()),())=_ from auI hko];simp only[A9,Bg,hb,A5];rfl
      .simp only[e5,Af,A6,if_false];rcases tfp (ki=11) with e6|e6
       .simp only[e6,AO,A5];unfold J9;by_cases hs:w.got.length<6
        .rw[AD<|nd<|show ¬6<=(w.got.length:Int) by omega];rw[show So ((_,_,_,_,_,()),_,_,())=_ from axr hko fr nu];simp only[A9];rcases tf (CN (kA w.AH at_.toNat) fr nu).2.2 with e7|e7<;>simp only[e7,AB,AE,A5,A6,AW,AN]
         .rw[A8<|AT hs,A8<|hn _ _ h.gl,Bg];simp only[hb,A5]
         .rfl
        .rw[A8<|AT<|show 6<=(w.got.length:Int) by omega,BV hs,BZ,A6];rfl
       .simp only[e6,Af,A6,if_false];rcases tfp (ki=12) with e7|e7
        .simp only[e7,AO,A5];rw[show Ud ((_,_,_,_,_,()),())=_ from ajf hko];simp only[A9,Bg,hb,A5];rfl
        .simp only[e7,Af,A6,if_false];rcases tfp (ki=13) with e8|e8
         .simp only[e8,AO,A5];rw[show T7 ((_,_,_,_,_,()),())=_ from aiV hko];simp only[A9,Bg,hb,A5];rfl
         .simp only[e8,Af,A6,if_false,Bg,hb,A5];rw[show(⟨(kA w.AH at_.toNat).id,(kA w.AH at_.toNat).up,(kA w.AH at_.toNat).log,(kA w.AH at_.toNat).fo,(kA w.AH at_.toNat).AM⟩:AA)=kA w.AH at_.toNat from rfl,S7]
 .simp only[e0,AE,A6,A5]
noncomputable abbrev Ee(w:Ak):Bool:=Fs w.ti w.AH w.B0 w.AP w.Aw w.got
def wV{l:List A7}(h:H8 l=A1):∀n∈l,B9 n=A1:=by
 intro n hn;obtain⟨i,hi,rfl⟩:=Dm hn;have:=Dq.1 h i hi;rw[nA,BG,B3 hi]at this;exact this
def Gt{w:Ak}(h:Ee w=A1):BR w/\0<=w.ti/\w.ti<=99999:=by
 unfold Ee Fs at h;simp only[AI,Ae,decide_eq_true_eq,Dq]at h;obtain⟨ht,hk,hl,hr,⟨hs,hs6⟩,⟨hg,hg6⟩,hks,hps⟩:=h;refine⟨⟨J,J,J,J,J,λi hi=> ?_,λp hp=> ?_,wV hs,wV hg⟩,ht.1,ht.2⟩
 .have:=hks i J;unfold KJ at this;simp only[AI,decide_eq_true_eq]at this;exact⟨this.2,this.1⟩
 .obtain⟨i,hi,rfl⟩:=Dm hp;have:=hps i hi;rw[kM hi]at this;exact this
def Bd(w:Ak)(e:Event):Ak×Bool:=
 if Ee w then(if A0 (99999<=w.ti) then(w,A3) else if(doM w e).2 then(At w e,A1) else(w,A3)) else(zR,A3)
def ayc{w:Ak}(h:BR w)(ht0:0<=w.ti)(ht1:w.ti<=99999){e:Event}(ht:e.tx.size<=1048576):
  XJ (tR w,tE e,())=I ((tR (if A0 (99999<=w.ti) then(w,A3) else if(doM w e).2 then(At w e,A1) else(w,A3)).1,(if A0 (99999<=w.ti) then(w,A3) else if(doM w e).2 then(At w e,A1) else(w,A3)).2,()),()):=by
 have hti:=Wa w e;have aoi:∀b:Bool,b=A0 (e.ki=9\/e.ki=10)->(B8 (X:=YR×YR×YR×Bool×A2) (λj16=>
   (if((!j16.2.2.2.1)||(A0<|j16.1.1=99999)) then
   (MQ (j16.1,())).bind λr29=>
   I ((r29.1.1,A3,()),())
   else
   (MQ (((w64<|j16.2.2.1.1+1),j16.2.2.1.2),())).bind λr30=>
   I ((r30.1.1,A1,()),()))) (I<|.inr (tR w,tR zR,tR (doM w e).1,(doM w e).2,())):Option ((YR×Bool×A2)×A2))=I ((tR (if A0 (99999<=w.ti) then(w,A3) else if(doM w e).2 then(At w e,A1) else(w,A3)).1,(if A0 (99999<=w.ti) then(w,A3) else if(doM w e).2 then(At w e,A1) else(w,A3)).2,()),()):=by
  intro b hb;rw[Bg];have auZ:A0 (w.ti=99999)=A0 (99999<=w.ti):=decide_eq_decide.2 J;simp only[auZ];rcases tf (A0<|99999<=w.ti) with c|c
  .simp only[c,DL,A5,du h.sm,A9]
  .rcases tf (doM w e).2 with c2|c2
   .simp only[c,c2,AB,EN,A6,A5];have hs:=du (VE h e).sm;have e1:tR (At w e)=(w64<|(doM w e).1.ti+1,(doM w e).1.AH,(doM w e).1.B0,(doM w e).1.AP,(doM w e).1.Aw,(doM w e).1.got,()):=by
     unfold At HS;rw[c2,A8 rfl]
    rw[e1]at hs ⊢;rw[show MQ ((w64<|(doM w e).1.ti+1,(doM w e).1.AH,(doM w e).1.B0,(doM w e).1.AP,(doM w e).1.Aw,(doM w e).1.got,()),())=_ from hs];rfl
   .simp only[c,c2,AE,Bq,A6,A5,du h.sm,A9]
 unfold XJ;rw[du h.sm];simp only[A9];have IA:=aoi _ rfl;by_cases h9:e.ki=9\/e.ki=10
 .have hdo:doM w e=FF w e:=by
   unfold doM;rw[AD J,A8 h9]
  have hL:=agD h e h9;rw[← hdo]at hL;rw[← IA];congr 1;rcases tfp (e.ki=9) with c|c
  .simp only[c,AO,A5,Bg,hL,A9]
  .have c10:(e.ki=10)=True:=eq_true (by have:¬e.ki=9:=(by simpa using c);omega);simp only[c,c10,AO,Af,A6,Bg,A5,hL,A9]
 .have n9:(e.ki=9)=False:=by simp;omega
  have n10:(e.ki=10)=False:=by simp;omega
  simp only[n9,n10,Af,A6,Bg];rw[← IA];congr 1;by_cases h4:e.ki=4\/e.ki=5\/e.ki=6
  .have hdo:doM w e=DD w e:=by
    unfold doM;rw[A8 h4]
   have hP:=aj8 h e h4;rw[← hdo]at hP;rcases tfp (e.ki=4) with c|c
   .simp only[c,AO,A5,hP,A9]
   .rcases tfp (e.ki=5) with c1|c1
    .simp only[c,c1,AO,Af,A6,A5,hP,A9]
    .have c6:(e.ki=6)=True:=eq_true (by have h4:¬e.ki=4:=(by simpa using c);have h5:¬e.ki=5:=(by simpa using c1);omega);simp only[c,c1,c6,AO,Af,A6,A5,hP,A9]
  .have n4:(e.ki=4)=False:=by simp;omega
   have n5:(e.ki=5)=False:=by simp;omega
   have n6:(e.ki=6)=False:=by simp;omega
   have hN:=al7 h h4 h9 ht;simp only[n4,n5,n6,Af,A6,hN,A9]
def LP{w:Ak}(sm:SmR w){e:Event}(ht:e.tx.size<=1048576):Fe (tR w,tE e,())=I ((tR (Bd w e).1,(Bd w e).2,()),()):=by
 unfold Fe Bd;rw[show Pg ((tR w,tE e,()).1,())=_ from qt sm];simp only[A9];rcases tf (Ee w) with c|c
 .have hw:=Gt c;rw[ayc hw.1 hw.2.1 hw.2.2 ht];simp only[show Fs w.ti w.AH w.B0 w.AP w.Aw w.got=A1 from c,AB,A6,A5,A9]
 .simp only[show Fs w.ti w.AH w.B0 w.AP w.Aw w.got=A3 from c,AE,A6,A5]
def cP{w:Ak}(sm:SmR w):MN (tR w,())=I ((tR w,()),()):=by
 obtain⟨ti,ks,ls,ra,se,go⟩:=w;have k1:=sm.kl;have k2:=sm.l;have k3:=sm.rl;have k4:=sm.sl;have k5:=sm.gl;unfold MN;simp only at k1 k2 k3 k4 k5;simp only[Ef,CB,DS];rw[A8<|B7 J,A8<|B7 J,A8<|B7 J,A8<|B7 J];have h:aQ (tR ⟨ti,ks,ls,ra,se,go⟩,tR zR,tR ⟨ti,ks.take 0,ls,ra,se,go⟩,((0:Nat):Int),())=I (.inr (tR zR,tR ⟨ti,ks,ls,ra,se,go⟩,())):=by
  refine Ca (λi=>(tR ⟨ti,ks,ls,ra,se,go⟩,tR zR,tR ⟨ti,ks.take i,ls,ra,se,go⟩,(i:Int),())) ks.length ?_ ?_
  .intro i hi;unfold Xh;have hc:=Ku<|Qz sm.k i;simp only[I7 hi,A5,AX hi,NU,hc,A9];rw[A8<|B7 (by simp;omega),DV hi k1];have:ks.take i++[kA ks i]=ks.take (i+1):=by rw[Lm,B3 hi,kA,BG,B3 hi];rfl
   rw[← this]
  .unfold Xh;simp only[Fv,A6,Ep]
 have h':aQ (tR ⟨ti,ks,ls,ra,se,go⟩,tR zR,tR ⟨ti,[],ls,ra,se,go⟩,0,())=I (.inr (tR zR,tR ⟨ti,ks,ls,ra,se,go⟩,())):=h;simp only[h'];rfl
def ayw{w:Ak}(h:BR w){e:Event}(ht:e.tx.size<=1048576):
  Vb (tR w,tE e,())=I ((tR<|HS (doM w e).1 A1,(doM w e).2,()),()):=by
 have hti:=Wa w e;unfold Vb;refine zq (w:=w) h (e:=e) ht (λc=> ?_) (λc c2=> ?_) (λk b c=> ?_) (λra c=> ?_) (λc=> ?_)
 .rw[c,HS,A8 rfl,hti]<;>rfl
 .rw[c,c2];rfl
 .rw[c];rfl
 .rw[c];rfl
 .rw[c];rfl
def aoN{w:Ak}(h:BR w)(hlt:¬99999<=w.ti)(hrv:Ee w=A1){e:Event}(ht:e.tx.size<=1048576):
  FZ (tR w,tE e,())=I ((tR (if(doM w e).2 then(At w e,A1) else(w,A3)).1,(if(doM w e).2 then(At w e,A1) else(w,A3)).2,()),()):=by
 have hcw:=cP h.sm;have hd:=ayw h ht;have hc2:=cP (ru (yW h e) A1).sm;unfold FZ;rw[show LG ((tR w,tE e,()).1,())=_ from Rm h.sm];simp only[A9,show Fs w.ti w.AH w.B0 w.AP w.Aw w.got=A1 from hrv,AB,A6,BV hlt,hcw];rw[show Vb (tR w,(tE e,()))=_ from hd];unfold At;rcases tf (doM w e).2 with c|c
 .simp only[A9,c,AB,A6,hc2,A5]
 .simp only[A9,c,AE,A5,A6]
def NP{w:Ak}(sm:SmR w){e:Event}(ht:e.tx.size<=1048576):FZ (tR w,tE e,())=I ((tR (Bd w e).1,(Bd w e).2,()),()):=by
 unfold Bd;rcases tf (Ee w) with c|c
 .have hw:=Gt c;rw[A8 c];by_cases hlt:99999<=w.ti
  .unfold FZ;rw[show LG (tR w,())=_ from Rm sm];simp only[A9,show Fs w.ti w.AH w.B0 w.AP w.Aw w.got=A1 from c,AB,A6,AT hlt,A5,cP sm]
  .rw[AD<|nd hlt];exact aoN hw.1 hlt c ht
 .rw[AD (by rw[c];exact CV)];unfold FZ;rw[show LG (tR w,())=_ from Rm sm];simp only[A9,show Fs w.ti w.AH w.B0 w.AP w.Aw w.got=A3 from c,AE,A5]
def WY(t:YR):Prop:=∃w:Ak,t=tR w/\SmR w/\ ∀k∈w.AH,Om k.AM
def WG(t:YR):Prop:=∃w:Ak,t=tR w/\BR w/\ ∀k∈w.AH,Om k.AM
def WG.y{t:YR}(h:WG t):WY t:=by
 obtain⟨w,e,h1,h2⟩:=h;exact⟨w,e,h1.sm,h2⟩
def WOk.g{E:List Event}{N:Nat}{t:_}(h:WOk E N t):WG (t.1,t.2.1,t.2.2.1,t.2.2.2.1,t.2.2.2.2.1,t.2.2.2.2.2.1,()):=by
 have hb:=h;obtain⟨w,ev,rfl,hw,_⟩:=h;refine⟨w,rfl,hw.ok,λk hk=> ?_⟩;obtain⟨i,hi,rfl⟩:=Dm hk;have hl:=hw.ok.kl;have:=hb.big (i:=(i:Int)) J J;rw[Bw]at this;have e:kA w.AH i=w.AH[i]:=by rw[kA,BG,B3 hi];rfl
 rw[← e];exact Gu.odd this
def tv{α:Type}{l:List α}{P:α->Prop}{i:Nat}{a:α}(h:∀x∈l,P x)(ha:P a):∀x∈l.set i a,P x:=by
 intro x hx;rcases Qc hx with h1|h1
 .exact h x h1
 .exact h1▸ha
def aqc{N:Nat}{r:List Int×Int×A2}{w:Ak}(h:Bx N r)(hN:N<=360000)(hw:BR w)(ho:∀k∈w.AH,Om k.AM):Tot (ap (r,tR w,())) λa=>WY a.1.1:=by
 have sm:=hw.sm;have kl:=hw.kl;have ll:=hw.ll;have rl:=hw.rl;have sl:=hw.sl;have gl:=hw.gl;unfold ap;refine Tot.bind (Tot.eq<|show MN ((r,tR w,()).2)=_ from cP sm) λr1 h1=> ?_;subst h1;refine Tot.bind (As (x:=(r,8,())) h J) λr17 h17=>Tot.ite (λ_=> ?_) (λ_=> ?_)
 .refine Tot.bind (As h17.1 J) λr18 h18=>Tot.bind (atm h18.1 J) λr19 h19=> ?_;obtain⟨K,eK,smK,afv⟩:=h19.2.2;refine Tot.pos (CI h18.2.1<|h18.2.2<|show(1:Int)<=(w.AH.length:Int) by omega) (Tot.ret ⟨⟨w.ti,w.AH.set r18.1.1.toNat K,w.B0,w.AP,w.Aw,w.got⟩, ?_, ?_, ?_⟩)
  .rw[eK]
  .exact⟨by rw[FK];exact sm.kl,tv sm.k smK,sm.l,sm.rl,sm.r,sm.sl,sm.s,sm.gl,sm.g⟩
  .exact tv ho afv
 refine Tot.ite (λ_=> ?_) (λ_=> ?_)
 .exact Tot.bind (As h17.1 J) λr20 h20=>Tot.pos (CI h20.2.1<|h20.2.2<|show(1:Int)<=4 by decide)<|Tot.ret ⟨⟨_,w.AH,w.B0,w.AP,w.Aw,w.got⟩,rfl,⟨sm.kl,sm.k,sm.l,sm.rl,sm.r,sm.sl,sm.s,sm.gl,sm.g⟩,ho⟩
 refine Tot.ite (λ_=> ?_) (λ_=> ?_)
 .refine Tot.pos (by
   show(A0 ((0:Int)<=1)&&A0 ((1:Int)<=(w.AH.length:Int)))=A1;rw[AI];exact⟨AT J,AT J⟩) (Tot.ret ⟨⟨w.ti,w.AH.drop 1,w.B0,w.AP,w.Aw,w.got⟩,rfl,⟨?_,λx hx=>sm.k x<|Jm hx,sm.l,sm.rl,sm.r,sm.sl,sm.s,sm.gl,sm.g⟩,λx hx=>ho x<|Jm hx⟩)
  rw[Dc];omega
 refine Tot.ite (λ_=> ?_) (λ_=> ?_)
 .refine Tot.pos (B7 (by show w.B0.length+1<=4294967296;omega))<|Tot.ret ⟨⟨w.ti,w.AH,w.B0++[A1],w.AP,w.Aw,w.got⟩,rfl,⟨sm.kl,sm.k, ?_,sm.rl,sm.r,sm.sl,sm.s,sm.gl,sm.g⟩,ho⟩;rw[Ap];show w.B0.length+1<=1048576;omega
 refine Tot.ite (λ_=> ?_) (λ_=> ?_)
 .refine Tot.bind (As h17.1 J) λr23 h23=>Tot.bind (As h23.1 J) λr24 h24=>Tot.bind (As h24.1 J) λr25 h25=> ?_;have i1:r25.1.1<3:=h25.2.2 (show(1:Int)<=3 by decide);refine Tot.pos (CI h25.2.1 i1) ?_;have hv:0<= @rd Int (dfl .int) [0,40,41] r25.1.1/\ @rd Int (dfl .int) [0,40,41] r25.1.1<128:=by
   have i0:=h25.2.1;have:r25.1.1=0\/r25.1.1=1\/r25.1.1=2:=J
   obtain e|e|e:=this<;>rw[e]<;>exact⟨by decide,by decide⟩
  refine Tot.bind (Qt (s:=B [120]) (by decide) hv.1 hv.2) λr26 h26=> ?_;refine Tot.pos (B7 (by show w.AP.length+1<=4294967296;omega)) (Tot.ret ⟨⟨w.ti,w.AH,w.B0,w.AP++[_],w.Aw,w.got⟩,rfl,⟨sm.kl,sm.k,sm.l, ?_,NB sm.r ?_,sm.sl,sm.s,sm.gl,sm.g⟩,ho⟩)
  .rw[Ap];show w.AP.length+1<=1048576;omega
  .show r26.1.1.size<=1048576;omega
 refine Tot.ite (λ_=> ?_) (λ_=> ?_)
 .refine Tot.bind (lW h17.1 J) λr27 h27=>Tot.pos (B7 (by show w.Aw.length+1<=4294967296;omega)) (Tot.ret ⟨⟨w.ti,w.AH,w.B0,w.AP,w.Aw++[_],w.got⟩,rfl,⟨sm.kl,sm.k,sm.l,sm.rl,sm.r, ?_,NB sm.s ?_,sm.gl,sm.g⟩,ho⟩)
  .rw[Ap];show w.Aw.length+1<=1048576;omega
  .show r27.1.1.2.2.2.2.1.size<=1048576;have:=h27.2;omega
 refine Tot.ite (λ_=> ?_) (λ_=> ?_)
 .refine Tot.bind (lW h17.1 J) λr27 h27=>Tot.pos (B7 (by show w.got.length+1<=4294967296;omega)) (Tot.ret ⟨⟨w.ti,w.AH,w.B0,w.AP,w.Aw,w.got++[_]⟩,rfl,⟨sm.kl,sm.k,sm.l,sm.rl,sm.r,sm.sl,sm.s, ?_,NB sm.g ?_⟩,ho⟩)
  .rw[Ap];show w.got.length+1<=1048576;omega
  .show r27.1.1.2.2.2.2.1.size<=1048576;have:=h27.2;omega
 .refine Tot.sum (P:=λ_=>False) (Q:=λy=>WY y.2.1) ?_ (λ_ h=>h.elim) (λy hy=>Tot.ret hy);refine Tot.loop (λi x=>Bx (N+1+i) x.1/\ ∃l:List AR,x.2.1=(w.ti,w.AH,w.B0,l,w.Aw,w.got,())/\(∀p∈l,jb p)/\l.length<=40/\(i:Int)<=l.length) _ 42 (λi x hi hx=> ?_) ⟨h17.1,w.AP,rfl,sm.r,J,J⟩;obtain⟨x1,l,x2,x3,x4,x5⟩:=hx;unfold eL;refine Tot.bind (As x1 J) λr32 h32=> ?_;have v0:=h32.2.1;have v1:=h32.2.2 (show(1:Int)<=2 by decide);have v1':r32.1.1<2:=v1;have hwy:WY x.2.1:=by
   rw[x2];exact⟨⟨w.ti,w.AH,w.B0,l,w.Aw,w.got⟩,rfl,⟨sm.kl,sm.k,sm.l,by show l.length<=1048576;omega,x3,sm.sl,sm.s,sm.gl,sm.g⟩,ho⟩
  rw[x2];refine Tot.ite (λhc=> ?_) (λ_=>Tot.ret hwy);have hc:=BP hc;have hc:(l.length:Int)<w64 (30+r32.1.1):=hc;rw[AY J J]at hc;refine Tot.pos (B7 (by show l.length+1<=4294967296;omega)) (Tot.ret ⟨J,h32.1,l++[_],rfl,NB x3 (by show noB.size<=1048576;decide), ?_, ?_⟩)
  .rw[Ap];show l.length+1<=40;omega
  .rw[Ap];show((i+1:Nat):Int)<=((l.length+1:Nat):Int);omega
def aex{l:List Int}(hb:BOk l):Tot (JH (l,())) λa=>WY a.1.1/\(zTx a.1.2.1).size<=1048576:=by
 have ez:noB.size<=1048576:=by decide
 have et:(B [116,101,120,116]).size<=1048576:=by decide
 unfold JH;refine Tot.bind (afS hb) λr1 h1=>Tot.bind (sj (M:=14) h1 (by decide) (by decide)<|by decide) λr2 h2=> ?_;refine Tot.join (A:=λj=>Bx 350100 j.2.2.1/\WOk [] 350100 j.2.2.2.1.2) ?_ (λj hj=> ?_)
 .refine Tot.bind (As h2.1 J) λr8 h8=>Tot.ite (λ_=> ?_) (λ_=>Tot.ret ⟨h8.1.up J,h2.2.up J⟩);refine Tot.bind (uO (s:=(r8.2.1,r2.1.1.2)) ⟨h8.1,h2.2.up J⟩ J) λr9 h9=>Tot.ite (λ_=> ?_) (λ_=>Tot.ret ⟨h9.1.r.up J,h9.1.w.up J⟩);exact Tot.bind (As h9.1.r J) λr10 h10=>Tot.bind (GS (s:=(r10.2.1,r9.2.1.2)) ⟨h10.1,h9.1.w.up J⟩ J ez) λr11 h11=>Tot.ret ⟨h11.r.up J,h11.w.up J⟩
 .obtain⟨hr,hw⟩:=hj;have hg:=hw.g;refine Tot.bind (As hr J) λr12 h12=>Tot.bind (As h12.1 J) λr13 h13=>Tot.bind (As h13.1 J) λr14 h14=>Tot.bind (As h14.1 J) λr15 h15=>Tot.bind (As h15.1 J) λr16 h16=>Tot.bind (As h16.1 J) λr17 h17=>Tot.bind (As h17.1 J) λr18 h18=>Tot.bind (As h18.1 J) λr19 h19=>Tot.bind (As h19.1 J) λr20 h20=> ?_;refine Tot.join (A:=λj=>Bx 350200 j.2.2.1/\WOk [] 350200 j.2.2.2.1.2/\WG j.2.2.2.2.1/\(zTx j.2.2.2.2.2.1).size<=1048576) ?_ (λj hj=> ?_)
  .refine Tot.ite (λ_=> ?_) (λ_=> ?_)
   .exact Tot.bind (As h20.1 J) λr24 h24=>Tot.ret ⟨h24.1.up J,hw.up J,hg,et⟩
   .exact Tot.ret ⟨h20.1.up J,hw.up J,hg,et⟩
  .obtain⟨j1,j2,j3,j4⟩:=hj;refine Tot.bind (atC (s:=(j.2.2.1,j.2.2.2.1.2)) ⟨j1,j2⟩ J) λr25 h25=> ?_;refine Tot.join (A:=λj=>Bx 350300 j.2.2.1/\WG j.2.2.2.1/\(zTx j.2.2.2.2.1).size<=1048576) ?_ (λj hj=> ?_)
   .refine Tot.join (A:=λj=>Bx 350300 j.2.2.1/\WG j.2.2.2.1/\(zTx j.2.2.2.2.1).size<=1048576) ?_ (λj hj=> ?_)
    .refine Tot.ite (λ_=>Tot.ite (λ_=> ?_) λ_=> ?_) (λ_=> ?_)
     .exact Tot.bind (As h25.1.r J) λr31 h31=>Tot.ret ⟨h31.1.up J,j3,j4⟩
     .exact Tot.ret ⟨h25.1.r.up J,j3,j4⟩
     .exact Tot.ret ⟨h25.1.r.up J,j3,j4⟩
    .exact Tot.ite (λ_=>Tot.ret hj) (λ_=>Tot.ret hj)
   .obtain⟨j1,j3,j4⟩:=hj;refine Tot.bind (As j1 J) λr38 h38=>Tot.ite (λ_=> ?_) (λ_=>Tot.ite (λ_=> ?_) λ_=>Tot.ite (λ_=> ?_) λ_=>Tot.ret ⟨j3.y,j4⟩)
    .exact Tot.bind (As h38.1 J) λr39 h39=>Tot.pos (CI h39.2.1<|h39.2.2<|show(1:Int)<=3 by decide) (Tot.ret ⟨j3.y,j4⟩)
    .exact Tot.bind (As h38.1 J) λr39 h39=>Tot.pos (CI h39.2.1<|h39.2.2<|show(1:Int)<=3 by decide) (Tot.ret ⟨j3.y,j4⟩)
    .obtain⟨w,ew,hwk,ho⟩:=j3;refine Tot.bind (P:=λa=>WY a.1.1) ?_ λr43 h43=>Tot.ret ⟨h43,j4⟩;rw[ew];exact aqc h38.1 J hwk ho
def NQ{l:List Int}(hb:BOk l):∃w e,JH (l,())=I ((tR w,tE e,()),())/\SmR w/\(∀k∈w.AH,Om k.AM)/\e.tx.size<=1048576:=by
 obtain⟨⟨⟨y,⟨a,b,c,d,e,f,g,h,i,j,_⟩,_⟩,_⟩,e1,⟨w,e2,h1,h2⟩,h3⟩:=aex hb;simp only at e2;subst e2;exact⟨w,⟨a,b,c,d,e,f,g,h,i,j⟩,e1,h1,h2,h3⟩
def avw{l:List AG}{i:Nat}(hi:i<l.length)(hl:(hA l i).got.length<=1048576):l7 (l,l,(i:Int),0,())=I (.inr (l,l,(i:Int),())):=
 Ca (b:=RD) (λk=>(l,l,(i:Int),(k:Int),())) (hA l i).got.length (λk hk=>by
  unfold RD;simp only[AX hi,Jh,AX hk,A5,AO,Cd,AB,A6,BL hk (by omega:(hA l i).got.length<=9223372036854775807)];rw[A8<|by simpa using hk]) (by
  unfold RD;simp only[AX hi,Jh,A5];rw[AD<|by simp])
def awH{l:List AG}(hl:l.length<=1048576)(hs:∀h∈l,NM h):Mf (l,l,())=I ((A1,()),()):=by
 have h0:nD (l,l,0,())=I (.inr ()):=
  Ca (b:=Qf) (λk=>(l,l,(k:Int),())) l.length (λk hk=>by
   have hg:(hA l k).got.length<=1048576:=by rw[HK hk];exact(hs _<|Cm hk).1
   unfold Qf;simp only[AX hk,Jh,BS hk,A5,AO,AB,A6,avw hk hg,De,BL hk (by omega:l.length<=9223372036854775807)]) (by
   unfold Qf;rw[AD<|by simp])
 unfold Mf;simp only[AO,AB,A6,h0,De]
def Vl{k:AA}(sm:EL k):LQ (tKp k,tKp k,())=I ((A1,()),()):=by
 unfold LQ;simp only[AO,A5,awH sm.2.1 sm.2.2];rfl
def XQ{l:List A7}(hl:l.length<=1048576):L5 (l,l,())=I ((A1,()),()):=by
 have h0:fv (l,l,0,())=I (.inr ()):=
  Ca (b:=V2) (λk=>(l,l,(k:Int),())) l.length (λk hk=>by
   unfold V2;simp only[AX hk,BS hk,A5,OS,AO,Cd,AB,A6,BL hk (by omega:l.length<=9223372036854775807)]) (by
   unfold V2;rw[AD<|by simp])
 unfold L5;simp only[AO,AB,A6,h0,De]
def Ew{w:Ak}(sm:SmR w):DZ (tR w,tR w,())=I ((A1,()),()):=by
 obtain⟨ti,ks,ls,ra,se,go⟩:=w;have k1:ks.length<=1048576:=sm.kl;have k2:ls.length<=1048576:=sm.l;have k3:ra.length<=1048576:=sm.rl;have h0:j0 (tR ⟨ti,ks,ls,ra,se,go⟩,tR ⟨ti,ks,ls,ra,se,go⟩,0,())=I (.inr (tR ⟨ti,ks,ls,ra,se,go⟩,tR ⟨ti,ks,ls,ra,se,go⟩,())):=
  Ca (b:=V4) (λk=>(tR ⟨ti,ks,ls,ra,se,go⟩,tR ⟨ti,ks,ls,ra,se,go⟩,(k:Int),())) ks.length (λk hk=>by
   unfold V4;have hc:=Vl<|Qz sm.k k;simp only[AX hk,BS hk,A5,NU,hc,A9,AB,A6,BL hk (by omega:ks.length<=9223372036854775807)]) (by
   unfold V4;simp only[Fv,A6])
 have h1:fU (tR ⟨ti,ks,ls,ra,se,go⟩,tR ⟨ti,ks,ls,ra,se,go⟩,0,())=I (.inr (tR ⟨ti,ks,ls,ra,se,go⟩,tR ⟨ti,ks,ls,ra,se,go⟩,())):=
  Ca (b:=S2) (λk=>(tR ⟨ti,ks,ls,ra,se,go⟩,tR ⟨ti,ks,ls,ra,se,go⟩,(k:Int),())) ls.length (λk hk=>by
   unfold S2;simp only[AX hk,BS hk,A5,AO,AB,A6,BL hk (by omega:ls.length<=9223372036854775807)]) (by
   unfold S2;simp only[Fv,A6])
 have h2:lU (tR ⟨ti,ks,ls,ra,se,go⟩,tR ⟨ti,ks,ls,ra,se,go⟩,0,())=I (.inr ()):=
  Ca (b:=Tt) (λk=>(tR ⟨ti,ks,ls,ra,se,go⟩,tR ⟨ti,ks,ls,ra,se,go⟩,(k:Int),())) ra.length (λk hk=>by
   unfold Tt;simp only[AX hk,BS hk,A5,AO,Cd,AB,A6,BL hk (by omega:ra.length<=9223372036854775807)]) (by
   unfold Tt;simp only[Fv,A6])
 unfold DZ;rw[show L5 ((tR ⟨ti,ks,ls,ra,se,go⟩,tR ⟨ti,ks,ls,ra,se,go⟩,()).1.2.2.2.2.2.1,(tR ⟨ti,ks,ls,ra,se,go⟩,tR ⟨ti,ks,ls,ra,se,go⟩,()).2.1.2.2.2.2.2)=_ from XQ sm.gl];simp only[AO,AB,A6,XQ sm.sl,A9,h0,h1,h2,De]
def arS:SmR zR:=⟨by decide,λ_ h=>(NN h).elim,by decide,by decide,λ_ h=>(NN h).elim,by decide,λ_ h=>(NN h).elim,by decide,λ_ h=>(NN h).elim⟩
def L7(w:Ak)(e:Event):(Ee w=A3/\Bd w e=(zR,A3))\/(Ee w=A1/\Bd w e=(w,A3))\/(Ee w=A1/\w.ti<99999/\(doM w e).2=A1/\Bd w e=(At w e,A1)):=by
 unfold Bd;rcases tf (Ee w) with c|c
 .rw[c,A8 rfl];by_cases h:99999<=w.ti
  .rw[A8<|AT h];exact .inr (.inl ⟨rfl,rfl⟩)
  .rw[AD<|nd h];rcases tf (doM w e).2 with d|d
   .rw[A8 d];exact .inr (.inr ⟨rfl,J,d,rfl⟩)
   .rw[AD (by rw[d];exact CV)];exact .inr (.inl ⟨rfl,rfl⟩)
 .rw[c,A6];exact .inl ⟨rfl,rfl⟩
def MP{w:Ak}(sm:SmR w)(e:Event):SmR (Bd w e).1:=by
 rcases L7 w e with⟨_,h⟩|⟨_,h⟩|⟨h0,_,_,h⟩<;>rw[h]
 .exact arS
 .exact sm
 .exact(VE (Gt h0).1 e).sm
def Tot.val{α:Type}{o:Option α}{a:α}(h:Tot o (λx=>x=a)):o=I a:=by
 obtain⟨b,h1,h2⟩:=h;rw[h1,h2]
end Go.VS
end
