/- Part 22. -/
import Derived.Test.YtlhpnadjdlppaaaGreatDoorQAU
set_option linter.unusedVariables false
set_option linter.unusedSimpArgs false
set_option linter.defProp false
open Bool renaming and_eq_true->AI,and_false->BZ,and_self->Cd,false->A3,false_and->AN,false_ne_true->CV,not_false->AE,not_true->AB,or_self->Fa,true->A1,true_or->Bq
open Decidable renaming decide->A0
open List renaming getD_eq_getElem?_getD->BG,getElem?_eq_getElem->B3,getElem_mem->Cm,length_set->FK,set_eq_of_length_le->aa0
open Option renaming bind_some->A9,getD_some->CF,isSome_some->CE,none->U,some->I
section
set_option linter.all false
noncomputable section
namespace Go.VS
open Go Go.Proofs
set_option maxRecDepth 100000
def awn:Cx:=cX [Mc,Lh,MV,MK,LU] [] [(49,51),(90,108)]
def aAw:OKC Tryz.prog awn AF:=okc mixed<|gC Nz<|gC Ng<|gC NE<|gC Nn<|gC Lj<|AJ
def SH(x:Y2×Y3×Y2×Int×A2):Rnd (Y2×Y3×Y2×Int×A2) (Bool×A2) (A2):=if A0 (x.2.2.2.1<(x.1.2.1.length:Int)) then if inb x.2.2.2.1 x.1.2.1.length then(IU (((rd (dfl .AL) x.1.2.1 x.2.2.2.1).id,(rd (dfl .AL) x.1.2.1 x.2.2.2.1).up,(rd (dfl .AL) x.1.2.1 x.2.2.2.1).log,(rd (dfl .AL) x.1.2.1 x.2.2.2.1).fo,(rd (dfl .AL) x.1.2.1 x.2.2.2.1).AM,()),())).bind λa=>if inb x.2.2.2.1 x.2.2.1.2.1.length then(IU (((rd (dfl .AL) x.2.2.1.2.1 x.2.2.2.1).id,(rd (dfl .AL) x.2.2.1.2.1 x.2.2.2.1).up,(rd (dfl .AL) x.2.2.1.2.1 x.2.2.2.1).log,(rd (dfl .AL) x.2.2.1.2.1 x.2.2.2.1).fo,(rd (dfl .AL) x.2.2.1.2.1 x.2.2.2.1).AM,()),())).bind λb=>if A0 (x.2.1.1=2) then if A0 (x.2.1.2.1=x.2.2.2.1) then if(!decide (b.1.1.2.1=(w64<|a.1.1.2.1+1)))||((((!decide (x.2.1.1=2))||(!decide (x.2.1.2.1=x.2.2.2.1)))&&(!decide (x.2.1.1=7)))&&(!decide (b.1.1.2.1=a.1.1.2.1))) then I (.inr<|.inl (A3,())) else I (.inl (x.1,x.2.1,x.2.2.1,(w64<|x.2.2.2.1+1),())) else if(((!decide (x.2.1.1=2))||(!decide (x.2.1.2.1=x.2.2.2.1)))&&(!decide (x.2.1.1=7)))&&(!decide (b.1.1.2.1=a.1.1.2.1)) then I (.inr<|.inl (A3,())) else I (.inl (x.1,x.2.1,x.2.2.1,(w64<|x.2.2.2.1+1),())) else if(((!decide (x.2.1.1=2))||(!decide (x.2.1.2.1=x.2.2.2.1)))&&(!decide (x.2.1.1=7)))&&(!decide (b.1.1.2.1=a.1.1.2.1)) then I (.inr<|.inl (A3,())) else I (.inl (x.1,x.2.1,x.2.2.1,(w64<|x.2.2.2.1+1),())) else U else U else I (.inr<|.inr ())
def bT:=AZ SH
def yN:Loop:=⟨[(3,Z29),(4,Z27),(7,Z2),(9,.int .i64)],[],0,[(2,.bool)],bT⟩
def ahf:LF Tryz.f7 [] [1,1,1,1,1,1,0,1,0,0] yN:=sq (v:= .nil) aAw (b:=SH) kN
def U3(x:List Int×A2):Option ((Bool×A2)×A2):=if A0 (1048576<(x.1.length:Int)) then I ((A1,()),()) else(JH x).bind λc=>(FZ c.1).bind λd=>(Fe c.1).bind λb=>(B8 (X:=Y2×Y3×Y2×Bool×Y2×Bool×Bool×A2) (λa=>if a.2.2.2.2.2.2.1 then if Ah (A0<|a.2.2.2.2.2.1=a.2.2.2.1) ((DZ (a.2.2.2.2.1,a.2.2.1,())).isSome) then let f:=((A0<|a.2.2.2.2.2.1=a.2.2.2.1)&&(((DZ (a.2.2.2.2.1,a.2.2.1,())).getD ((A3,()),())).1.1));I ((f,()),()) else U else(AS (bT (a.1,a.2.1,a.2.2.2.2.1,0,())) (λe=>I (e,())) λe=>I ((A1,()),())))<|(if !decide (b.1.2.1=d.1.2.1) then I (.inr (c.1.1,c.1.2.1,d.1.1,d.1.2.1,b.1.1,b.1.2.1,A1,())) else(DZ (b.1.1,d.1.1,())).bind λg=>if !g.1.1 then I (.inr (c.1.1,c.1.2.1,d.1.1,d.1.2.1,b.1.1,b.1.2.1,A1,())) else I (.inr (c.1.1,c.1.2.1,d.1.1,d.1.2.1,b.1.1,b.1.2.1,(!b.1.2.1),()))))
def agt:Ent:=(7,U,⟨[.fz .u8],[.bool],U3⟩)
def aiM:SQ Tryz.prog agt:=sk (v:=t1<|t1<|t1<|t1<|t1<|.two (.join [(3,Z29),(4,Z27),(5,Z2),(6,.bool),(7,Z2),(8,.bool),(44,.bool)] .nil .nil)<|.two (t1<|.one<|.loop yN) .nil) (fn:=Tryz.f7) aAw<|kC ahf kN
end Go.VS
end
end
section
set_option linter.all false
noncomputable section
namespace Go.VS
open Go
def alV:CH [108,101,116]:=by unfold CH;decide
def aj1(n:A7):L (M8 n)=[116,97,107,101]++32::L (wr n):=by unfold M8;simp only[Fp,L_B];rfl
def aic{k:AA}(h:Au k=A1)(hu:k.up=A1){f:Frame}(hf:Co f=A1)(h1:f.ki=1):DJ (L6 k<|Ea (D2 (Az k.AM f).1 (Az k.AM f).2 f) (Az k.AM f).2) (stT k):=by
 have kf:=FH h;have hv:=ng.1 kf.hv;have hp:=YZ hf h1;have EX:=RI (hv:=k.AM) (f:=f);have Kh:=UJ (hv:=k.AM) (f:=f) kf.hl;have hpf:=s8 hv hf h1;have haf:=rr hpf EX hp.2.1;have hal:(D2 (Az k.AM f).1 (Az k.AM f).2 f).length=(Az k.AM f).1.length:=by unfold D2;rw[FK]
 exact aU (Cb h) hu (by unfold Ea;simp;omega)<|uH haf _
def alk{w:Ak}(h:BR w)(h0:0<=w.ti)(h1:w.ti<=99999):Ee w=A1:=by
 have k1:=h.kl;have k2:=h.ll;have k3:=h.rl;have k4:=h.sl;have k5:=h.gl;unfold Ee Fs;simp only[AI,Ae,decide_eq_true_eq,Dq];refine⟨⟨h0,h1⟩,J,J,J,⟨?_,J⟩,⟨?_,J⟩,λi hi=> ?_,λi hi=> ?_⟩
 .unfold H8;exact Dq.2 λi hi=>h.s _ (by rw[nA,BG,B3 hi];exact Cm hi)
 .unfold H8;exact Dq.2 λi hi=>h.g _ (by rw[nA,BG,B3 hi];exact Cm hi)
 .unfold KJ;have:=h.k i J;rw[this.1,this.2];simp
 .exact La h hi
def K4{w:Ak}{e:Event}(h:(doM w e).2=A1):At w e=⟨w64<|w.ti+1,(doM w e).1.AH,(doM w e).1.B0,(doM w e).1.AP,(doM w e).1.Aw,(doM w e).1.got⟩:=by
 unfold At HS;rw[h,A8 rfl,Wa]
def mF{w:Ak}{e:Event}(h:(doM w e).2=A1):(At w e).ti=w64 (w.ti+1):=by rw[K4 h]
def Ut{w:Ak}{e:Event}(h:Ee w=A1)(ht:w.ti<99999)(hd:(doM w e).2=A1):Ee (At w e)=A1:=by
 obtain⟨h1,h2,h3⟩:=Gt h;have e1:w64 (w.ti+1)=w.ti+1:=AY J J;exact alk (VE h1 e) (by rw[mF hd,e1];omega) (by rw[mF hd,e1];omega)
def ZK{w:Ak}{e:Event}(h1:e.ki=4\/e.ki=5\/e.ki=6)(h:(doM w e).2=A1):inB e.wo 0 ((w.AP.length:Int) - 1)=A1:=by
 unfold doM DD at h;rw[A8 h1]at h;rcases tf (inB e.wo 0<|(w.AP.length:Int) - 1) with c|c
 .exact c
 .rw[AD (by rw[c];exact CV)]at h;cases h
noncomputable abbrev tiK(k:AA):Int:=(stT k).ti
def aAP{k o:AU}{n:A7}(h:HB k n=I o):o.ti=k.ti:=by
 unfold HB at h
 (repeat' split at h)<;>first|(cases h;done)|(cases h;rfl)
def anu{k o:AU}{w r:A4}(hw:w≠Dk)(h:Bs k w r=I o):o.ti=k.ti:=by
 unfold Bs at h;split at h
 .split at h
  .unfold Hy at h;rw[BV hw,AN,A6]at h;split at h<;>cases h;rfl
  .cases h
 .split at h
  .split at h
   .unfold Gn at h;split at h
    .have:=aAP h;exact this
    .split at h
     .exact aAP h
     ·(repeat' split at h)<;>first|(cases h;done)|(cases h;rfl)
   .cases h
  .split at h
   .split at h
    .unfold Ey at h
     (repeat' split at h)<;>first|(cases h;done)|(cases h;rfl)
    .cases h
   .cases h
def aey{k o:AU}(hk:BI k=A1){rec:A4}{w r:List UInt8}(hn:CH w)(e:L rec=w++32::r)(hw:B w≠Dk)(h:C6 k rec=I o):o.ti=k.ti:=by
 have:=((JJ hk).1 h).1;rw[KQ hn e]at this;exact anu hw this
def Xe{x:AA}{rec:A4}{w r:List UInt8}{b:Bool}(hx:Au x=A1)(hn:CH w)(e:L rec=w++32::r)(hw:B w≠Dk):tiK (wrR x rec b).1=tiK x:=by
 have hk:=Cb hx;unfold wrR;split
 .rfl
 .rename_i o ho;have h1:=(QA hk ho).stT;have h2:=aey hk.kok hn e hw ho;split
  .show(stT<|wrM x rec).ti=_;rw[h1];exact h2
  .show(stT<|wrM x rec).ti=_;rw[h1];exact h2
def auN(n:A7):L (Ml n)=[111,119,110]++32::L (wr n):=by unfold Ml;simp only[Fp,L_B];rfl
def acs:CH [101,97,116]:=by unfold CH;decide
def asd{k:AA}(h:Au k=A1)(tt un:Int)(tx:A4):tiK (Dg k tt un tx).1=tiK k:=by
 unfold Dg;split
 .exact Xe h qm (auN _) (by decide)
 .rfl
def alf{k:AA}(h:Au k=A1)(a b:Int):tiK (CN k a b).1=tiK k:=by
 unfold CN;split
 .exact Xe h acs (TA _ _ _ _) (by decide)
 .rfl
def au9{k:AA}(h:Au k=A1)(f:Frame):tiK (Ck k f).1=tiK k:=by
 unfold Ck JS;rw[A8 h];split
 .rename_i hc;simp only[AI]at hc;split
  .rename_i h1;unfold HX;split
   .rfl
   split
   .rfl
   split
   .rfl
   unfold KF;split
   .split
    .unfold KW;have hd:=(aic h hc.1 hc.2.1<|BP h1).ok;split
     .exact Xe hd zm (aj1 _) (by decide)
     .rfl
    .rfl
   .rfl
  .split
   .exact Xe h alV (TA _ _ _ _) (by decide)
   .rfl
 .rfl
def ale{k:AA}(h:Au k=A1):tiK (EW k).1=tiK k:=by
 unfold EW;split
 .show(stT<|pkM k).ti=_;rw[(yO<|Cb h).stT]
 .rfl
def azg(k:AA):tiK (Eb k).1=tiK k:=by
 unfold Eb;split<;>rfl
def auy{k:AA}(h:Au k=A1)(ok:(E5 k).2=A1):tiK (E5 k).1=tiK k+1:=by
 have hk:=Cb h;have hf:=Ci hk.kok;unfold E5 at ok ⊢;split at ok
 .rename_i hu;rw[A8 hu];unfold wrR at ok ⊢;split at ok
  .cases ok
  .rename_i o ho;have h1:=(QA hk ho).stT;have h2:=((JJ hk.kok).1 ho).1;have t0:=hf.t0;have t1:=hf.t1;rw[KQ fF<|XY _,jH J J J]at h2;show(stT<|wrM k _).ti=_;rw[h1];cases h2;rfl
 .cases ok
def aqd{w:Ak}(h:BR w){e:Event}{i:Nat}(hi:i<4)(ok:(doM w e).2=A1)(h7:e.ki≠7):tiK (kA (doM w e).1.AH i)=if e.ki=2/\e.at_=(i:Int) then tiK (kA w.AH i)+1 else tiK (kA w.AH i):=by
 have kl:=h.kl;have put:∀k',(e.at_.toNat=i->tiK k'=tiK (kA w.AH i))->tiK (kA (w.AH.set e.at_.toNat k') i)=tiK (kA w.AH i):=λk' hk=>by
  by_cases hl:e.at_.toNat<w.AH.length
  .rw[JQ hl];split
   .rename_i e1;exact hk e1.symm
   .rfl
  .rw[aa0 J]
 have hin:(e.ki=4\/e.ki=5\/e.ki=6)->e.wo.toNat<w.AP.length:=λh1=>by
  have:=Ae.1<|ZK h1 ok;omega
 by_cases h2:e.ki=2
 .revert ok;unfold doM;rw[AD J,AD J];split
  .rename_i ha;have ha:=Gq ha;unfold Hx;rw[AD J,A8 h2];intro ok;have ok:(E5<|kA w.AH e.at_.toNat).2=A1:=ok;show tiK (kA (w.AH.set e.at_.toNat _) i)=_;by_cases hat:e.at_=(i:Int)
   .rw[A8 ⟨h2,hat⟩,JQ J,A8 J,auy (h.k _ J).1 ok];rw[show e.at_.toNat=i by omega]
   .rw[AD λx=>hat x.2,JQ J,AD J]
  .intro ok;cases ok
 .rw[AD λx=>h2 x.1];revert ok;unfold doM;split
  .rename_i h1;intro ok;unfold DD
   (repeat' split)<;>try rfl
   all_goals
   unfold Fo;split
   .have hp:=La h<|hin h1;obtain⟨_,⟨d0,d1⟩,_⟩:=KY hp;show tiK (kA (w.AH.set _ _) i)=_;rw[JQ J];split
    .rename_i e1;rw[← e1];exact au9 (h.k _ hi).1 _
    .rfl
   .rfl
  .split
   .intro ok;unfold FF;split<;>rfl
   .split
    .rename_i ha;have ha:=Gq ha;have hok:=(h.k i hi).1;have eqi:∀ {P:AA->Prop},e.at_.toNat=i->P (kA w.AH i)->P (kA w.AH e.at_.toNat):=λx hp=>by rw[x];exact hp
     unfold Hx;rw[AD h2,AD h7];intro ok;split
     .unfold Jz;split
      .rfl
      .split
       .rfl
       .exact put _ λx=>by rw[x];exact asd hok _ _ _
     .split
      .split<;>rfl
      .split
       .exact put _ λx=>by rw[x];rfl
       .split
        .unfold J9;split
         .exact put _ λx=>by rw[x];exact alf hok _ _
         .rfl
        .split
         .exact put _ λx=>by rw[x];exact ale hok
         .split
          .exact put _ λx=>by rw[x];exact azg _
          .rfl
    .intro ok;rfl
def afh{w x:Ak}(hw:BR w)(hx:BR x){e:Event}(hs:∀i,i<4->e.ki≠7->tiK (kA x.AH i)=if e.ki=2/\e.at_=(i:Int) then tiK (kA w.AH i)+1 else tiK (kA w.AH i)):
  bT (tR w,tE e,tR x,0,())=I (.inr ()):=by
 have kw:=hw.kl;have kx:=hx.kl;refine Ca (b:=SH) (λi=>(tR w,tE e,tR x,(i:Int),())) w.AH.length (λi hi=> ?_) ?_
 .unfold SH;have o1:=(hw.k i J).1;have h1:=JX o1;have h2:=JX (hx.k i J).1;have ix:inb (i:Int) x.AH.length=A1:=AX J;have hf:=Ci (Cb o1).kok;have t0:=hf.t0;have t1:=hf.t1;have key:=hs i J;unfold tiK at key;have ew:w64 ((stT<|kA w.AH i).ti+1)=(stT<|kA w.AH i).ti+1:=AY J J;simp only[BS hi,A5,ix,AX hi,NU,h1,h2,A9,ew,BL hi (by omega:w.AH.length<=9223372036854775807)];by_cases c7:e.ki=7
  .have c2:¬e.ki=2:=J
   simp only[BV c2,AT c7,A6,AE,AB,Bq,BZ,AN]
  .have key:=key c7;by_cases c2:e.ki=2
   .by_cases ca:e.at_=(i:Int)
    .rw[A8 ⟨c2,ca⟩]at key;simp only[AT c2,AT ca,A5,key,AO,AB,Fa,AN,A6]
    .rw[AD λy=>ca y.2]at key;simp only[AT c2,BV ca,A5,A6,key,AO,AB,BZ]
   .rw[AD λy=>c2 y.1]at key;simp only[BV c2,A6,key,AO,AB,BZ]
 .unfold SH;simp only[Fv,A6]
def ary{l:List Int}(hb:BOk l):U3 (l,())=I ((A1,()),()):=by
 obtain⟨w,e,hd,sm,_,ht⟩:=NQ hb;have sx:=MP sm e;unfold U3;apply Tot.val;refine Tot.ite (λ_=>Tot.ret rfl) (λ_=> ?_);refine Tot.bind (Tot.eq hd) λr1 h1=> ?_;subst h1;refine Tot.bind (Tot.eq<|NP sm ht) λr2 h2=>Tot.bind (Tot.eq<|LP sm ht) λr3 h3=> ?_;subst h2 h3;refine Tot.join (A:=λj=>j=(tR w,tE e,tR (Bd w e).1,(Bd w e).2,tR (Bd w e).1,(Bd w e).2,!(Bd w e).2,())) ?_ (λj hj=> ?_)
 .simp only[Ew sx,A9,AO,AB,A6];exact Tot.ret rfl
 .subst hj;rcases L7 w e with⟨c,h⟩|⟨c,h⟩|⟨c,c1,c2,h⟩
  .rw[h]at sx ⊢;simp only[AE,A5,Ew sx,CE,Dr,AO,CF,Cd];exact Tot.ret rfl
  .rw[h]at sx ⊢;simp only[AE,A5,Ew sx,CE,Dr,AO,CF,Cd];exact Tot.ret rfl
  .have hw:=(Gt c).1;have hx:=(Gt<|Ut c c1 c2).1;have ex:=K4 c2;rw[h];refine Tot.neg rfl ?_;have hl:=afh hw hx (e:=e) (x:=At w e) λi hi h7=>by
    rw[ex];exact aqd hw hi c2 h7
   rw[show bT (tR w,tE e,tR<|At w e,0,())=_ from hl];exact Tot.ret rfl
end Go.VS
end
end
