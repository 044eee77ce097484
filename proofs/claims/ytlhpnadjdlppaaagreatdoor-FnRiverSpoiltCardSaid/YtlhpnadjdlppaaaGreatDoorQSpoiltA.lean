/- Part 22. -/
import Derived.Test.YtlhpnadjdlppaaaGreatDoorQAU
set_option linter.unusedVariables false
set_option linter.unusedSimpArgs false
set_option linter.defProp false
open Bool renaming and_eq_true->AI,and_self->Cd,false->A3,false_and->AN,false_ne_true->CV,not_false->AE,not_true->AB,true->A1,true_and->AW
open Decidable renaming decide->A0
open Int renaming tmod->B5
open List renaming getD_eq_getElem?_getD->BG,getElem?_eq_getElem->B3,getElem_mem->Cm,length_append->Ap,length_drop->Dc,length_set->FK,length_take->DN,map_congr_left->GM,map_id->S1,map_map->HY
open Option renaming bind_some->A9,getD_some->CF,isSome_some->CE,none->U,some->I
section
set_option linter.all false
noncomputable section
namespace Go.VS
open Go Go.Proofs
set_option maxRecDepth 100000
def av9:Cx:=cX [Sk] [] []
def abV:OKC Tryz.prog av9 AF:=okc mixed<|gC XG<|AJ
def Tj(x:Y2×Y2×Int×A2):Rnd (Y2×Y2×Int×A2) (Bool×A2) (A2):=if A0 (x.2.2.1<(x.1.2.1.length:Int)) then if inb x.2.2.1 x.1.2.1.length then if inb x.2.2.1 x.2.1.2.1.length then(LQ (((rd (dfl .AL) x.1.2.1 x.2.2.1).id,(rd (dfl .AL) x.1.2.1 x.2.2.1).up,(rd (dfl .AL) x.1.2.1 x.2.2.1).log,(rd (dfl .AL) x.1.2.1 x.2.2.1).fo,(rd (dfl .AL) x.1.2.1 x.2.2.1).AM,()),((rd (dfl .AL) x.2.1.2.1 x.2.2.1).id,(rd (dfl .AL) x.2.1.2.1 x.2.2.1).up,(rd (dfl .AL) x.2.1.2.1 x.2.2.1).log,(rd (dfl .AL) x.2.1.2.1 x.2.2.1).fo,(rd (dfl .AL) x.2.1.2.1 x.2.2.1).AM,()),())).bind λa=>if !a.1.1 then I (.inr<|.inl (A3,())) else I (.inl (x.1,x.2.1,(w64<|x.2.2.1+1),())) else U else U else I (.inr<|.inr ())
def iJ:=AZ Tj
def aeD:Loop:=⟨[(2,Z29),(3,Z29),(5,.int .i64)],[],0,[(4,.bool)],iJ⟩
def awo:LF Tryz.f21 [] [1,0,1,0,0] aeD:=sq (v:= .nil) abV (b:=Tj) kN
def PK(x:Y2×Y2×A2):Option ((Bool×A2)×A2):=(AS (iJ (x.1,x.2.1,0,())) (λa=>I (a,())) λa=>I ((A1,()),()))
def oM:Ent:=(21,U,⟨[Z30,Z30],[.bool],PK⟩)
def aak:SQ Tryz.prog oM:=sk (v:=t1<|.two (t1<|.one<|.loop aeD) .nil) (fn:=Tryz.f21) abV<|kC awo kN
def al8:Cx:=cX [Mc,Lh,MV,MK,oM,Yg] [] [(19,21),(63,65),(101,108)]
def anN:OKC Tryz.prog al8 AF:=okc mixed<|gC Nz<|gC Ng<|gC NE<|gC Nn<|gC aak<|gC mM<|AJ
def TK(x:List Int×List Int×A2):Option ((Bool×A2)×A2):=if(A0<|1048576<(x.1.length:Int))||(A0<|1048576<(x.2.1.length:Int)) then I ((A1,()),()) else(JH (x.1,())).bind λa=>let e:=(w64<|1+(B5 (x.2.1.length:Int) 255));(FZ (a.1.1,(6,a.1.2.1.2.1,a.1.2.1.2.2.1,a.1.2.1.2.2.2.1,a.1.2.1.2.2.2.2.1,a.1.2.1.2.2.2.2.2.1,e,a.1.2.1.2.2.2.2.2.2.2),())).bind λd=>(Fe (a.1.1,(6,a.1.2.1.2.1,a.1.2.1.2.2.1,a.1.2.1.2.2.2.1,a.1.2.1.2.2.2.2.1,a.1.2.1.2.2.2.2.2.1,e,a.1.2.1.2.2.2.2.2.2.2),())).bind λc=>(B8 (X:=Y2×Y3×Y2×Bool×Y2×Bool×Bool×A2) (λb=>if b.2.2.2.2.2.2.1 then if Ah (A0<|b.2.2.2.2.2.1=b.2.2.2.1) ((DZ (b.2.2.2.2.1,b.2.2.1,())).isSome) then let g:=((A0<|b.2.2.2.2.2.1=b.2.2.2.1)&&(((DZ (b.2.2.2.2.1,b.2.2.1,())).getD ((A3,()),())).1.1));I ((g,()),()) else U else if inb b.2.1.2.2.2.2.1 b.1.2.2.2.1.length then if Ab ((rd (dfl .Ad) b.1.2.2.2.1 b.2.1.2.2.2.2.1).data).size then(Qv ((BB<|(rd (dfl .Ad) b.1.2.2.2.1 b.2.1.2.2.2.2.1).data),())).bind λh=>if !h.1.2.1 then(PK (b.2.2.2.2.1,b.1,())).bind λi=>I (i.1,()) else(Fe (b.2.2.2.2.1,(4,0,0,0,b.2.1.2.2.2.2.1,0,0,0,0,noB,()),())).bind λf=>if !f.1.2.1 then(PK (f.1.1,b.1,())).bind λj=>I (j.1,()) else(PK (f.1.1,b.1,())).bind λk=>let l:=(k.1.1&&(A0<|(f.1.1.2.2.2.1.length:Int)=(w64<|(b.1.2.2.2.1.length:Int) - 1)));I ((l,()),()) else U else U)<|(if !decide (c.1.2.1=d.1.2.1) then I (.inr (a.1.1,(6,a.1.2.1.2.1,a.1.2.1.2.2.1,a.1.2.1.2.2.2.1,a.1.2.1.2.2.2.2.1,a.1.2.1.2.2.2.2.2.1,e,a.1.2.1.2.2.2.2.2.2.2),d.1.1,d.1.2.1,c.1.1,c.1.2.1,A1,())) else(DZ (c.1.1,d.1.1,())).bind λm=>if !m.1.1 then I (.inr (a.1.1,(6,a.1.2.1.2.1,a.1.2.1.2.2.1,a.1.2.1.2.2.2.1,a.1.2.1.2.2.2.2.1,a.1.2.1.2.2.2.2.2.1,e,a.1.2.1.2.2.2.2.2.2.2),d.1.1,d.1.2.1,c.1.1,c.1.2.1,A1,())) else I (.inr (a.1.1,(6,a.1.2.1.2.1,a.1.2.1.2.2.1,a.1.2.1.2.2.2.1,a.1.2.1.2.2.2.2.1,a.1.2.1.2.2.2.2.2.1,e,a.1.2.1.2.2.2.2.2.2.2),d.1.1,d.1.2.1,c.1.1,c.1.2.1,(!c.1.2.1),()))))
def ar9:Ent:=(10,U,⟨[.fz .u8,.fz .u8],[.bool],TK⟩)
def ayj:SQ Tryz.prog ar9:=sk (v:=t1<|t1<|t1<|t1<|t1<|t1<|t1<|.two (.join [(5,Z29),(6,Z27),(7,Z2),(8,.bool),(9,Z2),(10,.bool),(58,.bool)] .nil .nil) .nil) (fn:=Tryz.f10) anN kN
end Go.VS
end
end
section
set_option linter.all false
noncomputable section
namespace Go.VS
open Go
def alk{w:Ak}(h:BR w)(h0:0<=w.ti)(h1:w.ti<=99999):Ee w=A1:=by
 have k1:=h.kl;have k2:=h.ll;have k3:=h.rl;have k4:=h.sl;have k5:=h.gl;unfold Ee Fs;simp only[AI,Ae,decide_eq_true_eq,Dq];refine⟨⟨h0,h1⟩,J,J,J,⟨?_,J⟩,⟨?_,J⟩,λi hi=> ?_,λi hi=> ?_⟩
 .unfold H8;exact Dq.2 λi hi=>h.s _ (by rw[nA,BG,B3 hi];exact Cm hi)
 .unfold H8;exact Dq.2 λi hi=>h.g _ (by rw[nA,BG,B3 hi];exact Cm hi)
 .unfold KJ;have:=h.k i J;rw[this.1,this.2];simp
 .exact La h hi
def K4{w:Ak}{e:Event}(h:(doM w e).2=A1):At w e=⟨w64<|w.ti+1,(doM w e).1.AH,(doM w e).1.B0,(doM w e).1.AP,(doM w e).1.Aw,(doM w e).1.got⟩:=by
 unfold At HS;rw[h,A8 rfl,Wa]
def mF{w:Ak}{e:Event}(h:(doM w e).2=A1):(At w e).ti=w64 (w.ti+1):=by rw[K4 h]
def Ut{w:Ak}{e:Event}(h:Ee w=A1)(ht:w.ti<99999)(hd:(doM w e).2=A1):Ee (At w e)=A1:=by
 obtain⟨h1,h2,h3⟩:=Gt h;have e1:w64 (w.ti+1)=w.ti+1:=AY J J;exact alk (VE h1 e) (by rw[mF hd,e1];omega) (by rw[mF hd,e1];omega)
def aX{x w:Ak}(h:x.AH=w.AH)(kl:w.AH.length<=1048576)(k:∀y∈w.AH,EL y):PK (tR x,tR w,())=I ((A1,()),()):=by
 have h0:iJ (tR x,tR w,0,())=I (.inr ()):=
  Ca (b:=Tj) (λi=>(tR x,tR w,(i:Int),())) w.AH.length (λi hi=>by
   unfold Tj;have hc:=Vl<|Qz k i;simp only[h,AX hi,BS hi,A5,NU,hc,A9,AB,A6,BL hi (by omega:w.AH.length<=9223372036854775807)]) (by
   unfold Tj;simp only[h,Fv,A6])
 unfold PK;simp only[h0,De]
def ZK{w:Ak}{e:Event}(h1:e.ki=4\/e.ki=5\/e.ki=6)(h:(doM w e).2=A1):inB e.wo 0 ((w.AP.length:Int) - 1)=A1:=by
 unfold doM DD at h;rw[A8 h1]at h;rcases tf (inB e.wo 0<|(w.AP.length:Int) - 1) with c|c
 .exact c
 .rw[AD (by rw[c];exact CV)]at h;cases h
def aa2{ra:List AR}{i:Nat}(h:i<ra.length):(Fw ra i).length=ra.length - 1:=by
 unfold Fw;rw[Ap,DN,Dc];omega
def jE{w:Ak}{e:Event}(h1:e.ki=4)(hc:inB e.wo 0 ((w.AP.length:Int) - 1)=A1):
  doM w e=if bA w.B0 (lnk<|pA w.AP e.wo.toNat).toNat then(Fo w (pA w.AP e.wo.toNat)<|if e.kp=0 then Fw w.AP e.wo.toNat else w.AP,A1) else(w,A3):=by
 unfold doM DD;rw[A8<|.inl h1,A8 hc,AD J,AD J]
def ajx(d:A4):BA (BB d)=d:=by
 apply F9;unfold BA BB;show List.map _ (List.map _ d.data.toList)=d.data.toList;rw[HY]
 conv=>rhs;rw[← S1 d.data.toList]
 refine GM λn _=> ?_;simp[Function.comp]
def ahD{d:A4}(h:(Cu<|BB d).2=A1):d=BA (CY (Cu<|BB d).1):=by
 unfold Cu at h ⊢;split
 .rename_i h1;rw[A8 h1]at h;split
  .rename_i h2;rw[BP h2,ajx]
  .rename_i h2;rw[AD h2]at h;cases h
 .rename_i h1;rw[AD h1]at h;cases h
def axf{w:Ak}{e:Event}(h1:e.ki=6)(h:(doM w e).2=A1):inB e.wo 0 ((w.AP.length:Int) - 1)=A1/\inB e.mix 0 (((pA w.AP e.wo.toNat).data.size:Int) - 1)=A1/\inB e.kp 1 255=A1/\
  (doM w e).1=⟨w.ti,w.AH,w.B0,w.AP.set e.wo.toNat<|Jf (pA w.AP e.wo.toNat) e.mix e.kp,w.Aw,w.got⟩:=by
 have hc:=ZK (.inr<|.inr h1) h;refine⟨hc, ?_⟩;unfold doM DD at h ⊢;rw[A8<|.inr<|.inr h1,A8 hc,A8 h1]at h ⊢;split
 .rename_i hs;rw[AI,AI]at hs;exact⟨hs.2.1,hs.2.2,rfl⟩
 .rename_i hs;rw[AD hs]at h;cases h
def auf{l m:List Int}(hb:BOk l)(_:BOk m):TK (l,m,())=I ((A1,()),()):=by
 obtain⟨w,e,hd,sm,_,ht⟩:=NQ hb;have ez:noB.size<=1048576:=by decide
 obtain⟨v,hv⟩:∃v,v=w64 (1+B5 (m.length:Int) 255):=⟨_,rfl⟩;obtain⟨E,hE⟩:∃E:Event,E=⟨6,e.at_,e.fr,e.nu,e.wo,e.mix,v,e.to,e.un,e.tx⟩:=⟨_,rfl⟩;have hk:E.ki=6:=by rw[hE]
 have ht':E.tx.size<=1048576:=by rw[hE];exact ht
 have eE:((6:Int),e.at_,e.fr,e.nu,e.wo,e.mix,v,(tE e).2.2.2.2.2.2.2)=tE E:=by rw[hE]
 have sx:=MP sm E;unfold TK;apply Tot.val;refine Tot.ite (λ_=>Tot.ret rfl) (λ_=> ?_);refine Tot.bind (Tot.eq hd) λr1 h1=> ?_;subst h1;simp only[← hv];refine Tot.bind (Tot.eq (show FZ (tR w,((6:Int),e.at_,e.fr,e.nu,e.wo,e.mix,v,(tE e).2.2.2.2.2.2.2),())=_ by rw[eE];exact NP sm ht')) λr2 h2=>Tot.bind (Tot.eq (show Fe (tR w,((6:Int),e.at_,e.fr,e.nu,e.wo,e.mix,v,(tE e).2.2.2.2.2.2.2),())=_ by rw[eE];exact LP sm ht')) λr3 h3=> ?_;subst h2 h3;refine Tot.join (A:=λj=>j=(tR w,tE E,tR (Bd w E).1,(Bd w E).2,tR (Bd w E).1,(Bd w E).2,!(Bd w E).2,())) ?_ (λj hj=> ?_)
 .simp only[Ew sx,A9,AO,AB,A6];rw[← eE];exact Tot.ret rfl
 .subst hj;rcases L7 w E with⟨c,h⟩|⟨c,h⟩|⟨c,c1,c2,h⟩
  .rw[h]at sx ⊢;simp only[AE,A5,Ew sx,CE,Dr,AO,CF,Cd];exact Tot.ret rfl
  .rw[h]at sx ⊢;simp only[AE,A5,Ew sx,CE,Dr,AO,CF,Cd];exact Tot.ret rfl
  .have hw:=(Gt c).1;obtain⟨hi,hm,hkp,hdw⟩:=axf hk c2;have hi':=Ae.1 hi;have hlt:E.wo.toNat<w.AP.length:=J
   have hp:=La hw hlt;have hps:=(KY hp).2.2.1;have hxr:=Ut c c1 c2;have ex:=K4 c2;rw[hdw]at ex;have xk:(At w E).AH=w.AH:=by rw[ex]
   have xr:(At w E).AP=w.AP.set E.wo.toNat (Jf (pA w.AP E.wo.toNat) E.mix E.kp):=by rw[ex]
   have xl:(At w E).AP.length=w.AP.length:=by rw[xr,FK]
   rw[h]at sx ⊢;refine Tot.neg rfl (Tot.pos (CI hi'.1<|show E.wo<(w.AP.length:Int) by omega)<|Tot.pos (B7 (by show(pA w.AP E.wo.toNat).data.size<=4294967296;omega)) ?_);refine Tot.bind (Tot.eq<|show Qv (BB (pA w.AP E.wo.toNat).data,())=_ from wN<|BOk.str _) λr4 h4=> ?_;subst h4;rcases tf (Cu<|BB (pA w.AP E.wo.toNat).data).2 with u|u
   .rw[u];refine Tot.neg rfl ?_;obtain⟨F,hF⟩:∃F:Event,F=⟨4,0,0,0,E.wo,0,0,0,0,noB⟩:=⟨_,rfl⟩;have fk:F.ki=4:=by rw[hF]
    have fw:F.wo=E.wo:=by rw[hF]
    have fp:F.kp=0:=by rw[hF]
    refine Tot.bind (Tot.eq (show Fe (tR<|At w E,((4:Int),(0:Int),(0:Int),(0:Int),E.wo,(0:Int),(0:Int),(0:Int),(0:Int),noB,()),())=I ((tR (Bd (At w E) F).1,(Bd (At w E) F).2,()),()) by
     have:=LP (w:=At w E) sx (e:=F) (by rw[hF];exact ez);rw[hF]at this ⊢;exact this)) λr5 h5=> ?_
    subst h5;rcases L7 (At w E) F with⟨q,_⟩|⟨_,q⟩|⟨_,_,q2,q⟩
    .rw[hxr]at q;cases q
    .rw[q];refine Tot.pos rfl (Tot.bind (Tot.eq<|aX (x:=At w E) (w:=w) xk sm.kl sm.k) λr6 h6=> ?_);subst h6;exact Tot.ret rfl
    .have hi2:inB F.wo 0 (((At w E).AP.length:Int) - 1)=A1:=by rw[fw,xl];exact hi
     have hdx:=jE fk hi2;have hp2:pA (At w E).AP F.wo.toNat=Jf (pA w.AP E.wo.toNat) E.mix E.kp:=by rw[fw,xr];exact kq hlt _
     have hun:=aAK (aah u) (ahD u) hm hkp;have hbr:Fo (At w E) (Jf (pA w.AP E.wo.toNat) E.mix E.kp) (Fw (At w E).AP F.wo.toNat)=⟨(At w E).ti,(At w E).AH,(At w E).B0,Fw (At w E).AP F.wo.toNat,(At w E).Aw,(At w E).got⟩:=by
      unfold Fo;rw[AD (by rw[hun,AN];exact CV)]
     rw[hp2,A8 fp,hbr]at hdx;have ey:=K4 q2;have hd1:(doM (At w E) F).1=⟨(At w E).ti,(At w E).AH,(At w E).B0,Fw (At w E).AP F.wo.toNat,(At w E).Aw,(At w E).got⟩:=by
      rw[hdx]at q2 ⊢;split
      .rfl
      .rename_i hz;rw[AD hz]at q2;cases q2
     rw[hd1]at ey;have yk:(At (At w E) F).AH=w.AH:=by rw[ey];exact xk
     have yr:(At (At w E) F).AP.length=w.AP.length - 1:=by
      rw[ey,← xl];exact aa2 (by rw[fw,xl];exact hlt)
     rw[q];refine Tot.neg rfl (Tot.bind (Tot.eq<|aX (x:=At (At w E) F) (w:=w) yk sm.kl sm.k) λr6 h6=> ?_);subst h6;simp only[yr,OD sm.rl,AW];rw[AT J];exact Tot.ret rfl
   .rw[u];refine Tot.pos rfl (Tot.bind (Tot.eq<|aX (x:=At w E) (w:=w) xk sm.kl sm.k) λr6 h6=> ?_);subst h6;exact Tot.ret rfl
end Go.VS
end
end
