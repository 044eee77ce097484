/- Part 22. -/
import Derived.Test.YtlhpnadjdlppaaaGreatDoorQAU
set_option linter.unusedVariables false
set_option linter.unusedSimpArgs false
set_option linter.defProp false
open Bool renaming and_eq_true->AI,and_self->Cd,false->A3,false_and->AN,false_ne_true->CV,not_false->AE,true->A1
open Decidable renaming decide->A0
open Int renaming tmod->B5,tmod_eq_emod_of_nonneg->KE
open List renaming getD_eq_getElem?_getD->BG,getElem?_eq_getElem->B3,getElem_mem->Cm,set_eq_of_length_le->aa0
open Option renaming none->U,some->I
section
set_option linter.all false
noncomputable section
namespace Go.VS
open Go Go.Proofs
set_option maxRecDepth 100000
def awi:Cx:=cX [Mc,Lh,MV,MK,VW,Sk] [] [(18,20),(83,89)]
def au3:OKC Tryz.prog awi AF:=okc mixed<|gC Nz<|gC Ng<|gC NE<|gC Nn<|gC Zv<|gC XG<|AJ
def SD(x:List Int×List Int×A2):Option ((Bool×A2)×A2):=if(A0<|1048576<(x.1.length:Int))||(A0<|1048576<(x.2.1.length:Int)) then I ((A1,()),()) else(JH (x.1,())).bind λc=>let e:=(B5 (x.2.1.length:Int) 4);(Fe (c.1.1,(7,e,0,0,0,0,0,0,0,noB,()),())).bind λd=>(FZ (c.1.1,(7,e,0,0,0,0,0,0,0,noB,()),())).bind λf=>(DZ (d.1.1,f.1.1,())).bind λh=>if !h.1.1 then(DZ (d.1.1,f.1.1,())).bind λi=>I (i.1,()) else(LG (c.1.1,())).bind λj=>if !j.1.1 then(DZ (d.1.1,f.1.1,())).bind λk=>I (k.1,()) else if A0 (99999<=c.1.1.1) then(DZ (d.1.1,f.1.1,())).bind λl=>I (l.1,()) else(B8 (X:=Y3×Int×Y2×A2) (λa=>(Fe (a.2.2.1,a.1,())).bind λb=>if inb a.2.1 b.1.1.2.1.length then if inb a.2.1 a.2.2.1.2.1.length then(LQ (((rd (dfl .AL) b.1.1.2.1 a.2.1).id,(rd (dfl .AL) b.1.1.2.1 a.2.1).up,(rd (dfl .AL) b.1.1.2.1 a.2.1).log,(rd (dfl .AL) b.1.1.2.1 a.2.1).fo,(rd (dfl .AL) b.1.1.2.1 a.2.1).AM,()),((rd (dfl .AL) a.2.2.1.2.1 a.2.1).id,(rd (dfl .AL) a.2.2.1.2.1 a.2.1).up,(rd (dfl .AL) a.2.2.1.2.1 a.2.1).log,(rd (dfl .AL) a.2.2.1.2.1 a.2.1).fo,(rd (dfl .AL) a.2.2.1.2.1 a.2.1).AM,()),())).bind λg=>if Ah g.1.1 (inb a.2.1 b.1.1.2.1.length) then let m:=(g.1.1&&(!((rd (dfl .AL) b.1.1.2.1 a.2.1).up)));I ((m,()),()) else U else U else U)<|(if A0 (c.1.2.1.1=8) then I (.inr ((2,c.1.2.1.2),e,d.1.1,())) else I (.inr (c.1.2.1,e,d.1.1,()))))
def atg:Ent:=(5,U,⟨[.fz .u8,.fz .u8],[.bool],SD⟩)
def ajr:SQ Tryz.prog atg:=sk (v:=t1<|t1<|t1<|t1<|t1<|t1<|t1<|.join [(6,Z27),(7,.int .i64),(8,Z2)] .nil .nil) (fn:=Tryz.f5) au3 kN
end Go.VS
end
end
section
set_option linter.all false
noncomputable section
namespace Go.VS
open Go
def alk{w:Ak}(h:BR w)(h0:0<=w.ti)(h1:w.ti<=99999):Ee w=A1:=by
 have k1:=h.kl;have k2:=h.ll;have k3:=h.rl;have k4:=h.sl;have k5:=h.gl;unfold Ee Fs;simp only[AI,Ae,decide_eq_true_eq,Dq];refine⟨⟨h0,h1⟩,J,J,J,⟨?_,J⟩,⟨?_,J⟩,λi hi=> ?_,λi hi=> ?_⟩
 .unfold H8;exact Dq.2 λi hi=>h.s _ (by rw[nA,BG,B3 hi];exact Cm hi)
 .unfold H8;exact Dq.2 λi hi=>h.g _ (by rw[nA,BG,B3 hi];exact Cm hi)
 .unfold KJ;have:=h.k i J;rw[this.1,this.2];simp
 .exact La h hi
def K4{w:Ak}{e:Event}(h:(doM w e).2=A1):At w e=⟨w64<|w.ti+1,(doM w e).1.AH,(doM w e).1.B0,(doM w e).1.AP,(doM w e).1.Aw,(doM w e).1.got⟩:=by
 unfold At HS;rw[h,A8 rfl,Wa]
def mF{w:Ak}{e:Event}(h:(doM w e).2=A1):(At w e).ti=w64 (w.ti+1):=by rw[K4 h]
def Ut{w:Ak}{e:Event}(h:Ee w=A1)(ht:w.ti<99999)(hd:(doM w e).2=A1):Ee (At w e)=A1:=by
 obtain⟨h1,h2,h3⟩:=Gt h;have e1:w64 (w.ti+1)=w.ti+1:=AY J J;exact alk (VE h1 e) (by rw[mF hd,e1];omega) (by rw[mF hd,e1];omega)
def ZK{w:Ak}{e:Event}(h1:e.ki=4\/e.ki=5\/e.ki=6)(h:(doM w e).2=A1):inB e.wo 0 ((w.AP.length:Int) - 1)=A1:=by
 unfold doM DD at h;rw[A8 h1]at h;rcases tf (inB e.wo 0<|(w.AP.length:Int) - 1) with c|c
 .exact c
 .rw[AD (by rw[c];exact CV)]at h;cases h
def dt{w:Ak}{e:Event}(c:Ee w=A1)(c1:w.ti<99999):Bd w e=if(doM w e).2 then(At w e,A1) else(w,A3):=by
 unfold Bd;rw[A8 c,AD<|nd J]
def awh{k:AA}(h:Au k=A1)(hd:k.up=A3)(f:Frame):Ck k f=(k,[]):=by
 unfold Ck JS;rw[A8 h,hd,AN,A6]
def amc{w:Ak}(h:BR w){e:Event}{i:Nat}(hi:i<4)(hd:(kA w.AH i).up=A3)(h8:e.ki≠8)(ok:(doM w e).2=A1):kA (doM w e).1.AH i=kA w.AH i:=by
 have kl:=h.kl;have put:∀k',(e.at_.toNat=i->k'=kA w.AH i)->kA (w.AH.set e.at_.toNat k') i=kA w.AH i:=λk' hk=>by
  by_cases hl:e.at_.toNat<w.AH.length
  .rw[JQ hl];split
   .rename_i e1;exact hk e1.symm
   .rfl
  .rw[aa0 J]
 have hin:(e.ki=4\/e.ki=5\/e.ki=6)->e.wo.toNat<w.AP.length:=λh1=>by
  have:=Ae.1<|ZK h1 ok;omega
 revert ok;unfold doM;split
 .rename_i h1;intro ok;unfold DD
  (repeat' split)<;>try rfl
  all_goals
  unfold Fo;split
  .have hp:=La h<|hin h1;obtain⟨_,⟨d0,d1⟩,_⟩:=KY hp;show kA (w.AH.set _ _) i=_;rw[JQ J];split
   .rename_i e1;rw[← e1,awh (h.k i hi).1 hd]
   .rfl
  .rfl
 .split
  .intro ok;unfold FF;split<;>rfl
  .split
   .rename_i ha;have ha:=Gq ha;unfold Hx;have dn:e.at_.toNat=i->(kA w.AH e.at_.toNat).up=A3:=λx=>by rw[x];exact hd
    split
    .unfold Jz;split
     .intro ok;cases ok
     .split
      .intro ok;cases ok
      .rename_i hz;intro ok;refine put _ λx=> ?_;exfalso;apply hz;unfold Dg;rw[dn x,AN,A6]
    .split
     .intro ok;refine put _ λx=> ?_;have ok:(E5<|kA w.AH e.at_.toNat).2=A1:=ok;unfold E5 at ok;rw[dn x,A6]at ok;cases ok
     .split
      .split<;>intro ok<;>rfl
      .split
       .intro ok;refine put _ λx=> ?_;have ok:(kA w.AH e.at_.toNat).up=A1:=ok;rw[dn x]at ok;cases ok
       .skip
        split
        .unfold J9;split
         .rename_i hz;intro ok;refine put _ λx=> ?_;unfold CN at hz;rw[dn x,AN,A6]at hz;cases hz
         .intro ok;cases ok
        .split
         .intro ok;refine put _ λx=> ?_;have ok:(EW<|kA w.AH e.at_.toNat).2=A1:=ok;unfold EW at ok;rw[dn x,A6]at ok;cases ok
         .split
          .intro ok;refine put _ λx=> ?_;have ok:(Eb<|kA w.AH e.at_.toNat).2=A1:=ok;unfold Eb at ok;rw[dn x,AN,A6]at ok;cases ok
          .intro ok;cases ok
   .intro ok;cases ok
def apL{w:Ak}(hr:Ee w=A1){e:Event}{i:Nat}(hi:i<4)(hd:(kA w.AH i).up=A3)(h8:e.ki≠8):kA (Bd w e).1.AH i=kA w.AH i:=by
 rcases L7 w e with⟨c,_⟩|⟨_,h⟩|⟨_,_,c2,h⟩
 .rw[hr]at c;cases c
 .rw[h]
 .rw[h];show kA (At w e).AH i=_;rw[K4 c2];exact amc (Gt hr).1 hi hd h8 c2
def xt{w:Ak}(hr:Ee w=A1)(e:Event):Ee (Bd w e).1=A1:=by
 rcases L7 w e with⟨c,_⟩|⟨_,h⟩|⟨_,c1,c2,h⟩
 .rw[hr]at c;cases c
 .rw[h];exact hr
 .rw[h];exact Ut hr c1 c2
def aoE{w:Ak}(hr:Ee w=A1)(ht:w.ti<99999){e:Event}(h7:e.ki=7)(ha:0<=e.at_/\e.at_<=3):(kA (Bd w e).1.AH e.at_.toNat).up=A3:=by
 have h:=(Gt hr).1;have kl:=h.kl;have hd:doM w e=(GL w e.at_.toNat<|faM (kA w.AH e.at_.toNat) e.kp,(kA w.AH e.at_.toNat).up):=by
  unfold doM Hx;rw[AD J,AD J,A8<|Ae.2 ⟨ha.1,ha.2⟩,AD J,AD J,AD J,A8 h7]
 rw[dt hr ht];rcases tf (kA w.AH e.at_.toNat).up with c|c
 .have c2:(doM w e).2=A1:=by rw[hd];exact c
  rw[A8 c2];show(kA (At w e).AH _).up=A3;rw[K4 c2,hd];show(kA (w.AH.set _ _) _).up=A3;rw[JQ J,A8 rfl];rfl
 .rw[AD (by rw[hd];show ¬((kA w.AH e.at_.toNat).up=A1);rw[c];exact CV)];exact c
def azh{l m:List Int}(hb:BOk l)(_:BOk m):SD (l,m,())=I ((A1,()),()):=by
 obtain⟨w,e,hd,sm,_,ht⟩:=NQ hb;have ez:noB.size<=1048576:=by decide
 have n0:0<=B5 (m.length:Int) 4/\B5 (m.length:Int) 4<=3:=by
  rw[KE J];omega
 obtain⟨n,hn⟩:∃n,n=B5 (m.length:Int) 4:=⟨_,rfl⟩;obtain⟨E,hE⟩:∃E:Event,E=⟨7,n,0,0,0,0,0,0,0,noB⟩:=⟨_,rfl⟩;have ht':E.tx.size<=1048576:=by rw[hE];exact ez
 have eE:((7:Int),n,(0:Int),(0:Int),(0:Int),(0:Int),(0:Int),(0:Int),(0:Int),noB,())=tE E:=by rw[hE]
 have hat:E.at_=n:=by rw[hE]
 have hki:E.ki=7:=by rw[hE]
 rw[← hn]at n0;have sx:=MP sm E;unfold SD;apply Tot.val;refine Tot.ite (λ_=>Tot.ret rfl) (λ_=> ?_);refine Tot.bind (Tot.eq hd) λr1 h1=> ?_;subst h1;simp only[← hn];refine Tot.bind (Tot.eq (show Fe (tR w,((7:Int),n,(0:Int),(0:Int),(0:Int),(0:Int),(0:Int),(0:Int),(0:Int),noB,()),())=_ by rw[eE];exact LP sm ht')) λr2 h2=>Tot.bind (Tot.eq (show FZ (tR w,((7:Int),n,(0:Int),(0:Int),(0:Int),(0:Int),(0:Int),(0:Int),(0:Int),noB,()),())=_ by rw[eE];exact NP sm ht')) λr3 h3=> ?_;subst h2 h3;refine Tot.bind (Tot.eq<|Ew sx) λr4 h4=> ?_;subst h4;refine Tot.neg rfl (Tot.bind (Tot.eq<|Rm sm) λr5 h5=> ?_);subst h5;rcases tf (Ee w) with c|c
 .have c':Fs w.ti w.AH w.B0 w.AP w.Aw w.got=A1:=c;rw[c'];refine Tot.neg rfl (Tot.ite (λ_=> ?_) λhlt=> ?_)
  .refine Tot.bind (Tot.eq<|Ew sx) λr6 h6=> ?_;subst h6;exact Tot.ret rfl
  .have hlt:¬99999<=w.ti:=GI hlt;have hx:=xt c E;have hdn:=aoE c J hki (by rw[hat];exact n0);rw[hat]at hdn;have hrx:=(Gt hx).1;refine Tot.join (A:=λj=>∃F:Event,j=(tE F,n,tR (Bd w E).1,())/\F.ki≠8/\F.tx.size<=1048576) ?_ (λj hj=> ?_)
   .refine Tot.ite (λ_=>Tot.ret ⟨⟨2,e.at_,e.fr,e.nu,e.wo,e.mix,e.kp,e.to,e.un,e.tx⟩,rfl,by show(2:Int)≠8;decide,ht⟩) (λhne=>Tot.ret ⟨e,rfl,GI hne,ht⟩)
   .obtain⟨F,rfl,f8,ft⟩:=hj;have hy:=apL hx (i:=n.toNat) (e:=F) J hdn f8;have sy:=MP sx F;have ky:=(Gt<|xt hx F).1.kl;have kx:=hrx.kl;refine Tot.bind (Tot.eq<|LP sx ft) λr6 h6=> ?_;subst h6;have i1:inb n (Bd (Bd w E).1 F).1.AH.length=A1:=CI n0.1 J;have i2:inb n (Bd w E).1.AH.length=A1:=CI n0.1 J;refine Tot.pos i1<|Tot.pos i2 ?_;simp only[Pe,hy];refine Tot.bind (Tot.eq<|Vl<|P6 hrx J) λr7 h7=> ?_;subst h7;simp only[i1,Dr,A5,hdn,AE,Cd];exact Tot.ret rfl
 .have c':Fs w.ti w.AH w.B0 w.AP w.Aw w.got=A3:=c;rw[c'];refine Tot.pos rfl (Tot.bind (Tot.eq<|Ew sx) λr6 h6=> ?_);subst h6;exact Tot.ret rfl
end Go.VS
end
end
