/- Part 22. -/
import Derived.Test.YtlhpnadjdlppaaaGreatDoorQAU
set_option linter.unusedVariables false
set_option linter.unusedSimpArgs false
set_option linter.defProp false
open Bool renaming and_self->Cd,false->A3,false_ne_true->CV,false_or->Bo,not_false->AE,not_true->AB,or_eq_false_iff->NO,or_eq_true->Cj,true->A1,true_and->AW,true_or->Bq
open Decidable renaming decide->A0
open Option renaming bind_some->A9,getD_some->CF,isSome_some->CE,none->U,some->I
section
set_option linter.all false
noncomputable section
namespace Go.VS
open Go Go.Proofs
set_option maxRecDepth 100000
def atT:Cx:=cX [Mc,Lh,MV,MK,VW] [] [(55,57),(63,68),(103,112)]
def arz:OKC Tryz.prog atT AF:=okc mixed<|gC Nz<|gC Ng<|gC NE<|gC Nn<|gC Zv<|AJ
def T6(x:List Int×A2):Option ((Bool×A2)×A2):=if A0 (1048576<(x.1.length:Int)) then I ((A1,()),()) else(JH x).bind λa=>(FZ (a.1.1,(4,a.1.2.1.2.1,a.1.2.1.2.2.1,a.1.2.1.2.2.2.1,a.1.2.1.2.2.2.2.1,a.1.2.1.2.2.2.2.2.1,0,a.1.2.1.2.2.2.2.2.2.2),())).bind λc=>(Fe (a.1.1,(4,a.1.2.1.2.1,a.1.2.1.2.2.1,a.1.2.1.2.2.2.1,a.1.2.1.2.2.2.2.1,a.1.2.1.2.2.2.2.2.1,0,a.1.2.1.2.2.2.2.2.2.2),())).bind λd=>(B8 (X:=Y2×Y3×Y2×Bool×Y2×Bool×Bool×A2) (λb=>if b.2.2.2.2.2.2.1 then if Ah (A0<|b.2.2.2.2.2.1=b.2.2.2.1) ((DZ (b.2.2.2.2.1,b.2.2.1,())).isSome) then let g:=((A0<|b.2.2.2.2.2.1=b.2.2.2.1)&&(((DZ (b.2.2.2.2.1,b.2.2.1,())).getD ((A3,()),())).1.1));I ((g,()),()) else U else if(A0<|b.2.1.2.2.2.2.1<0)||(A0<|(b.1.2.2.2.1.length:Int)<=b.2.1.2.2.2.2.1) then I (((!b.2.2.2.2.2.1),()),()) else if inb b.2.1.2.2.2.2.1 b.1.2.2.2.1.length then let f:=(rd (dfl .Ad) b.1.2.2.2.1 b.2.1.2.2.2.2.1).src;(B8 (X:=Y2×Y2×Bool×Int×A2) (λe=>if inb e.2.2.2.1 e.1.2.2.1.length then let h:=((A0<|e.2.2.1=(rd (dfl .bool) e.1.2.2.1 e.2.2.2.1))&&(e.2.2.1||(A0<|(e.2.1.2.2.2.1.length:Int)=(e.1.2.2.2.1.length:Int))));I ((h,()),()) else U)<|(if inb b.2.1.2.2.2.2.1 b.1.2.2.2.1.length then if A0 ((rd (dfl .Ad) b.1.2.2.2.1 b.2.1.2.2.2.2.1).dst<f) then if inb b.2.1.2.2.2.2.1 b.1.2.2.2.1.length then let i:=(rd (dfl .Ad) b.1.2.2.2.1 b.2.1.2.2.2.2.1).dst;I (.inr (b.1,b.2.2.2.2.1,b.2.2.2.2.2.1,i,())) else U else I (.inr (b.1,b.2.2.2.2.1,b.2.2.2.2.2.1,f,())) else U)) else U)<|(if !decide (d.1.2.1=c.1.2.1) then I (.inr (a.1.1,(4,a.1.2.1.2.1,a.1.2.1.2.2.1,a.1.2.1.2.2.2.1,a.1.2.1.2.2.2.2.1,a.1.2.1.2.2.2.2.2.1,0,a.1.2.1.2.2.2.2.2.2.2),c.1.1,c.1.2.1,d.1.1,d.1.2.1,A1,())) else(DZ (d.1.1,c.1.1,())).bind λj=>if !j.1.1 then I (.inr (a.1.1,(4,a.1.2.1.2.1,a.1.2.1.2.2.1,a.1.2.1.2.2.2.1,a.1.2.1.2.2.2.2.1,a.1.2.1.2.2.2.2.2.1,0,a.1.2.1.2.2.2.2.2.2.2),c.1.1,c.1.2.1,d.1.1,d.1.2.1,A1,())) else(LG (a.1.1,())).bind λk=>if !k.1.1 then I (.inr (a.1.1,(4,a.1.2.1.2.1,a.1.2.1.2.2.1,a.1.2.1.2.2.2.1,a.1.2.1.2.2.2.2.1,a.1.2.1.2.2.2.2.2.1,0,a.1.2.1.2.2.2.2.2.2.2),c.1.1,c.1.2.1,d.1.1,d.1.2.1,A1,())) else I (.inr (a.1.1,(4,a.1.2.1.2.1,a.1.2.1.2.2.1,a.1.2.1.2.2.2.1,a.1.2.1.2.2.2.2.1,a.1.2.1.2.2.2.2.2.1,0,a.1.2.1.2.2.2.2.2.2.2),c.1.1,c.1.2.1,d.1.1,d.1.2.1,(A0<|99999<=a.1.1.1),()))))
def axl:Ent:=(3,U,⟨[.fz .u8],[.bool],T6⟩)
def ajG:SQ Tryz.prog axl:=sk (v:=t1<|t1<|t1<|t1<|t1<|t1<|t1<|.two (.join [(3,Z29),(4,Z27),(5,Z2),(6,.bool),(7,Z2),(8,.bool),(50,.bool)] .nil .nil)<|t1<|t1<|.join [(3,Z29),(7,Z2),(8,.bool),(9,.int .i64)] .nil .nil) (fn:=Tryz.f3) arz kN
end Go.VS
end
end
section
set_option linter.all false
noncomputable section
namespace Go.VS
open Go
def jE{w:Ak}{e:Event}(h1:e.ki=4)(hc:inB e.wo 0 ((w.AP.length:Int) - 1)=A1):
  doM w e=if bA w.B0 (lnk<|pA w.AP e.wo.toNat).toNat then(Fo w (pA w.AP e.wo.toNat)<|if e.kp=0 then Fw w.AP e.wo.toNat else w.AP,A1) else(w,A3):=by
 unfold doM DD;rw[A8<|.inl h1,A8 hc,AD J,AD J]
def asm{w:Ak}{e:Event}(h1:e.ki=4\/e.ki=5\/e.ki=6)(hc:inB e.wo 0 ((w.AP.length:Int) - 1)=A3):doM w e=(w,A3):=by
 unfold doM DD;rw[A8 h1,AD (by rw[hc];exact CV)]
def dt{w:Ak}{e:Event}(c:Ee w=A1)(c1:w.ti<99999):Bd w e=if(doM w e).2 then(At w e,A1) else(w,A3):=by
 unfold Bd;rw[A8 c,AD<|nd J]
def aqp{l:List Int}(hb:BOk l):T6 (l,())=I ((A1,()),()):=by
 obtain⟨w,e,hd,sm,_,ht⟩:=NQ hb;obtain⟨E,hE⟩:∃E:Event,E=⟨4,e.at_,e.fr,e.nu,e.wo,e.mix,0,e.to,e.un,e.tx⟩:=⟨_,rfl⟩;have hk:E.ki=4:=by rw[hE]
 have hw0:E.wo=e.wo:=by rw[hE]
 have ht':E.tx.size<=1048576:=by rw[hE];exact ht
 have eE:((4:Int),e.at_,e.fr,e.nu,e.wo,e.mix,(0:Int),(tE e).2.2.2.2.2.2.2)=tE E:=by rw[hE]
 have sx:=MP sm E;unfold T6;apply Tot.val;refine Tot.ite (λ_=>Tot.ret rfl) (λ_=> ?_);refine Tot.bind (Tot.eq hd) λr1 h1=> ?_;subst h1;refine Tot.bind (Tot.eq (show FZ (tR w,((4:Int),e.at_,e.fr,e.nu,e.wo,e.mix,(0:Int),(tE e).2.2.2.2.2.2.2),())=_ by rw[eE];exact NP sm ht')) λr2 h2=>Tot.bind (Tot.eq (show Fe (tR w,((4:Int),e.at_,e.fr,e.nu,e.wo,e.mix,(0:Int),(tE e).2.2.2.2.2.2.2),())=_ by rw[eE];exact LP sm ht')) λr3 h3=> ?_;subst h2 h3;refine Tot.join (A:=λj=>j=(tR w,tE E,tR (Bd w E).1,(Bd w E).2,tR (Bd w E).1,(Bd w E).2,!(Ee w)||decide (99999<=w.ti),())) ?_ (λj hj=> ?_)
 .simp only[Ew sx,A9,AO,AB,A6,Rm sm];rcases tf (Ee w) with c|c
  .have c':Fs w.ti w.AH w.B0 w.AP w.Aw w.got=A1:=c;simp only[c',AB,A6];refine Tot.ret ?_;rw[← eE];rfl
  .have c':Fs w.ti w.AH w.B0 w.AP w.Aw w.got=A3:=c;simp only[c',AE,A5];refine Tot.ret ?_;rw[← eE];rfl
 .subst hj;refine Tot.ite (λ_=> ?_) (λhn=> ?_)
  .simp only[Ew sx,CE,Dr,A5,AO,CF,Cd];exact Tot.ret rfl
  .have hn:(!(Ee w)||decide (99999<=w.ti))=A3:=hn;rw[NO]at hn;have c:Ee w=A1:=by simpa using hn.1
   have c1:w.ti<99999:=by
    have:=GI hn.2;omega
   have hr:=(Gt c).1;refine Tot.ite (λho=> ?_) (λho=> ?_)
   .have ho:(A0 (E.wo<0)||decide ((w.AP.length:Int)<=E.wo))=A1:=ho;have hf:inB E.wo 0 ((w.AP.length:Int) - 1)=A3:=by
     rcases tf (inB E.wo 0<|(w.AP.length:Int) - 1) with d|d
     .have:=Ae.1 d;rw[Cj]at ho;obtain ho|ho:=ho<;>have:=BP ho<;>omega
     .exact d
    have:Bd w E=(w,A3):=by
     rw[dt c c1,asm (.inl hk) hf];rfl
    rw[this];exact Tot.ret rfl
   .have ho:(A0 (E.wo<0)||decide ((w.AP.length:Int)<=E.wo))=A3:=ho;rw[NO]at ho;have g0:=GI ho.1;have g1:=GI ho.2;have hin:inb E.wo w.AP.length=A1:=CI J J;have hi:inB E.wo 0 ((w.AP.length:Int) - 1)=A1:=Ae.2 ⟨J,J⟩;have hp:=La hr (i:=E.wo.toNat) J;obtain⟨⟨s0,s1⟩,⟨d0,d1⟩,_,l0,l1⟩:=KY hp;refine Tot.pos hin ?_;refine Tot.join (A:=λj=>j=(tR w,tR (Bd w E).1,(Bd w E).2,lnk<|pA w.AP E.wo.toNat,())) ?_ (λj hj=> ?_)
    .refine Tot.pos hin (Tot.ite (λhlt=>Tot.pos hin<|Tot.ret ?_) λhlt=>Tot.ret ?_)
     .have hlt:(pA w.AP E.wo.toNat).dst<(pA w.AP E.wo.toNat).src:=BP hlt;show(_,_,_,(pA w.AP E.wo.toNat).dst,())=_;unfold lnk;rw[AD J]
     .have hlt:¬(pA w.AP E.wo.toNat).dst<(pA w.AP E.wo.toNat).src:=GI hlt;show(_,_,_,(pA w.AP E.wo.toNat).src,())=_;unfold lnk;split
      .rfl
      .rw[show(pA w.AP E.wo.toNat).src=(pA w.AP E.wo.toNat).dst by omega]
    .subst hj;have hl3:=hr.ll;refine Tot.pos (CI l0 (by rw[hl3];exact l1)) ?_;simp only[Sv];rcases tf (bA w.B0 (lnk<|pA w.AP E.wo.toNat).toNat) with d|d
     .have hq:Bd w E=(At w E,A1):=by
       rw[dt c c1,jE hk hi,d];rfl
      simp only[hq,d,AO,AW,Bq];exact Tot.ret rfl
     .have hq:Bd w E=(w,A3):=by
       rw[dt c c1,jE hk hi,d];rfl
      simp only[hq,d,AO,AW,Bo];exact Tot.ret rfl
end Go.VS
end
end
