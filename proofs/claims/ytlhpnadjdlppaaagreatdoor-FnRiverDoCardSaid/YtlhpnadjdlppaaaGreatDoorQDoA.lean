/- Part 22. -/
import Derived.Test.YtlhpnadjdlppaaaGreatDoorQAU
set_option linter.unusedVariables false
set_option linter.unusedSimpArgs false
set_option linter.defProp false
open Bool renaming and_eq_true->AI,false->A3,not_false->AE,not_true->AB,or_self->Fa,true->A1
open Decidable renaming decide->A0
open Int renaming toNat->AK,toNat_natCast->Bw
open List renaming append_nil->C1,getD_eq_getElem?_getD->BG,getElem?_eq_getElem->B3,getElem_mem->Cm,length_append->Ap,take->BH,take_left'->Ke
open Option renaming getD_some->CF,isSome_some->CE,none->U,some->I
section
set_option linter.all false
noncomputable section
namespace Go.VS
open Go Go.Proofs
set_option maxRecDepth 100000
def ago:Cx:=cX [Mc,Lh,MV,MK,VW,ju,nJ] [] [(36,39),(46,49)]
def aen:OKC Tryz.prog ago AF:=okc mixed<|gC Nz<|gC Ng<|gC NE<|gC Nn<|gC Zv<|gC tL<|gC aAf<|AJ
def TE(x:List Int×A2):Option ((Bool×A2)×A2):=if A0 (1048576<(x.1.length:Int)) then I ((A1,()),()) else(JH x).bind λb=>(FZ b.1).bind λc=>(LG (b.1.1,())).bind λd=>(Fe b.1).bind λa=>if Ah (!(!decide (a.1.2.1=c.1.2.1))) ((DZ (a.1.1,c.1.1,())).isSome) then if(!decide (a.1.2.1=c.1.2.1))||(!(((DZ (a.1.1,c.1.1,())).getD ((A3,()),())).1.1)) then I ((A3,()),()) else if !d.1.1 then let e:=((!a.1.2.1)&&(A0<|(a.1.1.2.1.length:Int)=0));I ((e,()),()) else if !a.1.2.1 then(DZ (a.1.1,b.1.1,())).bind λf=>I (f.1,()) else(Pg (a.1.1,())).bind λg=>if g.1.1 then if A0 (a.1.1.1=(w64<|b.1.1.1+1)) then if A0 ((b.1.1.2.2.2.2.1.length:Int)<=(a.1.1.2.2.2.2.1.length:Int)) then if A0 (0<=(b.1.1.2.2.2.2.1.length:Int))&&A0 ((b.1.1.2.2.2.2.1.length:Int)<=(a.1.1.2.2.2.2.1.length:Int)) then(L5 ((BH (AK (b.1.1.2.2.2.2.1.length:Int)) a.1.1.2.2.2.2.1),b.1.1.2.2.2.2.1,())).bind λh=>if h.1.1 then if A0 ((b.1.1.2.2.2.2.2.1.length:Int)<=(a.1.1.2.2.2.2.2.1.length:Int)) then if A0 (0<=(b.1.1.2.2.2.2.2.1.length:Int))&&A0 ((b.1.1.2.2.2.2.2.1.length:Int)<=(a.1.1.2.2.2.2.2.1.length:Int)) then(L5 ((BH (AK (b.1.1.2.2.2.2.2.1.length:Int)) a.1.1.2.2.2.2.2.1),b.1.1.2.2.2.2.2)).bind λi=>I (i.1,()) else U else I ((A3,()),()) else I ((A3,()),()) else U else I ((A3,()),()) else I ((A3,()),()) else I ((A3,()),()) else U
def axC:Ent:=(4,U,⟨[.fz .u8],[.bool],TE⟩)
def aoX:SQ Tryz.prog axC:=sk (v:= .nil) (fn:=Tryz.f4) aen kN
end Go.VS
end
end
section
set_option linter.all false
noncomputable section
namespace Go.VS
open Go
def alk{w:Ak}(h:BR w)(h0:0<=w.ti)(h1:w.ti<=99999):Ee w=A1:=by
 have k1:=h.kl;have k2:=h.ll;have k3:=h.rl;have k4:=h.sl;have k5:=h.gl;unfold Ee Fs;simp only[AI,Ae,decide_eq_true_eq,Dq];refine⟨⟨h0,h1⟩,J,J,J,⟨?_,J⟩,⟨?_,J⟩,λi hi=> ?_,λi hi=> ?_⟩
 .unfold H8;exact Dq.2 λi hi=>h.s _ (by rw[nA,BG,B3 hi];exact Cm hi)
 .unfold H8;exact Dq.2 λi hi=>h.g _ (by rw[nA,BG,B3 hi];exact Cm hi)
 .unfold KJ;have:=h.k i J;rw[this.1,this.2];simp
 .exact La h hi
def K4{w:Ak}{e:Event}(h:(doM w e).2=A1):At w e=⟨w64<|w.ti+1,(doM w e).1.AH,(doM w e).1.B0,(doM w e).1.AP,(doM w e).1.Aw,(doM w e).1.got⟩:=by
 unfold At HS;rw[h,A8 rfl,Wa]
def mF{w:Ak}{e:Event}(h:(doM w e).2=A1):(At w e).ti=w64 (w.ti+1):=by rw[K4 h]
def Ut{w:Ak}{e:Event}(h:Ee w=A1)(ht:w.ti<99999)(hd:(doM w e).2=A1):Ee (At w e)=A1:=by
 obtain⟨h1,h2,h3⟩:=Gt h;have e1:w64 (w.ti+1)=w.ti+1:=AY J J;exact alk (VE h1 e) (by rw[mF hd,e1];omega) (by rw[mF hd,e1];omega)
def ajc(w:Ak)(e:Event):(∃a,(doM w e).1.Aw=w.Aw++a)/\ ∃b,(doM w e).1.got=w.got++b:=by
 have z:∀W:Ak,W.Aw=w.Aw->W.got=w.got->(∃a,W.Aw=w.Aw++a)/\ ∃b,W.got=w.got++b:=λW h1 h2=>⟨⟨[],by rw[h1,C1]⟩,⟨[],by rw[h2,C1]⟩⟩;unfold doM;split
 .unfold DD Fo
  (repeat' split)<;>exact z _ rfl rfl
 .split
  .unfold FF;split<;>exact z _ rfl rfl
  .split
   .unfold Hx Jz J9 GL
    (repeat' split)<;>first|exact z _ rfl rfl|exact⟨⟨_,rfl⟩,⟨[],by rw[C1]⟩⟩|exact⟨⟨[],by rw[C1]⟩,⟨_,rfl⟩⟩
   .exact z _ rfl rfl
def agi{l:List Int}(hb:BOk l):TE (l,())=I ((A1,()),()):=by
 obtain⟨w,e,hd,sm,_,ht⟩:=NQ hb;have sx:=MP sm e;unfold TE;apply Tot.val;refine Tot.ite (λ_=>Tot.ret rfl) (λ_=> ?_);refine Tot.bind (Tot.eq hd) λr1 h1=> ?_;subst h1;refine Tot.bind (Tot.eq<|NP sm ht) λr2 h2=>Tot.bind (Tot.eq<|Rm sm) λr3 h3=>Tot.bind (Tot.eq<|LP sm ht) λr4 h4=> ?_;subst h2 h3 h4;simp only[Ew sx,CE,Dr,A5,CF,AO,AB,Fa,A6];rcases L7 w e with⟨c,h⟩|⟨c,h⟩|⟨c,c1,c2,h⟩
 .have c':Fs w.ti w.AH w.B0 w.AP w.Aw w.got=A3:=c;rw[c',h];exact Tot.ret rfl
 .have c':Fs w.ti w.AH w.B0 w.AP w.Aw w.got=A1:=c;rw[c',h];simp only[AB,A6,AE,A5];rw[show DZ (tR w,tR w,())=_ from Ew sm];exact Tot.ret rfl
 .have c':Fs w.ti w.AH w.B0 w.AP w.Aw w.got=A1:=c;have hx:=Ut c c1 c2;have hs:=(Gt hx).1;obtain⟨⟨a,ha⟩,⟨b,hg⟩⟩:=ajc w e;have es:(At w e).Aw=w.Aw++a:=by rw[K4 c2];exact ha
  have eg:(At w e).got=w.got++b:=by rw[K4 c2];exact hg
  rw[c',h];simp only[AB,A6];refine Tot.bind (Tot.eq<|qt hs.sm) λr5 h5=> ?_;subst h5;refine Tot.pos hx<|Tot.pos (AT<|mF c2) ?_;have l1:(w.Aw.length:Int)<=((At w e).Aw.length:Int):=by rw[es,Ap];omega
  have l2:(w.got.length:Int)<=((At w e).got.length:Int):=by rw[eg,Ap];omega
  refine Tot.pos (AT l1) (Tot.pos (by rw[AI];exact⟨AT J,AT l1⟩) ?_);have t1:BH (AK (w.Aw.length:Int)) (At w e).Aw=w.Aw:=by rw[es,Bw,Ke];rfl
  have t2:BH (AK (w.got.length:Int)) (At w e).got=w.got:=by rw[eg,Bw,Ke];rfl
  refine Tot.bind (Tot.eq (show L5 (BH (AK (w.Aw.length:Int)) (At w e).Aw,w.Aw,())=_ by rw[t1];exact XQ sm.sl)) λr6 h6=> ?_;subst h6;refine Tot.pos rfl (Tot.pos (AT l2)<|Tot.pos (by rw[AI];exact⟨AT J,AT l2⟩) ?_);refine Tot.bind (Tot.eq (show L5 (BH (AK (w.got.length:Int)) (At w e).got,w.got,())=_ by rw[t2];exact XQ sm.gl)) λr7 h7=> ?_;subst h7;exact Tot.ret rfl
end Go.VS
end
end
