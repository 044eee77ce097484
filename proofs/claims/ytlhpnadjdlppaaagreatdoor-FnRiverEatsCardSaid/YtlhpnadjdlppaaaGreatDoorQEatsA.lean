/- Part 22. -/
import Derived.Test.YtlhpnadjdlppaaaGreatDoorQAU
set_option linter.unusedVariables false
set_option linter.unusedSimpArgs false
set_option linter.defProp false
open Bool renaming and_eq_true->AI,and_self->Cd,false->A3,not_eq_true'->Df,not_false->AE,not_true->AB,true->A1
open Decidable renaming decide->A0
open Go.Lib renaming itoa->B6
open List renaming getD_eq_getElem?_getD->BG,getElem?_append_right->Ek,getElem?_eq_getElem->B3,getElem_mem->Cm,getElem_of_mem->Dm,length_append->Ap,length_drop->Dc,length_take->DN,mem_append->Bk
open Nat renaming le_refl->Ar,lt_or_ge->GO,lt_or_gt_of_ne->Vh,sub_self->Ls
open Option renaming bind_some->A9,getD_some->CF,isSome_some->CE,none->U,some->I
section
set_option linter.all false
noncomputable section
namespace Go.VS
open Go Go.Proofs
set_option maxRecDepth 100000
def atG:Cx:=cX [] [] []
def acF:OKC Tryz.prog atG AF:=okc mixed<|AJ
def dw(x:List A7×Y5×Int×A2):Rnd (List A7×Y5×Int×A2) (Bool×A2) (A2):=if A0 (x.2.2.1<(x.1.length:Int)) then if inb x.2.2.1 x.1.length then if OS ((rd (dfl .note) x.1 x.2.2.1).fr) ((rd (dfl .note) x.1 x.2.2.1).nu) ((rd (dfl .note) x.1 x.2.2.1).to) ((rd (dfl .note) x.1 x.2.2.1).un) ((rd (dfl .note) x.1 x.2.2.1).tx) x.2.1.1 x.2.1.2.1 x.2.1.2.2.1 x.2.1.2.2.2.1 x.2.1.2.2.2.2.1 then I (.inr<|.inl (A1,())) else I (.inl (x.1,x.2.1,(w64<|x.2.2.1+1),())) else U else I (.inr<|.inr ())
def xR:=AZ dw
def rH:Loop:=⟨[(0,.sl .note),(3,Z7),(5,.int .i64)],[],0,[(4,.bool)],xR⟩
def ahc:LF Tryz.f20 [] [1,0,1,0,0] rH:=sq (v:= .nil) acF (b:=dw) kN
def UQ(x:List A7×Y5×A2):Option ((Bool×A2)×A2):=(AS (xR (x.1,x.2.1,0,())) (λa=>I (a,())) λa=>I ((A3,()),()))
def ui:Ent:=(20,U,⟨[.fz .note,Z8],[.bool],UQ⟩)
def ar1:SQ Tryz.prog ui:=sk (v:=t1<|.two (t1<|.one<|.loop rH) .nil) (fn:=Tryz.f20) acF<|kC ahc kN
def ars:Cx:=cX [Mc,Lh,MV,MK,LU,ui] [] [(48,50)]
def axS:OKC Tryz.prog ars AF:=okc mixed<|gC Nz<|gC Ng<|gC NE<|gC Nn<|gC Lj<|gC ar1<|AJ
def U9(x:List Int×A2):Option ((Bool×A2)×A2):=if A0 (1048576<(x.1.length:Int)) then I ((A1,()),()) else(JH x).bind λb=>(FZ (b.1.1,(11,b.1.2.1.2),())).bind λd=>(Fe (b.1.1,(11,b.1.2.1.2),())).bind λc=>(B8 (X:=Y2×Y3×Y2×Bool×Y2×Bool×Bool×A2) (λa=>if a.2.2.2.2.2.2.1 then if Ah (A0<|a.2.2.2.2.2.1=a.2.2.2.1) ((DZ (a.2.2.2.2.1,a.2.2.1,())).isSome) then let j:=((A0<|a.2.2.2.2.2.1=a.2.2.2.1)&&(((DZ (a.2.2.2.2.1,a.2.2.1,())).getD ((A3,()),())).1.1));I ((j,()),()) else U else if inb (a.1.2.2.2.2.2.1.length:Int) a.2.2.2.2.1.2.2.2.2.2.1.length then let e:=(rd (dfl .note) a.2.2.2.2.1.2.2.2.2.2.1 (a.1.2.2.2.2.2.1.length:Int)).fr;let f:=(rd (dfl .note) a.2.2.2.2.1.2.2.2.2.2.1 (a.1.2.2.2.2.2.1.length:Int)).nu;let g:=(rd (dfl .note) a.2.2.2.2.1.2.2.2.2.2.1 (a.1.2.2.2.2.2.1.length:Int)).to;let h:=(rd (dfl .note) a.2.2.2.2.1.2.2.2.2.2.1 (a.1.2.2.2.2.2.1.length:Int)).un;let i:=(rd (dfl .note) a.2.2.2.2.1.2.2.2.2.2.1 (a.1.2.2.2.2.2.1.length:Int)).tx;if A0 ((a.2.2.2.2.1.2.2.2.2.2.1.length:Int)=(w64<|(a.1.2.2.2.2.2.1.length:Int)+1)) then if inb a.2.1.2.1 a.1.2.1.length then(IU (((rd (dfl .AL) a.1.2.1 a.2.1.2.1).id,(rd (dfl .AL) a.1.2.1 a.2.1.2.1).up,(rd (dfl .AL) a.1.2.1 a.2.1.2.1).log,(rd (dfl .AL) a.1.2.1 a.2.1.2.1).fo,(rd (dfl .AL) a.1.2.1 a.2.1.2.1).AM,()),())).bind λk=>(UQ (k.1.1.2.2.2.2.2.1,(e,f,g,h,i,()),())).bind λl=>if l.1.1 then if inb a.2.1.2.1 a.2.2.2.2.1.2.1.length then(IU (((rd (dfl .AL) a.2.2.2.2.1.2.1 a.2.1.2.1).id,(rd (dfl .AL) a.2.2.2.2.1.2.1 a.2.1.2.1).up,(rd (dfl .AL) a.2.2.2.2.1.2.1 a.2.1.2.1).log,(rd (dfl .AL) a.2.2.2.2.1.2.1 a.2.1.2.1).fo,(rd (dfl .AL) a.2.2.2.2.1.2.1 a.2.1.2.1).AM,()),())).bind λm=>(UQ (m.1.1.2.2.2.2.2.1,(e,f,g,h,i,()),())).bind λn=>I (((!n.1.1),()),()) else U else I ((A3,()),()) else U else I ((A3,()),()) else U)<|(if !decide (c.1.2.1=d.1.2.1) then I (.inr (b.1.1,(11,b.1.2.1.2),d.1.1,d.1.2.1,c.1.1,c.1.2.1,A1,())) else(DZ (c.1.1,d.1.1,())).bind λo=>if !o.1.1 then I (.inr (b.1.1,(11,b.1.2.1.2),d.1.1,d.1.2.1,c.1.1,c.1.2.1,A1,())) else I (.inr (b.1.1,(11,b.1.2.1.2),d.1.1,d.1.2.1,c.1.1,c.1.2.1,(!c.1.2.1),()))))
def apE:Ent:=(8,U,⟨[.fz .u8],[.bool],U9⟩)
def aiZ:SQ Tryz.prog apE:=sk (v:=t1<|t1<|t1<|t1<|t1<|t1<|.two (.join [(3,Z29),(4,Z27),(5,Z2),(6,.bool),(7,Z2),(8,.bool),(43,.bool)] .nil .nil) .nil) (fn:=Tryz.f8) axS kN
end Go.VS
end
end
section
set_option linter.all false
noncomputable section
namespace Go.VS
open Go
def alk{w:Ak}(h:BR w)(h0:0<=w.ti)(h1:w.ti<=99999):Ee w=A1:=by
 have k1:=h.kl;have k2:=h.ll;have k3:=h.rl;have k4:=h.sl;have k5:=h.gl;unfold Ee Fs;simp only[AI,Ae,decide_eq_true_eq,Dq];refine⟨⟨h0,h1⟩,J,J,J,⟨?_,J⟩,⟨?_,J⟩,λi hi=> ?_,λi hi=> ?_⟩
 .unfold H8;exact Dq.2 λi hi=>h.s _ (by rw[nA,BG,B3 hi];exact Cm hi)
 .unfold H8;exact Dq.2 λi hi=>h.g _ (by rw[nA,BG,B3 hi];exact Cm hi)
 .unfold KJ;have:=h.k i J;rw[this.1,this.2];simp
 .exact La h hi
def K4{w:Ak}{e:Event}(h:(doM w e).2=A1):At w e=⟨w64<|w.ti+1,(doM w e).1.AH,(doM w e).1.B0,(doM w e).1.AP,(doM w e).1.Aw,(doM w e).1.got⟩:=by
 unfold At HS;rw[h,A8 rfl,Wa]
def mF{w:Ak}{e:Event}(h:(doM w e).2=A1):(At w e).ti=w64 (w.ti+1):=by rw[K4 h]
def Ut{w:Ak}{e:Event}(h:Ee w=A1)(ht:w.ti<99999)(hd:(doM w e).2=A1):Ee (At w e)=A1:=by
 obtain⟨h1,h2,h3⟩:=Gt h;have e1:w64 (w.ti+1)=w.ti+1:=AY J J;exact alk (VE h1 e) (by rw[mF hd,e1];omega) (by rw[mF hd,e1];omega)
def acs:CH [101,97,116]:=by unfold CH;decide
end Go.VS
end
end
section
set_option linter.all false
noncomputable section
namespace Go.VS
open Go
def py{l:List A7}{n:A7}(hl:l.length<=1000):Tot (UQ (l,(n.fr,n.nu,n.to,n.un,n.tx,()),())) λr=>r.1.1=A1↔n∈l:=by
 unfold UQ;refine Tot.sum (P:=λy=>y.1=A1/\n∈l) (Q:=λ_=>n ∉ l) ?_ (λy hy=>Tot.ret ⟨λ_=>hy.2,λ_=>hy.1⟩) (λy hy=>Tot.ret ⟨(λh=>by cases h),λh=>absurd h hy⟩);refine Tot.loop (λi s=>s=(l,(n.fr,n.nu,n.to,n.un,n.tx,()),(i:Int),())/\ ∀j,j<i->nA l j≠n) _ l.length (λi s hi hs=> ?_) ⟨rfl,λj hj=>absurd hj<|Nat.not_lt_zero _⟩;obtain⟨rfl,hs⟩:=hs;unfold dw;refine Tot.ite (λhc=> ?_) (λhc=> ?_)
 .have hc:(i:Int)<(l.length:Int):=BP hc;have hi':i<l.length:=J
  refine Tot.pos (AX hi') (Tot.ite (λhe=>Tot.ret ⟨rfl, ?_⟩) λhe=>Tot.ret ⟨hi',by rw[show w64 ((i:Int)+1)=_ from Ll rfl J],λj hj=> ?_⟩)
  .have he:OS (nA l i).fr (nA l i).nu (nA l i).to (nA l i).un (nA l i).tx n.fr n.nu n.to n.un n.tx=A1:=he;unfold OS at he;simp only[AI,decide_eq_true_eq]at he;have:nA l i=n:=by
    cases hN:nA l i;cases n;rw[hN]at he;simp only at he;obtain⟨rfl,rfl,rfl,rfl,rfl,_⟩:=he;rfl
   rw[← this];exact iw hi'
  .rcases GO j i with h|h
   .exact hs j h
   .have:j=i:=J
    subst this;intro e;have he:OS (nA l j).fr (nA l j).nu (nA l j).to (nA l j).un (nA l j).tx n.fr n.nu n.to n.un n.tx=A3:=he;rw[e]at he;unfold OS at he;simp at he
 .have hc:¬(i:Int)<(l.length:Int):=GI hc;refine Tot.ret λhn=> ?_;obtain⟨j,hj,e⟩:=Dm hn;refine hs j J ?_;rw[← e,nA,BG,B3 hj];rfl
def ais{k:AU}{m:Mark}{r:A4}(ht:Gv r=I m):Bs k CM r=if FO k.inbox m then I ⟨k.id,k.ti,k.nx,k.held,k.marks,Gf k.inbox (Aa k.inbox m.mf m.mn).toNat⟩ else U:=by
 unfold Bs Ey;cases h:FO k.inbox m<;>simp[lR,iT,mT,kh,eJ,lZ,pL,iN,ht,h]
def aet{l:List A7}(h:F3 l=A1){i:Nat}(hi:i<l.length):nA l i ∉ Gf l i:=by
 have irr:∀a b:Int,bef a b a b=A3:=λa b=>by unfold bef;simp
 have at_:∀j (hj:j<l.length),l[j]=nA l j:=λj hj=>by rw[nA,BG,B3 hj];rfl
 have dif:∀j,j<l.length->j≠i->nA l j≠nA l i:=λj hj hne e=>by
  rcases Vh hne with h1|h1
  .have:=Uh h i j h1 hi;rw[e,irr]at this;cases this
  .have:=Uh h j i h1 hj;rw[e,irr]at this;cases this
 intro hm;unfold Gf at hm;rcases Bk.1 hm with hm|hm
 .obtain⟨j,hj,e⟩:=Dm hm;rw[DN]at hj;rw[List.getElem_take,at_ j J]at e;exact dif j J J e
 .obtain⟨j,hj,e⟩:=Dm hm;rw[Dc]at hj;rw[List.getElem_drop,at_ (i+1+j) J]at e;exact dif _ J J e
def ahb{k:AA}{fr nu:Int}(h:Au k=A1)(ok:(CN k fr nu).2.2=A1):(CN k fr nu).2.1∈(stT k).inbox/\(CN k fr nu).2.1 ∉ (stT (CN k fr nu).1).inbox:=by
 have hk:=Cb h;have hf:=Ci hk.kok;unfold CN at ok ⊢;split at ok
 .rename_i hc;rw[A8 hc];simp only[AI,Df,decide_eq_false_iff_not]at hc;have h0:0<=Aa (stT k).inbox fr nu:=by have:=hc.2;omega
  obtain⟨hlt,Yo,hfr,hnu⟩:=Ii h0;have hno:=Wd<|G7 hf.i hlt;rw[hfr,hnu]at hno;obtain⟨⟨a0,a1⟩,⟨b0,b1⟩,⟨c0,c1⟩,_⟩:=hno;have ok2:=ok;simp only at ok;rw[A8 ok];refine⟨iw hlt, ?_⟩;unfold wrR at ok ⊢;split at ok
  .cases ok
  .rename_i o ho;have h1:=(QA hk ho).stT;have h3:=gF (r:=B<|B6 fr++32::(B6 nu++32::B6 (nA (stT k).inbox (Aa (stT k).inbox fr nu).toNat).un)) (a:=fr) (b:=nu) (c:=(nA (stT k).inbox (Aa (stT k).inbox fr nu).toNat).un) J J J J J J<|L_B _;have h2:=((JJ hk.kok).1 ho).1;rw[KQ acs<|TA CM _ _ _,show Bs (stT k) (B [101,97,116]) _=_ from ais h3]at h2;split at h2
   .cases h2;show _ ∉ (stT<|wrM k _).inbox;rw[h1];exact aet hf.i hlt
   .cases h2
 .cases ok
def axn{w:Ak}{e:Event}(h1:e.ki=11)(h:(doM w e).2=A1):isN e.at_=A1/\(CN (kA w.AH e.at_.toNat) e.fr e.nu).2.2=A1/\
  (doM w e).1=⟨w.ti,w.AH.set e.at_.toNat (CN (kA w.AH e.at_.toNat) e.fr e.nu).1,w.B0,w.AP,w.Aw,w.got++[(CN (kA w.AH e.at_.toNat) e.fr e.nu).2.1]⟩:=by
 revert h;unfold doM;rw[AD J,AD J];split
 .rename_i ha;unfold Hx;rw[AD J,AD J,AD J,AD J,AD J,A8 h1];unfold J9;split
  .rename_i hc;rw[AI]at hc;exact λ_=>⟨ha,hc.1,rfl⟩
  .intro h;cases h
 .intro h;cases h
def aw3{l:List Int}(hb:BOk l):U9 (l,())=I ((A1,()),()):=by
 obtain⟨w,e,hd,sm,_,ht⟩:=NQ hb;obtain⟨E,hE⟩:∃E:Event,E=⟨11,e.at_,e.fr,e.nu,e.wo,e.mix,e.kp,e.to,e.un,e.tx⟩:=⟨_,rfl⟩;have hk:E.ki=11:=by rw[hE]
 have ht':E.tx.size<=1048576:=by rw[hE];exact ht
 have eE:((11:Int),(tE e).2)=tE E:=by rw[hE]
 have sx:=MP sm E;unfold U9;apply Tot.val;refine Tot.ite (λ_=>Tot.ret rfl) (λ_=> ?_);refine Tot.bind (Tot.eq hd) λr1 h1=> ?_;subst h1;refine Tot.bind (Tot.eq (show FZ (tR w,((11:Int),(tE e).2),())=_ by rw[eE];exact NP sm ht')) λr2 h2=>Tot.bind (Tot.eq (show Fe (tR w,((11:Int),(tE e).2),())=_ by rw[eE];exact LP sm ht')) λr3 h3=> ?_;subst h2 h3;refine Tot.join (A:=λj=>j=(tR w,tE E,tR (Bd w E).1,(Bd w E).2,tR (Bd w E).1,(Bd w E).2,!(Bd w E).2,())) ?_ (λj hj=> ?_)
 .simp only[Ew sx,A9,AO,AB,A6];rw[← eE];exact Tot.ret rfl
 .subst hj;rcases L7 w E with⟨c,h⟩|⟨c,h⟩|⟨c,c1,c2,h⟩
  .rw[h]at sx ⊢;simp only[AE,A5,Ew sx,CE,Dr,AO,CF,Cd];exact Tot.ret rfl
  .rw[h]at sx ⊢;simp only[AE,A5,Ew sx,CE,Dr,AO,CF,Cd];exact Tot.ret rfl
  .have hw:=(Gt c).1;have hx:=(Gt<|Ut c c1 c2).1;have ex:=K4 c2;obtain⟨ha,hb2,hdw⟩:=axn hk c2;have ha:=Gq ha;rw[hdw]at ex;have kl:=hw.kl;have kx:=hx.kl;have ok1:=(hw.k E.at_.toNat J).1;have ok2:=(hx.k E.at_.toNat J).1;obtain⟨n,hn⟩:∃n,n=(CN (kA w.AH E.at_.toNat) E.fr E.nu).2.1:=⟨_,rfl⟩;obtain⟨b1,b2⟩:=ahb ok1 hb2;rw[← hn]at b1 b2 ex;have xg:(At w E).got=w.got++[n]:=by rw[ex]
   have xk:kA (At w E).AH E.at_.toNat=(CN (kA w.AH E.at_.toNat) E.fr E.nu).1:=by
    rw[ex];show kA (w.AH.set _ _) _=_;rw[JQ J,A8 rfl]
   rw[← xk]at b2;have gl:=hw.gl;have xgl:(At w E).got.length=w.got.length+1:=by rw[xg,Ap];rfl
   have xn:nA (At w E).got w.got.length=n:=by
    rw[xg,nA,BG,Ek<|Ar _,Ls];rfl
   have i1:inb (w.got.length:Int) (At w E).got.length=A1:=AX J;have i2:inb E.at_ w.AH.length=A1:=CI ha.1 J;have i3:inb E.at_ (At w E).AH.length=A1:=CI ha.1 J;rw[h];refine Tot.neg rfl (Tot.pos i1 ?_);simp only[Dd,xn];refine Tot.pos ?_ (Tot.pos i2 ?_)
   .rw[xgl];refine AT ?_;rw[AY J J];rfl
   simp only[Pe];refine Tot.bind (Tot.eq<|JX ok1) λr4 h4=> ?_;subst h4;have f1:=Ci (Cb ok1).kok;have f2:=Ci (Cb ok2).kok;have l1:=f1.il;have l2:=f2.il;refine Tot.bind (py (l:=(stT<|kA w.AH E.at_.toNat).inbox) (n:=n) J) λr5 h5=> ?_;refine Tot.pos (h5.2 b1)<|Tot.pos i3 ?_;refine Tot.bind (Tot.eq<|JX ok2) λr6 h6=> ?_;subst h6;refine Tot.bind (py (l:=(stT<|kA (At w E).AH E.at_.toNat).inbox) (n:=n) J) λr7 h7=>Tot.ret ?_;have:r7.1.1=A3:=by
    rcases tf r7.1.1 with d|d
    .exact absurd (h7.1 d) b2
    .exact d
   rw[this];rfl
end Go.VS
end
end
