/- Part 22. -/
import Derived.Test.YtlhpnadjdlppaaaGreatDoorQAU
set_option linter.unusedVariables false
set_option linter.unusedSimpArgs false
set_option linter.defProp false
open Bool renaming and_self->Cd,false->A3,false_ne_true->CV,not_false->AE,not_true->AB,true->A1,true_and->AW
open Decidable renaming decide->A0
open List renaming length_append->Ap,length_drop->Dc,length_take->DN
open Option renaming bind_some->A9,getD_some->CF,isSome_some->CE,none->U,some->I
section
set_option linter.all false
noncomputable section
namespace Go.VS
open Go Go.Proofs
set_option maxRecDepth 100000
def av9:Cx:=cX [Sk] [] []
def abV:OKC Tryz.prog av9 AF:=okc mixed<|gC XG<|AJ
def Tj(x:Y2×Y2×Int×A2):Rnd (Y2×Y2×Int×A2) (Bool×A2) (A2):=if A0 (x.2.2.1<(x.1.2.1.length:Int)) then if inb x.2.2.1 x.1.2.1.length then if inb x.2.2.1 x.2.1.2.1.length then(LQ (((rd (dfl .AL) x.1.2.1 x.2.2.1).id,(rd (dfl .AL) x.1.2.1 x.2.2.1).up,(rd (dfl .AL) x.1.2.1 x.2.2.1).log,(rd (dfl .AL) x.1.2.1 x.2.2.1).fo,(rd (dfl .AL) x.1.2.1 x.2.2.1).AM,()),((rd (dfl .AL) x.2.1.2.1 x.2.2.1).id,(rd (dfl .AL) x.2.1.2.1 x.2.2.1).up,(rd (dfl .AL) x.2.1.2.1 x.2.2.1).log,(rd (dfl .AL) x.2.1.2.1 x.2.2.1).fo,(rd (dfl .AL) x.2.1.2.1 x.2.2.1).AM,()),())).bind λa=>if !a.1.1 then I (.inr<|.inl (A3,())) else I (.inl (x.1,x.2.1,(w64<|x.2.2.1+1),())) else U else U else I (.inr<|.inr ())
def iJ:=AZ Tj
def aeD:Loop:=⟨[(2,Z29),(3,Z29),(5,.int .i64)],[],0,[(4,.bool)],iJ⟩
def awo:LF Tryz.f21 [] [1,0,1,0,0] aeD:=sq (v:= .nil) abV (b:=Tj) kN
def PK(x:Y2×Y2×A2):Option ((Bool×A2)×A2):=(AS (iJ (x.1,x.2.1,0,())) (λa=>I (a,())) λa=>I ((A1,()),()))
def oM:Ent:=(21,U,⟨[Z30,Z30],[.bool],PK⟩)
def aak:SQ Tryz.prog oM:=sk (v:=t1<|.two (t1<|.one<|.loop aeD) .nil) (fn:=Tryz.f21) abV<|kC awo kN
def az2:Cx:=cX [Mc,Lh,MV,MK,oM] [] [(47,49),(55,62)]
def ao6:OKC Tryz.prog az2 AF:=okc mixed<|gC Nz<|gC Ng<|gC NE<|gC Nn<|gC aak<|AJ
def Rx(x:List Int×A2):Option ((Bool×A2)×A2):=if A0 (1048576<(x.1.length:Int)) then I ((A1,()),()) else(JH x).bind λd=>(FZ (d.1.1,(5,d.1.2.1.2),())).bind λc=>(Fe (d.1.1,(5,d.1.2.1.2),())).bind λb=>(B8 (X:=Y2×Y2×Bool×Y2×Bool×Bool×A2) (λa=>if a.2.2.2.2.2.1 then if Ah (A0<|a.2.2.2.2.1=a.2.2.1) ((DZ (a.2.2.2.1,a.2.1,())).isSome) then let e:=((A0<|a.2.2.2.2.1=a.2.2.1)&&(((DZ (a.2.2.2.1,a.2.1,())).getD ((A3,()),())).1.1));I ((e,()),()) else U else(PK (a.2.2.2.1,a.1,())).bind λf=>let g:=(f.1.1&&(A0<|(a.2.2.2.1.2.2.2.1.length:Int)=(w64<|(a.1.2.2.2.1.length:Int) - 1)));I ((g,()),()))<|(if !decide (b.1.2.1=c.1.2.1) then I (.inr (d.1.1,c.1.1,c.1.2.1,b.1.1,b.1.2.1,A1,())) else(DZ (b.1.1,c.1.1,())).bind λh=>if !h.1.1 then I (.inr (d.1.1,c.1.1,c.1.2.1,b.1.1,b.1.2.1,A1,())) else I (.inr (d.1.1,c.1.1,c.1.2.1,b.1.1,b.1.2.1,(!b.1.2.1),()))))
def asI:Ent:=(9,U,⟨[.fz .u8],[.bool],Rx⟩)
def ajR:SQ Tryz.prog asI:=sk (v:=t1<|t1<|t1<|t1<|t1<|t1<|.two (.join [(3,Z29),(5,Z2),(6,.bool),(7,Z2),(8,.bool),(42,.bool)] .nil .nil) .nil) (fn:=Tryz.f9) ao6 kN
end Go.VS
end
end
section
set_option linter.all false
noncomputable section
namespace Go.VS
open Go
def K4{w:Ak}{e:Event}(h:(doM w e).2=A1):At w e=⟨w64<|w.ti+1,(doM w e).1.AH,(doM w e).1.B0,(doM w e).1.AP,(doM w e).1.Aw,(doM w e).1.got⟩:=by
 unfold At HS;rw[h,A8 rfl,Wa]
def aX{x w:Ak}(h:x.AH=w.AH)(kl:w.AH.length<=1048576)(k:∀y∈w.AH,EL y):PK (tR x,tR w,())=I ((A1,()),()):=by
 have h0:iJ (tR x,tR w,0,())=I (.inr ()):=
  Ca (b:=Tj) (λi=>(tR x,tR w,(i:Int),())) w.AH.length (λi hi=>by
   unfold Tj;have hc:=Vl<|Qz k i;simp only[h,AX hi,BS hi,A5,NU,hc,A9,AB,A6,BL hi (by omega:w.AH.length<=9223372036854775807)]) (by
   unfold Tj;simp only[h,Fv,A6])
 unfold PK;simp only[h0,De]
def ZK{w:Ak}{e:Event}(h1:e.ki=4\/e.ki=5\/e.ki=6)(h:(doM w e).2=A1):inB e.wo 0 ((w.AP.length:Int) - 1)=A1:=by
 unfold doM DD at h;rw[A8 h1]at h;rcases tf (inB e.wo 0<|(w.AP.length:Int) - 1) with c|c
 .exact c
 .rw[AD (by rw[c];exact CV)]at h;cases h
def ayb{w:Ak}{e:Event}(h1:e.ki=5)(h:(doM w e).2=A1):inB e.wo 0 ((w.AP.length:Int) - 1)=A1/\(doM w e).1=⟨w.ti,w.AH,w.B0,Fw w.AP e.wo.toNat,w.Aw,w.got⟩:=by
 have hc:=ZK (.inr<|.inl h1) h;refine⟨hc, ?_⟩;unfold doM DD;rw[A8<|.inr<|.inl h1,A8 hc,AD J,A8 h1]
def aa2{ra:List AR}{i:Nat}(h:i<ra.length):(Fw ra i).length=ra.length - 1:=by
 unfold Fw;rw[Ap,DN,Dc];omega
def afT{l:List Int}(hb:BOk l):Rx (l,())=I ((A1,()),()):=by
 obtain⟨w,e,hd,sm,_,ht⟩:=NQ hb;obtain⟨E,hE⟩:∃E:Event,E=⟨5,e.at_,e.fr,e.nu,e.wo,e.mix,e.kp,e.to,e.un,e.tx⟩:=⟨_,rfl⟩;have hk:E.ki=5:=by rw[hE]
 have ht':E.tx.size<=1048576:=by rw[hE];exact ht
 have eE:((5:Int),(tE e).2)=tE E:=by rw[hE]
 have sx:=MP sm E;unfold Rx;apply Tot.val;refine Tot.ite (λ_=>Tot.ret rfl) (λ_=> ?_);refine Tot.bind (Tot.eq hd) λr1 h1=> ?_;subst h1;refine Tot.bind (Tot.eq (show FZ (tR w,((5:Int),(tE e).2),())=_ by rw[eE];exact NP sm ht')) λr2 h2=>Tot.bind (Tot.eq (show Fe (tR w,((5:Int),(tE e).2),())=_ by rw[eE];exact LP sm ht')) λr3 h3=> ?_;subst h2 h3;refine Tot.join (A:=λj=>j=(tR w,tR (Bd w E).1,(Bd w E).2,tR (Bd w E).1,(Bd w E).2,!(Bd w E).2,())) ?_ (λj hj=> ?_)
 .simp only[Ew sx,A9,AO,AB,A6];exact Tot.ret rfl
 .subst hj;rcases L7 w E with⟨c,h⟩|⟨c,h⟩|⟨c,c1,c2,h⟩
  .rw[h]at sx ⊢;simp only[AE,A5,Ew sx,CE,Dr,AO,CF,Cd];exact Tot.ret rfl
  .rw[h]at sx ⊢;simp only[AE,A5,Ew sx,CE,Dr,AO,CF,Cd];exact Tot.ret rfl
  .obtain⟨hi,hx⟩:=ayb hk c2;have hi:=Ae.1 hi;have es:=K4 c2;rw[hx]at es;rw[h];simp only[AB,A6];refine Tot.bind (Tot.eq<|aX (x:=At w E) (w:=w) (by rw[es]) sm.kl sm.k) λr4 h4=> ?_;subst h4;have e1:(At w E).AP.length=w.AP.length - 1:=by rw[es];exact aa2 J
   have e2:w64 ((w.AP.length:Int) - 1)=(w.AP.length:Int) - 1:=OD sm.rl;simp only[e1,e2,AW];rw[AT J];exact Tot.ret rfl
end Go.VS
end
end
