/- Part 22. -/
import Derived.Test.YtplahhbealfpcaaGreatDoorQAU
set_option linter.unusedVariables false
set_option linter.unusedSimpArgs false
set_option linter.defProp false
open Bool renaming and_eq_false_iff->TQ,and_eq_true->AE,and_self->Du,eq_iff_iff->M5,false->A3,false_and->AO,false_or->Bi,not_eq_true'->CL,not_false->AI,not_true->AB,or_eq_true->CB,or_self->FU,true->A0,true_and->AW,true_or->Bo
open Classical renaming byContradiction->aBV
open Decidable renaming decide->A1
open Eq renaming trans->Jw
open Int renaming mul_le_mul_of_nonneg_left->aBU,mul_nonneg->Qf,tdiv->Ax,tdiv_eq_ediv_of_nonneg->Fv,toNat->AL,toNat_natCast->Bb,toNat_of_nonneg->NI
open List renaming any_eq_true->Gz,getElem?_eq_getElem->Av,getElem_mem->CJ,getElem_of_mem->DG,length_cons->Bt,length_nil->CA,length_take->Cw,map_append->Es,mem_cons->Bj,mem_of_mem_take->Gx,mem_singleton->C9,pairwise_iff_getElem->Ou,take->BH,take_add_one->JI,take_length->Dw
open Nat renaming le_refl->As,zero_add->DF
open Option renaming bind_some->A9,getD_some->DO,isSome_some->DY,none->U,some->I
section
set_option linter.all false
noncomputable section
namespace Go.VS
open Go Go.Proofs
set_option maxRecDepth 100000
def aov:Cx:=cX [S6] [] []
def aAL:OKC Tryz.prog aov AF:=okc mixed<|gC Uu<|AJ
def fM(x:List A6×List A6×Int×Int×A2):Rnd (List A6×List A6×Int×Int×A2) (Bool×A2) (List A6×A2):=if A1 (x.2.2.2.1<x.2.2.1) then if inb x.2.2.2.1 x.2.1.length then let a:=(rd (dfl .note) x.2.1 x.2.2.2.1).fr;let b:=(rd (dfl .note) x.2.1 x.2.2.2.1).nu;let c:=(rd (dfl .note) x.2.1 x.2.2.2.1).to;let d:=(rd (dfl .note) x.2.1 x.2.2.2.1).un;let e:=(rd (dfl .note) x.2.1 x.2.2.2.1).tx;(OA ((a,b,c,d,e,()),())).bind λf=>if !f.1.1 then I (.inr<|.inl (A3,())) else I (.inl (x.1,x.2.1,x.2.2.1,(w64<|x.2.2.2.1+1),())) else U else I (.inr<|.inr (x.1,()))
def rF:=AR fM
def xn:Loop:=⟨[(0,.sl .note),(5,.sl .note),(6,.int .i64),(7,.int .i64)],[(0,.sl .note)],0,[(2,.bool)],rF⟩
def ao3:LF Tryz.f55 [] [1,0,1,0,0] xn:=sq (v:= .nil) aAL (b:=fM) kN
def WA(x:List A6×A2):Option ((Bool×A2)×A2):=(AM (rF (x.1,x.1,(x.1.length:Int),0,())) (λa=>I (a,())) (λa=>let b:=(A1<|(a.1.length:Int)<=6);I ((b,()),())))
def aAA:Ent:=(55,U,⟨[.fz .note],[.bool],WA⟩)
def aiU:SQ Tryz.prog aAA:=sk (v:=t1<|.two (t1<|.one<|.loop xn) .nil) (fn:=Tryz.f55) aAL<|kC ao3 kN
def alX:Cx:=cX [JY,Ir,F3,aAA] [] [(54,56)]
def gN:OKC Tryz.prog alX AF:=okc mixed<|gC KD<|gC JT<|gC FK<|gC aiU<|AJ
def dK(x:List AS×Int×Int×A2):Rnd (List AS×Int×Int×A2) (Bool×A2) (A2):=if A1 (x.2.2.1<x.2.1) then if inb x.2.2.1 x.1.length then let a:=(rd (dfl .An) x.1 x.2.2.1).src;let b:=(rd (dfl .An) x.1 x.2.2.1).dst;let c:=(rd (dfl .An) x.1 x.2.2.1).data;let f:=(rd (dfl .An) x.1 x.2.2.1).sp;(FJ (a,())).bind λd=>if !d.1.1 then I (.inr<|.inl (A3,())) else(FJ (b,())).bind λe=>if !e.1.1 then I (.inr<|.inl (A3,())) else if !decide ((w64<|a - b)=1) then if !decide ((w64<|b - a)=1) then I (.inr<|.inl (A3,())) else if A1 (40<(c.size:Int)) then I (.inr<|.inl (A3,())) else I (.inl (x.1,x.2.1,(w64<|x.2.2.1+1),())) else if A1 (40<(c.size:Int)) then I (.inr<|.inl (A3,())) else I (.inl (x.1,x.2.1,(w64<|x.2.2.1+1),())) else U else I (.inr<|.inr ())
def q7:=AR dK
def vj:Loop:=⟨[(60,.sl .An),(61,.int .i64),(62,.int .i64)],[],2,[(2,.bool)],q7⟩
def aki:LF Tryz.f31 [] [1,1,1,0,1,0,0] vj:=sq (v:= .nil) gN (b:=dK) kN
def dL(x:Y2×List AA×Int×Int×A2):Rnd (Y2×List AA×Int×Int×A2) (Bool×A2) (Y2×A2):=if A1 (x.2.2.2.1<x.2.2.1) then if inb x.2.2.2.1 x.2.1.length then let a:=(rd (dfl .AQ) x.2.1 x.2.2.2.1).id;let b:=(rd (dfl .AQ) x.2.1 x.2.2.2.1).up;let c:=(rd (dfl .AQ) x.2.1 x.2.2.2.1).log;let d:=(rd (dfl .AQ) x.2.1 x.2.2.2.1).fo;let e:=(rd (dfl .AQ) x.2.1 x.2.2.2.1).AN;if Ak (!(!decide (a=x.2.2.2.1))) ((Hk ((a,b,c,d,e,()),())).isSome) then if(!decide (a=x.2.2.2.1))||(!(((Hk ((a,b,c,d,e,()),())).getD ((A3,()),())).1.1)) then I (.inr<|.inl (A3,())) else I (.inl (x.1,x.2.1,x.2.2.1,(w64<|x.2.2.2.1+1),())) else U else U else I (.inr<|.inr (x.1,()))
def q8:=AR dL
def vk:Loop:=⟨[(1,Z29),(42,.sl .AQ),(43,.int .i64),(44,.int .i64)],[(1,Z29)],0,[(2,.bool)],q8⟩
def akH:LF Tryz.f31 [] [1,1,0,1,0,0] vk:=sq (v:= .nil) gN (b:=dL) kN
def Ro(x:Y2×A2):Option ((Bool×A2)×A2):=(By (x.1.1,0,99999,())).bind λc=>if !c.1.1 then I ((A3,()),()) else if !decide ((x.1.2.1.length:Int)=4) then I ((A3,()),()) else if !decide ((x.1.2.2.1.length:Int)=3) then I ((A3,()),()) else if A1 (30<(x.1.2.2.2.1.length:Int)) then I ((A3,()),()) else(WA (x.1.2.2.2.2.1,())).bind λd=>if !d.1.1 then I ((A3,()),()) else(WA x.1.2.2.2.2.2).bind λe=>if !e.1.1 then I ((A3,()),()) else(AM (q8 (x.1,x.1.2.1,(x.1.2.1.length:Int),0,())) (λa=>I (a,())) λa=>(AM (q7 (a.1.2.2.2.1,(a.1.2.2.2.1.length:Int),0,())) (λb=>I (b,())) λb=>I ((A0,()),())))
def gH:Ent:=(31,U,⟨[Z30],[.bool],Ro⟩)
def sd:SQ Tryz.prog gH:=sk (v:=t1<|t1<|.two (t1<|.one<|.loop vk)<|.two (t1<|.one<|.loop vj) .nil) (fn:=Tryz.f31) gN<|kC akH<|kC aki kN
def aou:Cx:=cX [LQ] [] []
def aAK:OKC Tryz.prog aou AF:=okc mixed<|gC MP<|AJ
def fK(x:List A6×List A6×Int×Int×A2):Rnd (List A6×List A6×Int×Int×A2) (Bool×A2) (A2):=if A1 (x.2.2.2.1<x.2.2.1) then if inb x.2.2.2.1 x.2.1.length then let a:=(rd (dfl .note) x.2.1 x.2.2.2.1).fr;let b:=(rd (dfl .note) x.2.1 x.2.2.2.1).nu;let d:=(rd (dfl .note) x.2.1 x.2.2.2.1).to;let e:=(rd (dfl .note) x.2.1 x.2.2.2.1).un;let f:=(rd (dfl .note) x.2.1 x.2.2.2.1).tx;(Gg (x.1,a,b,())).bind λc=>if A1 (c.1.1<x.2.2.2.1) then I (.inr<|.inl (A3,())) else I (.inl (x.1,x.2.1,x.2.2.1,(w64<|x.2.2.2.1+1),())) else U else I (.inr<|.inr ())
def rE:=AR fK
def xm:Loop:=⟨[(0,.sl .note),(5,.sl .note),(6,.int .i64),(7,.int .i64)],[],0,[(2,.bool)],rE⟩
def ao2:LF Tryz.f32 [] [1,0,1,0,0] xm:=sq (v:= .nil) aAK (b:=fK) kN
def W9(x:List A6×A2):Option ((Bool×A2)×A2):=(AM (rE (x.1,x.1,(x.1.length:Int),0,())) (λa=>I (a,())) λa=>I ((A0,()),()))
def aA9:Ent:=(32,U,⟨[.fz .note],[.bool],W9⟩)
def aiT:SQ Tryz.prog aA9:=sk (v:=t1<|.two (t1<|.one<|.loop xm) .nil) (fn:=Tryz.f32) aAK<|kC ao2 kN
def aqR:Cx:=cX [] [] []
def aBh:OKC Tryz.prog aqR AF:=okc mixed<|AJ
def WV(x:Y4×List A6×Int×Int×A2):Rnd (Y4×List A6×Int×Int×A2) (Bool×A2) (A2):=if A1 (x.2.2.2.1<x.2.2.1) then if inb x.2.2.2.1 x.2.1.length then let a:=(rd (dfl .note) x.2.1 x.2.2.2.1).fr;let b:=(rd (dfl .note) x.2.1 x.2.2.2.1).nu;let c:=(rd (dfl .note) x.2.1 x.2.2.2.1).to;let d:=(rd (dfl .note) x.2.1 x.2.2.2.1).un;let e:=(rd (dfl .note) x.2.1 x.2.2.2.1).tx;if MF a b c d e x.1.1 x.1.2.1 x.1.2.2.1 x.1.2.2.2.1 x.1.2.2.2.2.1 then I (.inr<|.inl (A0,())) else I (.inl (x.1,x.2.1,x.2.2.1,(w64<|x.2.2.2.1+1),())) else U else I (.inr<|.inr ())
def fp:=AR WV
def aAE:Loop:=⟨[(3,Z5),(7,.sl .note),(8,.int .i64),(9,.int .i64)],[],0,[(4,.bool)],fp⟩
def apq:LF Tryz.f34 [] [1,0,1,0,0] aAE:=sq (v:= .nil) aBh (b:=WV) kN
def KP(x:List A6×Y4×A2):Option ((Bool×A2)×A2):=(AM (fp (x.2.1,x.1,(x.1.length:Int),0,())) (λa=>I (a,())) λa=>I ((A3,()),()))
def jN:Ent:=(34,U,⟨[.fz .note,Z6],[.bool],KP⟩)
def xk:SQ Tryz.prog jN:=sk (v:=t1<|.two (t1<|.one<|.loop aAE) .nil) (fn:=Tryz.f34) aBh<|kC apq kN
def aoo:Cx:=cX [dN] [] []
def aAJ:OKC Tryz.prog aoo AF:=okc mixed<|gC pX<|AJ
def Vp(x:Y4×List Int×Int×A2):Rnd (Y4×List Int×Int×A2) (A2) (List Int×A2):=if !decide (x.2.2.1=x.1.2.2.1) then(Ip (x.2.2.1,x.1.2.2.1,())).bind λa=>if Ac (x.2.1.length+([a.1.1]:List Int).length) then I (.inl (x.1,(x.2.1++([a.1.1]:List Int)),a.1)) else U else I (.inr<|.inr (x.2.1,()))
def cI:=AR Vp
def xi:Loop:=⟨[(1,Z5),(3,.row 3 .int),(4,.int .i64)],[(3,.row 3 .int)],0,[],cI⟩
def ao1:LF Tryz.f56 [] [1,1,0,1,0,0] xi:=sq (v:= .nil) aAJ (b:=Vp) kN
def fZ(x:Y4×A2):Option ((List Int×A2)×A2):=(AM (cI (x.1,([x.1.1]:List Int),x.1.1,())) (λ_=>U) λa=>I (a,()))
def aA5:Ent:=(56,U,⟨[Z6],[.row 3 .int],fZ⟩)
def aiq:SQ Tryz.prog aA5:=sk (v:=t1<|t1<|.two (t1<|.one<|.loop xi) .nil) (fn:=Tryz.f56) aAJ<|kC ao1 kN
def apd:Cx:=cX [jN,aA5] [] [(16,23),(49,56)]
def aAW:OKC Tryz.prog apd AF:=okc mixed<|gC xk<|gC aiq<|AJ
def fc(x:List AG×List AG×Y4×List Int×Int×Int×A2):Rnd (List AG×List AG×Y4×List Int×Int×Int×A2) (Bool×A2) (A2):=if A1 (x.2.2.2.2.2.1<x.2.2.2.2.1) then if inb x.2.2.2.2.2.1 x.2.2.2.1.length then let a:=(rd (dfl .int) x.2.2.2.1 x.2.2.2.2.2.1);(if inb a x.1.length then(KP ((rd (dfl .keep) x.1 a).held,x.2.2.1,())).bind λc=>if c.1.1 then if inb a x.2.1.length then(KP ((rd (dfl .keep) x.2.1 a).held,x.2.2.1,())).bind λb=>if Ak (!b.1.1) (inb a x.1.length) then if b.1.1||(A1<|x.2.2.1.2.2.2.1<=(rd (dfl .keep) x.1 a).ti) then I (.inr<|.inl (A0,())) else I (.inl (x.1,x.2.1,x.2.2.1,x.2.2.2.1,x.2.2.2.2.1,(w64<|x.2.2.2.2.2.1+1),())) else U else U else if Ak (!false) (inb a x.1.length) then if A1 (x.2.2.1.2.2.2.1<=(rd (dfl .keep) x.1 a).ti) then I (.inr<|.inl (A0,())) else I (.inl (x.1,x.2.1,x.2.2.1,x.2.2.2.1,x.2.2.2.2.1,(w64<|x.2.2.2.2.2.1+1),())) else U else U) else U else I (.inr<|.inr ())
def s8:=AR fc
def yi:Loop:=⟨[(1,.sl .keep),(2,.sl .keep),(7,Z5),(26,.row 3 .int),(27,.int .i64),(28,.int .i64)],[],0,[(8,.bool)],s8⟩
def apB:LF Tryz.f33 [] [1,1,0,1,0,0] yi:=sq (v:= .nil) aAW (b:=fc) kN
def WU(x:Y2×List AG×List AG×Y4×A2):Option ((Bool×A2)×A2):=(KP (x.1.2.2.2.2.2.1,x.2.2.2)).bind λa=>if Ak (!a.1.1) (inb x.2.2.2.1.2.2.1 x.2.1.length) then if Ak (!a.1.1) ((KP ((rd (dfl .keep) x.2.1 x.2.2.2.1.2.2.1).inbox,x.2.2.2)).isSome) then if a.1.1||(((KP ((rd (dfl .keep) x.2.1 x.2.2.2.1.2.2.1).inbox,x.2.2.2)).getD ((A3,()),())).1.1) then I ((A0,()),()) else(fZ x.2.2.2).bind λb=>(AM (s8 (x.2.1,x.2.2.1,x.2.2.2.1,b.1.1,(b.1.1.length:Int),0,())) (λc=>I (c,())) λc=>I ((A3,()),())) else U else U
def aAQ:Ent:=(33,U,⟨[Z30,.fz .keep,.fz .keep,Z6],[.bool],WU⟩)
def akL:SQ Tryz.prog aAQ:=sk (v:=t1<|t1<|.two (t1<|.one<|.loop yi) .nil) (fn:=Tryz.f33) aAW<|kC apB kN
def aiF:Cx:=cX [Vl,gH,aA9,aAQ,jN,LQ] [] [(131,138)]
def Pd:OKC Tryz.prog aiF AF:=okc mixed<|gC bJ<|gC sd<|gC aiT<|gC akL<|gC xk<|gC MP<|AJ
def cC(x:Y2×Y3×List AG×Int×Int×List A6×Int×Int×A2):Rnd (Y2×Y3×List AG×Int×Int×List A6×Int×Int×A2) (Bool×A2) (Y2×Y3×List AG×Int×Int×A2):=if A1 (x.2.2.2.2.2.2.2.1<x.2.2.2.2.2.2.1) then if inb x.2.2.2.2.2.2.2.1 x.2.2.2.2.2.1.length then let azF:=(rd (dfl .note) x.2.2.2.2.2.1 x.2.2.2.2.2.2.2.1).fr;let azE:=(rd (dfl .note) x.2.2.2.2.2.1 x.2.2.2.2.2.2.2.1).nu;let azD:=(rd (dfl .note) x.2.2.2.2.2.1 x.2.2.2.2.2.2.2.1).to;let azC:=(rd (dfl .note) x.2.2.2.2.2.1 x.2.2.2.2.2.2.2.1).un;let azB:=(rd (dfl .note) x.2.2.2.2.2.1 x.2.2.2.2.2.2.2.1).tx;(KP (x.1.2.2.2.2.1,(azF,azE,azD,azC,azB,()),())).bind λazX=>if !azX.1.1 then I (.inr<|.inl (A3,())) else I (.inl (x.1,x.2.1,x.2.2.1,x.2.2.2.1,x.2.2.2.2.1,x.2.2.2.2.2.1,x.2.2.2.2.2.2.1,(w64<|x.2.2.2.2.2.2.2.1+1),())) else U else I (.inr<|.inr (x.1,x.2.1,x.2.2.1,x.2.2.2.1,x.2.2.2.2.1,()))
def pE:=AR cC
def sW:Loop:=⟨[(1,Z29),(14,Z7),(99,.row 35 .keep),(100,.int .i64),(101,.int .i64),(106,.sl .note),(107,.int .i64),(108,.int .i64)],[(1,Z29),(14,Z7),(99,.row 35 .keep),(100,.int .i64),(101,.int .i64)],8,[(2,.bool)],pE⟩
def ah6:LF Tryz.f19 [] [1,1,1,1,1,1,0,1,0,0,1,1,0,0,1,0,1,0,0] sW:=sq (v:= .nil) Pd (b:=cC) kN
def cB(x:Y2×List AG×Int×Int×List A6×Int×Int×A2):Rnd (Y2×List AG×Int×Int×List A6×Int×Int×A2) (Bool×A2) (Y2×List AG×Int×Int×A2):=if A1 (x.2.2.2.2.2.2.1<x.2.2.2.2.2.1) then if inb x.2.2.2.2.2.2.1 x.2.2.2.2.1.length then let ny:=(rd (dfl .note) x.2.2.2.2.1 x.2.2.2.2.2.2.1).fr;let nv:=(rd (dfl .note) x.2.2.2.2.1 x.2.2.2.2.2.2.1).nu;let ayO:=(rd (dfl .note) x.2.2.2.2.1 x.2.2.2.2.2.2.1).to;let ayN:=(rd (dfl .note) x.2.2.2.2.1 x.2.2.2.2.2.2.1).un;let ayM:=(rd (dfl .note) x.2.2.2.2.1 x.2.2.2.2.2.2.1).tx;(KP (x.1.2.2.2.2.1,(ny,nv,ayO,ayN,ayM,()),())).bind λac0=>if Ak (!(!ac0.1.1)) ((Gg (x.1.2.2.2.2.2.1,ny,nv,())).isSome) then if(!ac0.1.1)||(A1<|0<=((Gg (x.1.2.2.2.2.2.1,ny,nv,())).getD ((0,()),())).1.1) then I (.inr<|.inl (A3,())) else I (.inl (x.1,x.2.1,x.2.2.1,x.2.2.2.1,x.2.2.2.2.1,x.2.2.2.2.2.1,(w64<|x.2.2.2.2.2.2.1+1),())) else U else U else I (.inr<|.inr (x.1,x.2.1,x.2.2.1,x.2.2.2.1,()))
def pD:=AR cB
def sV:Loop:=⟨[(1,Z29),(99,.row 35 .keep),(100,.int .i64),(101,.int .i64),(119,.sl .note),(120,.int .i64),(121,.int .i64)],[(1,Z29),(99,.row 35 .keep),(100,.int .i64),(101,.int .i64)],10,[(2,.bool)],pD⟩
def ah5:LF Tryz.f19 [] [1,1,1,1,1,1,0,1,0,0,1,1,0,0,1,1,1,0,0] sV:=sq (v:= .nil) Pd (b:=cB) kN
def cD(x:Y2×List AG×Int×Int×A2):Rnd (Y2×List AG×Int×Int×A2) (Bool×A2) (A2):=if A1 (x.2.2.2.1<x.2.2.1) then if inb x.2.2.2.1 x.2.1.length then let azK:=(rd (dfl .keep) x.2.1 x.2.2.2.1).id;let azJ:=(rd (dfl .keep) x.2.1 x.2.2.2.1).ti;let azI:=(rd (dfl .keep) x.2.1 x.2.2.2.1).nx;let a:=(rd (dfl .keep) x.2.1 x.2.2.2.1).held;let azH:=(rd (dfl .keep) x.2.1 x.2.2.2.1).marks;let azG:=(rd (dfl .keep) x.2.1 x.2.2.2.1).inbox;(AM (pE (x.1,(azK,azJ,azI,a,azH,azG,()),x.2.1,x.2.2.1,x.2.2.2.1,a,(a.length:Int),0,())) (λNg=>I<|.inr<|.inl Ng) λNg=>(AM (pD (Ng.1,Ng.2.2.1,Ng.2.2.2.1,Ng.2.2.2.2.1,Ng.2.1.2.2.2.2.2.1,(Ng.2.1.2.2.2.2.2.1.length:Int),0,())) (λR9=>I<|.inr<|.inl R9) λR9=>I<|.inl (R9.1,R9.2.1,R9.2.2.1,(w64<|R9.2.2.2.1+1),()))) else U else I (.inr<|.inr ())
def pF:=AR cD
def sX:Loop:=⟨[(1,Z29),(99,.row 35 .keep),(100,.int .i64),(101,.int .i64)],[],6,[(2,.bool)],pF⟩
def ah7:LF Tryz.f19 [] [1,1,1,1,1,1,0,1,0,0] sX:=sq (v:=t1<|t1<|.two (.one<|t1<|.two (t1<|.one<|.loop sW)<|t1<|.one<|.loop sV) .nil) Pd (b:=cD)<|kC ah6<|kC ah5 kN
def cE(x:Y2×List AG×List A6×Int×Int×A2):Rnd (Y2×List AG×List A6×Int×Int×A2) (Bool×A2) (Y2×List AG×A2):=if A1 (x.2.2.2.2.1<x.2.2.2.1) then if inb x.2.2.2.2.1 x.2.2.1.length then let aE:=(rd (dfl .note) x.2.2.1 x.2.2.2.2.1).fr;let a:=(rd (dfl .note) x.2.2.1 x.2.2.2.2.1).nu;let abw:=(rd (dfl .note) x.2.2.1 x.2.2.2.2.1).to;let b:=(rd (dfl .note) x.2.2.1 x.2.2.2.2.1).un;let azL:=(rd (dfl .note) x.2.2.1 x.2.2.2.2.1).tx;(KP (x.1.2.2.2.2.1,(aE,a,abw,b,azL,()),())).bind λazY=>if !azY.1.1 then I (.inr<|.inl (A3,())) else I (.inl (x.1,x.2.1,x.2.2.1,x.2.2.2.1,(w64<|x.2.2.2.2.1+1),())) else U else I (.inr<|.inr (x.1,x.2.1,()))
def pG:=AR cE
def sY:Loop:=⟨[(1,Z29),(3,.row 35 .keep),(87,.sl .note),(88,.int .i64),(89,.int .i64)],[(1,Z29),(3,.row 35 .keep)],4,[(2,.bool)],pG⟩
def ah8:LF Tryz.f19 [] [1,1,1,1,1,0,1,0,0] sY:=sq (v:= .nil) Pd (b:=cE) kN
def cF(x:Y2×List AG×List AG×List A6×Int×Int×A2):Rnd (Y2×List AG×List AG×List A6×Int×Int×A2) (Bool×A2) (Y2×List AG×A2):=if A1 (x.2.2.2.2.2.1<x.2.2.2.2.1) then if inb x.2.2.2.2.2.1 x.2.2.2.1.length then let azQ:=(rd (dfl .note) x.2.2.2.1 x.2.2.2.2.2.1).fr;let azP:=(rd (dfl .note) x.2.2.2.1 x.2.2.2.2.2.1).nu;let azO:=(rd (dfl .note) x.2.2.2.1 x.2.2.2.2.2.1).to;let azN:=(rd (dfl .note) x.2.2.2.1 x.2.2.2.2.2.1).un;let a:=(rd (dfl .note) x.2.2.2.1 x.2.2.2.2.2.1).tx;(WU (x.1,x.2.1,x.2.2.1,(azQ,azP,azO,azN,a,()),())).bind λayq=>if !ayq.1.1 then I (.inr<|.inl (A3,())) else I (.inl (x.1,x.2.1,x.2.2.1,x.2.2.2.1,x.2.2.2.2.1,(w64<|x.2.2.2.2.2.1+1),())) else U else I (.inr<|.inr (x.1,x.2.1,()))
def pH:=AR cF
def sZ:Loop:=⟨[(1,Z29),(3,.row 35 .keep),(4,.row 35 .keep),(73,.sl .note),(74,.int .i64),(75,.int .i64)],[(1,Z29),(3,.row 35 .keep)],2,[(2,.bool)],pH⟩
def ahC:LF Tryz.f19 [] [1,1,1,1,0,1,0,0] sZ:=sq (v:= .nil) Pd (b:=cF) kN
def Ut(x:Y2×List AG×List AG×List AA×Int×Int×A2):Rnd (Y2×List AG×List AG×List AA×Int×Int×A2) (A2) (Y2×List AG×List AG×A2):=if A1 (x.2.2.2.2.2.1<x.2.2.2.2.1) then if inb x.2.2.2.2.2.1 x.2.2.2.1.length then let e:=(rd (dfl .AQ) x.2.2.2.1 x.2.2.2.2.2.1).id;let f:=(rd (dfl .AQ) x.2.2.2.1 x.2.2.2.2.2.1).up;let c:=(rd (dfl .AQ) x.2.2.2.1 x.2.2.2.2.2.1).log;let d:=(rd (dfl .AQ) x.2.2.2.1 x.2.2.2.2.2.1).fo;let g:=(rd (dfl .AQ) x.2.2.2.1 x.2.2.2.2.2.1).AN;(JX (e,c,())).bind λa=>if Ac (x.2.1.length+([(AG.mk a.1.1.1 a.1.1.2.1 a.1.1.2.2.1 a.1.1.2.2.2.1 a.1.1.2.2.2.2.1 a.1.1.2.2.2.2.2.1)]:List AG).length) then if A1 (0<=d)&&A1 (d<=(c.size:Int)) then(JX (e,(c.extract (0)<|AL d),())).bind λb=>if Ac (x.2.2.1.length+([(AG.mk b.1.1.1 b.1.1.2.1 b.1.1.2.2.1 b.1.1.2.2.2.1 b.1.1.2.2.2.2.1 b.1.1.2.2.2.2.2.1)]:List AG).length) then I (.inl (x.1,(x.2.1++([(AG.mk a.1.1.1 a.1.1.2.1 a.1.1.2.2.1 a.1.1.2.2.2.1 a.1.1.2.2.2.2.1 a.1.1.2.2.2.2.2.1)]:List AG)),(x.2.2.1++([(AG.mk b.1.1.1 b.1.1.2.1 b.1.1.2.2.1 b.1.1.2.2.2.1 b.1.1.2.2.2.2.1 b.1.1.2.2.2.2.2.1)]:List AG)),x.2.2.2.1,x.2.2.2.2.1,(w64<|x.2.2.2.2.2.1+1),())) else U else U else U else U else I (.inr<|.inr (x.1,x.2.1,x.2.2.1,()))
def pI:=AR Ut
def sa:Loop:=⟨[(1,Z29),(3,.row 35 .keep),(4,.row 35 .keep),(35,.sl .AQ),(36,.int .i64),(37,.int .i64)],[(1,Z29),(3,.row 35 .keep),(4,.row 35 .keep)],0,[],pI⟩
def ah3:LF Tryz.f19 [] [1,1,1,0,1,0,0] sa:=sq (v:= .nil) Pd (b:=Ut) kN
def Ma(x:Y2×A2):Option ((Bool×A2)×A2):=(Ro x).bind λb=>if !b.1.1 then I ((A3,()),()) else(W9 (x.1.2.2.2.2.1,())).bind λc=>if !c.1.1 then I ((A3,()),()) else(W9 x.1.2.2.2.2.2).bind λd=>if !d.1.1 then I ((A3,()),()) else(AM (pI (x.1,([]:List AG),([]:List AG),x.1.2.1,(x.1.2.1.length:Int),0,())) (λ_=>U) λa=>(AM (pH (a.1,a.2.1,a.2.2.1,a.1.2.2.2.2.1,(a.1.2.2.2.2.1.length:Int),0,())) (λRA=>I (RA,())) λRA=>(AM (pG (RA.1,RA.2.1,RA.1.2.2.2.2.2.1,(RA.1.2.2.2.2.2.1.length:Int),0,())) (λUE=>I (UE,())) λUE=>(AM (pF (UE.1,UE.2.1,(UE.2.1.length:Int),0,())) (λabt=>I (abt,())) λabt=>I ((A0,()),())))))
def vN:Ent:=(19,U,⟨[Z30],[.bool],Ma⟩)
def aeY:SQ Tryz.prog vN:=sk (v:=t1<|t1<|t1<|.two (t1<|.one<|.loop sa)<|.two (t1<|.one<|.loop sZ)<|.two (t1<|.one<|.loop sY)<|.two (t1<|.one<|.loop sX) .nil) (fn:=Tryz.f19) Pd<|kC ah3<|kC ahC<|kC ah8<|kC ah7 kN
def agi:Cx:=cX [MR,Mc,Md,MX,vN] [] [(21,23),(28,30)]
def u9:OKC Tryz.prog agi AF:=okc mixed<|gC Np<|gC Nr<|gC Ns<|gC Nw<|gC aeY<|AJ
def pq(x:List Event×Int×A2):Rnd (List Event×Int×A2) (Bool×A2) (A2):=if(A1<|x.2.1<5)&&(A1<|(x.1.length:Int)<=2000) then if A1 (0<=(w64<|Ax (w64<|(x.1.length:Int) * x.2.1) 5))&&A1 ((w64<|Ax (w64<|(x.1.length:Int) * x.2.1) 5)<=(x.1.length:Int)) then(II ((BH (AL<|w64<|Ax (w64<|(x.1.length:Int) * x.2.1) 5) x.1),())).bind λa=>(Ma a.1).bind λb=>if !b.1.1 then I (.inr<|.inl (A3,())) else I (.inl (x.1,(w64<|x.2.1+1),())) else U else I (.inr<|.inr ())
def ach:=AR pq
def adH:Loop:=⟨[(3,.sl .BK),(6,.int .i64)],[],0,[(2,.bool)],ach⟩
def afp:LF Tryz.f10 [] [1,1,1,1,1,1,0,1,0,0] adH:=sq (v:= .nil) u9 (b:=pq) kN
def Ur(x:List Int×A2):Option ((Bool×A2)×A2):=if A1 (1048576<(x.1.length:Int)) then I ((A0,()),()) else(JU x).bind λa=>(KJ a.1).bind λe=>(II a.1).bind λb=>(It (b.1.1,e.1)).bind λc=>if Ak (!(!c.1.1)) ((Ma b.1).isSome) then if(!c.1.1)||(!(((Ma b.1).getD ((A3,()),())).1.1)) then I ((A3,()),()) else(AM (ach (a.1.1,1,())) (λd=>I (d,())) λd=>I ((A0,()),())) else U
def ahU:Ent:=(10,U,⟨[.fz .u8],[.bool],Ur⟩)
def aeA:SQ Tryz.prog ahU:=sk (v:=t1<|t1<|t1<|t1<|t1<|t1<|.two (t1<|.one<|.loop adH) .nil) (fn:=Tryz.f10) u9<|kC afp kN
end Go.VS
end
end
section
set_option linter.all false
noncomputable section
namespace Go.VS
open Go
def aAG{l:List A6}(hl:l.length<=1048576)(h:∀x∈l,G2 x):WA (l,())=I ((Gt l&&A1 ((l.length:Int)<=6),()),()):=by
 have Fz:rF (l,l,(l.length:Int),0,())=I (if Gt l then .inr (l,()) else .inl (A3,())):=
  Cm (λi=>(l,l,(l.length:Int),(i:Int),())) l.length (λi=>B4<|nA l i) (A3,()) (l,()) (λi hi=>by
   unfold fM;simp only[B7 hi,AP hi,A5,Cc,Vy<|Tj h i,A9,B5 hi (by omega:l.length<=9223372036854775807)];rcases tf (B4<|nA l i) with e|e<;>simp only[e]<;>rfl) (by simp[fM])
 unfold WA;simp only[Fz];rcases tf (Gt l) with e|e<;>simp only[e]<;>rfl
def akO{w:YR}{ks:List AA}(kl:ks.length<=1048576)(k:∀x∈ks,FN x):
  q8 (w,ks,(ks.length:Int),0,())=I (if At ks.length (JA ks) then .inr (w,()) else .inl (A3,())):=
 Cm (λi=>(w,ks,(ks.length:Int),(i:Int),())) ks.length (JA ks) (A3,()) (w,()) (λi hi=>by
  have hk:=KG<|Qj k i;unfold dL JA;simp only[B7 hi,AP hi,A5,SH,hk,DY,DO,GK,B5 hi (by omega:ks.length<=9223372036854775807)];rcases tfp ((kA ks i).id=(i:Int)) with e|e<;>rcases tf (Ah<|kA ks i) with e2|e2<;>simp only[e,e2,AU,Ae]<;>rfl) (by simp[dL])
def wY{ra:List AS}(rl:ra.length<=1048576):
  q7 (ra,(ra.length:Int),0,())=I (if At ra.length (λi=>E3<|pA ra i) then .inr () else .inl (A3,())):=
 Cm (λi=>(ra,(ra.length:Int),(i:Int),())) ra.length (λi=>E3<|pA ra i) (A3,()) () (λi hi=>by
  unfold dK E3;simp only[B7 hi,AP hi,A5,aBw,Jb,A9,B5 hi (by omega:ra.length<=9223372036854775807)];rcases tf (isN (pA ra i).src) with e|e<;>rcases tf (isN (pA ra i).dst) with e2|e2<;>simp only[e,e2,AB,AI,A5,A7,AW,AO];simp only[XV e e2,XV e2 e];rcases tfp ((pA ra i).src - (pA ra i).dst=1) with e3|e3<;>rcases tfp ((pA ra i).dst - (pA ra i).src=1) with e4|e4<;>rcases ET ((pA ra i).data.size:Int) 40 with⟨e5,e6⟩|⟨e5,e6⟩<;>simp only[e3,e4,e5,e6,AU,Ae]<;>rfl) (by simp[dK])
def xo{ti:Int}{ks:List AA}{ls:List Bool}{ra:List AS}{se go:List A6}(sm:IC ks ls ra se go):
  Ro ((ti,ks,ls,ra,se,go,()),())=I ((HD ti ks ls ra se go,()),()):=by
 unfold Ro HD;simp only[ED,aAG sm.sl sm.s,aAG sm.gl sm.g,akO sm.kl sm.k,wY sm.rl,A9];rcases tf (inB ti 0 99999) with e|e<;>simp only[e,AB,AI,A5,A7,AW,AO];rcases tfp ((ks.length:Int)=4) with e|e<;>simp only[e,AU,Ae,AB,AI,A5,A7,AW,AO];rcases tfp ((ls.length:Int)=3) with e|e<;>simp only[e,AU,Ae,AB,AI,A5,A7,AW,AO];rcases ET (ra.length:Int) 30 with⟨e1,e2⟩|⟨e1,e2⟩<;>simp only[e1,e2,AU,Ae,A5,A7,AW,AO];rcases tf (Gt se&&A1 ((se.length:Int)<=6)) with e|e<;>simp only[e,AB,AI,A5,A7,AW,AO];rcases tf (Gt go&&A1 ((go.length:Int)<=6)) with e|e<;>simp only[e,AB,AI,A5,A7,AW,AO];rcases tf (At ks.length<|JA ks) with e|e<;>simp only[e,A5,A7,AW,AO,Gk,CR];rw[wY sm.rl];rcases tf (At ra.length λi=>E3<|pA ra i) with e|e<;>simp only[e,A5,A7,Gk,CR]
def atN{ti:Int}{ks:List AA}{ls:List Bool}{ra:List AS}{se go:List A6}(h:HD ti ks ls ra se go=A0):UB ti ks ls ra se go:=by
 unfold HD at h;simp only[AE,decide_eq_true_eq,CS]at h;obtain⟨a,b,c,d,⟨e,f⟩,⟨g,i⟩,j,l⟩:=h;have a:=Af.1 a;refine⟨a.1,a.2,J,J,J,e,J,g,J,λm hm=> ?_,l⟩;have:=j m J;unfold JA at this;simp only[AE,decide_eq_true_eq]at this;exact this
def axh{k:AA}(h:Ah k=A0):k.log.size<=2400/\0<=k.fo/\k.fo<=k.log.size:=by
 have:=(EC h).sh;unfold D9 at this;simp only[AE,decide_eq_true_eq]at this;exact⟨this.1,Af.1 this.2.1⟩
def nEq(a b:A6):Bool:=A1 (a.fr=b.fr)&&(A1 (a.nu=b.nu)&&(A1 (a.to=b.to)&&(A1 (a.un=b.un)&&(A1 (a.tx=b.tx)&&A0))))
def aaQ{a b:A6}:nEq a b=A0↔a=b:=by
 unfold nEq;simp only[AE,decide_eq_true_eq];constructor
 .rintro⟨h1,h2,h3,h4,h5,_⟩;cases a;cases b;simp_all
 .rintro rfl;simp
def Ze{b:Bool}:b=A3↔ ¬b=A0:=by cases b<;>simp
def EY(l:List A6)(n:A6):Bool:= !(At l.length λi=> !nEq (nA l i) n)
def OU{l:List A6}{n:A6}:EY l n=A0↔n∈l:=by
 unfold EY;rw[CL,Ze,CS];constructor
 .intro h;refine aBV λhn=>h λi hi=> ?_;rw[CL,Ze,aaQ];rintro rfl;exact hn (Hx hi)
 .intro h DT;obtain⟨i,hi,rfl⟩:=DG h;have:=DT i hi;rw[Dh<|Av hi,aaQ.2 rfl]at this;cases this
def Jk(l:List A6)(i:Nat):Bool:=At i λj=> !(A1 ((nA l j).fr=(nA l i).fr)&&A1 ((nA l j).nu=(nA l i).nu))
def Di:Nat->Int->Int->List Int
 | 0,a,_=>[a]
 | f+1,a,t=>if a=t then [a] else a::Di f (Co a t) t
def PF(a t:Int):Nat:=(a - t).natAbs
def asW{a t:Int}(ha:isN a=A0)(ht:isN t=A0)(hne:a≠t):PF (Co a t) t+1=PF a t:=by
 have:=Ff ha;have:=Ff ht;have e3:A1 (a=t)=A3:=by simpa using hne
 unfold Co PF;simp only[ha,ht,e3,AB,FU,A7];split<;>omega
def awL{a t:Int}(ha:isN a=A0)(ht:isN t=A0):PF a t<=3:=by
 have:=Ff ha;have:=Ff ht;unfold PF;omega
def aD4:∀(f:Nat) {a t:Int},isN a=A0->isN t=A0->∀x∈Di f a t,isN x=A0
 | 0,a,t,ha,_,x,hx=>by
  obtain rfl:=C9.1 hx;exact ha
 | f+1,a,t,ha,ht,x,hx=>by
  unfold Di at hx;split at hx
  .obtain rfl:=C9.1 hx;exact ha
  .rename_i hne;rcases Bj.1 hx with rfl|hx
   .exact ha
   .exact aD4 f (jq ha ht hne) ht x hx
def aD3:∀(f:Nat) (a t:Int),(Di f a t).length<=f+1
 | 0,_,_=>As _
 | f+1,a,t=>by
  unfold Di;split
  .simp
  .simp only[Bt];have:=aD3 f (Co a t) t;omega
def Ol(ks:List AA)(n:A6)(x:Int):Bool:=(EY (stT<|kA ks x.toNat).held n&&EY (stD<|kA ks x.toNat).held n)||decide (n.un<=(stT<|kA ks x.toNat).ti)
def Lw(ks:List AA)(go:List A6)(n:A6):Bool:=EY go n||EY (stT<|kA ks n.to.toNat).inbox n
def Lo(ks:List AA)(n:A6):Bool:=(Di 3 n.fr n.to).any<|Ol ks n
def Qu(ks:List AA)(se go:List A6)(i:Nat):Bool:=At (stT<|kA ks i).held.length (λj=>EY se<|nA (stT<|kA ks i).held j)&&
 At (stT<|kA ks i).inbox.length (λj=>EY se (nA (stT<|kA ks i).inbox j)&&A1 (AY go (nA (stT<|kA ks i).inbox j).fr (nA (stT<|kA ks i).inbox j).nu<0))
def XK(ti:Int)(ks:List AA)(ls:List Bool)(ra:List AS)(se go:List A6):Bool:=
 HD ti ks ls ra se go&&(At se.length (Jk se)&&(At go.length (Jk go)&&(At se.length (λi=>Lw ks go (nA se i)||Lo ks (nA se i))&&(At go.length (λi=>EY se<|nA go i)&&At ks.length (Qu ks se go)))))
abbrev tNV(n:A6):Int×Int×Int×Int×A4×A2:=(n.fr,n.nu,n.to,n.un,n.tx,())
def awj{a n:A6}:MF a.fr a.nu a.to a.un a.tx n.fr n.nu n.to n.un n.tx=nEq a n:=rfl
def mI(l:List AG)(i:Nat): @rd AG (dfl .keep) l (i:Int)=l.getD i (dfl .keep):=rfl
def ax5(l:List Int)(i:Nat): @rd Int (dfl .int) l (i:Int)=l.getD i 0:=rfl
def Px{l:List A6}{n:A6}(hl:l.length<=1048576):KP (l,tNV n,())=I ((EY l n,()),()):=by
 unfold KP EY;have h:fp (tNV n,l,(l.length:Int),0,())=I (if At l.length (λi=> !nEq (nA l i) n) then .inr () else .inl (A0,())):=
  Cm (λi=>(tNV n,l,(l.length:Int),(i:Int),())) l.length (λi=> !nEq (nA l i) n) (A0,()) () (λi hi=>by
   unfold WV;simp only[B7 hi,AP hi,A5,Cc,awj,B5 hi (by omega:l.length<=9223372036854775807)];rcases tf (nEq (nA l i) n) with e|e<;>simp only[e]<;>rfl) (by simp[WV])
 simp only[h];rcases tf (At l.length λi=> !nEq (nA l i) n) with e|e<;>simp only[e]<;>rfl
def aAF{l:List A6}(hl:l.length<=1048576):W9 (l,())=I ((At l.length<|Jk l,()),()):=by
 unfold W9;have h:rE (l,l,(l.length:Int),0,())=I (if At l.length (Jk l) then .inr () else .inl (A3,())):=
  Cm (λi=>(l,l,(l.length:Int),(i:Int),())) l.length (Jk l) (A3,()) () (λi hi=>by
   have hf:=aDI (p:=λj=>A1 ((nA l j).fr=(nA l i).fr)&&A1 ((nA l j).nu=(nA l i).nu)) hi (by simp);unfold fK Jk;simp only[B7 hi,AP hi,A5,Cc,Ja hl,A9,B5 hi (by omega:l.length<=9223372036854775807)];unfold AY;simp only[hf];rcases tf (At i λj=> !(A1 ((nA l j).fr=(nA l i).fr)&&A1 ((nA l j).nu=(nA l i).nu))) with e|e<;>simp only[e]<;>rfl) (by simp[fK])
 simp only[h];rcases tf (At l.length<|Jk l) with e|e<;>simp only[e]<;>rfl
def aBy(f:Nat)(a t:Int):Di f a t=a::(Di f a t).tail:=by
 cases f with
 | zero=>rfl
 | succ f=>unfold Di;split<;>rfl
def aAz{n:A6}(ht:isN n.to=A0):∀(f:Nat) (a:Int) (out:List Int),PF a n.to<=f->isN a=A0->out.length+f<=100->cI (tNV n,out,a,())=I (.inr (out++(Di f a n.to).tail,()))
 | 0,a,out,hd,ha,_=>by
  have e:a=n.to:=by unfold PF at hd;omega
  subst e;refine BP ?_;unfold Vp;simp[Di]
 | f+1,a,out,hd,ha,hl=>by
  by_cases e:a=n.to
  .subst e;refine BP ?_;unfold Vp;simp[Di]
  .have h1:=asW ha ht e;have e2:(!decide (a=n.to))=A0:=by simpa using e
   refine B0 (x':=(tNV n,out++[Co a n.to],Co a n.to,())) ?_ ?_
   .unfold Vp;simp only[e2,A5,sA,A9,Bt,CA,DF,B8<|show out.length+1<=4294967296 by omega]
   .have:=aAz ht f (Co a n.to) (out++[Co a n.to]) J (jq ha ht e) (by simp;omega);refine Jw this ?_;have e3:(Di (f+1) a n.to).tail=Di f (Co a n.to) n.to:=by
     conv=>lhs;unfold Di
     rw[AD e];rfl
    rw[e3,aBy f (Co a n.to) n.to];simp
def apE{n:A6}(hf:isN n.fr=A0)(ht:isN n.to=A0):fZ (tNV n,())=I ((Di 3 n.fr n.to,()),()):=by
 unfold fZ;have:=aAz ht 3 n.fr [n.fr] (awL hf ht) hf (by simp);rw[show cI (tNV n,[n.fr],n.fr,())=_ from this];simp only[CR];rw[aBy 3 n.fr n.to];rfl
def aun{α:Type}{l:List α}{d:α}{f:α->Bool}:l.any f= !(At l.length λi=> !f (l.getD i d)):=by
 rw[M5,CL,Ze,CS,Gz];constructor
 .rintro⟨x,hx,h⟩ DT;obtain⟨i,hi,rfl⟩:=DG hx;have:=DT i hi;rw[Iz<|Av hi,h]at this;cases this
 .intro h;refine aBV λhn=>h λi hi=> ?_;rw[Iz<|Av hi,CL,Ze];exact λh1=>hn ⟨_,CJ hi,h1⟩
def jK{l:List AA}{f:AA->AG}{i:Nat}(h:i<l.length):(l.map f).getD i (dfl .keep)=f (kA l i):=by
 rw[Iz (x:=f l[i])<|by simp[h]];unfold kA;rw[Iz<|Av h]
section
variable {ti:Int} {ks:List AA} {ls:List Bool} {ra:List AS} {se go:List A6}
def aw4{k:AA}(h:Ah k=A0):Aw (stD k)=A0:=by
 have hf:=(EC h).fo;unfold stD;cases hs:DK k.id (k.log.extract 0 k.fo.toNat) with
 | none=>rw[hs]at hf;cases hf
 | some o=>exact SJ hs
def ZB{k:AG}(h:Aw k=A0):k.held.length<=1048576/\k.inbox.length<=1048576:=by
 have:=CY h;exact⟨by have:=this.hl;omega,by have:=this.il;omega⟩
def aDV{x:Int}(h:isN x=A0):∃m:Nat,m<4/\x=(m:Int):=by
 have:=Ff h;exact⟨x.toNat,J,J⟩
def apr(hf:UB ti ks ls ra se go){n:A6}(h1:isN n.fr=A0)(h2:isN n.to=A0):
  WU ((ti,ks,ls,ra,se,go,()),ks.map stT,ks.map stD,tNV n,())=I ((Lw ks go n||Lo ks n,()),()):=by
 obtain⟨m,hm,e⟩:=aDV h2;have hmk:m<ks.length:=by rw[hf.kl];exact hm
 have hk:=EC (hf.k m hm).2;have hl:=ZB hk.ok;have hgl:go.length<=1048576:=by have:=hf.gl;omega
 unfold WU;simp only[Px hgl,A9];rw[show((rd (dfl .keep) (ks.map stT) n.to):AG)=stT (kA ks m) by rw[e,mI,jK hmk],show inb n.to (ks.map stT).length=A0 by rw[e];exact AP<|by simpa using hmk,Px hl.2];simp only[DY,DO,GK,A5];have ec:Lw ks go n=(EY go n||EY (stT<|kA ks m).inbox n):=by unfold Lw;rw[e,Bb]
 rcases tf (EY go n||EY (stT<|kA ks m).inbox n) with e1|e1
 .simp only[ec,e1,A5,Bo]
 .simp only[ec,e1,A7,Bi,apE h1 h2,A9];have ayx:=aD4 3 h1 h2;have hwl:=aD3 3 n.fr n.to;have Fz:s8 (ks.map stT,ks.map stD,tNV n,Di 3 n.fr n.to,((Di 3 n.fr n.to).length:Int),0,())=I (if At (Di 3 n.fr n.to).length (λi=> !Ol ks n ((Di 3 n.fr n.to).getD i 0)) then .inr () else .inl (A0,())):=
   Cm (λi=>(ks.map stT,ks.map stD,tNV n,Di 3 n.fr n.to,((Di 3 n.fr n.to).length:Int),(i:Int),())) _ (λi=> !Ol ks n ((Di 3 n.fr n.to).getD i 0)) (A0,()) () (λi hi=>by
    obtain⟨x,hx,ex⟩:=aDV<|ayx _<|CJ hi;have exg:(Di 3 n.fr n.to).getD i 0=(x:Int):=by rw[Iz<|Av hi,ex]
    have hxk:x<ks.length:=by rw[hf.kl];exact hx
    have hkx:=EC (hf.k x hx).2;have hlx:=ZB hkx.ok;have hlD:=ZB<|aw4 (hf.k x hx).2;unfold fc Ol;simp only[B7 hi,AP hi,A5,ax5,exg,AP<|show x<(ks.map stT).length by simpa using hxk,AP<|show x<(ks.map stD).length by simpa using hxk,mI,jK hxk,Px hlx.1,Px hlD.1,A9,GK,Bb,B5 hi (by omega:(Di 3 n.fr n.to).length<=9223372036854775807)];rcases tf (EY (stT<|kA ks x).held n) with a1|a1<;>rcases tf (EY (stD<|kA ks x).held n) with a2|a2<;>rcases tfp (n.un<=(stT<|kA ks x).ti) with a3|a3<;>simp only[a1,a2,a3,AU,Ae]<;>rfl) (by simp[fc])
  rw[Fz];unfold Lo;rw[aun (d:=0)];rcases tf (At (Di 3 n.fr n.to).length λi=> !Ol ks n ((Di 3 n.fr n.to).getD i 0)) with e2|e2<;>simp only[e2]<;>rfl
def ap6(sm:IC ks ls ra se go)(hf:UB ti ks ls ra se go):
  pI ((ti,ks,ls,ra,se,go,()),[],[],ks,(ks.length:Int),0,())=I (.inr ((ti,ks,ls,ra,se,go,()),ks.map stT,ks.map stD,())):=by
 have h:=C2 (b:=Ut) (λi=>((ti,ks,ls,ra,se,go,()),(ks.take i).map stT,(ks.take i).map stD,ks,(ks.length:Int),(i:Int),())) ks.length (y:= .inr ((ti,ks,ls,ra,se,go,()),ks.map stT,ks.map stD,())) (λi hi=>by
  have hi4:i<4:=by rw[← hf.kl];exact hi
  have sk:=Qj sm.k i;have hs:=axh (hf.k i hi4).2;have e2:(0<=(kA ks i).fo)=True:=eq_true hs.2.1;have e3:((kA ks i).fo<=((kA ks i).log.size:Int))=True:=eq_true hs.2.2;have hz:((kA ks i).log.extract 0 (kA ks i).fo.toNat).size<=1048576:=by rw[FZ J];omega
  have hlt:∀f:AA->AG,((ks.take i).map f).length+1<=4294967296:=λf=>by simp;omega
  have hsn:∀f:AA->AG,(ks.take i).map f++[f (kA ks i)]=(ks.take<|i+1).map f:=λf=>by
   have:kA ks i=ks[i]:=by unfold kA;rw[Iz<|Av hi]
   rw[this,JI,Av hi,Es];rfl
  unfold Ut;simp only[B7 hi,AP hi,A5,SH,Rk sk.1,Rk hz,A9,e2,e3,AU,Du,Bt,CA,DF,B8<|hlt _,B5 hi (by rw[hf.kl];decide:ks.length<=9223372036854775807)];have a1:=hsn stT;have a2:=hsn stD;rw[← a1,← a2];rfl) (by
  simp only[Dw];simp[Ut])
 exact h
def ap5(sm:IC ks ls ra se go)(hf:UB ti ks ls ra se go):
  pH ((ti,ks,ls,ra,se,go,()),ks.map stT,ks.map stD,se,(se.length:Int),0,())=I (if At se.length (λi=>Lw ks go (nA se i)||Lo ks (nA se i)) then .inr ((ti,ks,ls,ra,se,go,()),ks.map stT,()) else .inl (A3,())):=
 Cm (λi=>((ti,ks,ls,ra,se,go,()),ks.map stT,ks.map stD,se,(se.length:Int),(i:Int),())) se.length (λi=>Lw ks go (nA se i)||Lo ks (nA se i)) (A3,()) _ (λi hi=>by
  have hok:=Ho<|CS.1 hf.s i hi;have h3:=apr hf (n:=nA se i) (Af.2 ⟨hok.f0,hok.f1⟩)<|Af.2 ⟨hok.t0,hok.t1⟩;have sl:=sm.sl;unfold cF;simp only[B7 hi,AP hi,A5,Cc];rw[h3];simp only[A9,B5 hi (by omega:se.length<=9223372036854775807)];rcases tf (Lw ks go (nA se i)||Lo ks (nA se i)) with e|e<;>simp only[e]<;>rfl) (by simp[cF])
def ap4(sm:IC ks ls ra se go){ss:List AG}:
  pG ((ti,ks,ls,ra,se,go,()),ss,go,(go.length:Int),0,())=I (if At go.length (λi=>EY se<|nA go i) then .inr ((ti,ks,ls,ra,se,go,()),ss,()) else .inl (A3,())):=
 Cm (λi=>((ti,ks,ls,ra,se,go,()),ss,go,(go.length:Int),(i:Int),())) go.length (λi=>EY se<|nA go i) (A3,()) _ (λi hi=>by
  have gl:=sm.gl;unfold cE;simp only[B7 hi,AP hi,A5,Cc];rw[Px (n:=nA go i) sm.sl];simp only[A9,B5 hi (by omega:go.length<=9223372036854775807)];rcases tf (EY se<|nA go i) with e|e<;>simp only[e]<;>rfl) (by simp[cE])
def TJ(se l:List A6)(j:Nat):Bool:=EY se<|nA l j
def Tu(se go l:List A6)(j:Nat):Bool:=EY se (nA l j)&&A1 (AY go (nA l j).fr (nA l j).nu<0)
def apJ(sm:IC ks ls ra se go){k:AG}(hl:k.held.length<=1048576){ss:List AG}{a b:Int}:
  pE ((ti,ks,ls,ra,se,go,()),tK k,ss,a,b,k.held,(k.held.length:Int),0,())=I (if At k.held.length (TJ se k.held) then .inr ((ti,ks,ls,ra,se,go,()),tK k,ss,a,b,()) else .inl (A3,())):=
 Cm (λi=>((ti,ks,ls,ra,se,go,()),tK k,ss,a,b,k.held,(k.held.length:Int),(i:Int),())) k.held.length (TJ se k.held) (A3,()) _ (λi hi=>by
  unfold cC TJ;simp only[B7 hi,AP hi,A5,Cc];rw[Px (n:=nA k.held i) sm.sl];simp only[A9,B5 hi (by omega:k.held.length<=9223372036854775807)];rcases tf (EY se<|nA k.held i) with e|e<;>simp only[e]<;>rfl) (by simp[cC])
def apI(sm:IC ks ls ra se go){l:List A6}(hl:l.length<=1048576){ss:List AG}{a b:Int}:
  pD ((ti,ks,ls,ra,se,go,()),ss,a,b,l,(l.length:Int),0,())=I (if At l.length (Tu se go l) then .inr ((ti,ks,ls,ra,se,go,()),ss,a,b,()) else .inl (A3,())):=
 Cm (λi=>((ti,ks,ls,ra,se,go,()),ss,a,b,l,(l.length:Int),(i:Int),())) l.length (Tu se go l) (A3,()) _ (λi hi=>by
  have hs:=sgn<|AY go (nA l i).fr (nA l i).nu;unfold cB Tu;simp only[B7 hi,AP hi,A5,Cc];rw[Px (n:=nA l i) sm.sl];simp only[A9,Ja sm.gl,DY,DO,GK,A5,B5 hi (by omega:l.length<=9223372036854775807)];obtain⟨e1,e2⟩|⟨e1,e2⟩:=hs<;>rcases tf (EY se<|nA l i) with e|e<;>simp only[e,e1,e2,AU,Ae]<;>rfl) (by simp[cB])
def ap3(sm:IC ks ls ra se go)(hf:UB ti ks ls ra se go):
  pF ((ti,ks,ls,ra,se,go,()),ks.map stT,((ks.map stT).length:Int),0,())=I (if At ks.length (Qu ks se go) then .inr () else .inl (A3,())):=by
 rw[show(ks.map stT).length=ks.length by simp];exact Cm (λi=>((ti,ks,ls,ra,se,go,()),ks.map stT,(ks.length:Int),(i:Int),())) ks.length (Qu ks se go) (A3,()) () (λi hi=>by
  have hi4:i<4:=by rw[← hf.kl];exact hi
  have hl:=ZB (EC (hf.k i hi4).2).ok;have h4:=apJ (ti:=ti) sm (k:=stT<|kA ks i) hl.1 (ss:=ks.map stT) (a:=(ks.length:Int)) (b:=(i:Int));have h5:=apI (ti:=ti) sm (l:=(stT<|kA ks i).inbox) hl.2 (ss:=ks.map stT) (a:=(ks.length:Int)) (b:=(i:Int));unfold cD;simp only[B7 hi,AP<|show i<(ks.map stT).length by simpa using hi,A5,mI,jK hi];rw[h4];have eo:Qu ks se go i=(At (stT<|kA ks i).held.length (TJ se (stT<|kA ks i).held)&&At (stT<|kA ks i).inbox.length (Tu se go (stT<|kA ks i).inbox)):=rfl;rw[eo];rcases tf (At (stT<|kA ks i).held.length<|TJ se (stT<|kA ks i).held) with e|e
  .simp only[e,A5,CR,AW,h5];rcases tf (At (stT<|kA ks i).inbox.length<|Tu se go (stT<|kA ks i).inbox) with e2|e2
   .simp only[e2,A5,CR,B5 hi (by rw[hf.kl];decide:ks.length<=9223372036854775807)]
   .simp only[e2,A7,Gk]
  .simp only[e,A7,AO,Gk]) (by simp[cD])
def aiW(sm:IC ks ls ra se go):Ma ((ti,ks,ls,ra,se,go,()),())=I ((XK ti ks ls ra se go,()),()):=by
 unfold Ma XK;rw[xo sm];simp only[A9];rcases tf (HD ti ks ls ra se go) with e|e<;>simp only[e,AB,AI,A5,A7,AW,AO];have hf:=atN e;rw[aAF sm.sl,aAF sm.gl];simp only[A9];rcases tf (At se.length<|Jk se) with e|e<;>simp only[e,AB,AI,A5,A7,AW,AO];rcases tf (At go.length<|Jk go) with e|e<;>simp only[e,AB,AI,A5,A7,AW,AO];rw[ap6 sm hf];simp only[CR];rw[ap5 sm hf];rcases tf (At se.length λi=>Lw ks go (nA se i)||Lo ks (nA se i)) with e|e<;>simp only[e,A5,A7,AW,AO,CR,Gk];rw[ap4 sm];rcases tf (At go.length λi=>EY se<|nA go i) with e|e<;>simp only[e,A5,A7,AW,AO,CR,Gk];rw[ap3 sm hf];rcases tf (At ks.length<|Qu ks se go) with e|e<;>simp only[e,A5,A7,CR,Gk]
end
end Go.VS
end
end
section
set_option linter.all false
noncomputable section
namespace Go.VS
open Go
def aCe{n:A6}(h:B4 n=A0):(0<=n.fr/\n.fr<=3)/\(0<=n.to/\n.to<=3):=by
 unfold B4 at h;simp only[AE]at h;exact⟨Af.1 h.1,Af.1 h.2.1⟩
end Go.VS
end
end
section
set_option linter.all false
noncomputable section
namespace Go.VS
open Go
def ab4{l:List A6}(h:l.Pairwise Dif){i k:Nat}(hk:k<i)(hi:i<l.length):Dif (nA l k) (nA l i):=by
 rw[Dh<|Av hi,Dh<|Av<|show k<l.length by omega];exact Ou.1 h k i J hi hk
def YC{ev:List Event}(ht:∀e∈ev,e.tx.size<=1048576)(c:Nat):∀e∈ev.take c,e.tx.size<=1048576:=λe he=>ht e<|Gx he
def auS:∀a t x:Fin 4,((a.val<=x.val/\x.val<=t.val)\/(t.val<=x.val/\x.val<=a.val))->(x.val:Int)∈Di 3 (a.val:Int) (t.val:Int):=by decide
def aa9{n:A6}(hn:B4 n=A0){i:Nat}(hi:i<4)(h:onW n i):(i:Int)∈Di 3 n.fr n.to:=by
 obtain⟨a,b⟩:=aCe hn;have:=auS ⟨n.fr.toNat,J⟩ ⟨n.to.toNat,J⟩ ⟨i,hi⟩ (by unfold onW at h;simp only;omega);simp only at this;rw[NI a.1,NI b.1]at this;exact this
def aDr{l:List A6}(h:l.Pairwise Dif):At l.length (Jk l)=A0:=by
 rw[CS];intro i hi;unfold Jk;rw[CS];intro j hj;rw[CL,TQ,decide_eq_false_iff_not,decide_eq_false_iff_not];have:=ab4 h hj hi;unfold Dif at this;by_cases c:(nA l j).fr=(nA l i).fr
 .exact .inr λd=>this ⟨c,d⟩
 .exact .inl c
def aty{w:AX}(h:DW w=A0)(v:Inv w):XK w.ti w.AK w.B2 w.Ai w.Ab w.got=A0:=by
 have ok:=(Fe h).1;have kl:=ok.kl;unfold XK;simp only[AE];refine⟨h,aDr v.sp,aDr v.gp, ?_, ?_, ?_⟩
 .rw[CS];intro i hi;have hm:=Hx hi;have hn:=ok.s _ hm;rw[CB];rcases v.cu _ hm with c|⟨j,j1,j2,j3⟩|⟨j,j1,j2,j3⟩
  .left;unfold Lw;rw[CB,OU,OU];exact c
  .right;unfold Lo;rw[Gz];refine⟨(j:Int),aa9 hn j1 j2, ?_⟩;unfold Ol;rw[CB,decide_eq_true_eq,Bb];exact .inr j3
  .right;unfold Lo;rw[Gz];have hw:=(kg (Og ok j1) j2).2.1;rw[Lq ok j1]at hw;refine⟨(j:Int),aa9 hn j1 hw, ?_⟩;unfold Ol;rw[CB,AE,OU,OU,Bb];exact .inl ⟨j2,j3⟩
 .rw[CS];intro i hi;rw[OU];exact(v.gs _<|Hx hi).1
 .rw[CS];intro i hi;have hi4:i<4:=J
  unfold Qu;rw[AE,CS,CS];refine⟨λj hj=> ?_,λj hj=> ?_⟩
  .rw[OU];exact v.hs i hi4 _ (((v.lo i hi4).lf (ok.k i hi4).1).held _<|Hx hj)
  .obtain⟨a,b⟩:=v.bx i hi4 _<|Hx hj;rw[AE,OU,decide_eq_true_eq];refine⟨a, ?_⟩;rcases aBD w.got (nA (stT<|kA w.AK i).inbox j).fr (nA (stT<|kA w.AK i).inbox j).nu with c|c
   .omega
   .obtain⟨k0,_,k1,k2⟩:=GM c;exact absurd ⟨k1,k2⟩<|b _<|Hx k0
def aAo(l:List Event):Ma (tR<|Ch l,())=I ((A0,()),()):=by
 have h:=aty (Mn l) (XO l).2;have:=aiW (ti:=(Ch l).ti)<|Ml l;rw[h]at this;exact this
def awe{l:List Int}(hb:BOk l):Ur (l,())=I ((A0,()),()):=by
 obtain⟨ev,hd,hl,ht⟩:=OJ hb;unfold Ur;apply Tot.val;refine Tot.ite (λ_=>Tot.ret rfl) (λ_=>Tot.bind (Tot.eq hd) λr1 h1=> ?_);subst h1;refine Tot.bind (Tot.eq<|Nu J ht) λr2 h2=>Tot.bind (Tot.eq<|KK J ht) λr3 h3=> ?_;subst h2 h3;refine Tot.bind (Tot.eq<|OB<|Ml ev) λr6 h6=> ?_;subst h6;have hs:=aAo ev;refine Tot.pos (by rw[show Ma ((tR<|Ch ev,()),()).1=_ from hs];rfl) (Tot.neg (by rw[show Ma ((tR<|Ch ev,()),()).1=_ from hs];rfl) ?_);refine Tot.sum (P:=λ_=>False) (Q:=λ_=>True) ?_ (λ_ h=>h.elim) (λ_ _=>Tot.ret rfl);refine Tot.loop (λi s=>s=(ev,((i+1:Nat):Int),())) _ 4 (λi s hi hs=> ?_) rfl;subst hs;unfold pq;refine Tot.ite (λhc=> ?_) (λ_=>Tot.ret trivial);rw[AE,decide_eq_true_eq,decide_eq_true_eq]at hc;obtain⟨c1,c2⟩:=hc;have c1:((i+1:Nat):Int)<5:=c1;have c2:(ev.length:Int)<=2000:=c2;obtain⟨d,hd⟩:∃d:Nat,w64 (Ax (w64<|(ev.length:Int) * ((i+1:Nat):Int)) 5)=(d:Int)/\d<=ev.length:=by
  have hp0:0<=(ev.length:Int) * ((i+1:Nat):Int):=Qf J J;have hp1:(ev.length:Int) * ((i+1:Nat):Int)<=(ev.length:Int) * 5:=aBU J J;rw[AZ (n:=(ev.length:Int) * ((i+1:Nat):Int)) J J,Fv hp0];have h0:0<=(ev.length:Int) * ((i+1:Nat):Int) / 5:=Int.ediv_nonneg hp0 J;have h1:(ev.length:Int) * ((i+1:Nat):Int) / 5<=(ev.length:Int):=J
  rw[AZ J J];exact⟨_,(NI h0).symm,J⟩
 simp only[hd.1];refine Tot.pos (by rw[AE,decide_eq_true_eq,decide_eq_true_eq];omega) ?_;rw[Bb];refine Tot.bind (Tot.eq<|KK (l:=ev.take d) (by rw[Cw];omega)<|YC ht d) λr18 h18=> ?_;subst h18;refine Tot.bind (Tot.eq<|aAo<|ev.take d) λr19 h19=> ?_;subst h19;exact Tot.neg rfl (Tot.ret ⟨J,by rw[show w64 (((i+1:Nat):Int)+1)=_ from Ka rfl J]⟩)
end Go.VS
end
end
