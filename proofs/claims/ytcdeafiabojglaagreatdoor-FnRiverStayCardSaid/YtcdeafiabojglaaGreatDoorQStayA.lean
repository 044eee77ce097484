/- Part 11. -/
import Derived.Test.YtcdeafiabojglaaGreatDoorQAU
set_option linter.unusedVariables false
set_option linter.unusedSimpArgs false
set_option linter.defProp false
open Bool renaming and_eq_false_iff->MN,and_eq_true->AE,and_false->BX,and_self->EY,and_true->KJ,false->A0,false_and->AO,false_ne_true->CF,false_or->Bn,not_eq_true'->CM,not_false->AH,not_true->AB,or_eq_false_iff->NJ,or_eq_true->C8,or_self->GL,true->Y,true_and->AS,true_or->Bw
open Decidable renaming decide->U
open Int renaming le_refl->Dw,not_lt->Qx,toNat_natCast->Bc
open List renaming append_assoc->C7,append_nil->CE,append_of_mem->U3,drop_append_of_le_length->Tu,drop_drop->J5,drop_sublist->Qq,eq_nil_of_length_eq_zero->Df,filter_append->P5,foldl_append->Fg,foldl_cons->Du,foldl_nil->KK,getD_eq_getElem?_getD->BG,getElem?_eq_getElem->Av,getElem_mem->Ci,getElem_of_mem->Cz,length->j8,length_append->Am,length_cons->Bm,length_map->De,map_append->Eg,mem_append->BN,mem_append_right->CW,mem_cons->Bj,mem_map->C0,mem_range->Cy,nodup_append->Jb,nodup_cons->IG,pairwise_cons->KE,pairwise_iff_getElem->KG,pairwise_singleton->aD8,range->B1,range_succ->Hl,take_append_drop->JZ
open List.Sublist renaming append->me,refl->EW
open List.cons renaming inj->ma
open Nat renaming eq_zero_or_pos->U6,le_refl->Ar,le_trans->C6,lt_or_ge->GM,lt_trichotomy->J0,zero_le->Ch
open Option renaming bind_some->A6,filter_eq_some_iff->Ja,getD_some->Dd,isSome_some->Dk,none->G,some->I
open Option.some renaming inj->E5
open Prod.mk renaming inj->J4
section
set_option linter.all false
noncomputable section
namespace Go.VS
open Go Go.Proofs Tryz
set_option maxRecDepth 100000
abbrev Z31:Sh:= .box 53 [.same 3,j6,.row 41 .AN,.row 4 .bool,.row 70 .Ai,.row 59 .note,.row 59 .note,.row 81 .Hq]
end Go.VS
end
end
section
set_option linter.all false
noncomputable section
namespace Go.VS
open Go Go.Proofs Tryz
set_option maxRecDepth 100000
def adp:Cx:=cX [tn,jP,gH,GP,rM] [] []
def ae9:y9 adp:=aG5<|gC ad9<|gC vb<|gC rF<|gC Gm<|gC acV<|AI
def V1(x:List Int×D):Option ((Y7×D)×D):=(Wt x).bind λg=>(Pq (g.1.1,14,())).bind λa=>(BU (X:=Y7×Y9×Y11×D) (λb=>(B0 (b.2.1,3,())).bind λf=>if U (f.1.1=0) then(VD ((f.2.1,b.2.2.1.2),0,())).bind λc=>I (((c.2.1.2.1,c.2.1.2.2.1,c.2.1.2.2.2.1,c.2.1.2.2.2.2.1,c.2.1.2.2.2.2.2.1,c.2.1.2.2.2.2.2.2.1,()),()),()) else I (((b.2.2.1.2.1,b.2.2.1.2.2.1,b.2.2.1.2.2.2.1,b.2.2.1.2.2.2.2.1,b.2.2.1.2.2.2.2.2.1,b.2.2.1.2.2.2.2.2.2.1,()),()),()))<|(B0 (a.2.1,4,())).bind λe=>if U (0<e.1.1) then(Lh ((a.1.1.2.1,a.1.1.2.2.1,a.1.1.2.2.2.1,a.1.1.2.2.2.2.1,a.1.1.2.2.2.2.2.1,a.1.1.2.2.2.2.2.2.1,()),3,())).bind λd=>I (.inr ((0,([]:List A7),([]:List Bool),([]:List AK),([]:List A3),([]:List A3),()),e.2.1,((),d.1.1.1,d.1.1.2.1,d.1.1.2.2.1,d.1.1.2.2.2.1,d.1.1.2.2.2.2.1,d.1.1.2.2.2.2.2.1,a.1.1.2.2.2.2.2.2.2),())) else I (.inr ((0,([]:List A7),([]:List Bool),([]:List AK),([]:List A3),([]:List A3),()),e.2.1,((),a.1.1.2),())))
def acs:Ent:=(5,G,⟨[.fz .u8],[Z19],V1⟩)
def adX:y7 acs:=sk (v:=t1<|t1<|t1<|.join [(2,Z18),(3,Z25),(4,Z31)] .nil .nil) (fn:=f5) ae9 kN
def akH:Cx:=cX [HP,fG] [] []
def aoC:y9 akH:=aG5<|gC Hx<|gC qy<|AI
def iF(x:Y7×Int×Y1×D):Option ((Bool×D)×D):=(Pm (x.2.1,x.2.2.1.2.2.1,())).bind λa=>if inb a.1.1 x.1.2.1.length then(FA (((rd aG8 x.1.2.1 a.1.1).id,(rd aG8 x.1.2.1 a.1.1).up,(rd aG8 x.1.2.1 a.1.1).log,(rd aG8 x.1.2.1 a.1.1).fo,(rd aG8 x.1.2.1 a.1.1).AG,()),())).bind λb=>let c:=(U<|x.2.2.1.2.2.2.1<=b.1.1.2.1);I ((c,()),()) else G
def aAW:Ent:=(21,G,⟨[Z15,j6,Z2],[.bool],iF⟩)
def afI:y7 aAW:=sk (v:= .nil) (fn:=f21) aoC kN
def afq:Cx:=cX [gI,HP,aAW] [] [(12,15)]
def dS:y9 afq:=aG5<|gC ry<|gC Hx<|gC afI<|AI
def cg(x:Y7×Int×Y0×v7):Rnd (Y7×Int×Y0×v7) (Bool×D) (Y7×v7):=if U (x.2.2.2.1<(j8 x.2.2.1.2.2.2.1:Int)) then if inb x.2.2.2.1 x.2.2.1.2.2.2.1.length then(iF (x.1,x.2.1,((rd aG6 x.2.2.1.2.2.2.1 x.2.2.2.1).fr,(rd aG6 x.2.2.1.2.2.2.1 x.2.2.2.1).nu,(rd aG6 x.2.2.1.2.2.2.1 x.2.2.2.1).to,(rd aG6 x.2.2.1.2.2.2.1 x.2.2.2.1).un,(rd aG6 x.2.2.1.2.2.2.1 x.2.2.2.1).tx,()),())).bind λa=>if !a.1.1 then I (.inr<|.inl (A0,())) else I (.inl (x.1,x.2.1,x.2.2.1,(w64<|x.2.2.2.1+1),())) else G else I (.inr<|.inr (x.1,x.2.1,()))
def qU:=AT cg
def adQ:Loop:=⟨[(1,Z14),(3,j6),(4,Z5),(6,j6)],[(1,Z14),(3,j6)],2,[(2,.bool)],qU⟩
def ag2:LF f6 [] [1,1,0,1,0,0,1,0,0,1,1,1,0,0] adQ:=sq (v:= .nil) dS (b:=cg) kN
def cf(x:Y7×v7):Rnd (Y7×v7) (Bool×D) D:=if U (x.2.1<(j8 x.1.2.2.1:Int)) then if inb x.2.1 x.1.2.2.1.length then if !(rd aHm x.1.2.2.1 x.2.1) then I (.inr<|.inl (A0,())) else I (.inl (x.1,(w64<|x.2.1+1),())) else G else I (.inr<|.inr ())
def qT:=AT cf
def adP:Loop:=⟨[(1,Z14),(7,j6)],[],4,[(2,.bool)],qT⟩
def ag0:LF f6 [] [1,1,1,0,1,0,0] adP:=sq (v:= .nil) dS (b:=cf) kN
def ch(x:Y7×v7):Rnd (Y7×v7) (Bool×D) (Y7×D):=if U (x.2.1<(j8 x.1.2.1:Int)) then if inb x.2.1 x.1.2.1.length then(FA (((rd aG8 x.1.2.1 x.2.1).id,(rd aG8 x.1.2.1 x.2.1).up,(rd aG8 x.1.2.1 x.2.1).log,(rd aG8 x.1.2.1 x.2.1).fo,(rd aG8 x.1.2.1 x.2.1).AG,()),())).bind λb=>if inb x.2.1 x.1.2.1.length then if !((rd aG8 x.1.2.1 x.2.1).up) then I (.inr<|.inl (A0,())) else(AP (qU (x.1,x.2.1,b.1.1,0,())) (λa=>I<|.inr<|.inl a) λa=>I<|.inl (a.1,(w64<|a.2.1+1),())) else G else G else I (.inr<|.inr (x.1,()))
def qV:=AT ch
def adR:Loop:=⟨[(1,Z14),(3,j6)],[(1,Z14)],0,[(2,.bool)],qV⟩
def ag7:LF f6 [] [1,1,0,1,0,0] adR:=sq (v:=t1<|.two (.one<|t1<|t1<|t1<|.one<|.loop adQ) .nil) dS (b:=ch)<|kC ag2 kN
def dJ(x:Y7×D):Option ((Bool×D)×D):=(Ms x).bind λc=>if(!c.1.1)||(U<|0<(j8 x.1.2.2.2.1:Int)) then I ((A0,()),()) else(AP (qV (x.1,0,())) (λa=>I (a,())) λa=>(AP (qT (a.1,0,())) (λb=>I (b,())) λb=>I ((Y,()),())))
def wZ:Ent:=(6,G,⟨[Z15],[.bool],dJ⟩)
def adv:y7 wZ:=sk (v:=t1<|t1<|.two (t1<|.one<|.loop adR)<|.two (t1<|.one<|.loop adP) .nil) (fn:=f6) dS<|kC ag7<|kC ag0 kN
def afT:Cx:=cX [Ka,gV,fH] [] [(13,16)]
def dT:y9 afT:=aG5<|gC Ld<|gC rj<|gC rE<|AI
def cQ(x:Y7×Y3×List A7×Int×Int×List A3×aG7):Rnd (Y7×Y3×List A7×Int×Int×List A3×aG7) (Bool×D) (Y7×List A7×aG7):=if U (x.2.2.2.2.2.2.2.1<x.2.2.2.2.2.2.1) then if inb x.2.2.2.2.2.2.2.1 x.2.2.2.2.2.1.length then let b:=(rd aG6 x.2.2.2.2.2.1 x.2.2.2.2.2.2.2.1).fr;let c:=(rd aG6 x.2.2.2.2.2.1 x.2.2.2.2.2.2.2.1).nu;let ama:=(rd aG6 x.2.2.2.2.2.1 x.2.2.2.2.2.2.2.1).to;let a:=(rd aG6 x.2.2.2.2.2.1 x.2.2.2.2.2.2.2.1).un;let bO:=(rd aG6 x.2.2.2.2.2.1 x.2.2.2.2.2.2.2.1).tx;(JB (x.2.1.1,ama,())).bind λRf=>if inb Rf.1.1 x.1.2.1.length then(Gn (((rd aG8 x.1.2.1 Rf.1.1).id,(rd aG8 x.1.2.1 Rf.1.1).up,(rd aG8 x.1.2.1 Rf.1.1).log,(rd aG8 x.1.2.1 Rf.1.1).fo,(rd aG8 x.1.2.1 Rf.1.1).AG,()),())).bind λamD=>if U (amD.1.1.2.1<a) then I (.inr<|.inl (A0,())) else I (.inl (x.1,x.2.1,x.2.2.1,x.2.2.2.1,x.2.2.2.2.1,x.2.2.2.2.2.1,x.2.2.2.2.2.2.1,(w64<|x.2.2.2.2.2.2.2.1+1),())) else G else G else I (.inr<|.inr (x.1,x.2.2.1,x.2.2.2.1,x.2.2.2.2.1,()))
def qZ:=AT cQ
def adF:Loop:=⟨[(1,Z14),(6,Z13),(29,.sl .AN),(30,j6),(31,j6),(40,.row 59 .note),(41,j6),(42,j6)],[(1,Z14),(29,.sl .AN),(30,j6),(31,j6)],4,[(2,.bool)],qZ⟩
def ag1:LF f7 [] [1,1,1,0,1,0,0,1,1,0,0,1,1,1,0,0] adF:=sq (v:= .nil) dT (b:=cQ) kN
def cR(x:Y7×List A7×aG7):Rnd (Y7×List A7×aG7) (Bool×D) D:=if U (x.2.2.2.1<x.2.2.1) then if inb x.2.2.2.1 x.2.1.length then let acS:=(rd aG8 x.2.1 x.2.2.2.1).id;let pr:=(rd aG8 x.2.1 x.2.2.2.1).up;let acR:=(rd aG8 x.2.1 x.2.2.2.1).log;let acQ:=(rd aG8 x.2.1 x.2.2.2.1).fo;let acP:=(rd aG8 x.2.1 x.2.2.2.1).AG;(if !pr then I (.inr<|.inl (A0,())) else(Gn ((acS,pr,acR,acQ,acP,()),())).bind λac9=>(AP (qZ (x.1,(acS,pr,acR,acQ,acP,()),x.2.1,x.2.2.1,x.2.2.2.1,ac9.1.1.2.2.2.1,(j8 ac9.1.1.2.2.2.1:Int),0,())) (λRc=>I<|.inr<|.inl Rc) λRc=>I<|.inl (Rc.1,Rc.2.1,Rc.2.2.1,(w64<|Rc.2.2.2.1+1),()))) else G else I (.inr<|.inr ())
def qa:=AT cR
def adG:Loop:=⟨[(1,Z14),(29,.sl .AN),(30,j6),(31,j6)],[],2,[(2,.bool)],qa⟩
def ag4:LF f7 [] [1,1,1,0,1,0,0] adG:=sq (v:=t1<|t1<|.two (.one<|t1<|t1<|t1<|.one<|.loop adF) .nil) dT (b:=cR)<|kC ag1 kN
def cS(x:Y7×List Bool×aG7):Rnd (Y7×List Bool×aG7) (Bool×D) (Y7×D):=if U (x.2.2.2.1<x.2.2.1) then if inb x.2.2.2.1 x.2.1.length then let a:=(rd aHm x.2.1 x.2.2.2.1);(if !a then I (.inr<|.inl (A0,())) else I (.inl (x.1,x.2.1,x.2.2.1,(w64<|x.2.2.2.1+1),()))) else G else I (.inr<|.inr (x.1,()))
def qb:=AT cS
def uo:Loop:=⟨[(1,Z14),(19,.sl .bool),(20,j6),(21,j6)],[(1,Z14)],0,[(2,.bool)],qb⟩
def agA:LF f7 [] [1,1,0,1,0,0] uo:=sq (v:= .nil) dT (b:=cS) kN
def Ru(x:Y7×D):Option ((Bool×D)×D):=(Mp x).bind λb=>if(!b.1.1)||(U<|0<(j8 x.1.2.2.2.1:Int)) then I ((A0,()),()) else(AP (qb (x.1,x.1.2.2.1,(j8 x.1.2.2.1:Int),0,())) (λa=>I (a,())) λa=>(AP (qa (a.1,a.1.2.1,(j8 a.1.2.1:Int),0,())) (λacK=>I (acK,())) λacK=>I ((Y,()),())))
def we:Ent:=(7,G,⟨[Z15],[.bool],Ru⟩)
def adz:y7 we:=sk (v:=t1<|t1<|.two (t1<|.one<|.loop uo)<|.two (t1<|.one<|.loop adG) .nil) (fn:=f7) dT<|kC agA<|kC ag4 kN
def alA:Cx:=cX [] [] []
def aAP:y9 alA:=aG5<|AI
def Vu(x:List Mark×List Mark×v7):Rnd (List Mark×List Mark×v7) (Bool×D) D:=if U (x.2.2.1<(j8 x.1:Int)) then if inb x.2.2.1 x.1.length then if inb x.2.2.1 x.2.1.length then if !(U ((rd aHg x.1 x.2.2.1).mf=(rd aHg x.2.1 x.2.2.1).mf)&&(U ((rd aHg x.1 x.2.2.1).mn=(rd aHg x.2.1 x.2.2.1).mn)&&(U ((rd aHg x.1 x.2.2.1).mu=(rd aHg x.2.1 x.2.2.1).mu)&&Y))) then I (.inr<|.inl (A0,())) else I (.inl (x.1,x.2.1,(w64<|x.2.2.1+1),())) else G else G else I (.inr<|.inr ())
def rS:=AT Vu
def xw:Loop:=⟨[(0,.sl .mark),(1,.sl .mark),(5,j6)],[],0,[(4,.bool)],rS⟩
def ake:LF f26 [] [1,1,0,1,0,0] xw:=sq (v:= .nil) aAP (b:=Vu) kN
def WK(x:List Mark×List Mark×D):Option ((Bool×D)×D):=if !decide ((j8 x.1:Int)=(j8 x.2.1:Int)) then I ((A0,()),()) else(AP (rS (x.1,x.2.1,0,())) (λa=>I (a,())) λa=>I ((Y,()),()))
def aAf:Ent:=(26,G,⟨[.fz .mark,.fz .mark],[.bool],WK⟩)
def afz:y7 aAf:=sk (v:=t1<|t1<|.two (t1<|.one<|.loop xw) .nil) (fn:=f26) aAP<|kC ake kN
def aoT:Cx:=cX [iP,aAf] [] [(39,43)]
def apm:y9 aoT:=aG5<|gC vO<|gC afz<|AI
def Wa(x:Y0×Y0×D):Option ((Bool×D)×D):=if U (x.1.1=x.2.1.1) then if U (x.1.2.1=x.2.1.2.1) then if U (x.1.2.2.1=x.2.1.2.2.1) then(Hw (x.1.2.2.2.1,x.2.1.2.2.2.1,())).bind λb=>if b.1.1 then(WK (x.1.2.2.2.2.1,x.2.1.2.2.2.2.1,())).bind λa=>if Ak a.1.1 ((Hw (x.1.2.2.2.2.2.1,x.2.1.2.2.2.2.2)).isSome) then let c:=(a.1.1&&(((Hw (x.1.2.2.2.2.2.1,x.2.1.2.2.2.2.2)).getD ((A0,()),())).1.1));I ((c,()),()) else G else if Ak A0 ((Hw (x.1.2.2.2.2.2.1,x.2.1.2.2.2.2.2)).isSome) then I ((A0,()),()) else G else if Ak A0 ((Hw (x.1.2.2.2.2.2.1,x.2.1.2.2.2.2.2)).isSome) then I ((A0,()),()) else G else if Ak A0 ((Hw (x.1.2.2.2.2.2.1,x.2.1.2.2.2.2.2)).isSome) then I ((A0,()),()) else G else if Ak A0 ((Hw (x.1.2.2.2.2.2.1,x.2.1.2.2.2.2.2)).isSome) then I ((A0,()),()) else G
def aAq:Ent:=(9,G,⟨[Z4,Z4],[.bool],Wa⟩)
def ah7:y7 aAq:=sk (v:= .nil) (fn:=f9) apm kN
def af4:Cx:=cX [acs,wZ,we,tV,aAq,Ka] [] []
def wC:y9 af4:=aG5<|gC adX<|gC adv<|gC adz<|gC acx<|gC ah7<|gC Ld<|AI
def V3(x:Y7×Y7×v7):Rnd (Y7×Y7×v7) (Bool×D) (Y7×D):=if U (x.2.2.1<(j8 x.1.2.1:Int)) then if inb x.2.2.1 x.2.1.2.1.length then(Gn (((rd aG8 x.2.1.2.1 x.2.2.1).id,(rd aG8 x.2.1.2.1 x.2.2.1).up,(rd aG8 x.2.1.2.1 x.2.2.1).log,(rd aG8 x.2.1.2.1 x.2.2.1).fo,(rd aG8 x.2.1.2.1 x.2.2.1).AG,()),())).bind λa=>if inb x.2.2.1 x.1.2.1.length then(Gn (((rd aG8 x.1.2.1 x.2.2.1).id,(rd aG8 x.1.2.1 x.2.2.1).up,(rd aG8 x.1.2.1 x.2.2.1).log,(rd aG8 x.1.2.1 x.2.2.1).fo,(rd aG8 x.1.2.1 x.2.2.1).AG,()),())).bind λb=>(Wa (a.1.1,b.1)).bind λc=>if !c.1.1 then I (.inr<|.inl (A0,())) else I (.inl (x.1,x.2.1,(w64<|x.2.2.1+1),())) else G else G else I (.inr<|.inr (x.2.1,()))
def qP:=AT V3
def acu:Loop:=⟨[(3,Z14),(5,Z14),(6,j6)],[(5,Z14)],0,[(2,.bool)],qP⟩
def aer:LF f3 [] [1,1,1,1,1,1,1,0,1,0,0] acu:=sq (v:= .nil) wC (b:=V3) kN
def VK(x:List Int×D):Option ((Bool×D)×D):=if U (1048576<(j8 x.1:Int)) then I ((Y,()),()) else(V1 x).bind λa=>(dJ a.1).bind λc=>(Ru a.1).bind λd=>if !decide (d.1.1=c.1.1) then I ((A0,()),()) else if !c.1.1 then I ((Y,()),()) else(IU (a.1.1,2,())).bind λe=>(AP (qP (a.1.1,e.1.1,0,())) (λb=>I (b,())) λb=>(Ru b).bind λf=>I (f.1,()))
def afk:Ent:=(3,G,⟨[.fz .u8],[.bool],VK⟩)
def adf:y7 afk:=sk (v:=t1<|t1<|t1<|t1<|t1<|t1<|t1<|.two (t1<|.one<|.loop acu) .nil) (fn:=f3) wC<|kC aer kN
end Go.VS
end
end
section
set_option linter.all false
noncomputable section
namespace Go.VS
open Go
def aGq(l:List Bool)(i:Nat): @rd Bool aHm l (i:Int)=bA l i:=rfl
def aFn{ti:Int}{ks:List A7}{ls:List Bool}{ra:List AK}{se go:List A3}(h:FW ti ks ls ra se go=Y):Ra ti ks ls ra se go:=by
 unfold FW at h;simp only[AE,decide_eq_true_eq,Cq]at h;obtain⟨a,b,c,d,⟨e,f⟩,⟨g,i⟩,j,l⟩:=h;have a:=Aa.1 a;refine⟨a.1,a.2,J,J,J,e,J,g,J,λm hm=> ?_,l⟩;have:=j m J;unfold JS at this;simp only[AE,decide_eq_true_eq]at this;exact this
section
variable {ti:Int} {ks:List A7} {ls:List Bool} {ra:List AK} {se go:List A3}
def aDs(hf:Ra ti ks ls ra se go){i:Nat}(hi:i<4){j:Nat}(hj:j<(stT<|kA ks i).held.length):
  ∃m:Nat,m<4/\Bu (kA ks i).id (nA (stT<|kA ks i).held j).to=(m:Int):=by
 have h1:=E7 (hf.k i hi).2;have h2:=lI h1.ok<|HU hj;rw[h1.sid]at h2;have:=Em h2;exact⟨(Bu (kA ks i).id (nA (stT<|kA ks i).held j).to).toNat,J,J⟩
end
end Go.VS
namespace Go.VS
open Go
def p9(a t:Int):Nat:=(a - t).natAbs
def aEg{a t:Int}(ha:isN a=Y)(ht:isN t=Y)(hne:a≠t):p9 (Bu a t) t+1=p9 a t:=by
 have:=Em ha;have:=Em ht;have e3:U (a=t)=A0:=by simpa using hne
 unfold Bu p9;simp only[ha,ht,e3,AB,GL,A4];split<;>omega
def xe{k:A7}(sm:F5 k)(h:Ae k=Y):Gn (tKp k,())=I ((tK<|stT k,()),()):=by
 unfold Gn;rw[Jo sm];simp only[A6,h,AB,A4];rw[WL sm.1];rfl
def K3(ks:List A7)(id:Int)(l:List A3)(j:Nat):Bool:=U<|(nA l j).un<=(stT<|kA ks (Bu id (nA l j).to).toNat).ti
def Jx(ks:List A7)(i:Nat):Bool:=(kA ks i).up&&B5 (stT<|kA ks i).held.length (K3 ks (kA ks i).id (stT<|kA ks i).held)
def Mx(ti:Int)(ks:List A7)(ls:List Bool)(ra:List AK)(se go:List A3):Bool:=
 FW ti ks ls ra se go&&(U (ra.length=0)&&(B5 ls.length (bA ls)&&B5 ks.length (Jx ks)))
section
variable {ti:Int} {ks:List A7} {ls:List Bool} {ra:List AK} {se go:List A3}
def aq4(sm:J8 ks ls ra se go)(hf:Ra ti ks ls ra se go){w:YR}(hw:w=(ti,ks,ls,ra,se,go,())){i:Nat}(hi:i<4){len:Int}{ii:Int}:
  qZ (w,tKp<|kA ks i,ks,len,ii,(stT<|kA ks i).held,((stT<|kA ks i).held.length:Int),0,())=
   I (if B5 (stT<|kA ks i).held.length (K3 ks (kA ks i).id (stT<|kA ks i).held) then .inr (w,ks,len,ii,()) else .inl (A0,())):=by
 subst hw;exact D4 (λj=>((ti,ks,ls,ra,se,go,()),tKp<|kA ks i,ks,len,ii,(stT<|kA ks i).held,((stT<|kA ks i).held.length:Int),(j:Int),())) (stT<|kA ks i).held.length (K3 ks (kA ks i).id (stT<|kA ks i).held) (A0,()) _ (λj hj=>by
  obtain⟨m,hm,e⟩:=aDs hf hi hj;have hl:=(C2 (E7 (hf.k i hi).2).ok).hl;unfold cQ K3;simp only[BK hj,AY hj,A2,DQ,uH,A6,e,AY (show m<ks.length by rw[hf.kl];exact hm),N2,Bc];rw[xe (MF sm.k m) (hf.k m hm).2];simp only[A6,BA hj (by omega:(stT<|kA ks i).held.length<=9223372036854775807)];obtain⟨e5,e6⟩|⟨e5,e6⟩:=EQ (nA (stT<|kA ks i).held j).un (stT<|kA ks m).ti<;>simp only[e5,e6,AW,Ad]<;>rfl) (by simp[cQ])
def aq5(sm:J8 ks ls ra se go)(hf:Ra ti ks ls ra se go):
  qa ((ti,ks,ls,ra,se,go,()),ks,(j8 ks:Int),0,())=I (if B5 ks.length (Jx ks) then .inr () else .inl (A0,())):=
 D4 (λi=>((ti,ks,ls,ra,se,go,()),ks,(j8 ks:Int),(i:Int),())) ks.length (Jx ks) (A0,()) () (λi hi=>by
  have hi4:i<4:=by rw[← hf.kl];exact hi
  have h2:=aq4 (i:=i) (len:=(j8 ks:Int)) (ii:=(i:Int)) sm hf rfl hi4;have h3:=xe (MF sm.k i) (hf.k i hi4).2;unfold cR Jx;simp only[BK hi,AY hi,A2,N2,h3,A6];obtain e|e:=tf (kA ks i).up
  .simp only[tKp,e]at h2;simp only[e,AB,A4,AS,h2];obtain e2|e2:=tf (B5 (stT<|kA ks i).held.length<|K3 ks (kA ks i).id (stT<|kA ks i).held)
   .simp only[e2,A2,CU,BA hi (by rw[hf.kl];decide:ks.length<=9223372036854775807)]
   .simp only[e2,A4,GX]
  .simp only[e,AH,A2,AO,A4]) (by simp[cR])
def aq6{w:YR}(hl:ls.length<=1048576):
  qb (w,ls,(j8 ls:Int),0,())=I (if B5 ls.length (bA ls) then .inr (w,()) else .inl (A0,())):=
 D4 (λi=>(w,ls,(j8 ls:Int),(i:Int),())) ls.length (bA ls) (A0,()) _ (λi hi=>by
  unfold cS;simp only[BK hi,AY hi,A2,aGq,BA hi (by omega:ls.length<=9223372036854775807)];obtain e|e:=tf (bA ls i)<;>simp only[e]<;>rfl) (by simp[cS])
def wN(sm:J8 ks ls ra se go):Ru ((ti,ks,ls,ra,se,go,()),())=I ((Mx ti ks ls ra se go,()),()):=by
 unfold Ru Mx;rw[WQ sm];simp only[A6];obtain e|e:=tf (FW ti ks ls ra se go)
 .have hf:=aFn e;simp only[e,AB,Bn,AS];by_cases e2:ra.length=0
  .have e3:U (0<(j8 ra:Int))=A0:=by rw[e2];rfl
   have e2':U (ra.length=0)=Y:=by rw[e2];rfl
   simp only[e3,e2',A4,AS,aq6 sm.l];obtain e4|e4:=tf (B5 ls.length<|bA ls)<;>simp only[e4,A2,A4,CU,GX,AS,AO];rw[aq5 sm hf];obtain e5|e5:=tf (B5 ks.length<|Jx ks)<;>simp only[e5,A2,A4,CU,GX]
  .have e3:U (0<(j8 ra:Int))=Y:=by simp;omega
   simp only[e3,e2,Ad,A2,AO]
 .simp only[e,AH,Bw,A2,AO]
def apO(sm:J8 ks ls ra se go)(hf:Ra ti ks ls ra se go){i:Nat}(hi:i<4):
  qU ((ti,ks,ls,ra,se,go,()),(i:Int),tK<|stT<|kA ks i,0,())=
   I (if B5 (stT<|kA ks i).held.length (K3 ks (kA ks i).id (stT<|kA ks i).held) then .inr ((ti,ks,ls,ra,se,go,()),(i:Int),()) else .inl (A0,())):=
 D4 (λj=>((ti,ks,ls,ra,se,go,()),(i:Int),tK<|stT<|kA ks i,(j:Int),())) (stT<|kA ks i).held.length (K3 ks (kA ks i).id (stT<|kA ks i).held) (A0,()) _ (λj hj=>by
  obtain⟨m,hm,e⟩:=aDs hf hi hj;rw[(hf.k i hi).1]at e;have hl:=(C2 (E7 (hf.k i hi).2).ok).hl;unfold cg iF K3;rw[(hf.k i hi).1];simp only[BK hj,AY hj,A2,DQ,fS,A6,e,AY (show m<ks.length by rw[hf.kl];exact hm),N2,Bc,Sk (MF sm.k m).1,BA hj (by omega:(stT<|kA ks i).held.length<=9223372036854775807)];rw[show(DF (kA ks m).id (kA ks m).log).getD zK=stT (kA ks m) from rfl];obtain e5|e5:=tfp ((nA (stT<|kA ks i).held j).un<=(stT<|kA ks m).ti)<;>simp only[e5,AW,Ad]<;>rfl) (by simp[cg])
def apP(sm:J8 ks ls ra se go)(hf:Ra ti ks ls ra se go):
  qV ((ti,ks,ls,ra,se,go,()),0,())=I (if B5 ks.length (Jx ks) then .inr ((ti,ks,ls,ra,se,go,()),()) else .inl (A0,())):=
 D4 (λi=>((ti,ks,ls,ra,se,go,()),(i:Int),())) ks.length (Jx ks) (A0,()) _ (λi hi=>by
  have hi4:i<4:=by rw[← hf.kl];exact hi
  have h2:=apO (i:=i) sm hf hi4;unfold ch Jx;simp only[BK hi,AY hi,A2,N2,Sk (MF sm.k i).1,A6];rw[show(DF (kA ks i).id (kA ks i).log).getD zK=stT (kA ks i) from rfl];obtain e|e:=tf (kA ks i).up
  .simp only[e,AB,A4,AS,h2];obtain e2|e2:=tf (B5 (stT<|kA ks i).held.length<|K3 ks (kA ks i).id (stT<|kA ks i).held)
   .simp only[e2,A2,CU,BA hi (by rw[hf.kl];decide:ks.length<=9223372036854775807)]
   .simp only[e2,A4,GX]
  .simp only[e,AH,A2,AO,A4]) (by simp[ch])
def apN(hl:ls.length<=1048576):
  qT ((ti,ks,ls,ra,se,go,()),0,())=I (if B5 ls.length (bA ls) then .inr () else .inl (A0,())):=
 D4 (λi=>((ti,ks,ls,ra,se,go,()),(i:Int),())) ls.length (bA ls) (A0,()) _ (λi hi=>by
  unfold cf;simp only[BK hi,AY hi,A2,aGq,BA hi (by omega:ls.length<=9223372036854775807)];obtain e|e:=tf (bA ls i)<;>simp only[e]<;>rfl) (by simp[cf])
def agM(sm:J8 ks ls ra se go):dJ ((ti,ks,ls,ra,se,go,()),())=I ((Mx ti ks ls ra se go,()),()):=by
 unfold dJ Mx;rw[Pt sm];simp only[A6];obtain e|e:=tf (FW ti ks ls ra se go)
 .have hf:=aFn e;simp only[e,AB,Bn,AS];by_cases e2:ra.length=0
  .have e3:U (0<(j8 ra:Int))=A0:=by rw[e2];rfl
   have e2':U (ra.length=0)=Y:=by rw[e2];rfl
   simp only[e3,e2',A4,AS,apP sm hf];obtain e5|e5:=tf (B5 ks.length<|Jx ks)<;>simp only[e5,A2,A4,CU,GX,KJ,BX];rw[apN sm.l];obtain e4|e4:=tf (B5 ls.length<|bA ls)<;>simp only[e4,A2,A4,CU,GX]
  .have e3:U (0<(j8 ra:Int))=Y:=by simp;omega
   simp only[e3,e2,Ad,A2,AO]
 .simp only[e,AH,Bw,A2,AO]
end
end Go.VS
end
end
section
set_option linter.all false
noncomputable section
namespace Go.VS
open Go
def aqs{b:Nat}{k:Nat}(hb:inB (b:Int) 1 6=Y)(hk:k<b):Bg (b:Int) (k:Int)=[k]:=by
 have h:=Aa.1 hb;unfold Bg Dc;rw[hb,A5 (by rw[AS];exact Aa.2 J),A5<|AR J,Bc]
def Yq{l:List A3}{f n:Int}{x:A3}(h:x∈l)(h1:x.fr=f)(h2:x.nu=n):0<=AZ l f n:=by
 obtain h3|h3:=aCf l f n
 .exact absurd ⟨h1,h2⟩ (TM J x h)
 .exact h3
def ayb{k o:AL}{n:A3}(hk:Au k=Y)(hn:Aw n=Y)(h:BO k (JK n)=I o):amh k o n:=by
 rw[kg hk hn]at h;have h:=(Ja.1 h).1;split at h
 .cases h
 unfold Ex at h;split at h
 .cases h
 split at h
 .cases h
 split at h
 .cases h
 split at h
 .cases h
 split at h
 .cases h
 split at h
 .cases h
 split at h
 .rename_i h1;cases h;exact⟨rfl,rfl,rfl,.inl ⟨BW h1,rfl,rfl,rfl⟩⟩
 .rename_i h1;cases h;exact⟨rfl,rfl,rfl,.inr ⟨by simpa using h1,rfl,rfl,rfl⟩⟩
def OT{st:AL}(h:Au st=Y){n:A3}(hn:n∈st.held):Ed st.id n.fr n.to=Y/\st.ti<n.un/\Bt st.marks n.fr n.nu<0:=by
 obtain⟨j,hj,rfl⟩:=Cz hn;have:=(C2 h).ho j hj;unfold H4 at this;simp only[AE,decide_eq_true_eq]at this;rw[show nA st.held j=st.held[j] by rw[nA,BG,Av hj];rfl]at this;exact⟨this.2.2.1,this.2.1,this.2.2.2⟩
def OZ{n:A3}(h:Aw n=Y):isN n.fr=Y/\isN n.to=Y/\inB n.nu 1 99=Y/\inB n.un 1 999=Y/\LN n.tx=Y:=by
 unfold Aw at h;simp only[AE]at h;exact h
def TB{a f t:Int}(ha:isN a=Y)(hf:isN f=Y)(ht:isN t=Y)(h:Ed a f t=Y):isN (Bu a t)=Y/\Bu a t≠f/\(Bu a t≠t->Ed (Bu a t) f t=Y):=by
 have ra:=Em ha;have rf:=Em hf;have rt:=Em ht;unfold Ed at h;simp only[AE,CM,decide_eq_false_iff_not,C8,Aa]at h;have e:Bu a t=if a<t then a+1 else a - 1:=by
  unfold Bu;rw[ha,ht,BH h.1];rfl
 rw[e];refine⟨?_, ?_,λhne=> ?_⟩
 .split
  .exact Aa.2 J
  .exact Aa.2 J
 .split<;>omega
 .unfold Ed;simp only[AE,CM,decide_eq_false_iff_not,C8,Aa];refine⟨hne, ?_⟩;split at hne
  .left;rw[A5<|by assumption];omega
  .right;rw[A9<|by assumption];omega
def BB(id:Int)(n:A3)(m:Int):Frame:=⟨1,id,Bu id n.to,n.fr,n.nu,n.to,n.un,n.tx.size,m,Fw n.tx m⟩
def lB{id:Int}{n:A3}{m:Int}(hi:isN id=Y)(hn:Aw n=Y)(hw:Ed id n.fr n.to=Y)(hm:inB m 0 999=Y):By (BB id n m)=Y:=by
 have r:=OZ hn;have hx:=TB hi r.1 r.2.1 hw;have hf:=lP (L4 hn) hm;unfold By K0 BB;simp only[hi,hx.1,r.1,r.2.1,r.2.2.1,r.2.2.2.1,AW,A2,L4 hn,hm,AS];rw[KJ];exact AR hf.2
def arL{tx:A1}{i:Nat}{m:AQ}(h:m∈F4 tx i):∃j:Nat,j<i/\m=⟨(j:Int),Fw tx (j:Int)⟩:=by
 obtain⟨j,hj,rfl⟩:=C0.1 h;exact⟨j,Cy.1 hj,rfl⟩
def aqe{l:List Mark}(hl:l.length<=1000):WK (l,l,())=I ((Y,()),()):=by
 have h0:rS (l,l,0,())=I (.inr ()):=
  CX (b:=Vu) (λk=>(l,l,(k:Int),())) l.length (λk hk=>by
   unfold Vu;simp only[AY hk,BK hk,A2,AW,EY,AB,A4,BA hk (by omega:l.length<=9223372036854775807)]) (by
   unfold Vu;rw[A9 aG9])
 unfold WK;simp only[AW,AB,A4,h0,CU]
def aqp{k:AL}(h:Au k=Y):Wa (tK k,tK k,())=I ((Y,()),()):=by
 have hf:=C2 h;have h1:=hf.hl;have h2:=hf.ml;have h3:=hf.il;unfold Wa;rw[show Hw ((tK k).2.2.2.1,(tK k).2.2.2.1,())=_ from XM (l:=k.held) J,show WK ((tK k).2.2.2.2.1,(tK k).2.2.2.2.1,())=_ from aqe (l:=k.marks) J,
  show Hw ((tK k).2.2.2.2.2.1,(tK k).2.2.2.2.2)=_ from XM (l:=k.inbox) J]
 simp only[AW,A2,A6,Dk,Hz,Dd,EY]
end Go.VS
end
end
section
set_option linter.all false
noncomputable section
namespace Go.VS
open Go
def aya{l:List Mark}{x:Mark}(h:x∈l):∃i,i<l.length/\mA l i=x:=by
 obtain⟨i,hi,e⟩:=Cz h;exact⟨i,hi,by rw[mA,BG,Av hi];exact e⟩
def aEV{P:AA->Prop}{Q:Event->Prop}(hs:∀w e,As w=Y->P w->Q e->(doM w e).2=Y->P (Cw w e)):∀(l:List Event) {w:AA},As w=Y->P w->(∀e∈l,Q e)->As (Ir w l)=Y/\P (Ir w l)
 | [],w,h,p,_=>⟨h,p⟩
 | e::l,w,h,p,q=>by
  have hq:=q e<|.head _;refine aEV hs l (w:=BS w e) ?_ ?_ λx hx=>q x<|.tail _ hx
  all_goals
   unfold BS;obtain⟨h0,_⟩|⟨_,h0⟩|⟨_,h1,h2,h0⟩:=Sc w e
   .rw[h]at h0;cases h0
   .rw[h0];assumption
   .rw[h0]
    first|exact aFf h h1 h2|exact hs w e h p hq h2
def asl{l:List Event}{w:AA}(h:As w=Y)(v:Inv w):As (Ir w l)=Y/\Inv (Ir w l):=
 aEV (Q:=λ_=>True) (λw e h v _ _=>v.sim (FY h).1 e) l h v (λ_ _=>trivial)
def oO{α:Type}{R:α->α->Prop}{f:α->Bool}{n:α}:∀ {l:List α},l.Pairwise R->(∀x∈l,f x=Y->R x n)->(∀x∈l,f x=A0->R n x)->(∀x y,R n x->R x y->R n y)->(ins f l n).Pairwise R
 | [],_,_,_,_=>aD8 _ _
 | x::l,h,h1,h2,h3=>by
  obtain⟨a,b⟩:=KE.1 h;obtain c|c:=tf (f x)
  .have e:ins f (x::l) n=x::ins f l n:=by unfold ins;simp[c]
   rw[e,KE];refine⟨λy hy=> ?_,oO b (λy hy=>h1 y<|.tail _ hy) (λy hy=>h2 y<|.tail _ hy) h3⟩;obtain rfl|hy:=GY _ hy
   .exact h1 x (.head _) c
   .exact a y hy
  .have e:ins f (x::l) n=n::x::l:=by unfold ins;simp[c]
   rw[e,KE];refine⟨λy hy=> ?_,h⟩;have hx:=h2 x (.head _) c;cases hy with
   | head=>exact hx
   | tail _ hy=>exact h3 _ _ hx<|a y hy
abbrev RN(a b:A3):Prop:=bef a.fr a.nu b.fr b.nu=Y
abbrev RM(a b:Mark):Prop:=bef a.mf a.mn b.mf b.mn=Y
def ab9{a b c d:Int}(h:¬(a=c/\b=d))(g:bef a b c d=A0):bef c d a b=Y:=by
 unfold bef at *;simp only[NJ,MN,decide_eq_false_iff_not,C8,AE,decide_eq_true_eq]at *;omega
def Yo{l:List A3}(h:DR l=Y):l.Pairwise RN:=by
 rw[KG];intro i j hi hj hij;have:=Sa h j i hij hj;rw[DT<|Av hi,DT<|Av hj]at this;exact this
def aFP{l:List A3}(h:l.Pairwise RN)(g:∀x∈l,Aw x=Y):DR l=Y:=by
 unfold DR;rw[Cq];intro i hi;rw[DT<|Av hi,g _ (Ci hi),AS,C8,decide_eq_true_eq];obtain c|c:=U6 i
 .exact .inl c
 .right;rw[DT<|Av (J:i - 1<l.length)];exact KG.1 h (i - 1) i J hi J
def aFV{l:List Mark}(h:FF l=Y):l.Pairwise RM:=by
 have key:∀(j i:Nat),i<j->j<l.length->bef (mA l i).mf (mA l i).mn (mA l j).mf (mA l j).mn=Y:=by
  intro j
  induction j with
  | zero=>intro i h;omega
  | succ j ih=>
   intro i hij hj;have h1:=Cq.1 h (j+1) hj;simp only[AE,C8,decide_eq_true_eq]at h1;have h2:bef (mA l j).mf (mA l j).mn (mA l<|j+1).mf (mA l<|j+1).mn=Y:=h1.2.resolve_left J;obtain h3|h3:=GM i j
   .exact T8 (ih i h3 J) h2
   .rwa[show i=j by omega]
 rw[KG];intro i j hi hj hij;have:=key j i hij hj;rw[Fa<|Av hi,Fa<|Av hj]at this;exact this
def avf{l:List Mark}(h:l.Pairwise RM)(g:∀x∈l,Ev x=Y):FF l=Y:=by
 unfold FF;rw[Cq];intro i hi;rw[Fa<|Av hi,g _ (Ci hi),AS,C8,decide_eq_true_eq];obtain c|c:=U6 i
 .exact .inl c
 .right;rw[Fa<|Av (J:i - 1<l.length)];exact KG.1 h (i - 1) i J hi J
def aDp{l:List A3}{n:A3}(h:DR l=Y)(hn:Aw n=Y)(h0:∀x∈l,¬(x.fr=n.fr/\x.nu=n.nu)):DR (Dt l n)=Y:=by
 refine aFP (oO (Yo h) (λ_ _ c=>c) (λx hx c=>ab9 (h0 x hx) c) λ_ _ a b=>T8 a b) (λx hx=> ?_);obtain rfl|hx:=GY _ hx
 .exact hn
 .exact OD h hx
def aDu{l:List Mark}{m:Mark}(h:FF l=Y)(hm:Ev m=Y)(h0:∀x∈l,¬(x.mf=m.mf/\x.mn=m.mn)):FF (ED l m)=Y:=by
 refine avf (oO (aFV h) (λ_ _ c=>c) (λx hx c=>ab9 (h0 x hx) c) λ_ _ a b=>T8 a b) (λx hx=> ?_);obtain rfl|hx:=GY _ hx
 .exact hm
 .exact aCL h hx
def aGz(l:List A3)(i:Nat):(ER l i).Sublist l:=by
 unfold ER;have h:(l.take i++l.drop (i+1)).Sublist (l.take i++l.drop i):=by
  refine me (EW _) ?_;rw[← J5];exact Qq _ _
 rwa[JZ]at h
def asx{l:List A3}(h:DR l=Y)(i:Nat):DR (ER l i)=Y:=
 aFP ((Yo h).sublist<|aGz l i) (λx hx=>OD h<|OP hx)
def ke{k:AL}(id:isN k.id=Y)(ti:inB k.ti 0 999=Y)(nx:inB k.nx 1 100=Y)(hl:k.held.length<=6)(h:DR k.held=Y)(ml:k.marks.length<=12)(m:FF k.marks=Y)(il:k.inbox.length<=6)(i:DR k.inbox=Y)
  (ho:∀n∈k.held,¬(n.fr=k.id/\k.nx<=n.nu)/\k.ti<n.un/\Ed k.id n.fr n.to=Y/\ ∀x∈k.marks,¬(x.mf=n.fr/\x.mn=n.nu))
  (mo:∀x∈k.marks,k.ti<x.mu/\ ¬(x.mf=k.id/\k.nx<=x.mn))(io:∀n∈k.inbox,n.to=k.id/\ ¬(n.fr=k.id/\k.nx<=n.nu)/\(k.ti<n.un->∃x∈k.marks,x.mf=n.fr/\x.mn=n.nu)):Au k=Y:=by
 unfold Au;simp only[AE,decide_eq_true_eq,Cq];refine⟨id,ti,nx,⟨J,h⟩,⟨J,m⟩,⟨J,i⟩,λj hj=> ?_,λj hj=> ?_,λj hj=> ?_⟩
 .obtain⟨a,b,c,d⟩:=ho _<|HU hj;unfold H4;simp only[AE,CM,decide_eq_true_eq,MN,decide_eq_false_iff_not];refine⟨?_,b,c,by rw[lQ d];decide⟩;by_cases e:(nA k.held j).fr=k.id
  .exact .inr λg=>a ⟨e,g⟩
  .exact .inl e
 .obtain⟨a,b⟩:=mo _<|aE hj;unfold JH;simp only[AE,CM,decide_eq_true_eq,MN,decide_eq_false_iff_not];refine⟨a, ?_⟩;by_cases e:(mA k.marks j).mf=k.id
  .exact .inr λg=>b ⟨e,g⟩
  .exact .inl e
 .obtain⟨a,b,c⟩:=io _<|HU hj;unfold Ii;simp only[AE,C8,CM,decide_eq_true_eq,MN,decide_eq_false_iff_not];refine⟨a, ?_, ?_⟩
  .by_cases e:(nA k.inbox j).fr=k.id
   .exact .inr λg=>b ⟨e,g⟩
   .exact .inl e
  .by_cases e:k.ti<(nA k.inbox j).un
   .obtain⟨x,x1,x2,x3⟩:=c e;exact .inr (lz x1 x2 x3)
   .exact .inl e
def XD{k:AL}(h:Au k=Y){n:A3}(hn:n∈k.held):¬(n.fr=k.id/\k.nx<=n.nu)/\k.ti<n.un/\Ed k.id n.fr n.to=Y/\ ∀x∈k.marks,¬(x.mf=n.fr/\x.mn=n.nu):=by
 obtain⟨i,hi,e⟩:=To hn;have:=(C2 h).ho i hi;unfold H4 at this;rw[e]at this;simp only[AE,CM,decide_eq_true_eq,MN,decide_eq_false_iff_not]at this;exact⟨λc=>by obtain d|d:=this.1<;>first|exact d c.1|exact d c.2,this.2.1,this.2.2.1,ly this.2.2.2⟩
def kG{k:AL}(h:Au k=Y){m:Mark}(hm:m∈k.marks):k.ti<m.mu/\ ¬(m.mf=k.id/\k.nx<=m.mn):=by
 obtain⟨i,hi,e⟩:=aya hm;have:=(C2 h).mo i hi;unfold JH at this;rw[e]at this;simp only[AE,CM,decide_eq_true_eq,MN,decide_eq_false_iff_not]at this;exact⟨this.1,λc=>by obtain d|d:=this.2<;>first|exact d c.1|exact d c.2⟩
def Xn{k:AL}(h:Au k=Y){n:A3}(hn:n∈k.inbox):n.to=k.id/\ ¬(n.fr=k.id/\k.nx<=n.nu)/\(k.ti<n.un->∃x∈k.marks,x.mf=n.fr/\x.mn=n.nu):=by
 obtain⟨i,hi,e⟩:=To hn;have:=(C2 h).io i hi;unfold Ii at this;rw[e]at this;simp only[AE,C8,CM,decide_eq_true_eq,MN,decide_eq_false_iff_not]at this;refine⟨this.1,λc=>by obtain d|d:=this.2.1<;>first|exact d c.1|exact d c.2,λc=> ?_⟩;obtain d|d:=this.2.2
 .exact absurd c d
 .obtain⟨j0,_,j2,j3⟩:=ZY d;exact⟨_,aE j0,j2,j3⟩
def asK{k:AL}{n:A3}(hk:Au k=Y)(hn:Aw n=Y)(hf:n.fr≠k.id)(ht:k.ti<n.un)(h1:∀x∈k.held,¬(x.fr=n.fr/\x.nu=n.nu))(h2:∀x∈k.inbox,¬(x.fr=n.fr/\x.nu=n.nu))(h3:∀x∈k.marks,¬(x.mf=n.fr/\x.mn=n.nu))
  (hl:k.held.length+k.marks.length+1<=6)(il:k.inbox.length+1<=6)(hw:n.to≠k.id->Ed k.id n.fr n.to=Y):∃o,BO k (JK n)=I o:=by
 have kf:=C2 hk;have r:=Q5 hn;have d1:¬0<=AZ k.held n.fr n.nu:=λc=>by obtain⟨j,_,a,b⟩:=FE c;exact h1 _ (HU j) ⟨a,b⟩
 have d2:¬0<=AZ k.inbox n.fr n.nu:=λc=>by obtain⟨j,_,a,b⟩:=FE c;exact h2 _ (HU j) ⟨a,b⟩
 have d3:¬0<=Bt k.marks n.fr n.nu:=λc=>by obtain⟨j,_,a,b⟩:=ZY c;exact h3 _ (aE j) ⟨a,b⟩
 rw[kg hk hn,A9 hf];unfold Ex;rw[hn,AB,A4,BH J,A4,BH d1,A4,BH d2,A4,BH d3,A4,
  BH (J:¬(12:Int)<(j8 k.held:Int)+k.marks.length+1),A4]
 have hid:isN k.id=Y:=Aa.2 ⟨kf.id0,kf.id1⟩;have hti:inB k.ti 0 999=Y:=Aa.2 ⟨kf.t0,kf.t1⟩;have hnx:inB k.nx 1 100=Y:=Aa.2 ⟨kf.n0,kf.n1⟩;by_cases e:n.to=k.id
 .rw[A5<|AR e];refine⟨_,Ja.2 ⟨rfl,ke hid hti hnx kf.hl kf.h ?_ ?_ ?_ (aDp kf.i hn h2) (λx hx=> ?_) (λx hx=> ?_) λx hx=> ?_⟩⟩
  .show(ED _ _).length<=12;unfold ED;rw[OI];omega
  .exact aDu kf.m (by unfold Ev;simp[r.2.2.2.1,r.2.2.2.2.2.1,r.2.2.2.2.2.2.1]) h3
  .show(Dt _ _).length<=6;unfold Dt;rw[OI];omega
  .obtain⟨a,b,c,d⟩:=XD hk hx;refine⟨a,b,c,λy hy=> ?_⟩;obtain rfl|hy:=GY _ hy
   .exact λc=>h1 x hx ⟨c.1.symm,c.2.symm⟩
   .exact d y hy
  .rcases GY _ hx with rfl|hx
   .exact⟨ht,λc=>hf c.1⟩
   .exact kG hk hx
  .rcases GY _ hx with rfl|hx
   .exact⟨e,λc=>hf c.1,λ_=>⟨_,L5 _<|.inl rfl,rfl,rfl⟩⟩
   .obtain⟨a,b,c⟩:=Xn hk hx;refine⟨a,b,λh=> ?_⟩;obtain⟨y,y1,y2⟩:=c h;exact⟨y,L5 _<|.inr y1,y2⟩
 .rw[BH e,A4];refine⟨_,Ja.2 ⟨rfl,ke hid hti hnx ?_ (aDp kf.h hn h1) kf.ml kf.m kf.il kf.i (λx hx=> ?_) (λx hx=>kG hk hx) λx hx=>Xn hk hx⟩⟩
  .show(Dt _ _).length<=6;unfold Dt;rw[OI];omega
  .rcases GY _ hx with rfl|hx
   .exact⟨λc=>hf c.1,ht,hw e,h3⟩
   .exact XD hk hx
def avm{k:AL}{n:A3}(hk:Au k=Y)(hn:n∈k.held)(hl:k.held.length+k.marks.length<=6):∃o,BO k (Cc C3 n.fr n.nu n.un)=I o/\ ∀x∈o.held,¬(x.fr=n.fr/\x.nu=n.nu):=by
 have kf:=C2 hk;have nok:=OD kf.h hn;have r:=Q5 nok;have h0:=Yq hn rfl rfl;obtain⟨j0,j1,j2,j3⟩:=FE h0;have hu:∀x∈k.held,x.fr=n.fr->x.nu=n.nu->x=n:=λx hx a b=>by
  obtain⟨i,hi,e⟩:=Cz hx;obtain⟨j,hj,e'⟩:=Cz hn;have pw:=KG.1<|Yo kf.h;obtain c|c|c:=J0 i j
  .have:=pw i j hi hj c;rw[e,e',RN,a,b,Ou]at this;cases this
  .subst c;rw[← e,← e']
  .have:=pw j i hj hi c;rw[e,e',RN,a,b,Ou]at this;cases this
 have en:=hu _ (HU j0) j2 j3;rw[aE5 hk J J J];have hit:EE k.held ⟨n.fr,n.nu,n.un⟩=Y:=by
  unfold EE;rw[AR h0,en,AR rfl];rfl
 rw[A5 hit];obtain⟨a,b,_,d⟩:=XD hk hn;have gone:∀x∈ER k.held (AZ k.held n.fr n.nu).toNat,¬(x.fr=n.fr/\x.nu=n.nu):=λx hx c=>by
  have:=hu x (OP hx) c.1 c.2;subst this;have:=aGS kf.h j0;rw[en]at this;exact this hx
 refine⟨_,Ja.2 ⟨rfl,ke (Aa.2 ⟨kf.id0,kf.id1⟩) (Aa.2 ⟨kf.t0,kf.t1⟩) (Aa.2 ⟨kf.n0,kf.n1⟩) ?_ (asx kf.h _) ?_ ?_ kf.il kf.i (λx hx=> ?_) (λx hx=> ?_) λx hx=> ?_⟩,gone⟩
 .exact C6 (aGz _ _).length_le kf.hl
 .show(ED _ _).length<=12;unfold ED;rw[OI];omega
 .exact aDu kf.m (by unfold Ev;simp[r.2.2.2.1,r.2.2.2.2.2.1,r.2.2.2.2.2.2.1]) d
 .obtain⟨a,b,c,d⟩:=XD hk<|OP hx;refine⟨a,b,c,λy hy=> ?_⟩;obtain rfl|hy:=GY _ hy
  .exact λc=>gone x hx ⟨c.1.symm,c.2.symm⟩
  .exact d y hy
 .rcases GY _ hx with rfl|hx
  .exact⟨b,a⟩
  .exact kG hk hx
 .obtain⟨a,b,c⟩:=Xn hk hx;refine⟨a,b,λh=> ?_⟩;obtain⟨y,y1,y2⟩:=c h;exact⟨y,L5 _<|.inr y1,y2⟩
def ZG{α:Type}:∀ {l s:List α},l.Nodup->(∀x∈l,x∈s)->l.length<=s.length
 | [],_,_,_=>Ch _
 | x::l,s,h,g=>by
  obtain⟨a,b⟩:=IG.1 h;obtain⟨s1,s2,rfl⟩:=U3<|g x<|.head _;have:=ZG (l:=l) (s:=s1++s2) b (λy hy=>by
   have hy':=g y<|.tail _ hy;rw[BN,Bj]at hy';rw[BN];obtain c|c|c:=hy'
   .exact .inl c
   .subst c;exact absurd hy a
   .exact .inr c)
  simp only[Am,Bm]at this ⊢;omega
def idN(n:A3):Int×Int:=(n.fr,n.nu)
def idM(m:Mark):Int×Int:=(m.mf,m.mn)
def aDg{l:List A3}(h:DR l=Y):(l.map idN).Nodup:=by
 unfold List.Nodup;rw[List.pairwise_map];refine(Yo h).imp (fun {a b} r e=> ?_);have e1:=(J4 e).1;have e2:=(J4 e).2;rw[RN,e1,e2,Ou]at r;cases r
def au8{l:List Mark}(h:FF l=Y):(l.map idM).Nodup:=by
 unfold List.Nodup;rw[List.pairwise_map];refine(aFV h).imp (fun {a b} r e=> ?_);have e1:=(J4 e).1;have e2:=(J4 e).2;rw[RM,e1,e2,Ou]at r;cases r
def Lr{w:AA}(v:Inv w)(ok:B8 w){i:Nat}(hi:i<4){n:A3}(h:n∈(sT w i).held):n∈w.AX:=v.hs i hi n<|((v.lo i hi).lf (ok.k i hi).1).held n h
def aGH{w:AA}(ok:B8 w){i:Nat}(hi:i<4):((sT w i).held.map idN++(sT w i).marks.map idM).Nodup:=by
 have hk:=FI ok hi;have kf:=C2 hk;rw[Jb];refine⟨aDg kf.h,au8 kf.m,λa ha b hb e=> ?_⟩;obtain⟨n,hn,rfl⟩:=C0.1 ha;obtain⟨m,hm,rfl⟩:=C0.1 hb;have e1:=(J4 e).1;have e2:=(J4 e).2;exact(XD hk hn).2.2.2 m hm ⟨e1.symm,e2.symm⟩
def aaP{w:AA}(v:Inv w)(ok:B8 w){i:Nat}(hi:i<4):∀x∈(sT w i).held.map idN++(sT w i).marks.map idM,x∈w.AX.map idN:=λx hx=>by
 obtain hx|hx:=BN.1 hx
 .obtain⟨n,hn,rfl⟩:=C0.1 hx;exact C0.2 ⟨n,Lr v ok hi hn,rfl⟩
 .obtain⟨m,hm,rfl⟩:=C0.1 hx;obtain⟨n,h1,h2,_⟩:=v.mrk i hi m hm;exact C0.2 ⟨n,h1,by rw[h2];rfl⟩
def ayo{w:AA}(v:Inv w)(ok:B8 w){i:Nat}(hi:i<4):(sT w i).held.length+(sT w i).marks.length<=6:=by
 have:=ZG (aGH ok hi)<|aaP v ok hi;have:=ok.sl;simp only[Am,De]at *;omega
def auZ{w:AA}(v:Inv w)(ok:B8 w){i:Nat}(hi:i<4){n:A3}(hn:n∈w.AX)(h1:∀x∈(sT w i).held,¬(x.fr=n.fr/\x.nu=n.nu))(h3:∀x∈(sT w i).marks,¬(x.mf=n.fr/\x.mn=n.nu)):
  (sT w i).held.length+(sT w i).marks.length+1<=6:=by
 have:=ZG (l:=idN n::((sT w i).held.map idN++(sT w i).marks.map idM)) (s:=w.AX.map idN) (IG.2 ⟨λhx=>by
  obtain hx|hx:=BN.1 hx
  .obtain⟨x,hx,e⟩:=C0.1 hx;exact h1 x hx ⟨(J4 e).1,(J4 e).2⟩
  .obtain⟨x,hx,e⟩:=C0.1 hx;exact h3 x hx ⟨(J4 e).1,(J4 e).2⟩,aGH ok hi⟩) (λx hx=>by
  cases hx with
  | head=>exact C0.2 ⟨n,hn,rfl⟩
  | tail _ hx=>exact aaP v ok hi x hx)
 have:=ok.sl;simp only[Am,De,Bm]at *;omega
def aua{w:AA}(v:Inv w)(ok:B8 w){i:Nat}(hi:i<4){n:A3}(hn:n∈w.AX)(h2:∀x∈(sT w i).inbox,¬(x.fr=n.fr/\x.nu=n.nu)):(sT w i).inbox.length+1<=6:=by
 have:=ZG (l:=idN n::(sT w i).inbox.map idN) (s:=w.AX.map idN) (IG.2 ⟨λhx=>by
  obtain⟨x,hx,e⟩:=C0.1 hx;exact h2 x hx ⟨(J4 e).1,(J4 e).2⟩,aDg (C2<|FI ok hi).i⟩) (λx hx=>by
  cases hx with
  | head=>exact C0.2 ⟨n,hn,rfl⟩
  | tail _ hx=>
   obtain⟨y,hy,rfl⟩:=C0.1 hx;exact C0.2 ⟨y,(v.bx i hi y hy).1,rfl⟩)
 have:=ok.sl;simp only[De,Bm]at *;omega
def aaY{w:AA}{p:AK}{ps:List AK}(h:w.AM=p::ps)(n:Nat):dlv (n+1) w=dlv n (BS w eBr):=by
 show(if w.AM.length=0 then w else dlv n (BS w eBr))=_;rw[A9 (by rw[h];simp)]
def Cm.rv{w:AA}(c:Cm w):B8 w:=(FY c.ok).1
def T4{w:AA}(h:As w=Y)(v:Inv w)(e:Event):As (BS w e)=Y/\Inv (BS w e):=asl (l:=[e]) h v
def az2{w:AA}{p:AK}{ps:List AK}(ok:B8 w)(hr:w.AM=p::ps)(hl:∀i,i<3->bA w.An i=Y):doM w eBr=(Ft w p ps,Y):=by
 have hp:pA w.AM 0=p:=by rw[hr];rfl
 have hpo:=N4 (ok.p p (by rw[hr];exact .head _));unfold doM;rw[A5<|.inl rfl];unfold Dx;rw[A5<|show inB eBr.wo 0 ((w.AM.length:Int) - 1)=Y from Aa.2 ⟨Dw _,by rw[hr];show(0:Int)<=((ps.length+1:Nat):Int) - 1;omega⟩,A9<|show ¬eBr.ki=6 by decide,A9<|show ¬eBr.ki=5 by decide];rw[show pA w.AM eBr.wo.toNat=p from hp,hl _ J,A5 rfl,A5<|show eBr.kp=0 from rfl];rw[hr];rfl
def arB{w:AA}{f:Frame}{ps:List AK}(hf:By f=Y):Ft w (pcF f) ps=⟨w.ti,w.A8.set f.dst.toNat (C4 (kA w.A8 f.dst.toNat) f).1,w.An,CC ps (C4 (kA w.A8 f.dst.toNat) f).2,w.AX,w.got⟩:=by
 have hu:Cb (B9 (pcF f).data)=(f,Y):=by
  show Cb (B9<|BF<|Cf f)=_;rw[OG<|OO f,XX hf]
 unfold Ft;rw[hu,A5<|by simp[pcF]];rfl
def aa6{w:AA}{f:Frame}(h:As w=Y)(ht:w.ti<99999)(hl:∀i,i<3->bA w.An i=Y)(hr:w.AM=[pcF f])(hf:By f=Y):
  BS w eBr=⟨w.ti+1,w.A8.set f.dst.toNat (C4 (kA w.A8 f.dst.toNat) f).1,w.An,CC [] (C4 (kA w.A8 f.dst.toNat) f).2,w.AX,w.got⟩:=by
 have hd:=az2 (FY h).1 hr hl;rw[ZJ h ht<|by rw[hd],hd,arB hf]
def auY(f:Frame):CC [] [f]=[pcF f]:=rfl
def aEN:CC [] []=[]:=rfl
def ays{w:AA}(c:Cm w)(hr:w.AM=[])(ht:w.ti<99999){i:Nat}(hi:i<4){n:A3}(hn:n∈(sT w i).held){b:Int}(hb:inB b 0 999=Y):
  BS w (eMx i n.fr n.nu b)=⟨w.ti+1,w.A8,w.An,[pcF (BB i n b)],w.AX,w.got⟩:=by
 have ok:=c.rv;have hk:=FI ok hi;have h0:=Yq hn rfl rfl;obtain⟨j0,_,j2,j3⟩:=FE h0;have e:=Io c.inv.sp (Lr c.inv ok hi<|HU j0) (Lr c.inv ok hi hn) j2 j3;have hid:=(ok.k i hi).2;have hm:EC (kA w.A8 i) n.fr n.nu b=(BB i n b,Y):=by
  unfold EC;rw[A5 (by rw[c.up i hi,hb,BH (show ¬AZ (stT<|kA w.A8 i).held n.fr n.nu<0 by have:0<=AZ (stT<|kA w.A8 i).held n.fr n.nu:=h0;omega)];rfl)];have e:nA (stT<|kA w.A8 i).held (AZ (stT<|kA w.A8 i).held n.fr n.nu).toNat=n:=e;rw[e,hid];rfl
 have hd:doM w (eMx i n.fr n.nu b)=(⟨w.ti,w.A8,w.An,CC w.AM [BB i n b],w.AX,w.got⟩,Y):=by
  unfold doM;rw[A9 (by show ¬((3:Int)=4\/(3:Int)=5\/(3:Int)=6);omega),A9 (by show ¬((3:Int)=9\/(3:Int)=10);omega),A5<|show isN (eMx i n.fr n.nu b).at_=Y from Ih hi];unfold Ig;rw[A9 (by show ¬(3:Int)=1;omega),A9 (by show ¬(3:Int)=2;omega),A5<|show(eMx i n.fr n.nu b).ki=3 from rfl];have:EC (kA w.A8 (eMx i n.fr n.nu b).at_.toNat) (eMx i n.fr n.nu b).fr (eMx i n.fr n.nu b).nu (eMx i n.fr n.nu b).mix=(BB i n b,Y):=hm;rw[this];rfl
 rw[ZJ c.ok ht<|by rw[hd],hd,hr];rfl
def TG{l:List A7}{i j:Nat}(k:A7)(h:j≠i):kA (l.set i k) j=kA l j:=by
 by_cases c:i<l.length
 .rw[HV c,A9 h]
 .rw[List.set_eq_of_length_le J]
def aEF{w:AA}(c:Cm w)(ht:w.ti+3<99999)(hr:w.AM=[]){i j:Nat}(hi:i<4)(hj:j<4){n:A3}(hn:n∈(sT w i).held)(hnx:Bu i n.to=(j:Int)){b:Int}(hb:inB b 0 999=Y):
  (∃w',dlv 400 (BS w<|eMx i n.fr n.nu b)=w'/\(Dz (kA w.A8 j)<|BB i n b).2=[]/\w'=⟨w.ti+2,w.A8.set j (Dz (kA w.A8 j)<|BB i n b).1,w.An,[],w.AX,w.got⟩)\/
  (∃w' x,dlv 400 (BS w<|eMx i n.fr n.nu b)=w'/\(x=2\/x=3)/\(Dz (kA w.A8 j)<|BB i n b).2=[Cs x (BB i n b)]/\
   w'=⟨w.ti+3,(w.A8.set j (Dz (kA w.A8 j)<|BB i n b).1).set i (C4 (kA w.A8 i)<|Cs x<|BB i n b).1,w.An,[],w.AX,w.got⟩):=by
 have ok:=c.rv;have kl:=ok.kl;have hkn:=OT (FI ok hi) hn;have idi:=HX ok hi;rw[idi]at hkn;have nok:=ok.s n<|Lr c.inv ok hi hn;have hf:By (BB i n b)=Y:=lB (Ih hi) nok hkn.1 hb;have PZ:(BB i n b).dst=(j:Int):=hnx;have hij:i≠j:=by
  have:=aEg (Ih hi) (OZ nok).2.1 (by have:=hkn.1;unfold Ed at this;simp only[AE,CM,decide_eq_false_iff_not]at this;exact this.1);intro e;rw[hnx,e]at this;omega
 have h1:=ays c hr J hi hn hb;have g0:=T4 c.ok c.inv<|eMx i n.fr n.nu b;have hh:C4 (kA w.A8 j) (BB i n b)=Dz (kA w.A8 j) (BB i n b):=by
  rw[Yh (ok.k j hj).1];unfold HA;rw[A5 (by rw[c.up j hj,hf,PZ,(ok.k j hj).2];simp),A5<|show U ((BB i n b).ki=1)=Y from rfl]
 rw[h1]at g0;have s2:=aa6 (w:=⟨w.ti+1,w.A8,w.An,[pcF (BB i n b)],w.AX,w.got⟩) (f:=BB i n b) g0.1 (by show w.ti+1<99999;omega) c.li rfl hf;rw[PZ,Bc]at s2;simp only[hh]at s2;have d1:dlv 400 (BS w<|eMx i n.fr n.nu b)=dlv 399 (BS ⟨w.ti+1,w.A8,w.An,[pcF (BB i n b)],w.AX,w.got⟩ eBr):=by
  rw[h1];exact aaY rfl 399
 have g1:=T4 g0.1 g0.2 eBr;rw[s2]at d1 g1;have two:w.ti+1+1=w.ti+2:=J
 rw[two]at d1 g1;have ha:=lJ (kA w.A8 j)<|BB i n b;rw[hh]at ha;obtain ha|⟨_,_,_,x,hx,ha⟩:=ha
 .rw[ha,aEN]at d1;exact .inl ⟨_,rfl,ha,by rw[d1,QO rfl]⟩
 .refine .inr ⟨_,x,rfl,hx,ha, ?_⟩;rw[ha,auY]at d1 g1;have hfa:=oU hf rfl hx;have s3:=aa6 (w:=⟨w.ti+2,w.A8.set j (Dz (kA w.A8 j)<|BB i n b).1,w.An,[pcF (Cs x<|BB i n b)],w.AX,w.got⟩) (f:=Cs x<|BB i n b) g1.1 (by show w.ti+2<99999;omega) c.li rfl hfa;have hds:(Cs x<|BB i n b).dst=(i:Int):=rfl;rw[hds,Bc]at s3;simp only[TG _ hij]at s3;have hno:(C4 (kA w.A8 i)<|Cs x<|BB i n b).2=[]:=by
   obtain h|⟨_,h,_⟩:=lJ (kA w.A8 i) (Cs x<|BB i n b)
   .exact h
   .have:(Cs x<|BB i n b).ki=x:=rfl;omega
  rw[hno,aEN]at s3;rw[d1,aaY rfl 398,s3,QO rfl];rw[show w.ti+2+1=w.ti+3 by omega]
def Pr(hv:List AD)(n:A3)(b:Nat):Prop:=b=0\/ ∃h∈hv,h.fr=n.fr/\h.nu=n.nu/\ ∃x,h.got=x++F4 n.tx b
def arM(tx:A1)(b:Nat):(F4 tx b).length=b:=by unfold F4;simp
def arI(tx:A1)(b:Nat):F4 tx (b+1)=F4 tx b++[⟨(b:Int),Fw tx (b:Int)⟩]:=by
 unfold F4;rw[Hl,Eg];rfl
def arH(x:List AQ)(tx:A1){b:Nat}(hb:b<=5):∃x',Cu (x++F4 tx b) (b:Int) (Fw tx (b:Int))=x'++F4 tx (b+1):=by
 have h:(F4 tx b).filter (Dn (b:Int))=F4 tx b:=List.filter_eq_self.2 λm hm=>by
  obtain⟨j,hj,rfl⟩:=arL hm;unfold Dn;simp;omega
 have hl:=arM tx b;unfold Cu;rw[P5,h,arI];split
 .rename_i hc;rw[Am]at hc;refine⟨(x.filter<|Dn (b:Int)).drop 1, ?_⟩;rw[Tu J,C7]
 .exact⟨x.filter<|Dn (b:Int),by rw[C7]⟩
def avM{k:A7}(hk:Ae k=Y){a b:AD}(ha:a∈k.AG)(hb:b∈k.AG)(h1:a.fr=b.fr)(h2:a.nu=b.nu):a=b:=by
 have hv:=(E7 hk).hv;obtain⟨i,hi,ei⟩:=Oo ha;obtain⟨j,hj,ej⟩:=Oo hb;have key:∀i j,i<k.AG.length->j<i->¬((hA k.AG j).fr=(hA k.AG i).fr/\(hA k.AG j).nu=(hA k.AG i).nu):=λi j hi hj c=>by
  have:=hv i hi;unfold Fe at this;rw[AE,Cq]at this;have:=this.2 j hj;rw[AR c.1,AR c.2]at this;cases this
 obtain c|c|c:=J0 i j
 .exact absurd ⟨by rw[ei,ej,h1],by rw[ei,ej,h2]⟩ (key j i hj c)
 .subst c;rw[← ei,← ej]
 .exact absurd ⟨by rw[ei,ej,h1],by rw[ei,ej,h2]⟩<|key i j hi c
def arJ{l:List AD}{f n:Int}(h:EF l f n<0):∀x∈l,¬(x.fr=f/\x.nu=n):=λx hx c=>by
 obtain⟨i,hi,e⟩:=Oo hx;unfold EF at h;obtain⟨_,g⟩|⟨m,g,_⟩:=G6 l.length (λi=>U ((hA l i).fr=f)&&U ((hA l i).nu=n))
 .have:=g i hi;rw[e,AR c.1,AR c.2]at this;cases this
 .omega
def aue{k:A7}(hk:Ae k=Y){f:Frame}{n:A3}(h1:f.fr=n.fr)(h2:f.nu=n.nu){b:Nat}(p:Pr k.AG n b):∃x,(hA (Ap k.AG f).1 (Ap k.AG f).2).got=x++F4 n.tx b:=by
 obtain⟨i,e,hi,e1,e2,_⟩|⟨hn,l,_,e⟩:=YJ k.AG f
 .rw[e];obtain rfl|⟨h,hh,a1,a2,x,a3⟩:=p
  .exact⟨(hA k.AG i).got,by show _=_++F4 n.tx 0;rw[show F4 n.tx 0=[] from rfl,CE]⟩
  .have:=avM hk hh (og hi) (by rw[a1,e1,h1]) (by rw[a2,e2,h2]);exact⟨x,by rw[← this];exact a3⟩
 .rw[e];obtain rfl|⟨h,hh,a1,a2,_⟩:=p
  .exact⟨[],by rw[TT];rfl⟩
  .exact absurd ⟨by rw[a1,h1],by rw[a2,h2]⟩<|arJ hn h hh
def aud{w:AA}(v:Inv w){j:Nat}(hj:j<4){f:Frame}{n:A3}(hn:n∈w.AX)(h1:f.fr=n.fr)(h2:f.nu=n.nu)(h3:f.to=n.to)(h4:f.un=n.un)(h5:f.sz=n.tx.size):
  MD (hA (Ap (kA w.A8 j).AG f).1 (Ap (kA w.A8 j).AG f).2) f=Y:=by
 obtain⟨i,e,hi,e1,e2,_⟩|⟨_,l,_,e⟩:=YJ (kA w.A8 j).AG f
 .rw[e];obtain⟨x,x1,x2,x3,x4,x5,x6,_⟩:=v.hf j hj _<|og hi;have ex:x=n:=Io v.sp x1 hn (by rw[← x2,e1,h1]) (by rw[← x3,e2,h2]);subst ex;unfold MD;rw[x4,x5,x6,h3,h4,h5];simp
 .rw[e,TT];exact aFk f
def auK{tx:A1}{b k:Nat}(h:k<b):(⟨(k:Int),Fw tx (k:Int)⟩:AQ)∈F4 tx b:=C0.2 ⟨k,Cy.2 h,rfl⟩
def asa{tx:A1}(h:inB tx.size 1 24=Y){x:List AQ}(ho:PF tx (x++F4 tx ((tx.size+3) / 4))):Es tx.size (x++F4 tx ((tx.size+3) / 4))=(tx,Y):=by
 have h':=Aa.1 h;refine aCe h ho λk hk=>⟨⟨(k:Int),Fw tx (k:Int)⟩,CW _<|auK hk,lP h<|Aa.2 J, ?_⟩;exact aqs (aEn h) hk
def aEW{w:AA}(c:Cm w){i j:Nat}(hi:i<4)(hj:j<4){n:A3}(hn:n∈(sT w i).held)(hnx:Bu i n.to=(j:Int)){b:Nat}(hb:b<(n.tx.size+3) / 4)(hp:Pr (kA w.A8 j).AG n b):
  (n.un<=(sT w j).ti/\Dz (kA w.A8 j) (BB i n b)=(kA w.A8 j,[Cs 3 (BB i n b)]))\/
  (¬n.un<=(sT w j).ti/\ ∃k',Dz (kA w.A8 j) (BB i n b)=(k',[Cs 2 (BB i n b)])/\k'.up=Y/\(stT k').ti=(sT w j).ti/\ ∀x∈(stT k').held,x∈(sT w j).held\/x=n)\/
  (¬n.un<=(sT w j).ti/\b+1<(n.tx.size+3) / 4/\ ∃hv,Dz (kA w.A8 j) (BB i n b)=(GA (kA w.A8 j) hv,[])/\Pr hv n (b+1)):=by
 have ok:=c.rv;have v:=c.inv;have hkn:=OT (FI ok hi) hn;rw[HX ok hi]at hkn;have hs:=Lr v ok hi hn;have nok:=ok.s n hs;have rn:=OZ nok;have htx:=L4 nok;have amQ:=Aa.1 htx;have RZ:inB (b:Int) 0 999=Y:=Aa.2 J;have hf:By (BB i n b)=Y:=lB (Ih hi) nok hkn.1 RZ;have hwn:=TB (Ih hi) rn.1 rn.2.1 hkn.1;rw[hnx]at hwn;have qH:=(ok.k j hj).1;have amp:=(ok.k j hj).2;have upj:=c.up j hj;unfold Dz;by_cases hl:n.un<=(sT w j).ti
 .rw[A5<|show(BB i n b).un<=(stT<|kA w.A8 j).ti from hl];exact .inl ⟨hl,rfl⟩
 rw[A9<|show ¬(BB i n b).un<=(stT<|kA w.A8 j).ti from hl];by_cases hh:0<=AZ (stT<|kA w.A8 j).held (BB i n b).fr (BB i n b).nu\/0<=Bt (stT<|kA w.A8 j).marks (BB i n b).fr (BB i n b).nu
 .rw[A5 hh];obtain⟨_,_,_,a3⟩:=oA qH;exact .inr<|.inl ⟨hl,_,rfl,upj,by rw[a3],λx hx=>by rw[a3]at hx;exact .inl hx⟩
 rw[A9 hh,A9 (show ¬(BB i n b).fr=(kA w.A8 j).id by rw[amp];exact λe=>hwn.2.1 e.symm)];have d1:∀x∈(sT w j).held,¬(x.fr=n.fr/\x.nu=n.nu):=λx hx e=>hh<|.inl<|Yq hx e.1 e.2;have d3:∀x∈(sT w j).marks,¬(x.mf=n.fr/\x.mn=n.nu):=λx hx e=>hh<|.inr<|lz hx e.1 e.2;have d2:∀x∈(sT w j).inbox,¬(x.fr=n.fr/\x.nu=n.nu):=λx hx e=>by
  have hx2:=Io v.sp (v.bx j hj x hx).1 hs e.1 e.2;subst hx2;obtain⟨y,y1,y2,y3⟩:=(Xn (FI ok hj) hx).2.2 J;exact d3 y y1 ⟨y2,y3⟩
 obtain⟨p1,p2,p3⟩:=aam (w:=w) (v.hf j hj) (f:=BB i n b) hs rfl rfl rfl rfl rfl;have plt:=N8 (hv:=(kA w.A8 j).AG) (f:=BB i n b);obtain⟨q1,q2⟩:=abA v plt p1 hs (f:=BB i n b) rfl rfl rfl p2 p3;obtain⟨x,ex⟩:=aue qH (f:=BB i n b) (n:=n) rfl rfl hp;obtain⟨x',ex'⟩:=arH x n.tx (b:=b) J;unfold Iv;rw[A5<|aud v hj (f:=BB i n b) hs rfl rfl rfl rfl rfl];rw[ex,show Cu (x++F4 n.tx b) (BB i n b).mix (BB i n b).da=_ from ex'];rw[ex,show Cu (x++F4 n.tx b) (BB i n b).mix (BB i n b).da=_ from ex']at q2;rw[show(BB i n b).sz=(n.tx.size:Int) from rfl];obtain ht|ht:=tf (Es n.tx.size<|x'++F4 n.tx (b+1)).2
 .rw[A5 ht];have hte:=aEw htx q2 ht;rw[hte];rw[show(⟨(BB i n b).fr,(BB i n b).nu,(BB i n b).to,(BB i n b).un,(n.tx,Y).1⟩:A3)=n from rfl];have hdr:=abE qH upj hf rfl;have hkk:=CQ hdr.ok;have est:stT (GA (kA w.A8 j)<|ES (Co (Ap (kA w.A8 j).AG<|BB i n b).1 (Ap (kA w.A8 j).AG<|BB i n b).2<|BB i n b) (Ap (kA w.A8 j).AG<|BB i n b).2)=sT w j:=rfl;obtain⟨o,ho⟩:=asK (k:=sT w j) (FI ok hj) nok (by rw[HX ok hj];exact λe=>hwn.2.1 e.symm) J d1 d2 d3 (auZ v ok hj hs d1 d3) (aua v ok hj hs d2) (λhne=>by
   rw[HX ok hj]at hne ⊢;exact hwn.2.2 λe=>hne e.symm)
  have pY:=aF1 hkk (by rw[est];exact ho);unfold JL;rw[A5 (by rw[nok,pY.2];rfl)];obtain⟨kf,_⟩:=aGk (FI ok hj) nok ho;refine .inr (.inl ⟨hl,_,rfl,by rw[Ok];exact upj, ?_,λy hy=> ?_⟩)
  .rw[pY.1.is.stT];have tk:=ayb (FI ok hj) nok ho;exact tk.ti
  .rw[pY.1.is.stT]at hy;obtain e|e|e:=kf.held y hy
   .exact .inl e
   .cases e
   .cases e;exact .inr rfl
 .rw[ht,A4];refine .inr (.inr ⟨hl, ?_,_,rfl, ?_⟩)
  .rcases GM (b+1) ((n.tx.size+3) / 4) with h|h
   .exact h
   .have e:b+1=(n.tx.size+3) / 4:=J
    rw[e]at ht q2;rw[asa htx q2]at ht;cases ht
  .have hm:∀(l:List AD) (m:Nat),m<l.length->(⟨(hA l m).fr,(hA l m).nu,(hA l m).to,(hA l m).un,(hA l m).sz,Cu (hA l m).got (BB i n b).mix (BB i n b).da⟩:AD)∈Co l m (BB i n b):=λl m h=>by
    unfold Co;exact List.mem_set h _
   refine .inr ⟨_,hm _ _ plt,p2,p3,x', ?_⟩;show Cu (hA (Ap (kA w.A8 j).AG<|BB i n b).1 (Ap (kA w.A8 j).AG<|BB i n b).2).got (BB i n b).mix (BB i n b).da=_;rw[ex];exact ex'
def nJ:∀(m:Nat) {w:AA},As w=Y->Inv w->As (dlv m w)=Y/\Inv (dlv m w)
 | 0,_,h,v=>⟨h,v⟩
 | m+1,w,h,v=>by
  unfold dlv;split
  .exact⟨h,v⟩
  .obtain⟨a,b⟩:=T4 h v eBr;exact nJ m a b
def aDz{k:A7}(hk:Ae k=Y)(f:Frame):C4 k (Cs 3 f)=(k,[]):=by
 rw[Yh hk];unfold HA;split
 .rw[A9 (show ¬U ((Cs 3 f).ki=1)=Y by show ¬U ((3:Int)=1)=Y;decide),show U ((Cs 3 f).ki=2)=A0 from rfl,AO,A4]
 .rfl
def avn{w:AA}(c:Cm w){i:Nat}(hi:i<4){n:A3}(hn:n∈(sT w i).held){b:Int}(hb:inB b 0 999=Y):
  ∃k',C4 (kA w.A8 i) (Cs 2<|BB i n b)=(k',[])/\k'.up=Y/\(stT k').ti=(sT w i).ti/\(∀x∈(stT k').held,x∈(sT w i).held/\x≠n):=by
 have ok:=c.rv;have hk:=FI ok hi;have acI:=(ok.k i hi).1;have hkn:=OT hk hn;rw[HX ok hi]at hkn;have hs:=Lr c.inv ok hi hn;have nok:=ok.s n hs;have hf:By (BB i n b)=Y:=lB (Ih hi) nok hkn.1 hb;have hfa:=oU hf rfl (n:=2) (.inl rfl);have h0:=Yq hn rfl rfl;obtain⟨j0,_,j2,j3⟩:=FE h0;have e:=Io c.inv.sp (Lr c.inv ok hi<|HU j0) hs j2 j3;have e:nA (stT<|kA w.A8 i).held (AZ (stT<|kA w.A8 i).held n.fr n.nu).toNat=n:=e;have h0:0<=AZ (stT<|kA w.A8 i).held n.fr n.nu:=h0;obtain⟨o,ho,hg⟩:=avm hk hn<|ayo c.inv ok hi;have r:=Q5 nok;have hw2:(wrR (kA w.A8 i) (Cc C3 n.fr n.nu n.un) A0).2=Y:=by
  unfold wrR;rw[show BO (stT<|kA w.A8 i) _=_ from ho]
 obtain⟨_,_,a2,_⟩:=aaa acI (c.inv.lo i hi) ⟨n.fr,n.nu,n.un,J,J,J,rfl⟩ hw2;have eo:o=stT (wrR (kA w.A8 i) (Cc C3 n.fr n.nu n.un) A0).1:=E5<|ho.symm.trans a2;have kf:=ab0 hk J J J ho;obtain⟨_,eo2⟩:=o4 hk J J J ho;refine⟨(wrR (kA w.A8 i) (Cc C3 n.fr n.nu n.un) A0).1, ?_,by rw[Ok];exact c.up i hi,by rw[← eo,eo2],λx hx=> ?_⟩
 .rw[Yh acI];unfold HA;rw[A5 (by rw[c.up i hi,hfa,AS,AS];exact AR (by rw[(ok.k i hi).2];rfl)),A9 (show ¬U ((Cs 2<|BB i n b).ki=1)=Y by show ¬U ((2:Int)=1)=Y;decide)];rw[A5 (by
   rw[show(Cs 2<|BB i n b).fr=n.fr from rfl,show(Cs 2<|BB i n b).nu=n.nu from rfl,e,BH (J:¬AZ (stT<|kA w.A8 i).held n.fr n.nu<0)];rw[show(Cs 2<|BB i n b).to=n.to from rfl,show(Cs 2<|BB i n b).un=n.un from rfl,show U ((Cs 2<|BB i n b).ki=2)=Y from rfl,AR rfl,AR rfl];rfl)]
  rfl
 .rw[← eo]at hx;obtain h|h|h:=kf.held x hx
  .exact⟨h,λe=>hg x hx ⟨by rw[e],by rw[e]⟩⟩
  .cases h
  .cases h
def ayp{w:AA}(ok:B8 w){i j:Nat}(hi:i<4){n:A3}(nok:Aw n=Y)(hw:Ed (i:Int) n.fr n.to=Y)(hnx:Bu i n.to=(j:Int)):i≠j:=by
 have:=aEg (Ih hi) (OZ nok).2.1 (by unfold Ed at hw;simp only[AE,CM,decide_eq_false_iff_not]at hw;exact hw.1);intro e;rw[hnx,e]at this;omega
def asv{w:AA}(c:Cm w)(hr:w.AM=[])(ht:w.ti+3<99999){i j:Nat}(hi:i<4)(hj:j<4){n:A3}(hn:n∈(sT w i).held)(hnx:Bu i n.to=(j:Int)){b:Nat}(hb:b<(n.tx.size+3) / 4)(hp:Pr (kA w.A8 j).AG n b):
  Ofr 3 w (EB i n w b) i j n/\(n.un<=(sT w j).ti\/n ∉ (sT (EB i n w b) i).held\/(n∈(sT (EB i n w b) i).held/\b+1<(n.tx.size+3) / 4/\Pr (kA (EB i n w b).A8 j).AG n (b+1))):=by
 have ok:=c.rv;have kl:=ok.kl;have hkn:=OT (FI ok hi) hn;rw[HX ok hi]at hkn;have nok:=ok.s n<|Lr c.inv ok hi hn;have htx:=Aa.1<|L4 nok;have RZ:inB (b:Int) 0 999=Y:=Aa.2 J;have hij:=ayp ok hi nok hkn.1 hnx;have GS:=(fun(e:Event)=>T4 c.ok c.inv e)<|eMx i n.fr n.nu b;have GS:=nJ 400 GS.1 GS.2;unfold EB;obtain⟨w',e0,ha,ew⟩|⟨w',x,e0,hx,ha,ew⟩:=aEF c ht hr hi hj hn hnx RZ
 .rw[e0]at GS ⊢;obtain⟨_,e⟩|⟨_,k',e,_⟩|⟨hl,hb2,hv,e,hpr⟩:=aEW c hi hj hn hnx hb hp
  .rw[e]at ha;cases ha
  .rw[e]at ha;cases ha
  .rw[e]at ew;subst ew;have kj:kA (w.A8.set j<|GA (kA w.A8 j) hv) j=GA (kA w.A8 j) hv:=by rw[HV J,A5 rfl]
   have kk:∀k,k≠j->kA (w.A8.set j<|GA (kA w.A8 j) hv) k=kA w.A8 k:=λk hk=>TG _ hk;have sts:∀k,stT (kA (w.A8.set j<|GA (kA w.A8 j) hv) k)=stT (kA w.A8 k):=λk=>by
    by_cases h:k=j
    .rw[h,kj];rfl
    .rw[kk k h]
   refine⟨⟨⟨GS.1,GS.2,c.li,λk hk=> ?_⟩,rfl,rfl,rfl,by show w.ti<=w.ti+2;omega,by show w.ti+2<=w.ti+(3:Nat);omega,λk _=>by unfold sT;rw[sts],λy hy=>by unfold sT at hy ⊢; rw[sts]at hy;exact hy,
    λy hy=> .inl (by unfold sT at hy ⊢; rw[sts]at hy;exact hy),λk _ h2=>kk k h2,λhs=>absurd hs hl⟩,.inr<|.inr ⟨?_,hb2, ?_⟩⟩
   .show(kA (w.A8.set j _) k).up=Y;by_cases h:k=j
    .rw[h,kj];exact c.up j hj
    .rw[kk k h];exact c.up k hk
   .unfold sT at hn ⊢;rw[sts];exact hn
   .show Pr (kA (w.A8.set j _) j).AG n (b+1);rw[kj];exact hpr
 .rw[e0]at GS ⊢;obtain⟨hl,e⟩|⟨hl,k',e,u1,u2,u3⟩|⟨_,_,hv,e,_⟩:=aEW c hi hj hn hnx hb hp
  .rw[e]at ha;have hx3:x=3:=by
    have:=congrArg Frame.ki (ma ha).1;exact this.symm
   subst hx3;rw[e,aDz (ok.k i hi).1,L7,L7]at ew;subst ew;exact⟨⟨⟨GS.1,GS.2,c.li,c.up⟩,rfl,rfl,rfl,by show w.ti<=w.ti+3;omega,Dw _,λ_ _=>rfl,λ_ h=>h,λ_ h=> .inl h,λ_ _ _=>rfl,λ_=>rfl⟩,.inl hl⟩
  .rw[e]at ha;have hx2:x=2:=by
    have:=congrArg Frame.ki (ma ha).1;exact this.symm
   subst hx2;obtain⟨k1,l0,l1,l2,l3⟩:=avn c hi hn RZ;rw[e,l0]at ew;subst ew;have ki:kA ((w.A8.set j k').set i k1) i=k1:=by rw[HV y8,A5 rfl]
   have kj:kA ((w.A8.set j k').set i k1) j=k':=by rw[TG _ λh=>hij h.symm,HV J,A5 rfl]
   have kk:∀k,k≠i->k≠j->kA ((w.A8.set j k').set i k1) k=kA w.A8 k:=λk h1 h2=>by rw[TG _ h1,TG _ h2]
   refine⟨⟨⟨GS.1,GS.2,c.li,λk hk=> ?_⟩,rfl,rfl,rfl,by show w.ti<=w.ti+3;omega,Dw _,λk hk=> ?_,λy hy=> ?_,λy hy=> ?_,kk,λhs=>absurd hs hl⟩,.inr<|.inl λh=> ?_⟩
   .show(kA ((w.A8.set j k').set i k1) k).up=Y;by_cases h1:k=i
    .rw[h1,ki];exact l1
    .by_cases h2:k=j
     .rw[h2,kj];exact u1
     .rw[kk k h1 h2];exact c.up k hk
   .show(stT<|kA ((w.A8.set j k').set i k1) k).ti=_;by_cases h1:k=i
    .rw[h1,ki];exact l2
    .by_cases h2:k=j
     .rw[h2,kj];exact u2
     .rw[kk k h1 h2]
   .have hy:y∈(stT<|kA ((w.A8.set j k').set i k1) i).held:=hy;rw[ki]at hy;exact(l3 y hy).1
   .have hy:y∈(stT<|kA ((w.A8.set j k').set i k1) j).held:=hy;rw[kj]at hy;exact u3 y hy
   .have h:n∈(stT<|kA ((w.A8.set j k').set i k1) i).held:=h;rw[ki]at h;exact(l3 n h).2 rfl
  .rw[e]at ha;cases ha
def ayr{w:AA}(c:Cm w){i:Nat}(hi:i<4){n:A3}(hs:n∈w.AX)(hn:n ∉ (sT w i).held)(b:Int):BS w (eMx i n.fr n.nu b)=w:=by
 have ok:=c.rv;refine ZI c.ok ?_;have:(EC (kA w.A8 i) n.fr n.nu b).2=A0:=by
  unfold EC;split
  .rename_i hc;simp only[AE,CM,decide_eq_false_iff_not]at hc;obtain⟨j0,_,j2,j3⟩:=FE<|Qx.1 hc.2.1;have hm:=HU j0;have e:=Io c.inv.sp (Lr c.inv ok hi hm) hs j2 j3;rw[e]at hm;exact absurd hm hn
  .rfl
 unfold doM;rw[A9 (by show ¬((3:Int)=4\/(3:Int)=5\/(3:Int)=6);omega),A9 (by show ¬((3:Int)=9\/(3:Int)=10);omega),A5<|show isN (eMx i n.fr n.nu b).at_=Y from Ih hi];unfold Ig;rw[A9 (by show ¬(3:Int)=1;omega),A9 (by show ¬(3:Int)=2;omega),A5<|show(eMx i n.fr n.nu b).ki=3 from rfl];rw[A9 (by rw[show(EC (kA w.A8 (eMx i n.fr n.nu b).at_.toNat) (eMx i n.fr n.nu b).fr (eMx i n.fr n.nu b).nu (eMx i n.fr n.nu b).mix).2=A0 from this];exact CF)]
def asw{w:AA}(c:Cm w)(hr:w.AM=[])(ht:w.ti+18<99999){i j:Nat}(hi:i<4)(hj:j<4){n:A3}(hs:n∈w.AX)(hnx:Bu i n.to=(j:Int)):
  Ofr 18 w (GI i w n) i j n/\(n.un<=(sT w j).ti\/n ∉ (sT (GI i w n) i).held):=by
 have ok:=c.rv;have nok:=ok.s n hs;have htx:=Aa.1<|L4 nok;have key:∀m,m<=(n.tx.size+3) / 4->Ofr (3 * m) w ((B1 m).foldl (EB i n) w) i j n/\(n.un<=(sT w j).ti\/n ∉ (sT ((B1 m).foldl (EB i n) w) i).held\/
   (n∈(sT ((B1 m).foldl (EB i n) w) i).held/\m<(n.tx.size+3) / 4/\Pr (kA ((B1 m).foldl (EB i n) w).A8 j).AG n m)):=by
  intro m
  induction m with
  | zero=>
   intro _;refine⟨Ofr.rfl c hr i j n, ?_⟩;by_cases h:n∈(sT w i).held
   .exact .inr (.inr ⟨h,J,.inl rfl⟩)
   .exact .inr<|.inl h
  | succ m ih=>
   intro hm;obtain⟨o,g⟩:=ih J;rw[Hl,Fg];generalize (B1 m).foldl (EB i n) w=x at o g;show Ofr (3 * (m+1)) w (EB i n x m) i j n/\(_\/n ∉ (sT (EB i n x m) i).held\/(n∈(sT (EB i n x m) i).held/\_/\Pr (kA (EB i n x m).A8 j).AG n (m+1)));have hxs:n∈x.AX:=by rw[o.se];exact hs
   by_cases hh:n∈(sT x i).held
   .have t1:=o.t1;by_cases hp:Pr (kA x.A8 j).AG n m
    .obtain⟨o2,g2⟩:=asv o.cm o.ra J hi hj hh hnx (b:=m) J hp;refine⟨(o.trans hj o2).up J, ?_⟩;obtain g2|g2|g2:=g2
     .rw[o.clk j hj]at g2;exact .inl g2
     .exact .inr (.inl g2)
     .exact .inr<|.inr g2
    ·
     have hst:n.un<=(sT w j).ti:=by
      obtain g|g|g:=g
      .exact g
      .exact absurd hh g
      .exact absurd g.2.2 hp
     have o2:Ofr 3 x (EB i n x m) i j n:=by
      have hkn:=OT (FI o.cm.rv hi) hh;rw[HX o.cm.rv hi]at hkn;have hl:n.un<=(sT x j).ti:=by rw[o.clk j hj];exact hst
      have RZ:inB (m:Int) 0 999=Y:=Aa.2 J;have okx:=o.cm.rv;have GS:=T4 o.cm.ok o.cm.inv<|eMx i n.fr n.nu m;have GS:=nJ 400 GS.1 GS.2;have hpm:Dz (kA x.A8 j) (BB i n m)=(kA x.A8 j,[Cs 3 (BB i n m)]):=by
       unfold Dz;rw[A5<|show(BB i n m).un<=(stT<|kA x.A8 j).ti from hl]
      unfold EB;obtain⟨w',e0,ha,_⟩|⟨w',y,e0,hy,ha,ew⟩:=aEF o.cm J o.ra hi hj hh hnx RZ
      .rw[hpm]at ha;cases ha
      .rw[e0]at GS ⊢;rw[hpm]at ha;have hy3:y=3:=(congrArg Frame.ki (ma ha).1).symm;subst hy3;rw[hpm,aDz (okx.k i hi).1,L7,L7]at ew;subst ew;exact⟨⟨GS.1,GS.2,o.cm.li,o.cm.up⟩,rfl,rfl,rfl,by show x.ti<=x.ti+3;omega,Dw _,λ_ _=>rfl,λ_ h=>h,λ_ h=> .inl h,λ_ _ _=>rfl,λ_=>rfl⟩
     exact⟨(o.trans hj o2).up J,.inl hst⟩
   .have e:EB i n x m=x:=by
     unfold EB;rw[ayr o.cm hi hxs hh,QO o.ra]
    rw[e];exact⟨o.up J,.inr<|.inl hh⟩
 obtain⟨o,g⟩:=key _<|Ar _;refine⟨o.up J, ?_⟩;obtain g|g|g:=g
 .exact .inl g
 .exact .inr g
 .omega
def ZH{w w':AA}(h:∀k,k<4->(sT w' k).ti=(sT w k).ti){n:A3}{i:Nat}(hn:isN (Bu i n.to)=Y):stk w' n i↔stk w n i:=by
 have:=Em hn;unfold stk;rw[h _ J]
def aEG{i:Nat}(hi:i<4):∀(L:List A3) {w:AA},Cm w->w.AM=[]->w.ti+18 * (L.length:Int)<99999->(∀n∈L,n∈w.AX/\Ed (i:Int) n.fr n.to=Y)->Trn (18 * L.length) w (L.foldl (GI i) w) i L
 | [],w,c,hr,_,_=>⟨Cal.rfl c hr,λ_ h=>h,λ_ _ _ _ h=> .inl h,λ_ h=>(by cases h),λ_=>rfl⟩
 | n::L,w,c,hr,ht,hL=>by
  obtain⟨hs,hw⟩:=hL n<|.head _;have rn:=OZ<|c.rv.s n hs;obtain⟨x1,_,_⟩:=TB (Ih hi) rn.1 rn.2.1 hw;have xr:=Em x1;obtain⟨j,hj⟩:∃j:Nat,Bu i n.to=(j:Int):=⟨(Bu i n.to).toNat,J⟩;have hj4:j<4:=J
  have hjn:(Bu (i:Int) n.to).toNat=j:=J
  rw[Bm]at ht;obtain⟨o,g⟩:=asw c hr J hi hj4 hs hj;have t1:=o.t1;have ih:=aEG hi L o.cm o.ra J (λm hm=>by rw[o.se];exact hL m<|.tail _ hm);have nx:∀m∈L,isN (Bu i m.to)=Y:=λm hm=>by
   obtain⟨a,b⟩:=hL m<|.tail _ hm;have rm:=OZ<|c.rv.s m a;exact(TB (Ih hi) rm.1 rm.2.1 b).1
  have co:Cal 18 w (GI i w n):=⟨o.cm,o.ra,o.se,o.go,o.t0,o.t1,o.clk⟩;show Trn _ w (L.foldl (GI i)<|GI i w n) i (n::L);refine⟨(co.trans ih.ca).up (by rw[Bm];omega),λx hx=>o.hi x<|ih.hi x hx,λk hk hki x hx=> ?_,λm hm=> ?_,λhst=> ?_⟩
  .rcases ih.ot k hk hki x hx with h|⟨h1,h2⟩
   .by_cases hkj:k=j
    .subst hkj;obtain h|h:=o.hj x h
     .exact .inl h
     .rw[h];exact .inr ⟨.head _,hj⟩
    .left;unfold sT at h ⊢;rw[o.ot k hki hkj]at h;exact h
   .exact .inr ⟨.tail _ h1,h2⟩
  .cases hm with
   | head=>
    obtain g|g:=g
    .right;unfold stk;rw[hjn];exact g
    .exact .inl λh=>g<|ih.hi _ h
   | tail _ hm=>
    obtain h|h:=ih.dn m hm
    .exact .inl h
    .exact .inr ((ZH o.clk<|nx m hm).1 h)
  .have h0:=hst n<|.head _;unfold stk at h0;rw[hjn]at h0;exact(ih.st λm hm=>(ZH o.clk<|nx m hm).2<|hst m<|.tail _ hm).trans<|o.st h0
def aDh{w:AA}(c:Cm w){i:Nat}(hi:i<4):∀n∈(sT w i).held,n∈w.AX/\Ed (i:Int) n.fr n.to=Y:=λn hn=>by
 have:=(OT (FI c.rv hi) hn).1;rw[HX c.rv hi]at this;exact⟨Lr c.inv c.rv hi hn,this⟩
def Tn{w:AA}(c:Cm w)(hr:w.AM=[])(ht:w.ti+108<99999){i:Nat}(hi:i<4):Trn 108 w (Gq w i) i (sT w i).held:=by
 have hl:=(C2<|FI c.rv hi).hl;have t:=aEG hi (sT w i).held c hr J<|aDh c hi;exact⟨t.ca.up J,t.hi,t.ot,t.dn,t.st⟩
def Stl(w:AA):Prop:=∀k,k<4->∀n∈(sT w k).held,stk w n k
def UW(m:Nat)(w:AA):Prop:=∀k:Nat,k<4->∀n∈(sT w k).held,stk w n k\/(n.to<(k:Int)/\k+m<=3)\/(m=0/\(k:Int)<n.to)
def TI(m i:Nat)(w:AA):Prop:=∀k:Nat,k<4->∀n∈(sT w k).held,stk w n k\/(n.to<(k:Int)/\(k<i->k+m+1<=3)/\k+m<=3)\/((k:Int)<n.to/\i<=k)
def ZT{w:AA}(c:Cm w)(hr:w.AM=[])(ht:w.ti+108<99999){i m:Nat}(hi:i<4)(h:TI m i w):TI m (i+1) (Gq w i):=by
 have t:=Tn c hr ht hi;intro k hk n hn;have okx:=t.ca.cm.rv;have nx:∀ {k:Nat} {x:A3},k<4->x∈(sT w k).held->isN (Bu k x.to)=Y:=fun {k x} hk hx=>by
  obtain⟨a,b⟩:=aDh c hk x hx;have rm:=OZ<|c.rv.s x a;exact(TB (Ih hk) rm.1 rm.2.1 b).1
 by_cases hki:k=i
 .subst hki;have hn':=t.hi n hn;obtain g|g:=t.dn n hn'
  .exact absurd hn g
  .exact .inl ((ZH t.ca.clk<|nx hk hn').2 g)
 .rcases t.ot k hk hki n hn with g|⟨g1,g2⟩
  .rcases h k hk n g with a|⟨a,b,d⟩|⟨a,b⟩
   .exact .inl ((ZH t.ca.clk<|nx hk g).2 a)
   .exact .inr (.inl ⟨a,λe=>b J,d⟩)
   .exact .inr (.inr ⟨a,J⟩)
  .have hw:=OT (FI okx hk) hn;rw[HX okx hk,t.ca.clk k hk]at hw;have hne:(k:Int)≠n.to:=λe=>by
    have:=hw.1;unfold Ed at this;rw[e]at this;simp at this
   have e1:Bu (i:Int) n.to=if(i:Int)<n.to then(i:Int)+1 else(i:Int) - 1:=by
    have:=nx hi g1;unfold Bu at this ⊢;split at this
    .exact absurd (Em this) J
    .rename_i hc;rw[A9 hc]
   rw[e1]at g2;obtain a|⟨a,b,d⟩|⟨a,b⟩:=h i hi n g1
   .exfalso;unfold stk at a;rw[e1,g2,Bc]at a;omega
   .rw[A9 J]at g2;exact .inr (.inl ⟨J,λ_=>by omega,J⟩)
   .rw[A5 a]at g2;exact .inr<|.inr ⟨J,J⟩
def aww{w:AA}(c:Cm w)(hr:w.AM=[])(ht:w.ti+432<99999){m:Nat}(h:UW m w):Cal 432 w (UK w)/\UW (m+1) (UK w)/\(Stl w->(UK w).A8=w.A8):=by
 have s0:TI m 0 w:=λk hk n hn=>by
  obtain a|⟨a,b⟩|⟨_,a⟩:=h k hk n hn
  .exact .inl a
  .exact .inr (.inl ⟨a,λe=>by omega,b⟩)
  .exact .inr<|.inr ⟨a,J⟩
 have t0:=Tn c hr J (i:=0) J;have s1:=ZT c hr J J s0;have b0:=t0.ca.t1;have t1:=Tn t0.ca.cm t0.ca.ra J (i:=1) J;have s2:=ZT t0.ca.cm t0.ca.ra J J s1;have b1:=t1.ca.t1;have t2:=Tn t1.ca.cm t1.ca.ra J (i:=2) J;have s3:=ZT t1.ca.cm t1.ca.ra J J s2;have b2:=t2.ca.t1;have t3:=Tn t2.ca.cm t2.ca.ra J (i:=3) J;have s4:=ZT t2.ca.cm t2.ca.ra J J s3;refine⟨(((t0.ca.trans t1.ca).trans t2.ca).trans t3.ca).up J,λk hk n hn=> ?_,λhst=> ?_⟩
 .rcases s4 k hk n hn with a|⟨a,b,_⟩|⟨_,a⟩
  .exact .inl a
  .exact .inr (.inl ⟨a,by have:=b hk;omega⟩)
  .omega
 .have e0:=t0.st (λn hn=>hst 0 J n hn);have up:∀ {x:AA},x.A8=w.A8->Stl x:=fun {x} e k hk n hn=>by
   unfold sT at hn;rw[e]at hn;have:=hst k hk n hn;unfold stk sT at this ⊢;rw[e];exact this
  have e1:=(t1.st λn hn=>up e0 1 J n hn).trans e0;have e2:=(t2.st λn hn=>up e1 2 J n hn).trans e1;exact(t3.st λn hn=>up e2 3 J n hn).trans e2
def axD{w:AA}(c:Cm w):UW 0 w:=λk hk n hn=>by
 have hw:=OT (FI c.rv hk) hn;rw[HX c.rv hk]at hw;have hne:(k:Int)≠n.to:=λe=>by
  have:=hw.1;unfold Ed at this;rw[e]at this;simp at this
 by_cases e:n.to<(k:Int)
 .exact .inr (.inl ⟨e,J⟩)
 .exact .inr<|.inr ⟨rfl,J⟩
def OJ{w:AA}(c:Cm w)(i:Nat)(hi:i<4):BS w (eRi i)=w/\BS w (eOp i)=w:=by
 have ok:=c.rv;have ll:=ok.ll;refine⟨ZI c.ok ?_,ZI c.ok ?_⟩
 .unfold doM;rw[A9 (by show ¬((8:Int)=4\/(8:Int)=5\/(8:Int)=6);omega),A9 (by show ¬((8:Int)=9\/(8:Int)=10);omega),A5<|show isN (eRi i).at_=Y from Ih hi];unfold Ig;rw[A9 (by show ¬(8:Int)=1;omega),A9 (by show ¬(8:Int)=2;omega),A9 (by show ¬(8:Int)=3;omega),A9 (by show ¬(8:Int)=7;omega),A5<|show(eRi i).ki=8 from rfl];show(!(kA w.A8 i).up)=A0;rw[c.up i hi];rfl
 .unfold doM;rw[A9 (by show ¬((9:Int)=4\/(9:Int)=5\/(9:Int)=6);omega),A5 (by show((9:Int)=9\/(9:Int)=10);omega)];unfold Fc;split
  .rename_i hc;rw[AE,Aa]at hc;have h0:(0:Int)<=(i:Int)/\(i:Int)<=(w.An.length:Int) - 1:=hc.1;have hb:bA w.An (eOp i).at_.toNat=Y:=c.li i J;have:=hc.2;rw[hb,show U ((eOp (i:Int)).ki=9)=Y from rfl]at this;cases this
  .rfl
def auP{w:AA}(c:Cm w):opn w=w:=by
 unfold opn;simp only[Du,KK];rw[(OJ c 0 J).1,(OJ c 0 J).2,(OJ c 1 J).1,(OJ c 1 J).2,(OJ c 2 J).1,(OJ c 2 J).2,(OJ c 3 J).1,(OJ c 3 J).2]
def auc{w:AA}(c:Cm w)(hr:w.AM=[])(ht:w.ti+840<99999){m:Nat}(h:UW m w):Cal 840 w (Eu w)/\UW (m+1) (Eu w)/\(Stl w->(Eu w).A8=w.A8):=by
 unfold Eu;rw[auP c,QO hr];obtain⟨f,g,k⟩:=aww c hr J h;exact⟨f.up J,g,k⟩
def auv{w:AA}(c:Cm w)(hr:w.AM=[])(hs:Stl w):Mx w.ti w.A8 w.An w.AM w.AX w.got=Y:=by
 have ok:=c.rv;have kl:=ok.kl;have ll:=ok.ll;unfold Mx;simp only[AE,decide_eq_true_eq,Cq];refine⟨c.ok,by rw[hr];rfl,λi hi=>c.li i J,λi hi=> ?_⟩;have hi4:i<4:=J
 unfold Jx;rw[AE,Cq];refine⟨c.up i hi4,λj hj=> ?_⟩;unfold K3;rw[decide_eq_true_eq,(ok.k i hi4).2];exact hs i hi4 _<|HU hj
def auw{w:AA}(v:Inv w)(h:Mx w.ti w.A8 w.An w.AM w.AX w.got=Y):Cm w/\w.AM=[]/\Stl w:=by
 unfold Mx at h;simp only[AE,decide_eq_true_eq,Cq]at h;obtain⟨h0,h1,h2,h3⟩:=h;have ok:=(FY h0).1;have kl:=ok.kl;have ll:=ok.ll;refine⟨⟨h0,v,λi hi=>h2 i J,λk hk=> ?_⟩,Df h1,λk hk n hn=> ?_⟩
 .have:=h3 k J;unfold Jx at this;rw[AE]at this;exact this.1
 .have:=h3 k J;unfold Jx at this;rw[AE,Cq]at this;obtain⟨i,hi,e⟩:=To hn;have:=this.2 i hi;unfold K3 at this;rw[decide_eq_true_eq,(ok.k k hk).2]at this;have e:nA (stT<|kA w.A8 k).held i=n:=e;rw[e]at this;exact this
def avC{w:AA}(c:Cm w)(hr:w.AM=[])(hs:Stl w):Ru (tR w,())=I ((Y,()),()):=by
 have:=wN (ti:=w.ti) c.rv.sm;rw[auv c hr hs]at this;exact this
def aw2{w:AA}(h:As w=Y):IU (tR w,2,())=I ((tR<|D1 2 w,()),()):=df h (r:=2) J
def aCW:∀(m:Nat) {w:AA},Cm w->w.AM=[]->Stl w->Cm (D1 m w)/\(D1 m w).AM=[]/\Stl (D1 m w)/\(D1 m w).A8=w.A8
 | 0,_,c,hr,st=>⟨c,hr,st,rfl⟩
 | m+1,w,c,hr,st=>by
  by_cases ht:w.ti<79999
  .rw[So ht];obtain⟨a,_,b⟩:=auc c hr J<|axD c;have e:=b st;have st':Stl (Eu w):=λi hi n hn=>by
    have es:∀k,sT (Eu w) k=sT w k:=λk=>by unfold sT;rw[e]
    rw[es i]at hn;have:=st i hi n hn;unfold stk at this ⊢;rw[es];exact this
   obtain⟨x1,x2,x3,x4⟩:=aCW m a.cm a.ra st';exact⟨x1,x2,x3,x4.trans e⟩
  .have ec:D1 (m+1) w=w:=by
    show(if w.ti<79999 then D1 m (Eu w) else w)=w;rw[A9 ht]
   rw[ec];exact⟨c,hr,st,rfl⟩
abbrev zEv:Event:=⟨0,0,0,0,0,0,0,0,0,noB⟩
def WOk.rch{E:List Event}{N:Nat}{t:_}(h:WOk E N t):∃w l,(t.1,t.2.1,t.2.2.1,t.2.2.2.1,t.2.2.2.2.1,t.2.2.2.2.2.1,())=tR w/\Reach l w:=by
 obtain⟨w,ev,rfl,⟨l,hl,_⟩,_⟩:=h;exact⟨w,l,rfl,hl⟩
def ar4{l:List Int}(hb:BOk l):∃(w:AA) (ev:List Event),V1 (l,())=I ((tR w,()),())/\Reach ev w:=by
 have key:Tot (V1 (l,())) λa=>∃w ev,a.1.1=tR w/\Reach ev w:=by
  unfold V1;refine Tot.bind (aaf hb) λr1 h1=>Tot.bind (oI (M:=14) h1 aHd aHd aHd) λr2 h2=> ?_;obtain⟨w0,ev0,e0,am7,azu⟩:=h2.2;have hr0:=am7.reach;have t0:=hr0.tick J;have ok0:As w0=Y:=aGs hr0.ok J J;refine Tot.join (A:=λj=>CH 60000 j.2.1/\WOk [zEv] 60000 j.2.2.1.2) ?_ (λj hj=> ?_)
  .refine Tot.bind (B4 h2.1 J) λr6 h6=>Tot.ite (λ_=> ?_) (λ_=>Tot.ret ⟨h6.1.up J,⟨w0,ev0,e0,⟨ev0,hr0,λ_=>rfl⟩,J⟩⟩);obtain⟨l',hl'⟩:=(Bx.calm 3 w0).reach ok0 hr0;refine Tot.bind (P:=λa=>a=((tR<|D1 3 w0,()),())) ?_ λr7 h7=> ?_
   .rw[e0];exact Tot.eq (show Lh (tR w0,3,())=_ from xG ok0 (r:=3) J)
   .subst h7;refine Tot.ret ⟨h6.1.up J,⟨D1 3 w0,ev0, ?_,⟨l',hl',λc=>by cases c⟩,J⟩⟩;rw[e0]
  .refine Tot.bind (B4 hj.1 J) λr10 h10=>Tot.ite (λ_=> ?_) (λ_=>Tot.ret hj.2.rch);exact Tot.bind (aau (s:=(r10.2.1,j.2.2.1.2)) ⟨h10.1,hj.2.up J⟩ 0 J) λr11 h11=>Tot.ret h11.w.rch
 obtain⟨⟨⟨y,_⟩,_⟩,e1,w,ev,e2,h2⟩:=key;simp only at e2;subst e2;exact⟨w,ev,e1,h2⟩
def atF{w x:AA}(hw:B8 w)(e:x.A8=w.A8):qP (tR w,tR x,0,())=I (.inr (tR x,())):=by
 have kl:=hw.kl;refine CX (b:=V3) (λi=>(tR w,tR x,(i:Int),())) w.A8.length (λi hi=> ?_) (by
  unfold V3;simp only[TN,A4])
 have hi4:i<4:=J
 have kok:=(hw.k i hi4).1;have h3:=aqp (CQ kok).kok;unfold V3;simp only[BK hi,AY hi,e,kS,A2,Mn kok,A6];rw[show Wa _=_ from h3];simp only[A6,AB,A4,BA hi (by omega:w.A8.length<=9223372036854775807)]
def ayI{l:List Int}(hb:BOk l):VK (l,())=I ((Y,()),()):=by
 obtain⟨w,ev,hd,hr⟩:=ar4 hb;have sm:=hr.ok.sm;unfold VK;apply Tot.val;refine Tot.ite (λ_=>Tot.ret rfl) (λ_=>Tot.bind (Tot.eq hd) λr1 h1=> ?_);subst h1;refine Tot.bind (Tot.eq<|agM (ti:=w.ti) sm) λr2 h2=>Tot.bind (Tot.eq<|wN (ti:=w.ti) sm) λr4 h4=> ?_;subst h2 h4;refine Tot.neg aG9 ?_;rcases(tf<|Mx w.ti w.A8 w.An w.AM w.AX w.got).symm with s|s
 .rw[s];exact Tot.pos rfl (Tot.ret rfl)
 .obtain⟨c,ra,st⟩:=auw hr.inv s;obtain⟨c2,ra2,st2,ek⟩:=aCW 2 c ra st;rw[s];refine Tot.neg rfl (Tot.bind (Tot.eq<|aw2 c.ok) λr5 h5=> ?_);subst h5;refine Tot.sum (P:=λ_=>False) (Q:=λy=>y=(tR<|D1 2 w,())) ⟨_,atF c.rv ek,rfl⟩ (λ_ h=>h.elim) (λy hy=> ?_);subst hy;refine Tot.bind (Tot.eq<|avC c2 ra2 st2) λr26 h26=> ?_;subst h26;exact Tot.ret rfl
end Go.VS
end
end
