/- Part 22. -/
import Derived.Test.YtadnafhbeojhoaaGreatDoorQAU
set_option linter.unusedVariables false
set_option linter.unusedSimpArgs false
set_option linter.defProp false
open Bool renaming and_eq_true->AI,and_false->Bb,and_self->CZ,and_true->L8,eq_iff_iff->Iz,false->A3,false_and->AP,false_or->BY,not_eq_true'->DR,not_false->AG,not_true->AD,or_eq_true->Ci,or_self->Fa,or_true->D3,true->A1,true_and->AX,true_or->Bh
open Classical renaming byContradiction->fc
open Decidable renaming decide->A0
open Eq renaming trans->Jn
open Int renaming toNat->AM,toNat_natCast->Bu
open List renaming any_cons->p8,any_eq_true->I5,getElem?_eq_getElem->Ax,getElem_mem->CQ,getElem_of_mem->Dt,length_cons->Bw,length_nil->C2,map_append->Ev,mem_cons->Bk,mem_singleton->DB,take_add_one->K5,take_length->Ec
open Nat renaming le_refl->As,lt_trans->aY,lt_trichotomy->I8,zero_add->DJ
open Option renaming bind_some->A9,getD_some->C8,isSome_some->CG,none->U,some->I
section
set_option linter.all false
noncomputable section
namespace Go.VS
open Go Go.Proofs
set_option maxRecDepth 100000
def afg:Cx:=cX [] [] []
def aDP:OKC Tryz.prog afg AF:=okc mixed<|AL
def SL(x:List Mark×List Mark×Int×A2):Rnd (List Mark×List Mark×Int×A2) (Bool×A2) (A2):=if A0 (x.2.2.1<(x.1.length:Int)) then if inb x.2.2.1 x.1.length then if inb x.2.2.1 x.2.1.length then if !(A0 ((rd (dfl .mark) x.1 x.2.2.1).mf=(rd (dfl .mark) x.2.1 x.2.2.1).mf)&&(A0 ((rd (dfl .mark) x.1 x.2.2.1).mn=(rd (dfl .mark) x.2.1 x.2.2.1).mn)&&(A0 ((rd (dfl .mark) x.1 x.2.2.1).mu=(rd (dfl .mark) x.2.1 x.2.2.1).mu)&&A1))) then I (.inr<|.inl (A3,())) else I (.inl (x.1,x.2.1,(w64<|x.2.2.1+1),())) else U else U else I (.inr<|.inr ())
def pf:=AW SL
def ug:Loop:=⟨[(0,.sl .mark),(1,.sl .mark),(5,.int .i64)],[],0,[(4,.bool)],pf⟩
def am4:LF Tryz.f29 [] [1,1,0,1,0,0] ug:=sq (v:= .nil) aDP (b:=SL) kN
def VA(x:List Mark×List Mark×A2):Option ((Bool×A2)×A2):=if !decide ((x.1.length:Int)=(x.2.1.length:Int)) then I ((A3,()),()) else(AO (pf (x.1,x.2.1,0,())) (λa=>I (a,())) λa=>I ((A1,()),()))
def wq:Ent:=(29,U,⟨[.fz .mark,.fz .mark],[.bool],VA⟩)
def aqN:SQ Tryz.prog wq:=sk (v:=t1<|t1<|.two (t1<|.one<|.loop ug) .nil) (fn:=Tryz.f29) aDP<|kC am4 kN
def ajt:Cx:=cX [mT,wq] [] [(39,43)]
def arj:OKC Tryz.prog ajt AF:=okc mixed<|gC aA1<|gC aqN<|AL
def Px(x:Y4×Y4×A2):Option ((Bool×A2)×A2):=if A0 (x.1.1=x.2.1.1) then if A0 (x.1.2.1=x.2.1.2.1) then if A0 (x.1.2.2.1=x.2.1.2.2.1) then(Hz (x.1.2.2.2.1,x.2.1.2.2.2.1,())).bind λb=>if b.1.1 then(VA (x.1.2.2.2.2.1,x.2.1.2.2.2.2.1,())).bind λa=>if Ad a.1.1 ((Hz (x.1.2.2.2.2.2.1,x.2.1.2.2.2.2.2)).isSome) then let c:=(a.1.1&&(((Hz (x.1.2.2.2.2.2.1,x.2.1.2.2.2.2.2)).getD ((A3,()),())).1.1));I ((c,()),()) else U else if Ad A3 ((Hz (x.1.2.2.2.2.2.1,x.2.1.2.2.2.2.2)).isSome) then I ((A3,()),()) else U else if Ad A3 ((Hz (x.1.2.2.2.2.2.1,x.2.1.2.2.2.2.2)).isSome) then I ((A3,()),()) else U else if Ad A3 ((Hz (x.1.2.2.2.2.2.1,x.2.1.2.2.2.2.2)).isSome) then I ((A3,()),()) else U else if Ad A3 ((Hz (x.1.2.2.2.2.2.1,x.2.1.2.2.2.2.2)).isSome) then I ((A3,()),()) else U
def ZQ:Ent:=(11,U,⟨[Z10,Z10],[.bool],Px⟩)
def oY:SQ Tryz.prog ZQ:=sk (v:= .nil) (fn:=Tryz.f11) arj kN
def atL:Cx:=cX [Kj] [] []
def ac3:OKC Tryz.prog atL AF:=okc mixed<|gC Ln<|AL
def WX(x:List A7×List A7×Int×Int×A2):Rnd (List A7×List A7×Int×Int×A2) (Bool×A2) (A2):=if A0 (x.2.2.2.1<x.2.2.1) then if inb x.2.2.2.1 x.2.1.length then let a:=(rd (dfl .note) x.2.1 x.2.2.2.1).fr;let b:=(rd (dfl .note) x.2.1 x.2.2.2.1).nu;let d:=(rd (dfl .note) x.2.1 x.2.2.2.1).to;let e:=(rd (dfl .note) x.2.1 x.2.2.2.1).un;let f:=(rd (dfl .note) x.2.1 x.2.2.2.1).tx;(Gl (x.1,a,b,())).bind λc=>if A0 (c.1.1<x.2.2.2.1) then I (.inr<|.inl (A3,())) else I (.inl (x.1,x.2.1,x.2.2.1,(w64<|x.2.2.2.1+1),())) else U else I (.inr<|.inr ())
def rn:=AW WX
def xg:Loop:=⟨[(0,.sl .note),(5,.sl .note),(6,.int .i64),(7,.int .i64)],[],0,[(2,.bool)],rn⟩
def aiI:LF Tryz.f32 [] [1,0,1,0,0] xg:=sq (v:= .nil) ac3 (b:=WX) kN
def SM(x:List A7×A2):Option ((Bool×A2)×A2):=(AO (rn (x.1,x.1,(x.1.length:Int),0,())) (λa=>I (a,())) λa=>I ((A1,()),()))
def acI:Ent:=(32,U,⟨[.fz .note],[.bool],SM⟩)
def afM:SQ Tryz.prog acI:=sk (v:=t1<|.two (t1<|.one<|.loop xg) .nil) (fn:=Tryz.f32) ac3<|kC aiI kN
def aez:Cx:=cX [] [] []
def acW:OKC Tryz.prog aez AF:=okc mixed<|AL
def eA(x:Y5×List A7×Int×Int×A2):Rnd (Y5×List A7×Int×Int×A2) (Bool×A2) (A2):=if A0 (x.2.2.2.1<x.2.2.1) then if inb x.2.2.2.1 x.2.1.length then let a:=(rd (dfl .note) x.2.1 x.2.2.2.1).fr;let b:=(rd (dfl .note) x.2.1 x.2.2.2.1).nu;let c:=(rd (dfl .note) x.2.1 x.2.2.2.1).to;let d:=(rd (dfl .note) x.2.1 x.2.2.2.1).un;let e:=(rd (dfl .note) x.2.1 x.2.2.2.1).tx;if MF a b c d e x.1.1 x.1.2.1 x.1.2.2.1 x.1.2.2.2.1 x.1.2.2.2.2.1 then I (.inr<|.inl (A1,())) else I (.inl (x.1,x.2.1,x.2.2.1,(w64<|x.2.2.2.1+1),())) else U else I (.inr<|.inr ())
def rA:=AW eA
def aE0:Loop:=⟨[(3,Z7),(7,.sl .note),(8,.int .i64),(9,.int .i64)],[],0,[(4,.bool)],rA⟩
def afk:LF Tryz.f34 [] [1,0,1,0,0] aE0:=sq (v:= .nil) acW (b:=eA) kN
def Jq(x:List A7×Y5×A2):Option ((Bool×A2)×A2):=(AO (rA (x.2.1,x.1,(x.1.length:Int),0,())) (λa=>I (a,())) λa=>I ((A3,()),()))
def jW:Ent:=(34,U,⟨[.fz .note,Z8],[.bool],Jq⟩)
def acH:SQ Tryz.prog jW:=sk (v:=t1<|.two (t1<|.one<|.loop aE0) .nil) (fn:=Tryz.f34) acW<|kC afk kN
def ajQ:Cx:=cX [de] [] []
def aB4:OKC Tryz.prog ajQ AF:=okc mixed<|gC nN<|AL
def TC(x:Y5×List Int×Int×A2):Rnd (Y5×List Int×Int×A2) (A2) (List Int×A2):=if !decide (x.2.2.1=x.1.2.2.1) then(Ii (x.2.2.1,x.1.2.2.1,())).bind λa=>if Ac (x.2.1.length+([a.1.1]:List Int).length) then I (.inl (x.1,(x.2.1++([a.1.1]:List Int)),a.1)) else U else I (.inr<|.inr (x.2.1,()))
def cV:=AW TC
def zy:Loop:=⟨[(1,Z7),(3,.row 3 .int),(4,.int .i64)],[(3,.row 3 .int)],0,[],cV⟩
def amy:LF Tryz.f68 [] [1,1,0,1,0,0] zy:=sq (v:= .nil) aB4 (b:=TC) kN
def al(x:Y5×A2):Option ((List Int×A2)×A2):=(AO (cV (x.1,([x.1.1]:List Int),x.1.1,())) (λ_=>U) λa=>I (a,()))
def aai:Ent:=(68,U,⟨[Z8],[.row 3 .int],al⟩)
def aon:SQ Tryz.prog aai:=sk (v:=t1<|t1<|.two (t1<|.one<|.loop zy) .nil) (fn:=Tryz.f68) aB4<|kC amy kN
def as2:Cx:=cX [jW,aai] [] [(16,23),(49,56)]
def zH:OKC Tryz.prog as2 AF:=okc mixed<|gC acH<|gC aon<|AL
def YA(x:List AJ×List AJ×Y5×List Int×Int×Int×A2):Rnd (List AJ×List AJ×Y5×List Int×Int×Int×A2) (Bool×A2) (A2):=if A0 (x.2.2.2.2.2.1<x.2.2.2.2.1) then if inb x.2.2.2.2.2.1 x.2.2.2.1.length then let a:=(rd (dfl .int) x.2.2.2.1 x.2.2.2.2.2.1);(if inb a x.1.length then(Jq ((rd (dfl .keep) x.1 a).held,x.2.2.1,())).bind λc=>if c.1.1 then if inb a x.2.1.length then(Jq ((rd (dfl .keep) x.2.1 a).held,x.2.2.1,())).bind λb=>if Ad (!b.1.1) (inb a x.1.length) then if b.1.1||(A0<|x.2.2.1.2.2.2.1<=(rd (dfl .keep) x.1 a).ti) then I (.inr<|.inl (A1,())) else I (.inl (x.1,x.2.1,x.2.2.1,x.2.2.2.1,x.2.2.2.2.1,(w64<|x.2.2.2.2.2.1+1),())) else U else U else if Ad (!false) (inb a x.1.length) then if A0 (x.2.2.1.2.2.2.1<=(rd (dfl .keep) x.1 a).ti) then I (.inr<|.inl (A1,())) else I (.inl (x.1,x.2.1,x.2.2.1,x.2.2.2.1,x.2.2.2.2.1,(w64<|x.2.2.2.2.2.1+1),())) else U else U) else U else I (.inr<|.inr ())
def gQ:=AW YA
def wz:Loop:=⟨[(1,.sl .keep),(2,.sl .keep),(7,Z7),(26,.row 3 .int),(27,.int .i64),(28,.int .i64)],[],0,[(8,.bool)],gQ⟩
def az0:LF Tryz.f33 [] [1,1,0,1,0,0] wz:=sq (v:= .nil) zH (b:=YA) kN
def aC(x:Y2×List AJ×List AJ×Y5×A2):Option ((Bool×A2)×A2):=(Jq (x.1.2.2.2.2.2.1,x.2.2.2)).bind λa=>if Ad (!a.1.1) (inb x.2.2.2.1.2.2.1 x.2.1.length) then if Ad (!a.1.1) ((Jq ((rd (dfl .keep) x.2.1 x.2.2.2.1.2.2.1).inbox,x.2.2.2)).isSome) then if a.1.1||(((Jq ((rd (dfl .keep) x.2.1 x.2.2.2.1.2.2.1).inbox,x.2.2.2)).getD ((A3,()),())).1.1) then I ((A1,()),()) else(al x.2.2.2).bind λb=>(AO (gQ (x.2.1,x.2.2.1,x.2.2.2.1,b.1.1,(b.1.1.length:Int),0,())) (λc=>I (c,())) λc=>I ((A3,()),())) else U else U
def zx:Ent:=(33,U,⟨[Z30,.fz .keep,.fz .keep,Z8],[.bool],aC⟩)
def aeq:SQ Tryz.prog zx:=sk (v:=t1<|t1<|.two (t1<|.one<|.loop wz) .nil) (fn:=Tryz.f33) zH<|kC az0 kN
def afN:Cx:=cX [rz,TK,acI,zx,jW,Kj] [] [(131,138)]
def OE:OKC Tryz.prog afN AF:=okc mixed<|gC aBb<|gC fa<|gC afM<|gC aeq<|gC acH<|gC Ln<|AL
def XY(x:Y2×Y4×List AJ×Int×Int×List A7×Int×Int×A2):Rnd (Y2×Y4×List AJ×Int×Int×List A7×Int×Int×A2) (Bool×A2) (Y2×Y4×List AJ×Int×Int×A2):=if A0 (x.2.2.2.2.2.2.2.1<x.2.2.2.2.2.2.1) then if inb x.2.2.2.2.2.2.2.1 x.2.2.2.2.2.1.length then let aeQ:=(rd (dfl .note) x.2.2.2.2.2.1 x.2.2.2.2.2.2.2.1).fr;let av3:=(rd (dfl .note) x.2.2.2.2.2.1 x.2.2.2.2.2.2.2.1).nu;let alE:=(rd (dfl .note) x.2.2.2.2.2.1 x.2.2.2.2.2.2.2.1).to;let ahk:=(rd (dfl .note) x.2.2.2.2.2.1 x.2.2.2.2.2.2.2.1).un;let anD:=(rd (dfl .note) x.2.2.2.2.2.1 x.2.2.2.2.2.2.2.1).tx;(Jq (x.1.2.2.2.2.1,(aeQ,av3,alE,ahk,anD,()),())).bind λahY=>if !ahY.1.1 then I (.inr<|.inl (A3,())) else I (.inl (x.1,x.2.1,x.2.2.1,x.2.2.2.1,x.2.2.2.2.1,x.2.2.2.2.2.1,x.2.2.2.2.2.2.1,(w64<|x.2.2.2.2.2.2.2.1+1),())) else U else I (.inr<|.inr (x.1,x.2.1,x.2.2.1,x.2.2.2.1,x.2.2.2.2.1,()))
def mc:=AW XY
def aBN:Loop:=⟨[(1,Z29),(14,Z9),(99,.row 39 .keep),(100,.int .i64),(101,.int .i64),(106,.sl .note),(107,.int .i64),(108,.int .i64)],[(1,Z29),(14,Z9),(99,.row 39 .keep),(100,.int .i64),(101,.int .i64)],8,[(2,.bool)],mc⟩
def ahl:LF Tryz.f13 [] [1,1,1,1,1,1,0,1,0,0,1,1,0,0,1,0,1,0,0] aBN:=sq (v:= .nil) OE (b:=XY) kN
def Ys(x:Y2×List AJ×Int×Int×List A7×Int×Int×A2):Rnd (Y2×List AJ×Int×Int×List A7×Int×Int×A2) (Bool×A2) (Y2×List AJ×Int×Int×A2):=if A0 (x.2.2.2.2.2.2.1<x.2.2.2.2.2.1) then if inb x.2.2.2.2.2.2.1 x.2.2.2.2.1.length then let pd:=(rd (dfl .note) x.2.2.2.2.1 x.2.2.2.2.2.2.1).fr;let nb:=(rd (dfl .note) x.2.2.2.2.1 x.2.2.2.2.2.2.1).nu;let axq:=(rd (dfl .note) x.2.2.2.2.1 x.2.2.2.2.2.2.1).to;let ahR:=(rd (dfl .note) x.2.2.2.2.1 x.2.2.2.2.2.2.1).un;let afo:=(rd (dfl .note) x.2.2.2.2.1 x.2.2.2.2.2.2.1).tx;(Jq (x.1.2.2.2.2.1,(pd,nb,axq,ahR,afo,()),())).bind λvH=>if Ad (!(!vH.1.1)) ((Gl (x.1.2.2.2.2.2.1,pd,nb,())).isSome) then if(!vH.1.1)||(A0<|0<=((Gl (x.1.2.2.2.2.2.1,pd,nb,())).getD ((0,()),())).1.1) then I (.inr<|.inl (A3,())) else I (.inl (x.1,x.2.1,x.2.2.1,x.2.2.2.1,x.2.2.2.2.1,x.2.2.2.2.2.1,(w64<|x.2.2.2.2.2.2.1+1),())) else U else U else I (.inr<|.inr (x.1,x.2.1,x.2.2.1,x.2.2.2.1,()))
def lx:=AW Ys
def aBn:Loop:=⟨[(1,Z29),(99,.row 39 .keep),(100,.int .i64),(101,.int .i64),(119,.sl .note),(120,.int .i64),(121,.int .i64)],[(1,Z29),(99,.row 39 .keep),(100,.int .i64),(101,.int .i64)],10,[(2,.bool)],lx⟩
def asj:LF Tryz.f13 [] [1,1,1,1,1,1,0,1,0,0,1,1,0,0,1,1,1,0,0] aBn:=sq (v:= .nil) OE (b:=Ys) kN
def bk(x:Y2×List AJ×Int×Int×A2):Rnd (Y2×List AJ×Int×Int×A2) (Bool×A2) (A2):=if A0 (x.2.2.2.1<x.2.2.1) then if inb x.2.2.2.1 x.2.1.length then let as7:=(rd (dfl .keep) x.2.1 x.2.2.2.1).id;let ajO:=(rd (dfl .keep) x.2.1 x.2.2.2.1).ti;let aoq:=(rd (dfl .keep) x.2.1 x.2.2.2.1).nx;let mP:=(rd (dfl .keep) x.2.1 x.2.2.2.1).held;let avs:=(rd (dfl .keep) x.2.1 x.2.2.2.1).marks;let avu:=(rd (dfl .keep) x.2.1 x.2.2.2.1).inbox;(AO (mc (x.1,(as7,ajO,aoq,mP,avs,avu,()),x.2.1,x.2.2.1,x.2.2.2.1,mP,(mP.length:Int),0,())) (λMo=>I<|.inr<|.inl Mo) λMo=>(AO (lx (Mo.1,Mo.2.2.1,Mo.2.2.2.1,Mo.2.2.2.2.1,Mo.2.1.2.2.2.2.2.1,(Mo.2.1.2.2.2.2.2.1.length:Int),0,())) (λSA=>I<|.inr<|.inl SA) λSA=>I<|.inl (SA.1,SA.2.1,SA.2.2.1,(w64<|SA.2.2.2.1+1),()))) else U else I (.inr<|.inr ())
def ph:=AW bk
def aC2:Loop:=⟨[(1,Z29),(99,.row 39 .keep),(100,.int .i64),(101,.int .i64)],[],6,[(2,.bool)],ph⟩
def aif:LF Tryz.f13 [] [1,1,1,1,1,1,0,1,0,0] aC2:=sq (v:=t1<|t1<|.two (.one<|t1<|.two (t1<|.one<|.loop aBN)<|t1<|.one<|.loop aBn) .nil) OE (b:=bk)<|kC ahl<|kC asj kN
def ZX(x:Y2×List AJ×List A7×Int×Int×A2):Rnd (Y2×List AJ×List A7×Int×Int×A2) (Bool×A2) (Y2×List AJ×A2):=if A0 (x.2.2.2.2.1<x.2.2.2.1) then if inb x.2.2.2.2.1 x.2.2.1.length then let Zw:=(rd (dfl .note) x.2.2.1 x.2.2.2.2.1).fr;let a:=(rd (dfl .note) x.2.2.1 x.2.2.2.2.1).nu;let xF:=(rd (dfl .note) x.2.2.1 x.2.2.2.2.1).to;let b:=(rd (dfl .note) x.2.2.1 x.2.2.2.2.1).un;let apo:=(rd (dfl .note) x.2.2.1 x.2.2.2.2.1).tx;(Jq (x.1.2.2.2.2.1,(Zw,a,xF,b,apo,()),())).bind λatW=>if !atW.1.1 then I (.inr<|.inl (A3,())) else I (.inl (x.1,x.2.1,x.2.2.1,x.2.2.2.1,(w64<|x.2.2.2.2.1+1),())) else U else I (.inr<|.inr (x.1,x.2.1,()))
def qR:=AW ZX
def aAg:Loop:=⟨[(1,Z29),(3,.row 39 .keep),(87,.sl .note),(88,.int .i64),(89,.int .i64)],[(1,Z29),(3,.row 39 .keep)],4,[(2,.bool)],qR⟩
def aiY:LF Tryz.f13 [] [1,1,1,1,1,0,1,0,0] aAg:=sq (v:= .nil) OE (b:=ZX) kN
def dB(x:Y2×List AJ×List AJ×List A7×Int×Int×A2):Rnd (Y2×List AJ×List AJ×List A7×Int×Int×A2) (Bool×A2) (Y2×List AJ×A2):=if A0 (x.2.2.2.2.2.1<x.2.2.2.2.1) then if inb x.2.2.2.2.2.1 x.2.2.2.1.length then let aio:=(rd (dfl .note) x.2.2.2.1 x.2.2.2.2.2.1).fr;let ap9:=(rd (dfl .note) x.2.2.2.1 x.2.2.2.2.2.1).nu;let awZ:=(rd (dfl .note) x.2.2.2.1 x.2.2.2.2.2.1).to;let auK:=(rd (dfl .note) x.2.2.2.1 x.2.2.2.2.2.1).un;let a:=(rd (dfl .note) x.2.2.2.1 x.2.2.2.2.2.1).tx;(aC (x.1,x.2.1,x.2.2.1,(aio,ap9,awZ,auK,a,()),())).bind λagk=>if !agk.1.1 then I (.inr<|.inl (A3,())) else I (.inl (x.1,x.2.1,x.2.2.1,x.2.2.2.1,x.2.2.2.2.1,(w64<|x.2.2.2.2.2.1+1),())) else U else I (.inr<|.inr (x.1,x.2.1,()))
def iC:=AW dB
def tk:Loop:=⟨[(1,Z29),(3,.row 39 .keep),(4,.row 39 .keep),(73,.sl .note),(74,.int .i64),(75,.int .i64)],[(1,Z29),(3,.row 39 .keep)],2,[(2,.bool)],iC⟩
def ayZ:LF Tryz.f13 [] [1,1,1,1,0,1,0,0] tk:=sq (v:= .nil) OE (b:=dB) kN
def Vo(x:Y2×List AJ×List AJ×List AA×Int×Int×A2):Rnd (Y2×List AJ×List AJ×List AA×Int×Int×A2) (A2) (Y2×List AJ×List AJ×A2):=if A0 (x.2.2.2.2.2.1<x.2.2.2.2.1) then if inb x.2.2.2.2.2.1 x.2.2.2.1.length then let e:=(rd (dfl .AN) x.2.2.2.1 x.2.2.2.2.2.1).id;let f:=(rd (dfl .AN) x.2.2.2.1 x.2.2.2.2.2.1).up;let c:=(rd (dfl .AN) x.2.2.2.1 x.2.2.2.2.2.1).log;let d:=(rd (dfl .AN) x.2.2.2.1 x.2.2.2.2.2.1).fo;let g:=(rd (dfl .AN) x.2.2.2.1 x.2.2.2.2.2.1).AE;(JK (e,c,())).bind λa=>if Ac (x.2.1.length+([(AJ.mk a.1.1.1 a.1.1.2.1 a.1.1.2.2.1 a.1.1.2.2.2.1 a.1.1.2.2.2.2.1 a.1.1.2.2.2.2.2.1)]:List AJ).length) then if A0 (0<=d)&&A0 (d<=(c.size:Int)) then(JK (e,(c.extract (0)<|AM d),())).bind λb=>if Ac (x.2.2.1.length+([(AJ.mk b.1.1.1 b.1.1.2.1 b.1.1.2.2.1 b.1.1.2.2.2.1 b.1.1.2.2.2.2.1 b.1.1.2.2.2.2.2.1)]:List AJ).length) then I (.inl (x.1,(x.2.1++([(AJ.mk a.1.1.1 a.1.1.2.1 a.1.1.2.2.1 a.1.1.2.2.2.1 a.1.1.2.2.2.2.1 a.1.1.2.2.2.2.2.1)]:List AJ)),(x.2.2.1++([(AJ.mk b.1.1.1 b.1.1.2.1 b.1.1.2.2.1 b.1.1.2.2.2.1 b.1.1.2.2.2.2.1 b.1.1.2.2.2.2.2.1)]:List AJ)),x.2.2.2.1,x.2.2.2.2.1,(w64<|x.2.2.2.2.2.1+1),())) else U else U else U else U else I (.inr<|.inr (x.1,x.2.1,x.2.2.1,()))
def ow:=AW Vo
def aal:Loop:=⟨[(1,Z29),(3,.row 39 .keep),(4,.row 39 .keep),(35,.sl .AN),(36,.int .i64),(37,.int .i64)],[(1,Z29),(3,.row 39 .keep),(4,.row 39 .keep)],0,[],ow⟩
def afG:LF Tryz.f13 [] [1,1,1,0,1,0,0] aal:=sq (v:= .nil) OE (b:=Vo) kN
def Pd(x:Y2×A2):Option ((Bool×A2)×A2):=(Rv x).bind λb=>if !b.1.1 then I ((A3,()),()) else(SM (x.1.2.2.2.2.1,())).bind λc=>if !c.1.1 then I ((A3,()),()) else(SM x.1.2.2.2.2.2).bind λd=>if !d.1.1 then I ((A3,()),()) else(AO (ow (x.1,([]:List AJ),([]:List AJ),x.1.2.1,(x.1.2.1.length:Int),0,())) (λ_=>U) λa=>(AO (iC (a.1,a.2.1,a.2.2.1,a.1.2.2.2.2.1,(a.1.2.2.2.2.1.length:Int),0,())) (λQC=>I (QC,())) λQC=>(AO (qR (QC.1,QC.2.1,QC.1.2.2.2.2.2.1,(QC.1.2.2.2.2.2.1.length:Int),0,())) (λUy=>I (Uy,())) λUy=>(AO (ph (Uy.1,Uy.2.1,(Uy.2.1.length:Int),0,())) (λacn=>I (acn,())) λacn=>I ((A1,()),())))))
def oR:Ent:=(13,U,⟨[Z30],[.bool],Pd⟩)
def wx:SQ Tryz.prog oR:=sk (v:=t1<|t1<|t1<|.two (t1<|.one<|.loop aal)<|.two (t1<|.one<|.loop tk)<|.two (t1<|.one<|.loop aAg)<|.two (t1<|.one<|.loop aC2) .nil) (fn:=Tryz.f13) OE<|kC afG<|kC ayZ<|kC aiY<|kC aif kN
def awG:Cx:=cX [Gb,KC] [] [(43,49)]
def ab5:OKC Tryz.prog awG AF:=okc mixed<|gC H7<|gC Ku<|AL
def Zg(x:Y2×Y5×Int×A2):Rnd (Y2×Y5×Int×A2) (Bool×A2) (Y2×Y5×A2):=if A0 (x.2.2.1<(x.1.2.2.2.2.2.1.length:Int)) then if inb x.2.2.1 x.1.2.2.2.2.2.1.length then if MF ((rd (dfl .note) x.1.2.2.2.2.2.1 x.2.2.1).fr) ((rd (dfl .note) x.1.2.2.2.2.2.1 x.2.2.1).nu) ((rd (dfl .note) x.1.2.2.2.2.2.1 x.2.2.1).to) ((rd (dfl .note) x.1.2.2.2.2.2.1 x.2.2.1).un) ((rd (dfl .note) x.1.2.2.2.2.2.1 x.2.2.1).tx) x.2.1.1 x.2.1.2.1 x.2.1.2.2.1 x.2.1.2.2.2.1 x.2.1.2.2.2.2.1 then I (.inr<|.inl (A1,())) else I (.inl (x.1,x.2.1,(w64<|x.2.2.1+1),())) else U else I (.inr<|.inr (x.1,x.2.1,()))
def qC:=AW Zg
def aaf:Loop:=⟨[(2,Z29),(3,Z7),(5,.int .i64)],[(2,Z29),(3,Z7)],0,[(4,.bool)],qC⟩
def aly:LF Tryz.f36 [] [1,0,1,0,0] aaf:=sq (v:= .nil) ab5 (b:=Zg) kN
def Yx(x:Y2×Y5×A2):Option ((Bool×A2)×A2):=(AO (qC (x.1,x.2.1,0,())) (λa=>I (a,())) λa=>(if inb a.2.1.2.2.1 a.1.2.1.length then(Ey (((rd (dfl .AN) a.1.2.1 a.2.1.2.2.1).id,(rd (dfl .AN) a.1.2.1 a.2.1.2.2.1).up,(rd (dfl .AN) a.1.2.1 a.2.1.2.2.1).log,(rd (dfl .AN) a.1.2.1 a.2.1.2.2.1).fo,(rd (dfl .AN) a.1.2.1 a.2.1.2.2.1).AE,()),())).bind λc=>(FB (c.1.1.2.2.2.2.2.1,a.2.1.1,a.2.1.2.1,())).bind λb=>if Ad (A0<|0<=b.1.1) (inb b.1.1 c.1.1.2.2.2.2.2.1.length) then let d:=((A0<|0<=b.1.1)&&(MF ((rd (dfl .note) c.1.1.2.2.2.2.2.1 b.1.1).fr) ((rd (dfl .note) c.1.1.2.2.2.2.2.1 b.1.1).nu) ((rd (dfl .note) c.1.1.2.2.2.2.2.1 b.1.1).to) ((rd (dfl .note) c.1.1.2.2.2.2.2.1 b.1.1).un) ((rd (dfl .note) c.1.1.2.2.2.2.2.1 b.1.1).tx) a.2.1.1 a.2.1.2.1 a.2.1.2.2.1 a.2.1.2.2.2.1 a.2.1.2.2.2.2.1));I ((d,()),()) else U else U))
def aa3:Ent:=(36,U,⟨[Z30,Z8],[.bool],Yx⟩)
def apn:SQ Tryz.prog aa3:=sk (v:=t1<|.two (t1<|.one<|.loop aaf) .nil) (fn:=Tryz.f36) ab5<|kC aly kN
def avl:Cx:=cX [QI,Xg] [] []
def aoD:OKC Tryz.prog avl AF:=okc mixed<|gC VI<|gC pz<|AL
def X9(x:Y1×A2):Option ((Y4×A2)×A2):=if A0 (0<=x.1.2.2.2.1)&&A0 (x.1.2.2.2.1<=(x.1.2.2.1.size:Int)) then(Jz ((x.1.2.2.1.extract (0)<|AM x.1.2.2.2.1),())).bind λa=>(Om (x.1.1,a.1.1,())).bind λb=>I ((b.1.1,()),()) else U
def yt:Ent:=(70,U,⟨[Z14],[Z6],X9⟩)
def auW:SQ Tryz.prog yt:=sk (v:= .nil) (fn:=Tryz.f70) aoD kN
def arY:Cx:=cX [Gb,KC,yt,Wb] [] [(17,18),(76,80)]
def aEm:OKC Tryz.prog arY AF:=okc mixed<|gC H7<|gC Ku<|gC auW<|gC lu<|AL
def TJ(x:Y2×Y5×Int×Int×A2):Rnd (Y2×Y5×Int×Int×A2) (Bool×A2) (A2):=if(A0<|x.2.2.2.1<4)&&(A0<|0<=x.2.2.1) then if inb x.2.2.1 x.1.2.1.length then(Ey (((rd (dfl .AN) x.1.2.1 x.2.2.1).id,(rd (dfl .AN) x.1.2.1 x.2.2.1).up,(rd (dfl .AN) x.1.2.1 x.2.2.1).log,(rd (dfl .AN) x.1.2.1 x.2.2.1).fo,(rd (dfl .AN) x.1.2.1 x.2.2.1).AE,()),())).bind λa=>if inb x.2.2.1 x.1.2.1.length then(X9 (((rd (dfl .AN) x.1.2.1 x.2.2.1).id,(rd (dfl .AN) x.1.2.1 x.2.2.1).up,(rd (dfl .AN) x.1.2.1 x.2.2.1).log,(rd (dfl .AN) x.1.2.1 x.2.2.1).fo,(rd (dfl .AN) x.1.2.1 x.2.2.1).AE,()),())).bind λb=>(FB (a.1.1.2.2.2.1,x.2.1.1,x.2.1.2.1,())).bind λc=>(FB (b.1.1.2.2.2.1,x.2.1.1,x.2.1.2.1,())).bind λd=>if A0 (0<=c.1.1) then if A0 (0<=d.1.1) then if inb c.1.1 a.1.1.2.2.2.1.length then if MF ((rd (dfl .note) a.1.1.2.2.2.1 c.1.1).fr) ((rd (dfl .note) a.1.1.2.2.2.1 c.1.1).nu) ((rd (dfl .note) a.1.1.2.2.2.1 c.1.1).to) ((rd (dfl .note) a.1.1.2.2.2.1 c.1.1).un) ((rd (dfl .note) a.1.1.2.2.2.1 c.1.1).tx) x.2.1.1 x.2.1.2.1 x.2.1.2.2.1 x.2.1.2.2.2.1 x.2.1.2.2.2.2.1 then if inb d.1.1 b.1.1.2.2.2.1.length then if(MF ((rd (dfl .note) b.1.1.2.2.2.1 d.1.1).fr) ((rd (dfl .note) b.1.1.2.2.2.1 d.1.1).nu) ((rd (dfl .note) b.1.1.2.2.2.1 d.1.1).to) ((rd (dfl .note) b.1.1.2.2.2.1 d.1.1).un) ((rd (dfl .note) b.1.1.2.2.2.1 d.1.1).tx) x.2.1.1 x.2.1.2.1 x.2.1.2.2.1 x.2.1.2.2.2.1 x.2.1.2.2.2.2.1)||(A0<|x.2.1.2.2.2.1<=a.1.1.2.1) then I (.inr<|.inl (A1,())) else(L3 (x.2.2.1,x.2.1.2.2.1,())).bind λe=>I (.inl (x.1,x.2.1,e.1.1,(w64<|x.2.2.2.1+1),())) else U else if A0 (x.2.1.2.2.2.1<=a.1.1.2.1) then I (.inr<|.inl (A1,())) else(L3 (x.2.2.1,x.2.1.2.2.1,())).bind λf=>I (.inl (x.1,x.2.1,f.1.1,(w64<|x.2.2.2.1+1),())) else U else if A0 (x.2.1.2.2.2.1<=a.1.1.2.1) then I (.inr<|.inl (A1,())) else(L3 (x.2.2.1,x.2.1.2.2.1,())).bind λg=>I (.inl (x.1,x.2.1,g.1.1,(w64<|x.2.2.2.1+1),())) else if A0 (x.2.1.2.2.2.1<=a.1.1.2.1) then I (.inr<|.inl (A1,())) else(L3 (x.2.2.1,x.2.1.2.2.1,())).bind λh=>I (.inl (x.1,x.2.1,h.1.1,(w64<|x.2.2.2.1+1),())) else U else U else I (.inr<|.inr ())
def Ya:=AW TJ
def ac0:Loop:=⟨[(2,Z29),(3,Z7),(5,.int .i64),(6,.int .i64)],[],0,[(4,.bool)],Ya⟩
def anM:LF Tryz.f37 [] [1,1,0,1,0,0] ac0:=sq (v:= .nil) aEm (b:=TJ) kN
def WD(x:Y2×Y5×A2):Option ((Bool×A2)×A2):=(AO (Ya (x.1,x.2.1,x.2.1.1,0,())) (λa=>I (a,())) λa=>I ((A3,()),()))
def acB:Ent:=(37,U,⟨[Z30,Z8],[.bool],WD⟩)
def au0:SQ Tryz.prog acB:=sk (v:=t1<|t1<|.two (t1<|.one<|.loop ac0) .nil) (fn:=Tryz.f37) aEm<|kC anM kN
def axg:Cx:=cX [] [] []
def acw:OKC Tryz.prog axg AF:=okc mixed<|AL
def dN(x:Y2×Y5×Int×A2):Rnd (Y2×Y5×Int×A2) (Bool×A2) (A2):=if A0 (x.2.2.1<(x.1.2.2.2.2.1.length:Int)) then if inb x.2.2.1 x.1.2.2.2.2.1.length then if MF ((rd (dfl .note) x.1.2.2.2.2.1 x.2.2.1).fr) ((rd (dfl .note) x.1.2.2.2.2.1 x.2.2.1).nu) ((rd (dfl .note) x.1.2.2.2.2.1 x.2.2.1).to) ((rd (dfl .note) x.1.2.2.2.2.1 x.2.2.1).un) ((rd (dfl .note) x.1.2.2.2.2.1 x.2.2.1).tx) x.2.1.1 x.2.1.2.1 x.2.1.2.2.1 x.2.1.2.2.2.1 x.2.1.2.2.2.2.1 then I (.inr<|.inl (A1,())) else I (.inl (x.1,x.2.1,(w64<|x.2.2.1+1),())) else U else I (.inr<|.inr ())
def iY:=AW dN
def aa8:Loop:=⟨[(2,Z29),(3,Z7),(5,.int .i64)],[],0,[(4,.bool)],iY⟩
def aqO:LF Tryz.f38 [] [1,0,1,0,0] aa8:=sq (v:= .nil) acw (b:=dN) kN
def Ry(x:Y2×Y5×A2):Option ((Bool×A2)×A2):=(AO (iY (x.1,x.2.1,0,())) (λa=>I (a,())) λa=>I ((A3,()),()))
def sD:Ent:=(38,U,⟨[Z30,Z8],[.bool],Ry⟩)
def aBp:SQ Tryz.prog sD:=sk (v:=t1<|.two (t1<|.one<|.loop aa8) .nil) (fn:=Tryz.f38) acw<|kC aqO kN
def avC:Cx:=cX [sD,Gb] [] [(70,82)]
def dm:OKC Tryz.prog avC AF:=okc mixed<|gC aBp<|gC H7<|AL
def XR(x:Y2×Y4×Int×Int×A2):Rnd (Y2×Y4×Int×Int×A2) (Bool×A2) (Y2×Y4×Int×A2):=if A0 (x.2.2.2.1<(x.1.2.2.2.2.2.1.length:Int)) then if inb x.2.2.2.1 x.1.2.2.2.2.2.1.length then if inb x.2.2.1 x.2.1.2.2.2.2.2.1.length then if Ad (A0<|(rd (dfl .note) x.1.2.2.2.2.2.1 x.2.2.2.1).fr=(rd (dfl .note) x.2.1.2.2.2.2.2.1 x.2.2.1).fr) (inb x.2.2.2.1 x.1.2.2.2.2.2.1.length) then if Ad (A0<|(rd (dfl .note) x.1.2.2.2.2.2.1 x.2.2.2.1).fr=(rd (dfl .note) x.2.1.2.2.2.2.2.1 x.2.2.1).fr) (inb x.2.2.1 x.2.1.2.2.2.2.2.1.length) then if(A0<|(rd (dfl .note) x.1.2.2.2.2.2.1 x.2.2.2.1).fr=(rd (dfl .note) x.2.1.2.2.2.2.2.1 x.2.2.1).fr)&&(A0<|(rd (dfl .note) x.1.2.2.2.2.2.1 x.2.2.2.1).nu=(rd (dfl .note) x.2.1.2.2.2.2.2.1 x.2.2.1).nu) then I (.inr<|.inl (A3,())) else I (.inl (x.1,x.2.1,x.2.2.1,(w64<|x.2.2.2.1+1),())) else U else U else U else U else I (.inr<|.inr (x.1,x.2.1,x.2.2.1,()))
def oI:=AW XR
def aFp:Loop:=⟨[(2,Z29),(5,Z11),(8,.int .i64),(9,.int .i64)],[(2,Z29),(5,Z11),(8,.int .i64)],4,[(4,.bool)],oI⟩
def ayH:LF Tryz.f39 [] [1,1,1,0,1,0,0,1,0,0,1,1,0,0] aFp:=sq (v:= .nil) dm (b:=XR) kN
def bD(x:Y2×Y4×Int×A2):Rnd (Y2×Y4×Int×A2) (Bool×A2) (A2):=if A0 (x.2.2.1<(x.2.1.2.2.2.2.2.1.length:Int)) then if inb x.2.2.1 x.2.1.2.2.2.2.2.1.length then(Ry (x.1,((rd (dfl .note) x.2.1.2.2.2.2.2.1 x.2.2.1).fr,(rd (dfl .note) x.2.1.2.2.2.2.2.1 x.2.2.1).nu,(rd (dfl .note) x.2.1.2.2.2.2.2.1 x.2.2.1).to,(rd (dfl .note) x.2.1.2.2.2.2.2.1 x.2.2.1).un,(rd (dfl .note) x.2.1.2.2.2.2.2.1 x.2.2.1).tx,()),())).bind λb=>if !b.1.1 then I (.inr<|.inl (A3,())) else(AO (oI (x.1,x.2.1,x.2.2.1,0,())) (λa=>I<|.inr<|.inl a) λa=>I<|.inl (a.1,a.2.1,(w64<|a.2.2.1+1),())) else U else I (.inr<|.inr ())
def qS:=AW bD
def adE:Loop:=⟨[(2,Z29),(5,Z11),(8,.int .i64)],[],2,[(4,.bool)],qS⟩
def adm:LF Tryz.f39 [] [1,1,1,0,1,0,0] adE:=sq (v:=t1<|.two (.one<|t1<|t1<|.one<|.loop aFp) .nil) dm (b:=bD)<|kC ayH kN
def XP(x:Y2×Y4×Int×A2):Rnd (Y2×Y4×Int×A2) (Bool×A2) (Y2×Y4×A2):=if A0 (x.2.2.1<(x.2.1.2.2.2.1.length:Int)) then if inb x.2.2.1 x.2.1.2.2.2.1.length then(Ry (x.1,((rd (dfl .note) x.2.1.2.2.2.1 x.2.2.1).fr,(rd (dfl .note) x.2.1.2.2.2.1 x.2.2.1).nu,(rd (dfl .note) x.2.1.2.2.2.1 x.2.2.1).to,(rd (dfl .note) x.2.1.2.2.2.1 x.2.2.1).un,(rd (dfl .note) x.2.1.2.2.2.1 x.2.2.1).tx,()),())).bind λa=>if !a.1.1 then I (.inr<|.inl (A3,())) else I (.inl (x.1,x.2.1,(w64<|x.2.2.1+1),())) else U else I (.inr<|.inr (x.1,x.2.1,()))
def pw:=AW XP
def va:Loop:=⟨[(2,Z29),(5,Z11),(7,.int .i64)],[(2,Z29),(5,Z11)],0,[(4,.bool)],pw⟩
def arE:LF Tryz.f39 [] [1,1,0,1,0,0] va:=sq (v:= .nil) dm (b:=XP) kN
def ai(x:Y2×Int×A2):Option ((Bool×A2)×A2):=if inb x.2.1 x.1.2.1.length then(Ey (((rd (dfl .AN) x.1.2.1 x.2.1).id,(rd (dfl .AN) x.1.2.1 x.2.1).up,(rd (dfl .AN) x.1.2.1 x.2.1).log,(rd (dfl .AN) x.1.2.1 x.2.1).fo,(rd (dfl .AN) x.1.2.1 x.2.1).AE,()),())).bind λc=>(AO (pw (x.1,c.1.1,0,())) (λa=>I (a,())) λa=>(AO (qS (a.1,a.2.1,0,())) (λb=>I (b,())) λb=>I ((A1,()),()))) else U
def wa:Ent:=(39,U,⟨[Z30,.int .i64],[.bool],ai⟩)
def awg:SQ Tryz.prog wa:=sk (v:=t1<|t1<|.two (t1<|.one<|.loop va)<|.two (t1<|.one<|.loop adE) .nil) (fn:=Tryz.f39) dm<|kC arE<|kC adm kN
def ato:Cx:=cX [jH,aa3,acB,sD,wa] [] [(39,47),(54,57),(85,97)]
def QG:OKC Tryz.prog ato AF:=okc mixed<|gC abS<|gC apn<|gC au0<|gC aBp<|gC awg<|AL
def fI(x:Y2×Int×Y5×Int×A2):Rnd (Y2×Int×Y5×Int×A2) (Bool×A2) (Y2×Int×Y5×A2):=if A0 (x.2.2.2.1<x.2.1) then if inb x.2.2.2.1 x.1.2.2.2.2.1.length then if Ad (A0<|(rd (dfl .note) x.1.2.2.2.2.1 x.2.2.2.1).fr=x.2.2.1.1) (inb x.2.2.2.1 x.1.2.2.2.2.1.length) then if(A0<|(rd (dfl .note) x.1.2.2.2.2.1 x.2.2.2.1).fr=x.2.2.1.1)&&(A0<|(rd (dfl .note) x.1.2.2.2.2.1 x.2.2.2.1).nu=x.2.2.1.2.1) then I (.inr<|.inl (A3,())) else I (.inl (x.1,x.2.1,x.2.2.1,(w64<|x.2.2.2.1+1),())) else U else U else I (.inr<|.inr (x.1,x.2.1,x.2.2.1,()))
def lU:=AW fI
def uz:Loop:=⟨[(1,Z29),(3,.int .i64),(4,Z7),(5,.int .i64)],[(1,Z29),(3,.int .i64),(4,Z7)],2,[(2,.bool)],lU⟩
def air:LF Tryz.f14 [] [1,1,0,1,0,0,1,0,0,1,0,1,0,0] uz:=sq (v:= .nil) QG (b:=fI) kN
def bR(x:Y2×Int×Int×A2):Rnd (Y2×Int×Int×A2) (Bool×A2) (Y2×Int×A2):=if A0 (x.2.2.1<x.2.1) then if inb x.2.2.1 x.1.2.2.2.2.2.1.length then if inb x.2.1 x.1.2.2.2.2.2.1.length then if Ad (A0<|(rd (dfl .note) x.1.2.2.2.2.2.1 x.2.2.1).fr=(rd (dfl .note) x.1.2.2.2.2.2.1 x.2.1).fr) (inb x.2.2.1 x.1.2.2.2.2.2.1.length) then if Ad (A0<|(rd (dfl .note) x.1.2.2.2.2.2.1 x.2.2.1).fr=(rd (dfl .note) x.1.2.2.2.2.2.1 x.2.1).fr) (inb x.2.1 x.1.2.2.2.2.2.1.length) then if(A0<|(rd (dfl .note) x.1.2.2.2.2.2.1 x.2.2.1).fr=(rd (dfl .note) x.1.2.2.2.2.2.1 x.2.1).fr)&&(A0<|(rd (dfl .note) x.1.2.2.2.2.2.1 x.2.2.1).nu=(rd (dfl .note) x.1.2.2.2.2.2.1 x.2.1).nu) then I (.inr<|.inl (A3,())) else I (.inl (x.1,x.2.1,(w64<|x.2.2.1+1),())) else U else U else U else U else I (.inr<|.inr (x.1,x.2.1,()))
def kQ:=AW bR
def tB:Loop:=⟨[(1,Z29),(6,.int .i64),(7,.int .i64)],[(1,Z29),(6,.int .i64)],6,[(2,.bool)],kQ⟩
def akK:LF Tryz.f14 [] [1,1,1,0,1,0,0,1,0,0,0,1,0,0] tB:=sq (v:= .nil) QG (b:=bR) kN
def X3(x:Y2×Int×A2):Rnd (Y2×Int×A2) (Bool×A2) (A2):=if A0 (x.2.1<(x.1.2.1.length:Int)) then(ai x).bind λa=>if !a.1.1 then I (.inr<|.inl (A3,())) else I (.inl (x.1,(w64<|x.2.1+1),())) else I (.inr<|.inr ())
def ma:=AW X3
def aEi:Loop:=⟨[(1,Z29),(8,.int .i64)],[],8,[(2,.bool)],ma⟩
def arZ:LF Tryz.f14 [] [1,1,1,1,0,1,0,0] aEi:=sq (v:= .nil) QG (b:=X3) kN
def Xe(x:Y2×Int×A2):Rnd (Y2×Int×A2) (Bool×A2) (Y2×A2):=if A0 (x.2.1<(x.1.2.2.2.2.2.1.length:Int)) then(AO (kQ (x.1,x.2.1,0,())) (λa=>I<|.inr<|.inl a) λa=>(if inb a.2.1 a.1.2.2.2.2.2.1.length then(Ry (a.1,((rd (dfl .note) a.1.2.2.2.2.2.1 a.2.1).fr,(rd (dfl .note) a.1.2.2.2.2.2.1 a.2.1).nu,(rd (dfl .note) a.1.2.2.2.2.2.1 a.2.1).to,(rd (dfl .note) a.1.2.2.2.2.2.1 a.2.1).un,(rd (dfl .note) a.1.2.2.2.2.2.1 a.2.1).tx,()),())).bind λb=>if !b.1.1 then I (.inr<|.inl (A3,())) else I (.inl (a.1,(w64<|a.2.1+1),())) else U)) else I (.inr<|.inr (x.1,()))
def rF:=AW Xe
def tU:Loop:=⟨[(1,Z29),(6,.int .i64)],[(1,Z29)],4,[(2,.bool)],rF⟩
def avv:LF Tryz.f14 [] [1,1,1,0,1,0,0] tU:=sq (v:=t1<|.two (.one<|.two (t1<|.one<|.loop tB) .nil) .nil) QG (b:=Xe)<|kC akK kN
def Xx(x:Y2×Int×A2):Rnd (Y2×Int×A2) (Bool×A2) (Y2×A2):=if A0 (x.2.1<(x.1.2.2.2.2.1.length:Int)) then if inb x.2.1 x.1.2.2.2.2.1.length then let c:=(rd (dfl .note) x.1.2.2.2.2.1 x.2.1).fr;let d:=(rd (dfl .note) x.1.2.2.2.2.1 x.2.1).nu;let e:=(rd (dfl .note) x.1.2.2.2.2.1 x.2.1).to;let f:=(rd (dfl .note) x.1.2.2.2.2.1 x.2.1).un;let g:=(rd (dfl .note) x.1.2.2.2.2.1 x.2.1).tx;(AO (lU (x.1,x.2.1,(c,d,e,f,g,()),0,())) (λa=>I<|.inr<|.inl a) λa=>(Yx (a.1,a.2.2)).bind λb=>if Ad (!b.1.1) ((WD (a.1,a.2.2)).isSome) then if(!b.1.1)&&(!(((WD (a.1,a.2.2)).getD ((A3,()),())).1.1)) then I (.inr<|.inl (A3,())) else I (.inl (a.1,(w64<|a.2.1+1),())) else U) else U else I (.inr<|.inr (x.1,()))
def gR:=AW Xx
def ym:Loop:=⟨[(1,Z29),(3,.int .i64)],[(1,Z29)],0,[(2,.bool)],gR⟩
def ahF:LF Tryz.f14 [] [1,1,0,1,0,0] ym:=sq (v:=t1<|.two (.one<|t1<|.two (t1<|.one<|.loop uz) .nil) .nil) QG (b:=Xx)<|kC air kN
def MU(x:Y2×A2):Option ((Bool×A2)×A2):=(Nd x).bind λd=>if !d.1.1 then I ((A3,()),()) else(AO (gR (x.1,0,())) (λa=>I (a,())) λa=>(AO (rF (a.1,0,())) (λb=>I (b,())) λb=>(AO (ma (b.1,0,())) (λc=>I (c,())) λc=>I ((A1,()),()))))
def og:Ent:=(14,U,⟨[Z30],[.bool],MU⟩)
def aEk:SQ Tryz.prog og:=sk (v:=t1<|t1<|.two (t1<|.one<|.loop ym)<|.two (t1<|.one<|.loop tU)<|.two (t1<|.one<|.loop aEi) .nil) (fn:=Tryz.f14) QG<|kC ahF<|kC avv<|kC arZ kN
def amo:Cx:=cX [SD,VE,UE,Tq,ZQ,JC,oR,og] [] [(48,50),(76,78)]
def aBC:OKC Tryz.prog amo AF:=okc mixed<|gC WV<|gC cK<|gC bd<|gC fB<|gC oY<|gC KQ<|gC wx<|gC aEk<|AL
def VR(x:Y2×Y2×Int×A2):Rnd (Y2×Y2×Int×A2) (Bool×A2) (Y2×Y2×A2):=if A0 (x.2.2.1<(x.1.2.1.length:Int)) then if inb x.2.2.1 x.2.1.2.1.length then(Gq (((rd (dfl .AN) x.2.1.2.1 x.2.2.1).id,(rd (dfl .AN) x.2.1.2.1 x.2.2.1).up,(rd (dfl .AN) x.2.1.2.1 x.2.2.1).log,(rd (dfl .AN) x.2.1.2.1 x.2.2.1).fo,(rd (dfl .AN) x.2.1.2.1 x.2.2.1).AE,()),())).bind λa=>if inb x.2.2.1 x.1.2.1.length then(Gq (((rd (dfl .AN) x.1.2.1 x.2.2.1).id,(rd (dfl .AN) x.1.2.1 x.2.2.1).up,(rd (dfl .AN) x.1.2.1 x.2.2.1).log,(rd (dfl .AN) x.1.2.1 x.2.2.1).fo,(rd (dfl .AN) x.1.2.1 x.2.2.1).AE,()),())).bind λb=>(Px (a.1.1,b.1)).bind λc=>if !c.1.1 then I (.inr<|.inl (A3,())) else I (.inl (x.1,x.2.1,(w64<|x.2.2.1+1),())) else U else U else I (.inr<|.inr (x.1,x.2.1,()))
def Xb:=AW VR
def wY:Loop:=⟨[(3,Z29),(7,Z2),(9,.int .i64)],[(3,Z29),(7,Z2)],0,[(2,.bool)],Xb⟩
def aov:LF Tryz.f6 [] [1,1,1,1,1,1,1,0,1,0,0] wY:=sq (v:= .nil) aBC (b:=VR) kN
def Vk(x:List Int×A2):Option ((Bool×A2)×A2):=if A0 (1048576<(x.1.length:Int)) then I ((A1,()),()) else(O8 x).bind λd=>(IB (d.1.1,(13,d.1.2.1.2),())).bind λc=>(HN (d.1.1,(13,d.1.2.1.2),())).bind λb=>(BF (X:=Y2×Y2×Bool×Y2×Bool×Bool×A2) (λa=>if a.2.2.2.2.2.1 then if Ad (A0<|a.2.2.2.2.1=a.2.2.1) ((Hl (a.2.2.2.1,a.2.1,())).isSome) then let g:=((A0<|a.2.2.2.2.1=a.2.2.1)&&(((Hl (a.2.2.2.1,a.2.1,())).getD ((A3,()),())).1.1));I ((g,()),()) else U else(AO (Xb (a.1,a.2.2.2.1,0,())) (λe=>I (e,())) (λe=>(Pd e.2).bind λf=>if Ad (!f.1.1) ((MU (e.1,())).isSome) then let h:=(f.1.1||(!(((MU (e.1,())).getD ((A3,()),())).1.1)));I ((h,()),()) else U)))<|(if !decide (b.1.2.1=c.1.2.1) then I (.inr (d.1.1,c.1.1,c.1.2.1,b.1.1,b.1.2.1,A1,())) else(Hl (b.1.1,c.1.1,())).bind λi=>if !i.1.1 then I (.inr (d.1.1,c.1.1,c.1.2.1,b.1.1,b.1.2.1,A1,())) else I (.inr (d.1.1,c.1.1,c.1.2.1,b.1.1,b.1.2.1,(!b.1.2.1),()))))
def ari:Ent:=(6,U,⟨[.fz .u8],[.bool],Vk⟩)
def alS:SQ Tryz.prog ari:=sk (v:=t1<|t1<|t1<|t1<|t1<|t1<|.two (.join [(3,Z29),(5,Z2),(6,.bool),(7,Z2),(8,.bool),(43,.bool)] .nil .nil)<|.two (t1<|.one<|.loop wY) .nil) (fn:=Tryz.f6) aBC<|kC aov kN
end Go.VS
end
end
section
set_option linter.all false
noncomputable section
namespace Go.VS
open Go
def aEV{ti:Int}{ks:List AA}{ls:List Bool}{ra:List AT}{se go:List A7}(h:GW ti ks ls ra se go=A1):JR ti ks ls ra se go:=by
 unfold GW at h;simp only[AI,decide_eq_true_eq,CO]at h;obtain⟨a,b,c,d,⟨e,f⟩,⟨g,i⟩,j,l⟩:=h;have a:=Af.1 a;refine⟨a.1,a.2,J,J,J,e,J,g,J,λm hm=> ?_,l⟩;have:=j m J;unfold Jb at this;simp only[AI,decide_eq_true_eq]at this;exact this
def aAC{k:AA}(h:Av k=A1):k.log.size<=2400/\0<=k.fo/\k.fo<=k.log.size:=by
 have:=(Df h).sh;unfold DN at this;simp only[AI,decide_eq_true_eq]at this;exact⟨this.1,Af.1 this.2.1⟩
def nEq(a b:A7):Bool:=A0 (a.fr=b.fr)&&(A0 (a.nu=b.nu)&&(A0 (a.to=b.to)&&(A0 (a.un=b.un)&&(A0 (a.tx=b.tx)&&A1))))
def jt{a b:A7}:nEq a b=A1↔a=b:=by
 unfold nEq;simp only[AI,decide_eq_true_eq];constructor
 .rintro⟨h1,h2,h3,h4,h5,_⟩;cases a;cases b;simp_all
 .rintro rfl;simp
def Xc{b:Bool}:b=A3↔ ¬b=A1:=by cases b<;>simp
def DA(l:List A7)(n:A7):Bool:= !(Ae l.length λi=> !nEq (nA l i) n)
def an6{l:List A7}{n:A7}:DA l n=A1↔n∈l:=by
 unfold DA;rw[DR,Xc,CO];constructor
 .intro h;refine fc λhn=>h λi hi=> ?_;rw[DR,Xc,jt];rintro rfl;exact hn (gL hi)
 .intro h F3;obtain⟨i,hi,rfl⟩:=Dt h;have:=F3 i hi;rw[Dq<|Ax hi,jt.2 rfl]at this;cases this
def Gh(l:List A7)(i:Nat):Bool:=Ae i λj=> !(A0 ((nA l j).fr=(nA l i).fr)&&A0 ((nA l j).nu=(nA l i).nu))
def auM{l:List A7}(h:EL l=A1){i j:Nat}(hi:i<l.length)(hj:j<l.length)(h1:(nA l i).fr=(nA l j).fr)(h2:(nA l i).nu=(nA l j).nu):i=j:=by
 rcases I8 i j with h3|h3|h3
 .have:=Vd h j i h3 hj;rw[h1,h2,TX]at this;cases this
 .exact h3
 .have:=Vd h i j h3 hi;rw[h1,h2,TX]at this;cases this
def jR{l:List A7}(h:EL l=A1)(n:A7):(A0 (0<=AY l n.fr n.nu)&&nEq (nA l (AY l n.fr n.nu).toNat) n)=DA l n:=by
 rw[Iz,an6];simp only[AI,decide_eq_true_eq,jt];rcases FO l.length (λi=>A0 ((nA l i).fr=n.fr)&&A0 ((nA l i).nu=n.nu)) with⟨h1,h2⟩|⟨c,h1,h2,h3,h4⟩
 .have e:AY l n.fr n.nu= -1:=h1;rw[e];constructor
  .rintro⟨h3,_⟩;omega
  .intro hm;obtain⟨i,hi,rfl⟩:=Dt hm;have:=h2 i hi;rw[Dq<|Ax hi]at this;simp at this
 .have e:AY l n.fr n.nu=c:=h1;rw[e,Bu];simp only[AI,decide_eq_true_eq]at h3;constructor
  .rintro⟨_,h5⟩;rw[← h5];exact gL h2
  .intro hm;obtain⟨i,hi,rfl⟩:=Dt hm;refine⟨J, ?_⟩;have hA:=Dq<|Ax hi;have:c=i:=auM h h2 hi (by rw[hA];exact h3.1) (by rw[hA];exact h3.2);rw[this,hA]
def D1:Nat->Int->Int->List Int
 | 0,a,_=>[a]
 | f+1,a,t=>if a=t then [a] else a::D1 f (Ca a t) t
def O6(a t:Int):Nat:=(a - t).natAbs
def aFk{a t:Int}(ha:isN a=A1)(ht:isN t=A1)(hne:a≠t):O6 (Ca a t) t+1=O6 a t:=by
 have:=Fh ha;have:=Fh ht;have e3:A0 (a=t)=A3:=by simpa using hne
 unfold Ca O6;simp only[ha,ht,e3,AD,Fa,A6];split<;>omega
def xE{a t:Int}(ha:isN a=A1)(ht:isN t=A1):O6 a t<=3:=by
 have:=Fh ha;have:=Fh ht;unfold O6;omega
def aAL:∀(f:Nat) {a t:Int},isN a=A1->isN t=A1->∀x∈D1 f a t,isN x=A1
 | 0,a,t,ha,_,x,hx=>by
  obtain rfl:=DB.1 hx;exact ha
 | f+1,a,t,ha,ht,x,hx=>by
  unfold D1 at hx;split at hx
  .obtain rfl:=DB.1 hx;exact ha
  .rename_i hne;rcases Bk.1 hx with rfl|hx
   .exact ha
   .exact aAL f (Wy ha ht hne) ht x hx
def aFt:∀(f:Nat) (a t:Int),(D1 f a t).length<=f+1
 | 0,_,_=>As _
 | f+1,a,t=>by
  unfold D1;split
  .simp
  .simp only[Bw];have:=aFt f (Ca a t) t;omega
def stD(k:AA):AJ:=(D4 k.id<|k.log.extract 0 k.fo.toNat).getD zK
def JS(ks:List AA)(n:A7)(x:Int):Bool:=(DA (stT<|kA ks x.toNat).held n&&DA (stD<|kA ks x.toNat).held n)||decide (n.un<=(stT<|kA ks x.toNat).ti)
def HY(ks:List AA)(go:List A7)(n:A7):Bool:=DA go n||DA (stT<|kA ks n.to.toNat).inbox n
def Hy(ks:List AA)(n:A7):Bool:=(D1 3 n.fr n.to).any<|JS ks n
def IY(ks:List AA)(se go:List A7)(i:Nat):Bool:=Ae (stT<|kA ks i).held.length (λj=>DA se<|nA (stT<|kA ks i).held j)&&
 Ae (stT<|kA ks i).inbox.length (λj=>DA se (nA (stT<|kA ks i).inbox j)&&A0 (AY go (nA (stT<|kA ks i).inbox j).fr (nA (stT<|kA ks i).inbox j).nu<0))
def M1(ti:Int)(ks:List AA)(ls:List Bool)(ra:List AT)(se go:List A7):Bool:=
 GW ti ks ls ra se go&&(Ae se.length (Gh se)&&(Ae go.length (Gh go)&&(Ae se.length (λi=>HY ks go (nA se i)||Hy ks (nA se i))&&(Ae go.length (λi=>DA se<|nA go i)&&Ae ks.length (IY ks se go)))))
def am6{n:Nat}{p:Nat->Bool}:A0 (FH n p<0)=Ae n λi=> !p i:=by
 rw[Iz,CO,decide_eq_true_eq];rcases FO n p with⟨h1,h2⟩|⟨c,h1,h2,h3,h4⟩
 .exact⟨λ_ i hi=>by rw[h2 i hi];rfl,λ_=>by omega⟩
 .refine⟨λh=>by omega,λh=> ?_⟩;have:=h c h2;rw[h3]at this;cases this
abbrev tNV(n:A7):Int×Int×Int×Int×A4×A2:=(n.fr,n.nu,n.to,n.un,n.tx,())
def TL{a n:A7}:MF a.fr a.nu a.to a.un a.tx n.fr n.nu n.to n.un n.tx=nEq a n:=rfl
def sF(l:List AJ)(i:Nat): @rd AJ (dfl .keep) l (i:Int)=l.getD i (dfl .keep):=rfl
def art(l:List Int)(i:Nat): @rd Int (dfl .int) l (i:Int)=l.getD i 0:=rfl
def PH{l:List A7}{n:A7}(hl:l.length<=1048576):Jq (l,tNV n,())=I ((DA l n,()),()):=by
 unfold Jq DA;have h:rA (tNV n,l,(l.length:Int),0,())=I (if Ae l.length (λi=> !nEq (nA l i) n) then .inr () else .inl (A1,())):=
  C3 (λi=>(tNV n,l,(l.length:Int),(i:Int),())) l.length (λi=> !nEq (nA l i) n) (A1,()) () (λi hi=>by
   unfold eA;simp only[B7 hi,AR hi,A5,CK,TL,B2 hi (by omega:l.length<=9223372036854775807)];rcases tf (nEq (nA l i) n) with e|e<;>simp only[e]<;>rfl) (by simp[eA])
 simp only[h];rcases tf (Ae l.length λi=> !nEq (nA l i) n) with e|e<;>simp only[e]<;>rfl
def gf{ti:Int}{ks:List AA}{ls:List Bool}{ra:List AT}{se go:List A7}{n:A7}(hl:se.length<=1048576):Ry ((ti,ks,ls,ra,se,go,()),tNV n,())=I ((DA se n,()),()):=by
 unfold Ry DA;have h:iY ((ti,ks,ls,ra,se,go,()),tNV n,0,())=I (if Ae se.length (λi=> !nEq (nA se i) n) then .inr () else .inl (A1,())):=
  C3 (λi=>((ti,ks,ls,ra,se,go,()),tNV n,(i:Int),())) se.length (λi=> !nEq (nA se i) n) (A1,()) () (λi hi=>by
   unfold dN;simp only[B7 hi,AR hi,A5,CK,TL,B2 hi (by omega:se.length<=9223372036854775807)];rcases tf (nEq (nA se i) n) with e|e<;>simp only[e]<;>rfl) (by simp[dN])
 simp only[h];rcases tf (Ae se.length λi=> !nEq (nA se i) n) with e|e<;>simp only[e]<;>rfl
def aDu{l:List A7}(hl:l.length<=1048576):SM (l,())=I ((Ae l.length<|Gh l,()),()):=by
 unfold SM;have h:rn (l,l,(l.length:Int),0,())=I (if Ae l.length (Gh l) then .inr () else .inl (A3,())):=
  C3 (λi=>(l,l,(l.length:Int),(i:Int),())) l.length (Gh l) (A3,()) () (λi hi=>by
   have hf:=yS (p:=λj=>A0 ((nA l j).fr=(nA l i).fr)&&A0 ((nA l j).nu=(nA l i).nu)) hi (by simp);unfold WX Gh;simp only[B7 hi,AR hi,A5,CK,Ja hl,A9,B2 hi (by omega:l.length<=9223372036854775807)];unfold AY;simp only[hf];rcases tf (Ae i λj=> !(A0 ((nA l j).fr=(nA l i).fr)&&A0 ((nA l j).nu=(nA l i).nu))) with e|e<;>simp only[e]<;>rfl) (by simp[WX])
 simp only[h];rcases tf (Ae l.length<|Gh l) with e|e<;>simp only[e]<;>rfl
def o8(f:Nat)(a t:Int):D1 f a t=a::(D1 f a t).tail:=by
 cases f with
 | zero=>rfl
 | succ f=>unfold D1;split<;>rfl
def aC5{n:A7}(ht:isN n.to=A1):∀(f:Nat) (a:Int) (out:List Int),O6 a n.to<=f->isN a=A1->out.length+f<=100->cV (tNV n,out,a,())=I (.inr (out++(D1 f a n.to).tail,()))
 | 0,a,out,hd,ha,_=>by
  have e:a=n.to:=by unfold O6 at hd;omega
  subst e;refine BR ?_;unfold TC;simp[D1]
 | f+1,a,out,hd,ha,hl=>by
  by_cases e:a=n.to
  .subst e;refine BR ?_;unfold TC;simp[D1]
  .have h1:=aFk ha ht e;have e2:(!decide (a=n.to))=A1:=by simpa using e
   refine B4 (x':=(tNV n,out++[Ca a n.to],Ca a n.to,())) ?_ ?_
   .unfold TC;simp only[e2,A5,iz,A9,Bw,C2,DJ,B9<|show out.length+1<=4294967296 by omega]
   .have:=aC5 ht f (Ca a n.to) (out++[Ca a n.to]) J (Wy ha ht e) (by simp;omega);refine Jn this ?_;have e3:(D1 (f+1) a n.to).tail=D1 f (Ca a n.to) n.to:=by
     conv=>lhs;unfold D1
     rw[AB e];rfl
    rw[e3,o8 f (Ca a n.to) n.to];simp
def aju{n:A7}(hf:isN n.fr=A1)(ht:isN n.to=A1):al (tNV n,())=I ((D1 3 n.fr n.to,()),()):=by
 unfold al;have:=aC5 ht 3 n.fr [n.fr] (xE hf ht) hf (by simp);rw[show cV (tNV n,[n.fr],n.fr,())=_ from this];simp only[C9];rw[o8 3 n.fr n.to];rfl
def atB{α:Type}{l:List α}{d:α}{f:α->Bool}:l.any f= !(Ae l.length λi=> !f (l.getD i d)):=by
 rw[Iz,DR,Xc,CO,I5];constructor
 .rintro⟨x,hx,h⟩ F3;obtain⟨i,hi,rfl⟩:=Dt hx;have:=F3 i hi;rw[Ir<|Ax hi,h]at this;cases this
 .intro h;refine fc λhn=>h λi hi=> ?_;rw[Ir<|Ax hi,DR,Xc];exact λh1=>hn ⟨_,CQ hi,h1⟩
def lz{l:List AA}{f:AA->AJ}{i:Nat}(h:i<l.length):(l.map f).getD i (dfl .keep)=f (kA l i):=by
 rw[Ir (x:=f l[i])<|by simp[h]];unfold kA;rw[Ir<|Ax h]
section
variable {ti:Int} {ks:List AA} {ls:List Bool} {ra:List AT} {se go:List A7}
def aFw{k:AA}(h:Av k=A1):Aw (stD k)=A1:=by
 have hf:=(Df h).fo;unfold stD;cases hs:D4 k.id (k.log.extract 0 k.fo.toNat) with
 | none=>rw[hs]at hf;cases hf
 | some o=>exact Uh hs
def O7{k:AJ}(h:Aw k=A1):k.held.length<=1048576/\k.inbox.length<=1048576:=by
 have:=Cl h;exact⟨by have:=this.hl;omega,by have:=this.il;omega⟩
def ZJ{x:Int}(h:isN x=A1):∃m:Nat,m<4/\x=(m:Int):=by
 have:=Fh h;exact⟨x.toNat,J,J⟩
def ahK(hf:JR ti ks ls ra se go){n:A7}(h1:isN n.fr=A1)(h2:isN n.to=A1):
  aC ((ti,ks,ls,ra,se,go,()),ks.map stT,ks.map stD,tNV n,())=I ((HY ks go n||Hy ks n,()),()):=by
 obtain⟨m,hm,e⟩:=ZJ h2;have hmk:m<ks.length:=by rw[hf.kl];exact hm
 have hk:=Df (hf.k m hm).2;have hl:=O7 hk.ok;have hgl:go.length<=1048576:=by have:=hf.gl;omega
 unfold aC;simp only[PH hgl,A9];rw[show((rd (dfl .keep) (ks.map stT) n.to):AJ)=stT (kA ks m) by rw[e,sF,lz hmk],show inb n.to (ks.map stT).length=A1 by rw[e];exact AR<|by simpa using hmk,PH hl.2];simp only[CG,C8,Cp,A5];have ec:HY ks go n=(DA go n||DA (stT<|kA ks m).inbox n):=by unfold HY;rw[e,Bu]
 rcases tf (DA go n||DA (stT<|kA ks m).inbox n) with e1|e1
 .simp only[ec,e1,A5,Bh]
 .simp only[ec,e1,A6,BY,aju h1 h2,A9];have aw9:=aAL 3 h1 h2;have hwl:=aFt 3 n.fr n.to;have FW:gQ (ks.map stT,ks.map stD,tNV n,D1 3 n.fr n.to,((D1 3 n.fr n.to).length:Int),0,())=I (if Ae (D1 3 n.fr n.to).length (λi=> !JS ks n ((D1 3 n.fr n.to).getD i 0)) then .inr () else .inl (A1,())):=
   C3 (λi=>(ks.map stT,ks.map stD,tNV n,D1 3 n.fr n.to,((D1 3 n.fr n.to).length:Int),(i:Int),())) _ (λi=> !JS ks n ((D1 3 n.fr n.to).getD i 0)) (A1,()) () (λi hi=>by
    obtain⟨x,hx,ex⟩:=ZJ<|aw9 _<|CQ hi;have exg:(D1 3 n.fr n.to).getD i 0=(x:Int):=by rw[Ir<|Ax hi,ex]
    have hxk:x<ks.length:=by rw[hf.kl];exact hx
    have hkx:=Df (hf.k x hx).2;have hlx:=O7 hkx.ok;have hlD:=O7<|aFw (hf.k x hx).2;unfold YA JS;simp only[B7 hi,AR hi,A5,art,exg,AR<|show x<(ks.map stT).length by simpa using hxk,AR<|show x<(ks.map stD).length by simpa using hxk,sF,lz hxk,PH hlx.1,PH hlD.1,A9,Cp,Bu,B2 hi (by omega:(D1 3 n.fr n.to).length<=9223372036854775807)];rcases tf (DA (stT<|kA ks x).held n) with a1|a1<;>rcases tf (DA (stD<|kA ks x).held n) with a2|a2<;>rcases tfp (n.un<=(stT<|kA ks x).ti) with a3|a3<;>simp only[a1,a2,a3,AS,Ag]<;>rfl) (by simp[YA])
  rw[FW];unfold Hy;rw[atB (d:=0)];rcases tf (Ae (D1 3 n.fr n.to).length λi=> !JS ks n ((D1 3 n.fr n.to).getD i 0)) with e2|e2<;>simp only[e2]<;>rfl
def avE(sm:E4 ks ls ra se go)(hf:JR ti ks ls ra se go):
  ow ((ti,ks,ls,ra,se,go,()),[],[],ks,(ks.length:Int),0,())=I (.inr ((ti,ks,ls,ra,se,go,()),ks.map stT,ks.map stD,())):=by
 have h:=CS (b:=Vo) (λi=>((ti,ks,ls,ra,se,go,()),(ks.take i).map stT,(ks.take i).map stD,ks,(ks.length:Int),(i:Int),())) ks.length (y:= .inr ((ti,ks,ls,ra,se,go,()),ks.map stT,ks.map stD,())) (λi hi=>by
  have hi4:i<4:=by rw[← hf.kl];exact hi
  have sk:=Kw sm.k i;have hs:=aAC (hf.k i hi4).2;have e2:(0<=(kA ks i).fo)=True:=eq_true hs.2.1;have e3:((kA ks i).fo<=((kA ks i).log.size:Int))=True:=eq_true hs.2.2;have hz:((kA ks i).log.extract 0 (kA ks i).fo.toNat).size<=1048576:=by rw[FT J];omega
  have hlt:∀f:AA->AJ,((ks.take i).map f).length+1<=4294967296:=λf=>by simp;omega
  have hsn:∀f:AA->AJ,(ks.take i).map f++[f (kA ks i)]=(ks.take<|i+1).map f:=λf=>by
   have:kA ks i=ks[i]:=by unfold kA;rw[Ir<|Ax hi]
   rw[this,K5,Ax hi,Ev];rfl
  unfold Vo;simp only[B7 hi,AR hi,A5,JL,QN sk.1,QN hz,A9,e2,e3,AS,CZ,Bw,C2,DJ,B9<|hlt _,B2 hi (by rw[hf.kl];decide:ks.length<=9223372036854775807)];have a1:=hsn stT;have a2:=hsn stD;rw[← a1,← a2];rfl) (by
  simp only[Ec];simp[Vo])
 exact h
def aqx(sm:E4 ks ls ra se go)(hf:JR ti ks ls ra se go):
  iC ((ti,ks,ls,ra,se,go,()),ks.map stT,ks.map stD,se,(se.length:Int),0,())=I (if Ae se.length (λi=>HY ks go (nA se i)||Hy ks (nA se i)) then .inr ((ti,ks,ls,ra,se,go,()),ks.map stT,()) else .inl (A3,())):=
 C3 (λi=>((ti,ks,ls,ra,se,go,()),ks.map stT,ks.map stD,se,(se.length:Int),(i:Int),())) se.length (λi=>HY ks go (nA se i)||Hy ks (nA se i)) (A3,()) _ (λi hi=>by
  have hok:=HL<|CO.1 hf.s i hi;have h3:=ahK hf (n:=nA se i) (Af.2 ⟨hok.f0,hok.f1⟩)<|Af.2 ⟨hok.t0,hok.t1⟩;have sl:=sm.sl;unfold dB;simp only[B7 hi,AR hi,A5,CK];rw[h3];simp only[A9,B2 hi (by omega:se.length<=9223372036854775807)];rcases tf (HY ks go (nA se i)||Hy ks (nA se i)) with e|e<;>simp only[e]<;>rfl) (by simp[dB])
def ayu(sm:E4 ks ls ra se go){ss:List AJ}:
  qR ((ti,ks,ls,ra,se,go,()),ss,go,(go.length:Int),0,())=I (if Ae go.length (λi=>DA se<|nA go i) then .inr ((ti,ks,ls,ra,se,go,()),ss,()) else .inl (A3,())):=
 C3 (λi=>((ti,ks,ls,ra,se,go,()),ss,go,(go.length:Int),(i:Int),())) go.length (λi=>DA se<|nA go i) (A3,()) _ (λi hi=>by
  have gl:=sm.gl;unfold ZX;simp only[B7 hi,AR hi,A5,CK];rw[PH (n:=nA go i) sm.sl];simp only[A9,B2 hi (by omega:go.length<=9223372036854775807)];rcases tf (DA se<|nA go i) with e|e<;>simp only[e]<;>rfl) (by simp[ZX])
def LV(se l:List A7)(j:Nat):Bool:=DA se<|nA l j
def LI(se go l:List A7)(j:Nat):Bool:=DA se (nA l j)&&A0 (AY go (nA l j).fr (nA l j).nu<0)
def af6(sm:E4 ks ls ra se go){k:AJ}(hl:k.held.length<=1048576){ss:List AJ}{a b:Int}:
  mc ((ti,ks,ls,ra,se,go,()),tK k,ss,a,b,k.held,(k.held.length:Int),0,())=I (if Ae k.held.length (LV se k.held) then .inr ((ti,ks,ls,ra,se,go,()),tK k,ss,a,b,()) else .inl (A3,())):=
 C3 (λi=>((ti,ks,ls,ra,se,go,()),tK k,ss,a,b,k.held,(k.held.length:Int),(i:Int),())) k.held.length (LV se k.held) (A3,()) _ (λi hi=>by
  unfold XY LV;simp only[B7 hi,AR hi,A5,CK];rw[PH (n:=nA k.held i) sm.sl];simp only[A9,B2 hi (by omega:k.held.length<=9223372036854775807)];rcases tf (DA se<|nA k.held i) with e|e<;>simp only[e]<;>rfl) (by simp[XY])
def aol(sm:E4 ks ls ra se go){l:List A7}(hl:l.length<=1048576){ss:List AJ}{a b:Int}:
  lx ((ti,ks,ls,ra,se,go,()),ss,a,b,l,(l.length:Int),0,())=I (if Ae l.length (LI se go l) then .inr ((ti,ks,ls,ra,se,go,()),ss,a,b,()) else .inl (A3,())):=
 C3 (λi=>((ti,ks,ls,ra,se,go,()),ss,a,b,l,(l.length:Int),(i:Int),())) l.length (LI se go l) (A3,()) _ (λi hi=>by
  have hs:=sgn<|AY go (nA l i).fr (nA l i).nu;unfold Ys LI;simp only[B7 hi,AR hi,A5,CK];rw[PH (n:=nA l i) sm.sl];simp only[A9,Ja sm.gl,CG,C8,Cp,A5,B2 hi (by omega:l.length<=9223372036854775807)];obtain⟨e1,e2⟩|⟨e1,e2⟩:=hs<;>rcases tf (DA se<|nA l i) with e|e<;>simp only[e,e1,e2,AS,Ag]<;>rfl) (by simp[Ys])
def ahX(sm:E4 ks ls ra se go)(hf:JR ti ks ls ra se go):
  ph ((ti,ks,ls,ra,se,go,()),ks.map stT,((ks.map stT).length:Int),0,())=I (if Ae ks.length (IY ks se go) then .inr () else .inl (A3,())):=by
 rw[show(ks.map stT).length=ks.length by simp];exact C3 (λi=>((ti,ks,ls,ra,se,go,()),ks.map stT,(ks.length:Int),(i:Int),())) ks.length (IY ks se go) (A3,()) () (λi hi=>by
  have hi4:i<4:=by rw[← hf.kl];exact hi
  have hl:=O7 (Df (hf.k i hi4).2).ok;have h4:=af6 (ti:=ti) sm (k:=stT<|kA ks i) hl.1 (ss:=ks.map stT) (a:=(ks.length:Int)) (b:=(i:Int));have h5:=aol (ti:=ti) sm (l:=(stT<|kA ks i).inbox) hl.2 (ss:=ks.map stT) (a:=(ks.length:Int)) (b:=(i:Int));unfold bk;simp only[B7 hi,AR<|show i<(ks.map stT).length by simpa using hi,A5,sF,lz hi];rw[h4];have eo:IY ks se go i=(Ae (stT<|kA ks i).held.length (LV se (stT<|kA ks i).held)&&Ae (stT<|kA ks i).inbox.length (LI se go (stT<|kA ks i).inbox)):=rfl;rw[eo];rcases tf (Ae (stT<|kA ks i).held.length<|LV se (stT<|kA ks i).held) with e|e
  .simp only[e,A5,C9,AX,h5];rcases tf (Ae (stT<|kA ks i).inbox.length<|LI se go (stT<|kA ks i).inbox) with e2|e2
   .simp only[e2,A5,C9,B2 hi (by rw[hf.kl];decide:ks.length<=9223372036854775807)]
   .simp only[e2,A6,Ea]
  .simp only[e,A6,AP,Ea]) (by simp[bk])
def ad0(sm:E4 ks ls ra se go):Pd ((ti,ks,ls,ra,se,go,()),())=I ((M1 ti ks ls ra se go,()),()):=by
 unfold Pd M1;rw[aEp sm];simp only[A9];rcases tf (GW ti ks ls ra se go) with e|e<;>simp only[e,AD,AG,A5,A6,AX,AP];have hf:=aEV e;rw[aDu sm.sl,aDu sm.gl];simp only[A9];rcases tf (Ae se.length<|Gh se) with e|e<;>simp only[e,AD,AG,A5,A6,AX,AP];rcases tf (Ae go.length<|Gh go) with e|e<;>simp only[e,AD,AG,A5,A6,AX,AP];rw[avE sm hf];simp only[C9];rw[aqx sm hf];rcases tf (Ae se.length λi=>HY ks go (nA se i)||Hy ks (nA se i)) with e|e<;>simp only[e,A5,A6,AX,AP,C9,Ea];rw[ayu sm];rcases tf (Ae go.length λi=>DA se<|nA go i) with e|e<;>simp only[e,A5,A6,AX,AP,C9,Ea];rw[ahX sm hf];rcases tf (Ae ks.length<|IY ks se go) with e|e<;>simp only[e,A5,A6,C9,Ea]
end
end Go.VS
namespace Go.VS
open Go
section
variable {ti:Int} {ks:List AA} {ls:List Bool} {ra:List AT} {se go:List A7}
def aAn(l:List A7)(i:Int): @rd A7 (dfl .note) l i=nA l i.toNat:=rfl
def am0(sm:E4 ks ls ra se go)(hf:JR ti ks ls ra se go){n:A7}(h2:isN n.to=A1):
  Yx ((ti,ks,ls,ra,se,go,()),tNV n,())=I ((HY ks go n,()),()):=by
 obtain⟨m,hm,e⟩:=ZJ h2;have hmk:m<ks.length:=by rw[hf.kl];exact hm
 have hk:=Df (hf.k m hm).2;have hl:=O7 hk.ok;have gl:=sm.gl;have FW:qC ((ti,ks,ls,ra,se,go,()),tNV n,0,())=I (if Ae go.length (λi=> !nEq (nA go i) n) then .inr ((ti,ks,ls,ra,se,go,()),tNV n,()) else .inl (A1,())):=
  C3 (λi=>((ti,ks,ls,ra,se,go,()),tNV n,(i:Int),())) go.length (λi=> !nEq (nA go i) n) (A1,()) _ (λi hi=>by
   unfold Zg;simp only[B7 hi,AR hi,A5,CK,TL,B2 hi (by omega:go.length<=9223372036854775807)];rcases tf (nEq (nA go i) n) with e|e<;>simp only[e]<;>rfl) (by simp[Zg])
 have hi:=jR (Cl hk.ok).i n;unfold Yx HY;rw[FW];have auT:DA go n= !(Ae go.length λi=> !nEq (nA go i) n):=rfl;rw[auT];rcases tf (Ae go.length λi=> !nEq (nA go i) n) with e1|e1
 .simp only[e1,A5,C9,AD,BY,e,AR hmk,JL,RS (Kw sm.k m).1,A9];rw[show(D4 (kA ks m).id (kA ks m).log).getD zK=stT (kA ks m) from rfl];simp only[Hj hl.2,A9,qv,A5,aAn,Bu];rw[← e];simp only[TL,hi]
 .simp only[e1,A6,Ea,AG,Bh]
def atG{k:AA}(sm:Eo k)(h:Av k=A1):X9 (tKp k,())=I ((tK<|stD k,()),()):=by
 have hs:=aAC h;have e2:(A0 (0<=k.fo)&&A0 (k.fo<=(k.log.size:Int)))=A1:=by simp;omega
 have hz:(k.log.extract 0 k.fo.toNat).size<=1048576:=by rw[FT J];omega
 have hg:=NY<|k.log.extract 0 k.fo.toNat;unfold X9;simp only[e2,A5,Qh hz,A9,pe (id:=k.id) (show(D6<|k.log.extract 0 k.fo.toNat).1.length<=1048576 by omega) (λr hr=>by have:=hg.2.2 r hr;omega)];rfl
def azr(sm:E4 ks ls ra se go)(hf:JR ti ks ls ra se go){n:A7}{a k:Nat}(ha:a<4)(hk:k<4):
  TJ ((ti,ks,ls,ra,se,go,()),tNV n,(a:Int),(k:Int),())=I (if JS ks n (a:Int) then .inr (.inl (A1,())) else .inl ((ti,ks,ls,ra,se,go,()),tNV n,Ca (a:Int) n.to,((k+1:Nat):Int),())):=by
 have hak:a<ks.length:=by rw[hf.kl];exact ha
 have hkf:=Df (hf.k a ha).2;have hD:=aFw (hf.k a ha).2;have hl:=O7 hkf.ok;have hlD:=O7 hD;have i1:=jR (Cl hkf.ok).h n;have i2:=jR (Cl hD).h n;have hsf:=atG (Kw sm.k a) (hf.k a ha).2;have e0:(A0 ((k:Int)<4)&&A0 (0<=(a:Int)))=A1:=by simp;omega
 have ew:w64 ((k:Int)+1)=((k+1:Nat):Int):=by rw[Aa J J];omega
 unfold TJ JS;simp only[e0,A5,AR hak,JL,RS (Kw sm.k a).1,hsf,A9,ew,Bu];rw[show(D4 (kA ks a).id (kA ks a).log).getD zK=stT (kA ks a) from rfl];simp only[Hj hl.1,Hj hlD.1,A9,aAn,TL,ax,← i1,← i2];rcases Vc (stT<|kA ks a).held n.fr n.nu with b1|b1
 .have c1:(0<=AY (stT<|kA ks a).held n.fr n.nu)=False:=eq_false J;rcases tfp (n.un<=(stT<|kA ks a).ti) with b5|b5<;>simp only[c1,b5,Ag,AS,AP,BY,A6,A5]
 .have c1:(0<=AY (stT<|kA ks a).held n.fr n.nu)=True:=eq_true b1;obtain⟨d1,d2,_⟩:=HM b1;have d1':inb (AY (stT<|kA ks a).held n.fr n.nu) (stT<|kA ks a).held.length=A1:=by rw[← d2];exact AR d1
  rcases Vc (stD<|kA ks a).held n.fr n.nu with b2|b2
  .have c2:(0<=AY (stD<|kA ks a).held n.fr n.nu)=False:=eq_false J;rcases tfp (n.un<=(stT<|kA ks a).ti) with b5|b5<;>simp only[c1,c2,b5,Ag,AS,AP,Bb,BY,A6,A5]
  .have c2:(0<=AY (stD<|kA ks a).held n.fr n.nu)=True:=eq_true b2;obtain⟨d3,d4,_⟩:=HM b2;have d3':inb (AY (stD<|kA ks a).held n.fr n.nu) (stD<|kA ks a).held.length=A1:=by rw[← d4];exact AR d3
   simp only[c1,c2,AS,A5,d1',d3',AX];rcases tf (nEq (nA (stT<|kA ks a).held (AY (stT<|kA ks a).held n.fr n.nu).toNat) n) with b3|b3<;>rcases tf (nEq (nA (stD<|kA ks a).held (AY (stD<|kA ks a).held n.fr n.nu).toNat) n) with b4|b4<;>rcases tfp (n.un<=(stT<|kA ks a).ti) with b5|b5<;>
    simp only[b3,b4,b5,Ag,AS,CZ,AP,Bb,BY,Bh,D3,Fa,L8,AX,A6,A5]
def vn(sm:E4 ks ls ra se go)(hf:JR ti ks ls ra se go){n:A7}(ht:isN n.to=A1):∀(f:Nat) (a:Int) (k:Nat),O6 a n.to<=f->isN a=A1->k+f<=3->
  Ya ((ti,ks,ls,ra,se,go,()),tNV n,a,(k:Int),())=I (if(D1 f a n.to).any (JS ks n) then .inl (A1,()) else .inr ())
 | f,a,k,hd,ha,hk=>by
  obtain⟨m,hm,rfl⟩:=ZJ ha;have hr:=azr sm hf (n:=n) hm (show k<4 by omega);rcases tf (JS ks n (m:Int)) with e|e
  .rw[e,A8 rfl]at hr;have:(D1 f (m:Int) n.to).any (JS ks n)=A1:=by
    rw[o8,p8,e,Bh]
   rw[this,A8 rfl];exact BR hr
  .rw[e,A6]at hr;by_cases et:(m:Int)=n.to
   .have e1:D1 f (m:Int) n.to=[(m:Int)]:=by
     cases f with
     | zero=>rfl
     | succ f=>unfold D1;rw[A8 et]
    rw[e1];simp only[p8,List.any_nil,e,Fa,A6];refine B4 hr<|BR ?_;have en:Ca (m:Int) n.to= -1:=by
     unfold Ca;simp[et]
    rw[en];unfold TJ;have e0:(A0 (((k+1:Nat):Int)<4)&&A0 (0<=(-1:Int)))=A3:=by simp
    simp only[e0,A6]
   .have h1:=aFk ha ht et;cases f with
    | zero=>omega
    | succ f=>
     have e1:D1 (f+1) (m:Int) n.to=(m:Int)::D1 f (Ca (m:Int) n.to) n.to:=by
      conv=>lhs;unfold D1
      rw[AB et]
     rw[e1,p8,e,BY];exact B4 hr<|vn sm hf ht f _ (k+1) J (Wy ha ht et) J
def ajN(sm:E4 ks ls ra se go)(hf:JR ti ks ls ra se go){n:A7}(h1:isN n.fr=A1)(h2:isN n.to=A1):
  WD ((ti,ks,ls,ra,se,go,()),tNV n,())=I ((Hy ks n,()),()):=by
 have:=vn sm hf h2 3 n.fr 0 (xE h1 h2) h1 J;unfold WD Hy;rw[show Ya ((ti,ks,ls,ra,se,go,()),tNV n,n.fr,0,())=_ from this];rcases tf ((D1 3 n.fr n.to).any<|JS ks n) with e|e<;>simp only[e]<;>rfl
def aoh(sm:E4 ks ls ra se go){k:AJ}(hl:k.held.length<=1048576):
  pw ((ti,ks,ls,ra,se,go,()),tK k,0,())=I (if Ae k.held.length (LV se k.held) then .inr ((ti,ks,ls,ra,se,go,()),tK k,()) else .inl (A3,())):=
 C3 (λi=>((ti,ks,ls,ra,se,go,()),tK k,(i:Int),())) k.held.length (LV se k.held) (A3,()) _ (λi hi=>by
  unfold XP LV;simp only[B7 hi,AR hi,A5,CK];rw[gf (n:=nA k.held i) sm.sl];simp only[A9,B2 hi (by omega:k.held.length<=9223372036854775807)];rcases tf (DA se<|nA k.held i) with e|e<;>simp only[e]<;>rfl) (by simp[XP])
def aqz(sm:E4 ks ls ra se go){k:AJ}{i:Nat}(hi:i<k.inbox.length):
  oI ((ti,ks,ls,ra,se,go,()),tK k,(i:Int),0,())=I (if A0 (AY go (nA k.inbox i).fr (nA k.inbox i).nu<0) then .inr ((ti,ks,ls,ra,se,go,()),tK k,(i:Int),()) else .inl (A3,())):=by
 unfold AY;rw[am6];exact C3 (λj=>((ti,ks,ls,ra,se,go,()),tK k,(i:Int),(j:Int),())) go.length (λj=> !(A0 ((nA go j).fr=(nA k.inbox i).fr)&&A0 ((nA go j).nu=(nA k.inbox i).nu))) (A3,()) _ (λj hj=>by
  have gl:=sm.gl;unfold XR;simp only[B7 hj,AR hj,AR hi,A5,CK,Cp,B2 hj (by omega:go.length<=9223372036854775807)];rcases tfp ((nA go j).fr=(nA k.inbox i).fr) with e|e<;>rcases tfp ((nA go j).nu=(nA k.inbox i).nu) with e2|e2<;>simp only[e,e2,AS,Ag]<;>rfl) (by simp[XR])
def aj9(sm:E4 ks ls ra se go){k:AJ}(hl:k.inbox.length<=1048576):
  qS ((ti,ks,ls,ra,se,go,()),tK k,0,())=I (if Ae k.inbox.length (LI se go k.inbox) then .inr () else .inl (A3,())):=
 C3 (λi=>((ti,ks,ls,ra,se,go,()),tK k,(i:Int),())) k.inbox.length (LI se go k.inbox) (A3,()) () (λi hi=>by
  unfold bD LI;simp only[B7 hi,AR hi,A5,CK];rw[gf (n:=nA k.inbox i) sm.sl];simp only[A9,aqz sm hi];rcases tf (DA se<|nA k.inbox i) with e|e
  .rcases tfp (AY go (nA k.inbox i).fr (nA k.inbox i).nu<0) with e2|e2
   .simp only[e,e2,AS,AD,A6,A5,C9,CZ,B2 hi (by omega:k.inbox.length<=9223372036854775807)]
   .simp only[e,e2,Ag,AD,A6,Ea,Bb]
  .simp only[e,AG,A5,AP,A6]) (by simp[bD])
def aua(sm:E4 ks ls ra se go)(hf:JR ti ks ls ra se go){i:Nat}(hi:i<4):
  ai ((ti,ks,ls,ra,se,go,()),(i:Int),())=I ((IY ks se go i,()),()):=by
 have hik:i<ks.length:=by rw[hf.kl];exact hi
 have hl:=O7 (Df (hf.k i hi).2).ok;have eo:IY ks se go i=(Ae (stT<|kA ks i).held.length (LV se (stT<|kA ks i).held)&&Ae (stT<|kA ks i).inbox.length (LI se go (stT<|kA ks i).inbox)):=rfl;unfold ai;simp only[AR hik,A5,JL,RS (Kw sm.k i).1,A9];rw[show(D4 (kA ks i).id (kA ks i).log).getD zK=stT (kA ks i) from rfl,aoh sm hl.1,eo];rcases tf (Ae (stT<|kA ks i).held.length<|LV se (stT<|kA ks i).held) with e|e
 .simp only[e,A5,C9,AX];rw[aj9 sm hl.2];rcases tf (Ae (stT<|kA ks i).inbox.length<|LI se go (stT<|kA ks i).inbox) with e2|e2<;>simp only[e2]<;>rfl
 .simp only[e,A6,Ea,AP]
def WA(ks:List AA)(se go:List A7)(i:Nat):Bool:=Gh se i&&(HY ks go (nA se i)||Hy ks (nA se i))
def UD(se go:List A7)(i:Nat):Bool:=Gh go i&&DA se (nA go i)
def awk(sm:E4 ks ls ra se go){i:Nat}(hi:i<se.length):
  lU ((ti,ks,ls,ra,se,go,()),(i:Int),tNV<|nA se i,0,())=I (if Gh se i then .inr ((ti,ks,ls,ra,se,go,()),(i:Int),tNV<|nA se i,()) else .inl (A3,())):=
 C3 (λj=>((ti,ks,ls,ra,se,go,()),(i:Int),tNV<|nA se i,(j:Int),())) i (λj=> !(A0 ((nA se j).fr=(nA se i).fr)&&A0 ((nA se j).nu=(nA se i).nu))) (A3,()) _ (λj hj=>by
  have sl:=sm.sl;unfold fI;simp only[B7 hj,AR<|aY hj hi,A5,CK,Cp,B2 hj (by omega:i<=9223372036854775807)];rcases tfp ((nA se j).fr=(nA se i).fr) with e|e<;>rcases tfp ((nA se j).nu=(nA se i).nu) with e2|e2<;>simp only[e,e2,AS,Ag]<;>rfl) (by simp[fI])
def awI(sm:E4 ks ls ra se go){i:Nat}(hi:i<go.length):
  kQ ((ti,ks,ls,ra,se,go,()),(i:Int),0,())=I (if Gh go i then .inr ((ti,ks,ls,ra,se,go,()),(i:Int),()) else .inl (A3,())):=
 C3 (λj=>((ti,ks,ls,ra,se,go,()),(i:Int),(j:Int),())) i (λj=> !(A0 ((nA go j).fr=(nA go i).fr)&&A0 ((nA go j).nu=(nA go i).nu))) (A3,()) _ (λj hj=>by
  have sl:=sm.gl;unfold bR;simp only[B7 hj,AR<|aY hj hi,AR hi,A5,CK,Cp,B2 hj (by omega:i<=9223372036854775807)];rcases tfp ((nA go j).fr=(nA go i).fr) with e|e<;>rcases tfp ((nA go j).nu=(nA go i).nu) with e2|e2<;>simp only[e,e2,AS,Ag]<;>rfl) (by simp[bR])
def aeM(sm:E4 ks ls ra se go)(hf:JR ti ks ls ra se go):
  gR ((ti,ks,ls,ra,se,go,()),0,())=I (if Ae se.length (WA ks se go) then .inr ((ti,ks,ls,ra,se,go,()),()) else .inl (A3,())):=
 C3 (λi=>((ti,ks,ls,ra,se,go,()),(i:Int),())) se.length (WA ks se go) (A3,()) _ (λi hi=>by
  have hok:=HL<|CO.1 hf.s i hi;have hn1:isN (nA se i).fr=A1:=Af.2 ⟨hok.f0,hok.f1⟩;have hn2:isN (nA se i).to=A1:=Af.2 ⟨hok.t0,hok.t1⟩;have sl:=sm.sl;unfold Xx WA;simp only[B7 hi,AR hi,A5,CK];rw[awk sm hi];rcases tf (Gh se i) with e|e
  .simp only[e,A5,C9,AX];rw[am0 sm hf hn2,ajN sm hf hn1 hn2];simp only[A9,CG,C8,Cp,A5,B2 hi (by omega:se.length<=9223372036854775807)];rcases tf (HY ks go<|nA se i) with e1|e1<;>rcases tf (Hy ks<|nA se i) with e2|e2<;>simp only[e1,e2]<;>rfl
  .simp only[e,A6,Ea,AP]) (by simp[Xx])
def asz(sm:E4 ks ls ra se go):
  rF ((ti,ks,ls,ra,se,go,()),0,())=I (if Ae go.length (UD se go) then .inr ((ti,ks,ls,ra,se,go,()),()) else .inl (A3,())):=
 C3 (λi=>((ti,ks,ls,ra,se,go,()),(i:Int),())) go.length (UD se go) (A3,()) _ (λi hi=>by
  have gl:=sm.gl;unfold Xe UD;simp only[B7 hi,A5];rw[awI sm hi];rcases tf (Gh go i) with e|e
  .simp only[e,A5,C9,AX,AR hi,CK];rw[gf (n:=nA go i) sm.sl];simp only[A9,B2 hi (by omega:go.length<=9223372036854775807)];rcases tf (DA se<|nA go i) with e2|e2<;>simp only[e2]<;>rfl
  .simp only[e,A6,Ea,AP]) (by simp[Xe])
def awU(sm:E4 ks ls ra se go)(hf:JR ti ks ls ra se go):
  ma ((ti,ks,ls,ra,se,go,()),0,())=I (if Ae ks.length (IY ks se go) then .inr () else .inl (A3,())):=
 C3 (λi=>((ti,ks,ls,ra,se,go,()),(i:Int),())) ks.length (IY ks se go) (A3,()) () (λi hi=>by
  have hi4:i<4:=by rw[← hf.kl];exact hi
  unfold X3;simp only[B7 hi,A5];rw[aua sm hf hi4];simp only[A9,B2 hi (by rw[hf.kl];decide:ks.length<=9223372036854775807)];rcases tf (IY ks se go i) with e|e<;>simp only[e]<;>rfl) (by simp[X3])
def yh{n:Nat}{p q:Nat->Bool}:Ae n (λi=>p i&&q i)=(Ae n p&&Ae n q):=by
 rw[Iz,AI,CO,CO,CO];simp only[AI];exact⟨λh=>⟨λi hi=>(h i hi).1,λi hi=>(h i hi).2⟩,λh i hi=>⟨h.1 i hi,h.2 i hi⟩⟩
def zt(sm:E4 ks ls ra se go):MU ((ti,ks,ls,ra,se,go,()),())=I ((M1 ti ks ls ra se go,()),()):=by
 unfold MU M1;rw[bh sm];simp only[A9];rcases tf (GW ti ks ls ra se go) with e|e<;>simp only[e,AD,AG,A5,A6,AX,AP];have hf:=aEV e;have e1:Ae se.length (WA ks se go)=(Ae se.length (Gh se)&&Ae se.length (λi=>HY ks go (nA se i)||Hy ks (nA se i))):=yh;have e2:Ae go.length (UD se go)=(Ae go.length (Gh go)&&Ae go.length (λi=>DA se<|nA go i)):=yh;have hb:∀a b c d f:Bool,(a&&(b&&(c&&(d&&f))))=((a&&c)&&((b&&d)&&f)):=by decide
 rw[hb,← e1,← e2,aeM sm hf];rcases tf (Ae se.length<|WA ks se go) with e|e<;>simp only[e,A5,A6,AX,AP,C9,Ea];rw[asz sm];rcases tf (Ae go.length<|UD se go) with e|e<;>simp only[e,A5,A6,AX,AP,C9,Ea];rw[awU sm hf];rcases tf (Ae ks.length<|IY ks se go) with e|e<;>simp only[e,A5,A6,C9,Ea]
end
end Go.VS
end
end
section
set_option linter.all false
noncomputable section
namespace Go.VS
open Go
def azA{l:List Mark}(hl:l.length<=1000):VA (l,l,())=I ((A1,()),()):=by
 have h0:pf (l,l,0,())=I (.inr ()):=
  CS (b:=SL) (λk=>(l,l,(k:Int),())) l.length (λk hk=>by
   unfold SL;simp only[AR hk,B7 hk,A5,AS,CZ,AD,A6,B2 hk (by omega:l.length<=9223372036854775807)]) (by
   unfold SL;rw[AB<|by simp])
 unfold VA;simp only[AS,AD,A6,h0,C9]
def lB{k:AJ}(h:Aw k=A1):Px (tK k,tK k,())=I ((A1,()),()):=by
 have hf:=Cl h;have h1:=hf.hl;have h2:=hf.ml;have h3:=hf.il;unfold Px;rw[show Hz ((tK k).2.2.2.1,(tK k).2.2.2.1,())=_ from Wj (l:=k.held) J,show VA ((tK k).2.2.2.2.1,(tK k).2.2.2.2.1,())=_ from azA (l:=k.marks) J,
  show Hz ((tK k).2.2.2.2.2.1,(tK k).2.2.2.2.2)=_ from Wj (l:=k.inbox) J]
 simp only[AS,A5,A9,CG,Cp,C8,CZ]
def aBk{w x:Am}(hx:FU x=A1)(e1:x.BJ=w.BJ)(e2:x.got=w.got)(kl:x.AK.length=w.AK.length)(hs:∀i,stT (kA x.AK i)=stT (kA w.AK i))
  (hd:∀i,stD (kA x.AK i)=stD (kA w.AK i)\/stD (kA x.AK i)=stT (kA x.AK i))(h:M1 w.ti w.AK w.B1 w.AU w.BJ w.got=A1):
  M1 x.ti x.AK x.B1 x.AU x.BJ x.got=A1:=by
 have hx:GW x.ti x.AK x.B1 x.AU x.BJ x.got=A1:=hx;have hc:∀n,HY x.AK w.got n=HY w.AK w.got n:=λn=>by unfold HY;rw[hs]
 have hk:∀n,Hy w.AK n=A1->Hy x.AK n=A1:=λn hn=>by
  unfold Hy at hn ⊢;rw[I5]at hn ⊢;obtain⟨y,hy,hy2⟩:=hn;refine⟨y,hy, ?_⟩;unfold JS at hy2 ⊢;rw[hs];rw[Ci]at hy2 ⊢;obtain hy2|hy2:=hy2
  .left;rw[AI]at hy2 ⊢;refine⟨hy2.1, ?_⟩;rcases hd y.toNat with d|d
   .rw[d];exact hy2.2
   .rw[d,hs];exact hy2.1
  .exact .inr hy2
 have ho:∀i,IY x.AK w.BJ w.got i=IY w.AK w.BJ w.got i:=λi=>by unfold IY;rw[hs]
 unfold M1 at h ⊢;rw[e1,e2]at hx ⊢;rw[AI]at h ⊢;refine⟨hx, ?_⟩;have h2:=h.2;simp only[AI]at h2 ⊢;rw[kl];obtain⟨a,b,c,d,e⟩:=h2;refine⟨a,b, ?_,d, ?_⟩
 .rw[CO]at c ⊢;intro i hi;have:=c i hi;rw[Ci]at this ⊢;rw[hc];obtain t|t:=this
  .exact .inl t
  .exact .inr (hk _ t)
 .rw[CO]at e ⊢;intro i hi;rw[ho];exact e i hi
def yO{k:AA}(h:k.fo=(k.log.size:Int)):stD k=stT k:=by
 unfold stD stT;rw[h,Bu,ByteArray.extract_zero_size]
def vF{w x:Am}{j:Nat}{k':AA}(hj:j<w.AK.length)(ex:x.AK=w.AK.set j k')(ht:stT k'=stT (kA w.AK j))(hd:stD k'=stT k'\/stD k'=stD (kA w.AK j)):
  (∀i,stT (kA x.AK i)=stT (kA w.AK i))/\ ∀i,stD (kA x.AK i)=stD (kA w.AK i)\/stD (kA x.AK i)=stT (kA x.AK i):=by
 refine⟨λi=> ?_,λi=> ?_⟩
 .rw[ex,Ks hj];split
  .rename_i e;rw[ht,e]
  .rfl
 .rw[ex,Ks hj];split
  .rename_i e;obtain d|d:=hd
   .exact .inr d
   .rw[e];exact .inl d
  .exact .inl rfl
def ae4(k:AA):stT (EA k).1=stT k/\(stD (EA k).1=stT (EA k).1\/stD (EA k).1=stD k):=by
 unfold EA;split
 .exact⟨rfl,.inl<|yO rfl⟩
 .exact⟨rfl,.inr rfl⟩
def als{w:Am}{e:Event}(h1:e.ki=13)(h:(doM w e).2=A1):isN e.at_=A1/\(doM w e).1=FL w e.at_.toNat (EA<|kA w.AK e.at_.toNat).1:=by
 revert h;unfold doM;rw[AB J,AB J];split
 .rename_i ha;unfold Iw;rw[AB J,AB J,AB J,AB J,AB J,AB J,AB J,A8 h1];exact λ_=>⟨ha,rfl⟩
 .intro h;cases h
def azn{x y:Am}(hx:BS x)(hy:BS y)(hs:∀i,stT (kA y.AK i)=stT (kA x.AK i)):Xb (tR x,tR y,0,())=I (.inr (tR x,tR y,())):=by
 have kx:=hx.kl;have ky:=hy.kl;refine CS (b:=VR) (λi=>(tR x,tR y,(i:Int),())) x.AK.length (λi hi=> ?_) ?_
 .unfold VR;have h1:=Ie (hx.k i J).1;have h2:=Ie (hy.k i J).1;have h3:=lB (Co (hx.k i J).1).kok;have iy:inb (i:Int) y.AK.length=A1:=AR J;rw[hs i]at h2;simp only[B7 hi,A5,iy,AR hi,JL,h1,h2,A9,h3,AD,A6,B2 hi (by omega:x.AK.length<=9223372036854775807)]
 .unfold VR;simp only[Fe,A6]
def aiN{l:List Int}(hb:BOk l):Vk (l,())=I ((A1,()),()):=by
 obtain⟨w,e,hd,sm,_,ht⟩:=eR hb;obtain⟨E,hE⟩:∃E:Event,E=⟨13,e.at_,e.fr,e.nu,e.wo,e.mix,e.kp,e.to,e.un,e.tx⟩:=⟨_,rfl⟩;have hk:E.ki=13:=by rw[hE]
 have ht':E.tx.size<=1048576:=by rw[hE];exact ht
 have eE:((13:Int),(tE e).2)=tE E:=by rw[hE]
 have sx:=Sv sm E;unfold Vk;apply Tot.val;refine Tot.ite (λ_=>Tot.ret rfl) (λ_=> ?_);refine Tot.bind (Tot.eq hd) λr1 h1=> ?_;subst h1;refine Tot.bind (Tot.eq (show IB (tR w,((13:Int),(tE e).2),())=_ by rw[eE];exact ZI sm ht')) λr2 h2=>Tot.bind (Tot.eq (show HN (tR w,((13:Int),(tE e).2),())=_ by rw[eE];exact P0 sm ht')) λr3 h3=> ?_;subst h2 h3;refine Tot.join (A:=λj=>j=(tR w,tR (Bt w E).1,(Bt w E).2,tR (Bt w E).1,(Bt w E).2,!(Bt w E).2,())) ?_ (λj hj=> ?_)
 .simp only[Iy sx,A9,AS,AD,A6];exact Tot.ret rfl
 .subst hj;rcases OV w E with⟨c,h⟩|⟨c,h⟩|⟨c,c1,c2,h⟩
  .rw[h]at sx ⊢;simp only[AG,A5,Iy sx,CG,Cp,AS,C8,CZ];exact Tot.ret rfl
  .rw[h]at sx ⊢;simp only[AG,A5,Iy sx,CG,Cp,AS,C8,CZ];exact Tot.ret rfl
  .have hw:=(I4 c).1;have hxr:=Ru c c1 c2;have hx:=(I4 hxr).1;have ex:=Pf c2;obtain⟨ha,hdw⟩:=als hk c2;have ha:=Fh ha;rw[hdw]at ex;have kl:=hw.kl;have kx:=hx.kl;have xk:(B8 w E).AK=w.AK.set E.at_.toNat (EA<|kA w.AK E.at_.toNat).1:=by rw[ex];rfl
   have two:=ae4<|kA w.AK E.at_.toNat;obtain⟨s1,s2⟩:=vF (x:=B8 w E) (w:=w) J xk two.1 two.2;rw[h]at sx ⊢;refine Tot.neg rfl ?_;rw[show Xb (tR w,tR<|B8 w E,0,())=_ from azn hw hx s1];show Tot ((Pd (tR<|B8 w E,())).bind _) _;refine Tot.bind (Tot.eq<|ad0 sx) λr4 h4=> ?_;subst h4;have hsp:=zt (ti:=w.ti) sm;rw[show MU (tR w,())=_ from hsp];simp only[CG,Cp,A5,C8];refine Tot.ret ?_;rcases tf (M1 w.ti w.AK w.B1 w.AU w.BJ w.got) with q|q
   .rw[aBk hxr (by rw[ex];rfl) (by rw[ex];rfl) J s1 s2 q];rfl
   .rw[q,AG,D3]
end Go.VS
end
end
