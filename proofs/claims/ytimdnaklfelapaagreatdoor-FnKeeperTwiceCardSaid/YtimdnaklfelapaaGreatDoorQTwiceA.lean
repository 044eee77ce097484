/- Part 21. -/
import Derived.Test.YtimdnaklfelapaaGreatDoorQAT
set_option linter.unusedVariables false
set_option linter.unusedSimpArgs false
set_option linter.defProp false
open Bool renaming and_eq_true->auF,and_self->avT,eq_iff_iff->axg,false_ne_true->avb,not_eq_true'->avw,not_true->auG,true_and->auN
open Int renaming not_lt->axD,tdiv->au6,tmod->avq,toNat->auK
open List renaming append_nil->avj,filter_cons->awq,filter_eq_self->ayu,filter_nil->ayp,foldl_cons->avC,getD_eq_getElem?_getD->auQ,getElem?_eq_getElem->auO,getElem?_replicate->aw6,getElem_mem->avm,length_drop->avy,length_filter_le->avY,length_set->avZ,length_take->avv,mem_append->auX,mem_filter->awd,mem_iff_getElem->axq,mem_of_mem_drop->awA,mem_singleton_self->avX,replicate->au0
open Nat renaming lt_trichotomy->awl,not_lt_zero->axX,zero_le->avM
open Option renaming bind_some->auE,filter_eq_some_iff->awe,getD_some->avd,isSome_some->au4
section
noncomputable section
namespace Go.VS
open Go
def aeb(a b c d:Int)(e:auB)(a' b' c' d':Int)(e':auB):Bool:=decide (a=a')&&(decide (b=b')&&(decide (c=c')&&(decide (d=d')&&(decide (e=e')&&true))))
def aha(a b c d e f g h i:Int)(j:auB)(a' b' c' d' e' f' g' h' i':Int)(j':auB):Bool:=
 decide (a=a')&&(decide (b=b')&&(decide (c=c')&&(decide (d=d')&&(decide (e=e')&&(decide (f=f')&&(decide (g=g')&&(decide (h=h')&&(decide (i=i')&&(decide (j=j')&&true)))))))))
end Go.VS
end
end
section
noncomputable section
namespace Go.VS
open Go Go.Proofs
set_option maxRecDepth 100000
abbrev Z25:Sh:= .box 79 [Z23,.int .i64,.sl .anx,.sl .bool,.sl .anJ,.sl .note,.sl .note,.sl .aoc]
abbrev Z26:Sh:= .box 79 [Z19,.int .i64,.fz .anx,.fz .bool,.fz .anJ,.fz .note,.fz .note,.fz .aoc]
abbrev Z29:Sh:= .box 69 [.int .i64,.sl .anx,.sl .bool,.sl .anJ,.sl .note,.sl .note]
end Go.VS
end
end
section
noncomputable section
namespace Go.VS
open Go Go.Proofs
set_option maxRecDepth 100000
def DM:Cx:=cX [aY,cb] [] []
def tZ:OKC Tryz.prog DM af:=okc mixed (gC aE (gC bw (av)))
def kK(x:Y10×Y0×Int×Int×auC):Rnd (Y10×Y0×Int×Int×auC) (Y10×Int×Y0×Bool×auC) (Y10×Y0×auC):=
 if decide (x.2.2.2.1<4) then
 if inb x.2.2.1 x.1.2.2.1.length then
 (bm (((rd (dfl .anx) x.1.2.2.1 x.2.2.1).id,(rd (dfl .anx) x.1.2.2.1 x.2.2.1).up,(rd (dfl .anx) x.1.2.2.1 x.2.2.1).log,(rd (dfl .anx) x.1.2.2.1 x.2.2.1).fo,(rd (dfl .anx) x.1.2.2.1 x.2.2.1).anw,()),())).bind λ r61=>
 if decide (0<(r61.1.1.2.2.2.1.length:Int)) then
 (ab (x.1.1,(r61.1.1.2.2.2.1.length:Int),())).bind λ r62=>
 if inb r62.1.1 r61.1.1.2.2.2.1.length then
 let v63:=(rd (dfl .note) r61.1.1.2.2.2.1 r62.1.1).fr
 let v64:=(rd (dfl .note) r61.1.1.2.2.2.1 r62.1.1).nu
 let v65:=(rd (dfl .note) r61.1.1.2.2.2.1 r62.1.1).to
 let v66:=(rd (dfl .note) r61.1.1.2.2.2.1 r62.1.1).un
 let v67:=(rd (dfl .note) r61.1.1.2.2.2.1 r62.1.1).tx
 some (.inr (.inl ((r62.2.1,x.1.2),x.2.2.1,(v63,v64,v65,v66,v67,()),true,())))
 else none
 else
 let v68:=(avq (w64 (x.2.2.1+1)) 4)
 some (.inl (x.1,x.2.1,v68,(w64 (x.2.2.2.1+1)),()))
 else none
 else
 some (.inr (.inr (x.1,x.2.1,())))
def ow:=aV kK
def qD:Loop:=⟨[(0,Z25),(3,Z0),(5,.int .i64),(6,.int .i64)],[(0,Z25),(3,Z0)],0,[(0,Z25),(2,.int .i64),(3,Z0),(4,.bool)],ow⟩
def Dk:LF Tryz.f37 [0] [1,1,0,1,0,0] qD:=sq (v:= .nil) tZ (b:=kK) kN
def gY(x:Y10×auC):Option ((Int×Y0×Bool×auC)×(Y10×auC)):=
 (ab (x.1.1,4,())).bind λ r1=>
 (aK (ow ((r1.2.1,x.1.2),(0,0,0,0,noB,()),r1.1.1,0,()))
 (λ y69=>some (y69.2,(y69.1,())))
 (λ y69=>some ((0,(0,0,0,0,noB,()),false,()),(y69.1,()))))
def tY:Ent:=(37,none,⟨[Z26],[.int .i64,Z1,.bool],gY⟩)
def ze:SQ Tryz.prog tY:=sk (v:=t1 (t1 (.two (t1 (.one (.loop qD))) .nil))) (fn:=Tryz.f37) tZ (kC Dk kN)
def Pq:Cx:=cX [aY,lI,yG,yA,gV] [] []
def Sq:OKC Tryz.prog Pq af:=okc mixed (gC aE (gC jm (gC xU (gC xI (gC eT (av))))))
def pt(x:Y8×auC):Option ((Y7×auC)×(Y8×auC)):=
 (mK x).bind λ r1=>
 (ab (r1.2.1,4,())).bind λ r2=>
 (ab (r2.2.1,3,())).bind λ r3=>
 (eF (r2.1.1,r1.1.1.2.2.1,())).bind λ r4=>
 (bH (X:=Y8×Y7×Y7×auC) (λ j8=>
 (ab (j8.1,16,())).bind λ r21=>
 if decide (r21.1.1=0) then
 (ab (r21.2.1,2,())).bind λ r22=>
 if inb r22.1.1 (([0,4]:List Int).length) then
 let v23:=(rd (dfl .int) ([0,4]:List Int) r22.1.1)
 some (((v23,j8.2.2.1.2),()),r22.2)
 else none
 else
 if decide (r21.1.1=1) then
 (ab (r21.2.1,3,())).bind λ r24=>
 if inb r24.1.1 (([0,25,5]:List Int).length) then
 let v25:=(rd (dfl .int) ([0,25,5]:List Int) r24.1.1)
 some (((j8.2.2.1.1,j8.2.2.1.2.1,j8.2.2.1.2.2.1,j8.2.2.1.2.2.2.1,j8.2.2.1.2.2.2.2.1,j8.2.2.1.2.2.2.2.2.1,j8.2.2.1.2.2.2.2.2.2.1,v25,j8.2.2.1.2.2.2.2.2.2.2.2),()),r24.2)
 else none
 else
 if decide (r21.1.1=2) then
 (ab (r21.2.1,3,())).bind λ r26=>
 if inb r26.1.1 (([(-1),999,1000]:List Int).length) then
 let v27:=(rd (dfl .int) ([(-1),999,1000]:List Int) r26.1.1)
 some (((j8.2.2.1.1,j8.2.2.1.2.1,j8.2.2.1.2.2.1,j8.2.2.1.2.2.2.1,j8.2.2.1.2.2.2.2.1,j8.2.2.1.2.2.2.2.2.1,j8.2.2.1.2.2.2.2.2.2.1,j8.2.2.1.2.2.2.2.2.2.2.1,v27,j8.2.2.1.2.2.2.2.2.2.2.2.2),()),r26.2)
 else none
 else
 if decide (r21.1.1=3) then
 (cB (r21.2.1,([noB,(B [97,98,99]),(B [97,98,99,100])]:List auB),())).bind λ r28=>
 some (((j8.2.2.1.1,j8.2.2.1.2.1,j8.2.2.1.2.2.1,j8.2.2.1.2.2.2.1,j8.2.2.1.2.2.2.2.1,j8.2.2.1.2.2.2.2.2.1,j8.2.2.1.2.2.2.2.2.2.1,j8.2.2.1.2.2.2.2.2.2.2.1,j8.2.2.1.2.2.2.2.2.2.2.2.1,r28.1),()),r28.2)
 else
 if decide (r21.1.1=4) then
 (ab (r21.2.1,4,())).bind λ r29=>
 some (((j8.2.2.1.1,r29.1.1,j8.2.2.1.2.2),()),r29.2)
 else
 some (j8.2.2,r21.2))
 ((if decide ((w64 (1+r3.1.1))=1) then
 let v9:=(r1.1.1.2.2.2.2.1.size:Int)
 (ab (r3.2.1,9,())).bind λ r10=>
 (mU (r1.1.1.2.2.2.2.1,r10.1)).bind λ r11=>
 some (.inr (r10.2.1,(0,0,0,0,0,0,0,0,0,noB,()),((w64 (1+r3.1.1)),r2.1.1,r4.1.1,r1.1.1.1,r1.1.1.2.1,r1.1.1.2.2.1,r1.1.1.2.2.2.1,v9,r10.1.1,r11.1),()))
 else
 some (.inr (r3.2.1,(0,0,0,0,0,0,0,0,0,noB,()),((w64 (1+r3.1.1)),r4.1.1,r2.1.1,r1.1.1.1,r1.1.1.2.1,r1.1.1.2.2.1,r1.1.1.2.2.2.1,0,0,noB,()),())))))
def Ex:Ent:=(39,none,⟨[Z19],[Z16],pt⟩)
def H8:SQ Tryz.prog Ex:=sk (v:=t1 (t1 (t1 (t1 (.join [(0,Z23),(2,Z18),(5,Z18)] .nil .nil))))) (fn:=Tryz.f39) Sq kN
def DN:Cx:=cX [cU,oq,A4,uF,qB,aY,tY,lI,Ex] [] []
def me:OKC Tryz.prog DN af:=okc mixed (gC cc (gC mV (gC zp (gC vq (gC rQ (gC aE (gC ze (gC jm (gC H8 (av))))))))))
def kX(x:Y3×Y7×Y8×Y9×Y3×Int×Y0×Y3×Int×auC):Rnd (Y3×Y7×Y8×Y9×Y3×Int×Y0×Y3×Int×auC) (auC) (Y3×Y7×Y8×Y9×Y3×Int×Y0×Y3×auC):=
 if decide (0<x.2.2.2.2.2.2.2.2.1) then
 if inb x.2.2.2.2.2.1 x.2.2.2.1.2.1.length then
 (ab (x.2.2.1,9,())).bind λ asN=>
 (dk (((rd (dfl .anx) x.2.2.2.1.2.1 x.2.2.2.2.2.1).id,(rd (dfl .anx) x.2.2.2.1.2.1 x.2.2.2.2.2.1).up,(rd (dfl .anx) x.2.2.2.1.2.1 x.2.2.2.2.2.1).log,(rd (dfl .anx) x.2.2.2.1.2.1 x.2.2.2.2.2.1).fo,(rd (dfl .anx) x.2.2.2.1.2.1 x.2.2.2.2.2.1).anw,()),x.2.2.2.2.2.2.1.1,x.2.2.2.2.2.2.1.2.1,asN.1)).bind λ atx=>
 (al (x.2.2.2.2.2.2.2.1,atx.1.1,())).bind λ atw=>
 let ati:=(w64 (x.2.2.2.2.2.2.2.2.1 - 1))
 some (.inl (x.1,x.2.1,asN.2.1,x.2.2.2.1,x.2.2.2.2.1,x.2.2.2.2.2.1,x.2.2.2.2.2.2.1,atw.1.1,ati,()))
 else none
 else
 some (.inr (.inr (x.1,x.2.1,x.2.2.1,x.2.2.2.1,x.2.2.2.2.1,x.2.2.2.2.2.1,x.2.2.2.2.2.2.1,x.2.2.2.2.2.2.2.1,())))
def oy:=aV kX
def qG:Loop:=⟨[(2,Z14),(3,Z18),(4,Z23),(5,Z29),(6,Z14),(11,.int .i64),(12,Z0),(15,Z13),(16,.int .i64)],[(2,Z14),(3,Z18),(4,Z23),(5,Z29),(6,Z14),(11,.int .i64),(12,Z0),(15,Z13)],2,[],oy⟩
def Di:LF Tryz.f11 [] [1,1,1,1,1,1,0,1,0,1,1,1,0,1,0,0] qG:=sq (v:= .nil) me (b:=kX) kN
def kY(x:Y3×Y7×Y8×Y9×Y3×Int×auC):Rnd (Y3×Y7×Y8×Y9×Y3×Int×auC) (Y3×Y7×auC) (Y3×Y7×Y8×Y9×Y3×auC):=
 if decide (x.2.2.2.2.2.1<(x.2.2.2.1.2.2.2.1.length:Int)) then
 if inb x.2.2.2.2.2.1 x.2.2.2.1.2.2.2.1.length then
 if an ((rd (dfl .anJ) x.2.2.2.1.2.2.2.1 x.2.2.2.2.2.1).data).size then
 (ax ((aL ((rd (dfl .anJ) x.2.2.2.1.2.2.2.1 x.2.2.2.2.2.1).data)),())).bind λ r85=>
 (bH (X:=Y3×Y7×Y8×Y9×Y3×Int×Y7×Bool×auC) (λ j86=>
 if j86.2.2.2.2.2.2.2.1 then
 if inb j86.2.2.2.2.2.2.1.2.2.1 j86.2.2.2.1.2.1.length then
 let v88:=(rd (dfl .anx) j86.2.2.2.1.2.1 j86.2.2.2.2.2.2.1.2.2.1).id
 let v89:=(rd (dfl .anx) j86.2.2.2.1.2.1 j86.2.2.2.2.2.2.1.2.2.1).up
 let v90:=(rd (dfl .anx) j86.2.2.2.1.2.1 j86.2.2.2.2.2.2.1.2.2.1).log
 let v91:=(rd (dfl .anx) j86.2.2.2.1.2.1 j86.2.2.2.2.2.2.1.2.2.1).fo
 let v92:=(rd (dfl .anx) j86.2.2.2.1.2.1 j86.2.2.2.2.2.2.1.2.2.1).anw
 some (.inr (.inl ((v88,v89,v90,v91,v92,()),j86.2.2.2.2.2.2.1,())))
 else none
 else
 let v93:=(w64 (j86.2.2.2.2.2.1+1))
 some (.inl (j86.1,j86.2.1,j86.2.2.1,j86.2.2.2.1,j86.2.2.2.2.1,v93,())))
 ((if r85.1.2.1 then
 (ab (x.2.2.1,2,())).bind λ r87=>
 some (.inr (x.1,x.2.1,r87.2.1,x.2.2.2.1,x.2.2.2.2.1,x.2.2.2.2.2.1,r85.1.1,(decide (r87.1.1=0)),()))
 else
 some (.inr (x.1,x.2.1,x.2.2.1,x.2.2.2.1,x.2.2.2.2.1,x.2.2.2.2.2.1,r85.1.1,false,())))))
 else none
 else none
 else
 some (.inr (.inr (x.1,x.2.1,x.2.2.1,x.2.2.2.1,x.2.2.2.2.1,())))
def oz:=aV kY
def qH:Loop:=⟨[(2,Z14),(3,Z18),(4,Z23),(5,Z20),(6,Z14),(7,.int .i64)],[(2,Z14),(3,Z18),(4,Z23),(5,Z20),(6,Z14)],0,[(2,Z13),(3,Z18)],oz⟩
def Dl:LF Tryz.f11 [] [1,1,1,0,1,0,0] qH:=sq (v:=t1 (.two (.one (t1 (.join [(2,Z14),(3,Z18),(4,Z23),(5,Z20),(6,Z14),(7,.int .i64),(8,Z18),(52,.bool)] .nil .nil))) .nil)) me (b:=kY) kN
def bk(x:List Int×auC):Option ((Y3×Y7×auC)×auC):=
 (o3 x).bind λ r1=>
 (jF r1.1).bind λ r2=>
 (aK (oz ((0,false,noB,0,([]:List anD),()),(0,0,0,0,0,0,0,0,0,noB,()),r2.2.1,r2.1.1,r2.1.2.1,0,()))
 (λ y94=>some (y94,()))
 (λ y94=>(gY ((y94.2.2.1,y94.2.2.2.1.1,y94.2.2.2.1.2.1,y94.2.2.2.1.2.2.1,y94.2.2.2.1.2.2.2.1,y94.2.2.2.1.2.2.2.2.1,y94.2.2.2.1.2.2.2.2.2.1,([]:List Event),()),())).bind λ r95=>
 (bH (X:=Y3×Y7×Y8×Y3×auC) (λ ar2=>
 (pt (ar2.2.2.1,())).bind λ arW=>
 some ((ar2.2.2.2.1,(arW.1.1.1,arW.1.1.2.1,ar2.2.2.2.1.1,arW.1.1.2.2.2),()),()))
 ((bH (X:=Y3×Y7×Y8×Y9×Y3×Int×Y0×Bool×auC) (λ an7=>
 if an7.2.2.2.2.2.2.2.1 then
 (eF (an7.2.2.2.2.2.1,an7.2.2.2.2.2.2.1.2.2.1,())).bind λ aqo=>
 (ab (an7.2.2.1,3,())).bind λ arX=>
 if decide (arX.1.1=0) then
 if inb an7.2.2.2.2.2.1 an7.2.2.2.1.2.1.length then
 (ab (arX.2.1,6,())).bind λ asP=>
 (ab (asP.2.1,8,())).bind λ atA=>
 let v152:=(rd (dfl .anx) an7.2.2.2.1.2.1 an7.2.2.2.2.2.1).id
 let asF:=(rd (dfl .anx) an7.2.2.2.1.2.1 an7.2.2.2.2.2.1).up
 let v154:=(rd (dfl .anx) an7.2.2.2.1.2.1 an7.2.2.2.2.2.1).log
 let atn:=(rd (dfl .anx) an7.2.2.2.1.2.1 an7.2.2.2.2.2.1).fo
 let atm:=(rd (dfl .anx) an7.2.2.2.1.2.1 an7.2.2.2.2.2.1).anw
 let v157:=(w64 (2+(w64 (au6 asP.1.1 5))))
 let atl:=(w64 (an7.2.2.2.2.2.2.1.2.2.2.1+(w64 (au6 atA.1.1 7))))
 some (.inl (((v152,asF,v154,atn,atm,()),(v157,aqo.1.1,an7.2.2.2.2.2.1,an7.2.2.2.2.2.2.1.1,an7.2.2.2.2.2.2.1.2.1,an7.2.2.2.2.2.2.1.2.2.1,atl,0,0,noB,()),()),()))
 else none
 else
 if inb aqo.1.1 an7.2.2.2.1.2.1.length then
 let v159:=(rd (dfl .anx) an7.2.2.2.1.2.1 aqo.1.1).id
 let v160:=(rd (dfl .anx) an7.2.2.2.1.2.1 aqo.1.1).up
 let atk:=(rd (dfl .anx) an7.2.2.2.1.2.1 aqo.1.1).log
 let v162:=(rd (dfl .anx) an7.2.2.2.1.2.1 aqo.1.1).fo
 let atj:=(rd (dfl .anx) an7.2.2.2.1.2.1 aqo.1.1).anw
 (ab (arX.2.1,8,())).bind λ asO=>
 (aK (oy (an7.1,an7.2.1,asO.2.1,an7.2.2.2.1,an7.2.2.2.2.1,an7.2.2.2.2.2.1,an7.2.2.2.2.2.2.1,(v159,v160,atk,v162,atj,()),asO.1))
 (λ _=>none)
 (λ aoK=>(if inb aoK.2.2.2.2.2.1 aoK.2.2.2.1.2.1.length then
 (ab (aoK.2.2.1,9,())).bind λ asM=>
 (dk (((rd (dfl .anx) aoK.2.2.2.1.2.1 aoK.2.2.2.2.2.1).id,(rd (dfl .anx) aoK.2.2.2.1.2.1 aoK.2.2.2.2.2.1).up,(rd (dfl .anx) aoK.2.2.2.1.2.1 aoK.2.2.2.2.2.1).log,(rd (dfl .anx) aoK.2.2.2.1.2.1 aoK.2.2.2.2.2.1).fo,(rd (dfl .anx) aoK.2.2.2.1.2.1 aoK.2.2.2.2.2.1).anw,()),aoK.2.2.2.2.2.2.1.1,aoK.2.2.2.2.2.2.1.2.1,asM.1)).bind λ asL=>
 if asL.1.2.1 then
 some (.inl ((aoK.2.2.2.2.2.2.2.1,asL.1.1,()),()))
 else
 some (.inr (aoK.1,aoK.2.1,asM.2.1,aoK.2.2.2.2.1,()))
 else none)))
 else none
 else
 some (.inr (an7.1,an7.2.1,an7.2.2.1,an7.2.2.2.2.1,())))
 ((if r95.1.2.2.1 then
 (ab (r95.2.1.1,4,())).bind λ asQ=>
 some (.inr (y94.1,y94.2.1,asQ.2.1,y94.2.2.2.1,y94.2.2.2.2.1,r95.1.1,r95.1.2.1,(decide (0<asQ.1.1)),()))
 else
 some (.inr (y94.1,y94.2.1,r95.2.1.1,y94.2.2.2.1,y94.2.2.2.2.1,r95.1.1,r95.1.2.1,false,())))))))))
def cf:Ent:=(11,none,⟨[.fz .u8],[Z8,Z16],bk⟩)
def bU:SQ Tryz.prog cf:=sk (v:=t1 (t1 (t1 (.two (t1 (.one (.loop qH))) (t1 (t1 (.join [(2,Z14),(3,Z18),(4,Z23),(6,Z14)] (.join [(2,Z14),(3,Z18),(4,Z23),(5,Z29),(6,Z14),(11,.int .i64),(12,Z0),(75,.bool)] .nil (.two (t1 (t1 (t1 (.two (t1 (.one (.loop qG))) .nil)))) .nil)) .nil))))))) (fn:=Tryz.f11) me (kC Dl (kC Di kN))
def PJ:Cx:=cX [] [] []
def wJ:OKC Tryz.prog PJ af:=okc mixed (av)
def jV(x:List anD×List anD×Int×Int×auC):Rnd (List anD×List anD×Int×Int×auC) (Bool×auC) (List anD×List anD×Int×auC):=
 if inb x.2.2.1 x.1.length then
 if decide (x.2.2.2.1<(((rd (dfl .half) x.1 x.2.2.1).got).length:Int)) then
 if inb x.2.2.1 x.1.length then
 if inb x.2.2.2.1 (((rd (dfl .half) x.1 x.2.2.1).got).length) then
 if inb x.2.2.1 x.2.1.length then
 if inb x.2.2.2.1 (((rd (dfl .half) x.2.1 x.2.2.1).got).length) then
 if !(decide ((rd (dfl .mixed) ((rd (dfl .half) x.1 x.2.2.1).got) x.2.2.2.1).nu=(rd (dfl .mixed) ((rd (dfl .half) x.2.1 x.2.2.1).got) x.2.2.2.1).nu)&&(decide ((rd (dfl .mixed) ((rd (dfl .half) x.1 x.2.2.1).got) x.2.2.2.1).da=(rd (dfl .mixed) ((rd (dfl .half) x.2.1 x.2.2.1).got) x.2.2.2.1).da)&&true)) then
 some (.inr (.inl (false,())))
 else
 some (.inl (x.1,x.2.1,x.2.2.1,(w64 (x.2.2.2.1+1)),()))
 else none
 else none
 else none
 else none
 else
 some (.inr (.inr (x.1,x.2.1,x.2.2.1,())))
 else none
def oN:=aV jV
def zO:Loop:=⟨[(0,.sl .half),(1,.sl .half),(5,.int .i64),(6,.int .i64)],[(0,.sl .half),(1,.sl .half),(5,.int .i64)],2,[(4,.bool)],oN⟩
def OS:LF Tryz.f53 [] [1,1,0,1,0,0,1,0,0,1,1,0,0] zO:=sq (v:= .nil) wJ (b:=jV) kN
def jW(x:List anD×List anD×Int×auC):Rnd (List anD×List anD×Int×auC) (Bool×auC) (auC):=
 if decide (x.2.2.1<(x.1.length:Int)) then
 if inb x.2.2.1 x.1.length then
 if inb x.2.2.1 x.2.1.length then
 if !decide ((rd (dfl .half) x.1 x.2.2.1).fr=(rd (dfl .half) x.2.1 x.2.2.1).fr) then
 some (.inr (.inl (false,())))
 else
 if inb x.2.2.1 x.1.length then
 if inb x.2.2.1 x.2.1.length then
 if !decide ((rd (dfl .half) x.1 x.2.2.1).nu=(rd (dfl .half) x.2.1 x.2.2.1).nu) then
 some (.inr (.inl (false,())))
 else
 if inb x.2.2.1 x.1.length then
 if inb x.2.2.1 x.2.1.length then
 if !decide ((rd (dfl .half) x.1 x.2.2.1).to=(rd (dfl .half) x.2.1 x.2.2.1).to) then
 some (.inr (.inl (false,())))
 else
 if inb x.2.2.1 x.1.length then
 if inb x.2.2.1 x.2.1.length then
 if !decide ((rd (dfl .half) x.1 x.2.2.1).un=(rd (dfl .half) x.2.1 x.2.2.1).un) then
 some (.inr (.inl (false,())))
 else
 if inb x.2.2.1 x.1.length then
 if inb x.2.2.1 x.2.1.length then
 if !decide ((rd (dfl .half) x.1 x.2.2.1).sz=(rd (dfl .half) x.2.1 x.2.2.1).sz) then
 some (.inr (.inl (false,())))
 else
 if inb x.2.2.1 x.1.length then
 if inb x.2.2.1 x.2.1.length then
 if !decide ((((rd (dfl .half) x.1 x.2.2.1).got).length:Int)=(((rd (dfl .half) x.2.1 x.2.2.1).got).length:Int)) then
 some (.inr (.inl (false,())))
 else
 (aK (oN (x.1,x.2.1,x.2.2.1,0,()))
 (λ y7=>some (.inr (.inl y7)))
 (λ y7=>some (.inl (y7.1,y7.2.1,(w64 (y7.2.2.1+1)),()))))
 else none
 else none
 else none
 else none
 else none
 else none
 else none
 else none
 else none
 else none
 else none
 else none
 else
 some (.inr (.inr ()))
def oO:=aV jW
def zP:Loop:=⟨[(0,.sl .half),(1,.sl .half),(5,.int .i64)],[],0,[(4,.bool)],oO⟩
def O0:LF Tryz.f53 [] [1,1,0,1,0,0] zP:=sq (v:=t1 (.two (.one (t1 (t1 (.one (.loop zO))))) .nil)) wJ (b:=jW) (kC OS kN)
def fT(x:List anD×List anD×auC):Option ((Bool×auC)×auC):=
 if !decide ((x.1.length:Int)=(x.2.1.length:Int)) then
 some ((false,()),())
 else
 (aK (oO (x.1,x.2.1,0,()))
 (λ y8=>some (y8,()))
 (λ y8=>some ((true,()),())))
def EF:Ent:=(53,none,⟨[.fz .half,.fz .half],[.bool],fT⟩)
def Ii:SQ Tryz.prog EF:=sk (v:=t1 (t1 (.two (t1 (.one (.loop zP))) .nil))) (fn:=Tryz.f53) wJ (kC O0 kN)
def PI:Cx:=cX [EF] [] [(25,29)]
def SF:OKC Tryz.prog PI af:=okc mixed (gC Ii (av))
def aq(x:Y3×Y3×auC):Option ((Bool×auC)×auC):=
 if decide (x.1.1=x.2.1.1) then
 if decide (x.1.2.1=x.2.1.2.1) then
 if aX (decide (x.1.2.2.1=x.2.1.2.2.1)&&(decide (x.1.2.2.2.1=x.2.1.2.2.2.1)&&true)) ((fT (x.1.2.2.2.2.1,x.2.1.2.2.2.2)).isSome) then
 let v2:=((decide (x.1.2.2.1=x.2.1.2.2.1)&&(decide (x.1.2.2.2.1=x.2.1.2.2.2.1)&&true))&&(((fT (x.1.2.2.2.2.1,x.2.1.2.2.2.2)).getD ((false,()),())).1.1))
 some ((v2,()),())
 else none
 else
 if aX false ((fT (x.1.2.2.2.2.1,x.2.1.2.2.2.2)).isSome) then
 some ((false,()),())
 else none
 else
 if aX false ((fT (x.1.2.2.2.2.1,x.2.1.2.2.2.2)).isSome) then
 some ((false,()),())
 else none
def eL:Ent:=(14,none,⟨[Z8,Z8],[.bool],aq⟩)
def dw:SQ Tryz.prog eL:=sk (v:= .nil) (fn:=Tryz.f14) SF kN
def PK:Cx:=cX [] [] []
def EN:OKC Tryz.prog PK af:=okc mixed (av)
def jX(x:List Frame×List Frame×Int×auC):Rnd (List Frame×List Frame×Int×auC) (Bool×auC) (auC):=
 if decide (x.2.2.1<(x.1.length:Int)) then
 if inb x.2.2.1 x.1.length then
 if inb x.2.2.1 x.2.1.length then
 if !(aha ((rd (dfl .frame) x.1 x.2.2.1).ki) ((rd (dfl .frame) x.1 x.2.2.1).src) ((rd (dfl .frame) x.1 x.2.2.1).dst) ((rd (dfl .frame) x.1 x.2.2.1).fr) ((rd (dfl .frame) x.1 x.2.2.1).nu) ((rd (dfl .frame) x.1 x.2.2.1).to) ((rd (dfl .frame) x.1 x.2.2.1).un) ((rd (dfl .frame) x.1 x.2.2.1).sz) ((rd (dfl .frame) x.1 x.2.2.1).mix) ((rd (dfl .frame) x.1 x.2.2.1).da) ((rd (dfl .frame) x.2.1 x.2.2.1).ki) ((rd (dfl .frame) x.2.1 x.2.2.1).src) ((rd (dfl .frame) x.2.1 x.2.2.1).dst) ((rd (dfl .frame) x.2.1 x.2.2.1).fr) ((rd (dfl .frame) x.2.1 x.2.2.1).nu) ((rd (dfl .frame) x.2.1 x.2.2.1).to) ((rd (dfl .frame) x.2.1 x.2.2.1).un) ((rd (dfl .frame) x.2.1 x.2.2.1).sz) ((rd (dfl .frame) x.2.1 x.2.2.1).mix) ((rd (dfl .frame) x.2.1 x.2.2.1).da)) then
 some (.inr (.inl (false,())))
 else
 some (.inl (x.1,x.2.1,(w64 (x.2.2.1+1)),()))
 else none
 else none
 else
 some (.inr (.inr ()))
def oP:=aV jX
def zQ:Loop:=⟨[(0,.sl .frame),(1,.sl .frame),(5,.int .i64)],[],0,[(4,.bool)],oP⟩
def O1:LF Tryz.f15 [] [1,1,0,1,0,0] zQ:=sq (v:= .nil) EN (b:=jX) kN
def aT(x:List Frame×List Frame×auC):Option ((Bool×auC)×auC):=
 if !decide ((x.1.length:Int)=(x.2.1.length:Int)) then
 some ((false,()),())
 else
 (aK (oP (x.1,x.2.1,0,()))
 (λ y2=>some (y2,()))
 (λ y2=>some ((true,()),())))
def fV:Ent:=(15,none,⟨[.fz .frame,.fz .frame],[.bool],aT⟩)
def eB:SQ Tryz.prog fV:=sk (v:=t1 (t1 (.two (t1 (.one (.loop zQ))) .nil))) (fn:=Tryz.f15) EN (kC O1 kN)
def Sa:Cx:=cX [] [] []
def Hc:OKC Tryz.prog Sa af:=okc mixed (av)
def ly(x:List anz×List anz×Int×auC):Rnd (List anz×List anz×Int×auC) (Bool×auC) (auC):=
 if decide (x.2.2.1<(x.1.length:Int)) then
 if inb x.2.2.1 x.1.length then
 if inb x.2.2.1 x.2.1.length then
 if !(aeb ((rd (dfl .note) x.1 x.2.2.1).fr) ((rd (dfl .note) x.1 x.2.2.1).nu) ((rd (dfl .note) x.1 x.2.2.1).to) ((rd (dfl .note) x.1 x.2.2.1).un) ((rd (dfl .note) x.1 x.2.2.1).tx) ((rd (dfl .note) x.2.1 x.2.2.1).fr) ((rd (dfl .note) x.2.1 x.2.2.1).nu) ((rd (dfl .note) x.2.1 x.2.2.1).to) ((rd (dfl .note) x.2.1 x.2.2.1).un) ((rd (dfl .note) x.2.1 x.2.2.1).tx)) then
 some (.inr (.inl (false,())))
 else
 some (.inl (x.1,x.2.1,(w64 (x.2.2.1+1)),()))
 else none
 else none
 else
 some (.inr (.inr ()))
def qi:=aV ly
def BS:Loop:=⟨[(0,.sl .note),(1,.sl .note),(5,.int .i64)],[],0,[(4,.bool)],qi⟩
def Ru:LF Tryz.f69 [] [1,1,0,1,0,0] BS:=sq (v:= .nil) Hc (b:=ly) kN
def cE(x:List anz×List anz×auC):Option ((Bool×auC)×auC):=
 if !decide ((x.1.length:Int)=(x.2.1.length:Int)) then
 some ((false,()),())
 else
 (aK (qi (x.1,x.2.1,0,()))
 (λ y2=>some (y2,()))
 (λ y2=>some ((true,()),())))
def GH:Ent:=(69,none,⟨[.fz .note,.fz .note],[.bool],cE⟩)
def Kn:SQ Tryz.prog GH:=sk (v:=t1 (t1 (.two (t1 (.one (.loop BS))) .nil))) (fn:=Tryz.f69) Hc (kC Ru kN)
def Sb:Cx:=cX [] [] []
def Hd:OKC Tryz.prog Sb af:=okc mixed (av)
def lz(x:List Mark×List Mark×Int×auC):Rnd (List Mark×List Mark×Int×auC) (Bool×auC) (auC):=
 if decide (x.2.2.1<(x.1.length:Int)) then
 if inb x.2.2.1 x.1.length then
 if inb x.2.2.1 x.2.1.length then
 if !(decide ((rd (dfl .mark) x.1 x.2.2.1).mf=(rd (dfl .mark) x.2.1 x.2.2.1).mf)&&(decide ((rd (dfl .mark) x.1 x.2.2.1).mn=(rd (dfl .mark) x.2.1 x.2.2.1).mn)&&(decide ((rd (dfl .mark) x.1 x.2.2.1).mu=(rd (dfl .mark) x.2.1 x.2.2.1).mu)&&true))) then
 some (.inr (.inl (false,())))
 else
 some (.inl (x.1,x.2.1,(w64 (x.2.2.1+1)),()))
 else none
 else none
 else
 some (.inr (.inr ()))
def qj:=aV lz
def BT:Loop:=⟨[(0,.sl .mark),(1,.sl .mark),(5,.int .i64)],[],0,[(4,.bool)],qj⟩
def Rv:LF Tryz.f70 [] [1,1,0,1,0,0] BT:=sq (v:= .nil) Hd (b:=lz) kN
def ng(x:List Mark×List Mark×auC):Option ((Bool×auC)×auC):=
 if !decide ((x.1.length:Int)=(x.2.1.length:Int)) then
 some ((false,()),())
 else
 (aK (qj (x.1,x.2.1,0,()))
 (λ y2=>some (y2,()))
 (λ y2=>some ((true,()),())))
def GI:Ent:=(70,none,⟨[.fz .mark,.fz .mark],[.bool],ng⟩)
def Ko:SQ Tryz.prog GI:=sk (v:=t1 (t1 (.two (t1 (.one (.loop BT))) .nil))) (fn:=Tryz.f70) Hd (kC Rv kN)
def VX:Cx:=cX [GH,GI] [] [(39,43)]
def Ya:OKC Tryz.prog VX af:=okc mixed (gC Kn (gC Ko (av)))
def va(x:Y1×Y1×auC):Option ((Bool×auC)×auC):=
 if decide (x.1.1=x.2.1.1) then
 if decide (x.1.2.1=x.2.1.2.1) then
 if decide (x.1.2.2.1=x.2.1.2.2.1) then
 (cE (x.1.2.2.2.1,x.2.1.2.2.2.1,())).bind λ r4=>
 if r4.1.1 then
 (ng (x.1.2.2.2.2.1,x.2.1.2.2.2.2.1,())).bind λ r5=>
 if aX r5.1.1 ((cE (x.1.2.2.2.2.2.1,x.2.1.2.2.2.2.2)).isSome) then
 let v6:=(r5.1.1&&(((cE (x.1.2.2.2.2.2.1,x.2.1.2.2.2.2.2)).getD ((false,()),())).1.1))
 some ((v6,()),())
 else none
 else
 if aX false ((cE (x.1.2.2.2.2.2.1,x.2.1.2.2.2.2.2)).isSome) then
 some ((false,()),())
 else none
 else
 if aX false ((cE (x.1.2.2.2.2.2.1,x.2.1.2.2.2.2.2)).isSome) then
 some ((false,()),())
 else none
 else
 if aX false ((cE (x.1.2.2.2.2.2.1,x.2.1.2.2.2.2.2)).isSome) then
 some ((false,()),())
 else none
 else
 if aX false ((cE (x.1.2.2.2.2.2.1,x.2.1.2.2.2.2.2)).isSome) then
 some ((false,()),())
 else none
def Jk:Ent:=(28,none,⟨[Z3,Z3],[.bool],va⟩)
def Ms:SQ Tryz.prog Jk:=sk (v:= .nil) (fn:=Tryz.f28) Ya kN
def E8:Cx:=cX [cf,cU,cV,eL,fV,br,bW,Jk] [] [(50,52),(73,75)]
def He:OKC Tryz.prog E8 af:=okc mixed (gC bU (gC cc (gC cd (gC dw (gC eB (gC aQ (gC bE (gC Ms (av)))))))))
def fp(x:List Int×auC):Option ((Bool×auC)×auC):=
 if decide (1048576<(x.1.length:Int)) then
 some ((true,()),())
 else
 (bk x).bind λ r1=>
 (al r1.1).bind λ r2=>
 (bq r1.1).bind λ r3=>
 (bH (X:=Y7×Y3×List Frame×Y3×List Frame×Bool×auC) (λ j15=>
 if j15.2.2.2.2.2.1 then
 (aq (j15.2.2.2.1,j15.2.1,())).bind λ r19=>
 if aX r19.1.1 ((aT (j15.2.2.2.2.1,j15.2.2.1,())).isSome) then
 let v20:=(r19.1.1&&(((aT (j15.2.2.2.2.1,j15.2.2.1,())).getD ((false,()),())).1.1))
 some ((v20,()),())
 else none
 else
 (bq (j15.2.2.2.1,j15.1,())).bind λ r21=>
 (bd (r21.1.1,())).bind λ r26=>
 (bd (j15.2.2.2.1,())).bind λ r27=>
 (va (r26.1.1,r27.1)).bind λ r28=>
 if r28.1.1 then
 let v29:=((decide (r21.1.1.2.2.1=j15.2.2.2.1.2.2.1)&&(decide (r21.1.1.2.2.2.1=j15.2.2.2.1.2.2.2.1)&&true))&&(decide ((r21.1.2.1.length:Int)<=1)))
 some ((v29,()),())
 else
 some ((false,()),()))
 ((aq (r3.1.1,r2.1.1,())).bind λ r16=>
 if !r16.1.1 then
 some (.inr (r1.1.2.1,r2.1.1,r2.1.2.1,r3.1.1,r3.1.2.1,true,()))
 else
 (aT (r3.1.2.1,r2.1.2)).bind λ r17=>
 if !r17.1.1 then
 some (.inr (r1.1.2.1,r2.1.1,r2.1.2.1,r3.1.1,r3.1.2.1,true,()))
 else
 (aS (r1.1.1,())).bind λ r18=>
 some (.inr (r1.1.2.1,r2.1.1,r2.1.2.1,r3.1.1,r3.1.2.1,(!r18.1.1),()))))
def GK:Ent:=(8,none,⟨[.fz .u8],[.bool],fp⟩)
def AU:SQ Tryz.prog GK:=sk (v:=t1 (t1 (t1 (t1 (t1 (.two (.join [(4,Z18),(5,Z13),(6,.sl .frame),(7,Z13),(8,.sl .frame),(45,.bool)] .nil .nil) .nil)))))) (fn:=Tryz.f8) He kN
end Go.VS
end
end
section
noncomputable section
namespace Go.VS
open Go
def TX{b:Nat}{u:Nat}{kn kn':List auB}{m:anA}(h:anX b kn)(hu:u ∉ aU (b:Int) m.nu)(hk:unk kn u=true)(e:rW b kn m=some kn'):unk kn' u=true:=by
 unfold rW at e;split at e
 ·split at e
  ·rename_i v hv;injection e with e;subst e;have aos:v∈eH kn (aU (b:Int) m.nu):=by rw[hv];exact avX v
   obtain⟨h1,h2⟩:=awd.1 aos;have h3:=jT h1;unfold unk;rw[H4 _ (by rw[h.1];omega),aur (λ e2:u=v=>hu (by rw[e2];exact h1))];exact hk
  ·cases e
 ·cases e
def PX{u:Nat}:∀ {l:List auB} {a:auB},u<l.length->bsA l u=noB->zh l a=none
 | [],_,h,_=>absurd h (axX _)
 | x::l,a,h,e=>by
  unfold zh;split
  ·rfl
  ·rename_i hx;cases u with
   | zero=>exact absurd e hx
   | succ u=>exact PX (u:=u) (by simpa using h) (by simpa[bsA] using e)
def TS{b:Nat}{m:anA}{u:Nat}(hb:2<=b):∀(n:Nat) (kn:List auB),anX b kn->(∀k,k≠u->unk kn k=true)->(aU (b:Int) m.nu=[u]\/((∀k,unk kn k=true)/\ ∀v,aU (b:Int) m.nu≠[v]))->∀k,k≠u->unk (lv b [m] n kn) k=true
 | 0,_,_,h,_=>h
 | n+1,kn,hk,h,hm=>by
  have hr:iW b [m] kn=cW b (kn,false) m:=rfl;have key:anX b (iW b [m] kn).1/\(∀k,k≠u->unk (iW b [m] kn).1 k=true)/\(aU (b:Int) m.nu=[u]\/((∀k,unk (iW b [m] kn).1 k=true)/\ ∀v,aU (b:Int) m.nu≠[v])):=by
   rw[hr];unfold cW;split
   ·rename_i kn' e;refine⟨(C6 hk e).1, ?_⟩;rcases hm with hm|⟨ha,hm⟩
    ·refine⟨λ k hne=> ?_,.inl hm⟩;exact TX hk (by rw[hm];simpa using hne) (h k hne) e
    ·exfalso;unfold rW at e;split at e
     ·split at e
      ·rename_i v hv;unfold eH at hv;rw[ayu.2 (λ k _=>ha k)]at hv;exact hm v hv
      ·cases e
     ·cases e
   ·exact⟨hk,h,hm⟩
  unfold lv;split
  ·exact TS hb n _ key.1 key.2.1 key.2.2
  ·exact key.2.1
def aeB(b:Nat)(k:Nat):unk (au0 b noB) k=true:=by
 unfold unk;rw[bsA,auQ,aw6];split<;>rfl
def afF{s:Int}(hs:5<=s)(m:anA):(dy s [m]).2=false:=by
 rcases tf (inB s 1 24) with h|h
 ·have h':=ah.1 h;have hb:2<=(s.toNat+3) / 4:=by omega
  rw[Ls h];have hk:=anX.new ((s.toNat+3) / 4);have apd:∃u,aU (((s.toNat+3) / 4:Nat):Int) m.nu=[u]\/((∀k,unk (au0 ((s.toNat+3) / 4) noB) k=true)/\ ∀v,aU (((s.toNat+3) / 4:Nat):Int) m.nu≠[v]):=by
   by_cases hv:∃v,aU (((s.toNat+3) / 4:Nat):Int) m.nu=[v]
   ·obtain⟨v,hv⟩:=hv;exact⟨v,.inl hv⟩
   ·exact⟨0,.inr ⟨aeB _,λ v e=>hv ⟨v,e⟩⟩⟩
  obtain⟨u,hu⟩:=apd;have h1:=TS hb 7 _ hk (λ k _=>aeB _ k) hu;have h2:=FQ [m] 7 _ hk;have hj:∃j,j<(s.toNat+3) / 4/\j≠u:=by
   by_cases e:u=0
   ·exact⟨1,by omega,by omega⟩
   ·exact⟨0,by omega,λ e'=>e e'.symm⟩
  obtain⟨j,hj,hne⟩:=hj;rw[PX (u:=j) (by rw[h2.1];exact hj) (auv (h1 j hne))]
 ·unfold dy;rw[h,auD]
def aiK:l7 [108,101,116]:=by unfold l7;decide
def ahE(n:anz):L (gh n)=[116,97,107,101]++32::L (wr n):=by unfold gh;simp only[ua,L_B];rfl
def aca{k:anE}{r:auB}(hk:aw k=true):bV k r=(qX k r).filter aw:=by
 unfold bV ic;rw[aus hk];cases (qX k r).filter aw<;>rfl
def adi{k:anE}{n:anz}(hn:ay n=true):cL k kF (wr n)=if n.fr=k.id then none else Bl k n:=by
 unfold cL iR;by_cases h:n.fr=k.id
 ·simp[x8,x9,AJ,ya,wu,xB hn,h]
 ·simp[x8,x9,AJ,ya,wu,xB hn,h]
def Dh{k:anE}{n:anz}(hk:aw k=true)(hn:ay n=true):bV k (gh n)=(if n.fr=k.id then none else Bl k n).filter aw:=by
 rw[aca hk,qW YK (ahE n),B_L];rw[show cL k (B [116,97,107,101]) (wr n)=_ from adi hn]
def aru{k o:anE}{n:anz}(hk:aw k=true)(hn:ay n=true)(h:bV k (gh n)=some o):arK k o n:=by
 rw[Dh hk hn]at h;have h:=(awe.1 h).1;split at h
 ·cases h
 unfold Bl at h;split at h
 ·cases h
 split at h
 ·cases h
 split at h
 ·cases h
 split at h
 ·cases h
 split at h
 ·cases h
 split at h
 ·cases h
 split at h
 ·rename_i h1;cases h;exact⟨rfl,rfl,rfl,.inl ⟨auv h1,rfl,rfl,rfl⟩⟩
 ·rename_i h1;cases h;exact⟨rfl,rfl,rfl,.inr ⟨by simpa using h1,rfl,rfl,rfl⟩⟩
def Fc{k:anv}{st o:anE}{r:auB}(h:an9 k st)(hr:bV st r=some o):Safe (wrR k r true).1 o/\(wrR k r true).2=true:=by
 unfold wrR;rw[h.stT,hr];exact⟨⟨KM (ZI h hr),rfl⟩,rfl⟩
def Td{k:anv}{st:anE}{r:auB}{f:Bool}(h:an9 k st)(hr:(wrR k r f).2=true):∃o,bV st r=some o:=by
 unfold wrR at hr;rw[h.stT]at hr;cases hc:bV st r with
 | none=>rw[hc]at hr;cases hr
 | some o=>exact⟨o,rfl⟩
def ajE{k:anv}(h:ae k=true)(hu:k.up=true){f:Frame}(hf:km f=true)(h1:f.ki=1):an9 (oX k (oU (fW (aN k.anw f).1 (aN k.anw f).2 f) (aN k.anw f).2)) (stT k):=by
 have kf:=ck h;have hv:=aaB.1 kf.hv;have hp:=uE hf h1;have aok:=C5 (hv:=k.anw) (f:=f);have aoG:=FP (hv:=k.anw) (f:=f) kf.hl;have hpf:=aaa hv hf h1;have haf:=aa2 hpf aok hp.2.1;have hal:(fW (aN k.anw f).1 (aN k.anw f).2 f).length=(aN k.anw f).1.length:=by unfold fW;rw[avZ]
 exact Ll (ib h) hu (by unfold oU;simp;omega) (afi haf _)
def Zh{k:anv}{f:Frame}(h:ae k=true){g:Frame}(hg:(aJ k f).2=[g])(h2:g.ki=2):∃o,Safe (aJ k f).1 o/\(0<=aP o.held f.fr f.nu\/0<=eC o.marks f.fr f.nu):=by
 have hk:=ib h;rw[lF h]at hg ⊢;unfold mH at hg ⊢;split at hg
 ·rename_i hc;rw[aus hc];simp only[auF]at hc;split at hg
  ·rename_i h1;rw[aus h1];unfold iX at hg ⊢;split at hg
   ·cases hg;exact absurd h2 (by show ¬(3:Int)=2;decide)
   ·rename_i c1;rw[aur c1];split at hg
    ·rename_i c2;rw[aus c2];exact⟨stT k,⟨KM hk,rfl⟩,c2⟩
    ·rename_i c2;rw[aur c2];split at hg
     ·cases hg
     ·rename_i c3;rw[aur c3];unfold AI at hg ⊢;split at hg
      ·rename_i c4;rw[aus c4];split at hg
       ·rename_i c5;rw[aus c5];unfold lX at hg ⊢;split at hg
        ·rename_i c6;rw[aus c6];simp only[auF]at c6;have hi:=ajE h hc.1 hc.2.1 (auv h1);obtain⟨o,ho⟩:=Td hi c6.2;refine⟨o,(Fc hi ho).1, ?_⟩;exact(aru hi.kok c6.1 ho).has
        ·cases hg
       ·cases hg
      ·cases hg
  ·split at hg<;>cases hg
 ·cases hg
def afT{k:anE}{m:Mark}{r:auB}(ht:oB r=some m):cL k jk r=if A2 k.held m then some ⟨k.id,k.ti,k.nx,zf k.held (aP k.held m.mf m.mn).toNat,vR k.marks m,k.inbox⟩ else none:=by
 unfold cL fc;cases h:A2 k.held m<;>simp[AN,AP,Da,AO,AR,yf,Db,AQ,ht,h]
def YV{k:anE}{a b c:Int}(hk:aw k=true)(ha:0<=a/\a<=999)(hb:0<=b/\b<=999)(hc:0<=c/\c<=999):
  bV k (cH jk a b c)=(if A2 k.held ⟨a,b,c⟩ then some ⟨k.id,k.ti,k.nx,zf k.held (aP k.held a b).toNat,vR k.marks ⟨a,b,c⟩,k.inbox⟩ else none).filter aw:=by
 have h3:=ZO (r:=B (Lib.itoa a++32::(Lib.itoa b++32::Lib.itoa c))) (a:=a) (b:=b) (c:=c) (by omega) (by omega) (by omega) (by omega) (by omega) (by omega) (L_B _);rw[aca hk,qW aiK (Qr jk a b c)];rw[show cL k (B [108,101,116]) _=_ from afT h3]
def Qq{n:Nat}{p q:Nat->Bool}(h:∀i,i<n->p i=q i):dp n p=dp n q:=by
 rw[axg,cG,cG];exact⟨λ a i hi=>by rw[← h i hi];exact a i hi,λ a i hi=>by rw[h i hi];exact a i hi⟩
def Mc{l m:List anz}(h:apg l m):dB l=dB m:=by
 unfold dB;rw[h.len];refine Qq λ i _=> ?_;rw[(h.nA i).ok,(h.nA i).fr,(h.nA i).nu,(h.nA (i - 1)).fr,(h.nA (i - 1)).nu]
def QG{id ti nx:Int}{held apO inbox aoW:List anz}{marks:List Mark}(h:apg held apO)(g:apg inbox aoW):aw ⟨id,ti,nx,held,marks,inbox⟩=aw ⟨id,ti,nx,apO,marks,aoW⟩:=by
 unfold aw;simp only;rw[Mc h,Mc g,h.len,g.len];have e1:dp apO.length (lh id ti nx held marks)=dp apO.length (lh id ti nx apO marks):=Qq λ i _=>by
  unfold lh;rw[(h.nA i).fr,(h.nA i).nu,(h.nA i).to',(h.nA i).un]
 have e2:dp aoW.length (k9 id ti nx marks inbox)=dp aoW.length (k9 id ti nx marks aoW):=Qq λ i _=>by
  unfold k9;rw[(g.nA i).fr,(g.nA i).nu,(g.nA i).to',(g.nA i).un]
 rw[e1,e2]
def aj5{k:anE}{a b:anz}(h:apw a b):(Bl k a).filter aw=none->(Bl k b).filter aw=none:=by
 have k1:aw ⟨k.id,k.ti,k.nx,k.held,vR k.marks ⟨b.fr,b.nu,b.un⟩,ka k.inbox a⟩=aw ⟨k.id,k.ti,k.nx,k.held,vR k.marks ⟨b.fr,b.nu,b.un⟩,ka k.inbox b⟩:=QG (.refl _) (.ins h _);have k2:aw ⟨k.id,k.ti,k.nx,ka k.held a,k.marks,k.inbox⟩=aw ⟨k.id,k.ti,k.nx,ka k.held b,k.marks,k.inbox⟩:=QG (.ins h _) (.refl _);unfold Bl;rw[h.ok,h.fr,h.nu,h.to',h.un];generalize (⟨k.id,k.ti,k.nx,k.held,vR k.marks ⟨b.fr,b.nu,b.un⟩,ka k.inbox a⟩:anE)=x1 at *;generalize (⟨k.id,k.ti,k.nx,k.held,vR k.marks ⟨b.fr,b.nu,b.un⟩,ka k.inbox b⟩:anE)=x2 at *;generalize (⟨k.id,k.ti,k.nx,ka k.held a,k.marks,k.inbox⟩:anE)=y1 at *;generalize (⟨k.id,k.ti,k.nx,ka k.held b,k.marks,k.inbox⟩:anE)=y2 at *;generalize (!ay b)=c1;generalize decide (b.un<=k.ti)=c2;generalize decide (0<=aP k.held b.fr b.nu)=c3;generalize decide (0<=aP k.inbox b.fr b.nu)=c4;generalize decide (0<=eC k.marks b.fr b.nu)=c5;generalize decide (12<(k.held.length:Int)+k.marks.length+1)=c6;generalize decide (b.to=k.id)=c7;cases c1<;>cases c2<;>cases c3<;>cases c4<;>cases c5<;>cases c6<;>cases c7<;>simp[Option.filter,k1,k2]
def adP{k:anE}{a b:anz}(hk:aw k=true)(h:apw a b)(ha:ay a=true)(e:bV k (gh a)=none):bV k (gh b)=none:=by
 rw[Dh hk ha]at e;rw[Dh hk (by rw[← h.ok];exact ha),← h.fr];split
 ·rfl
 ·rename_i h1;rw[aur h1]at e;exact aj5 h e
def agC{o:anE}(h:aw o=true){a b:Int}(hm:0<=eC o.marks a b):aP o.held a b<0:=by
 rcases Kk o.held a b with h1|h1
 ·omega
 ·exfalso;obtain⟨h2,_,h3,h4⟩:=jt h1;have:=(bN h).ho _ h2;unfold lh at this;simp only[auF,decide_eq_true_eq]at this;have h5:=this.2.2.2;rw[h3,h4]at h5;omega
def Ts{x y:anv}(h1:x.id=y.id)(h2:x.log=y.log):stT x=stT y:=by
 unfold stT;rw[h1,h2]
def adE{v:auB}(hv:v≠noB)(m:anA):rW 1 [v] m=none:=by
 unfold rW;split
 ·rename_i hc;rw[auF]at hc;rw[show((1:Nat):Int)=1 from rfl,OE hc.1];have:eH [v] [0]=[]:=by
   unfold eH unk;rw[awq,ayp,aur (by simpa[bsA] using hv)]
  rw[this]
 ·rfl
def KK{v:auB}(hv:v≠noB)(b:Bool):∀list:List anA,list.foldl (cW 1) ([v],b)=([v],b)
 | []=>rfl
 | m::list=>by
  rw[avC,uf b (adE hv m)];exact KK hv b list
def aiu{m:anA}(hf:wV m)(r:List anA):lv 1 (m::r) 7 (au0 1 noB)=[m.da]:=by
 have hd:m.da≠noB:=λ e=>by
  have:=hf.2;rw[e]at this;exact absurd this (by decide)
 have h1:rW 1 [noB] m=some [m.da]:=by
  unfold rW;rw[aus (by rw[auF];exact⟨hf.1,aut hf.2⟩),show((1:Nat):Int)=1 from rfl,OE hf.1];have e1:eH [noB] [0]=[0]:=rfl;have e2:jQ [noB] [0] (L m.da)=L m.da:=rfl;rw[e1];simp only[e2,B_L];rfl
 have h2:iW 1 (m::r) [noB]=([m.da],true):=by
  unfold iW;rw[avC,JT false h1];exact KK hd true r
 have h3:iW 1 (m::r) [m.da]=([m.da],false):=KK hd false (m::r);show lv 1 (m::r) 7 [noB]=_;rw[lv,h2,aus rfl,lv,h3,auD]
def ahZ{s:Int}(h:inB s 1 24=true)(h4:s<=4){m:anA}(hf:wV m)(r:List anA):dy s (m::r)=if DT m.da s.toNat then(m.da.extract 0 s.toNat,true) else(noB,false):=by
 have h':=ah.1 h;rw[Ls h,show(s.toNat+3) / 4=1 by omega,aiu hf];have hd:m.da≠noB:=λ e=>by
  have:=hf.2;rw[e]at this;exact absurd this (by decide)
 have:zh [m.da] noB=some m.da:=by
  unfold zh;rw[aur hd];unfold zh;congr 1
 rw[this]
abbrev ao6:auB:=B [97,98,99,100]
def afG{s:Int}(h:inB s 1 24=true)(h4:s<=4){n:Int}(hn:inB n 0 999=true){r:List anA}(ht:(dy s (⟨n,ao6⟩::r)).2=true):(dy s (⟨n,ao6⟩::r)).1=ao6:=by
 have h':=ah.1 h;have apc:wV ⟨n,ao6⟩:=⟨hn,show(ao6.size:Int)=4 by decide⟩;rw[ahZ h h4 apc r]at ht ⊢;have hs:s=1\/s=2\/s=3\/s=4:=by omega
 rcases hs with rfl|rfl|rfl|rfl
 ·have ht':(if DT ao6 (auK 1) then(ao6.extract 0 (auK 1),true) else(noB,false)).2=true:=ht;exact absurd ht' (by decide)
 ·have ht':(if DT ao6 (auK 2) then(ao6.extract 0 (auK 2),true) else(noB,false)).2=true:=ht;exact absurd ht' (by decide)
 ·have ht':(if DT ao6 (auK 3) then(ao6.extract 0 (auK 3),true) else(noB,false)).2=true:=ht;exact absurd ht' (by decide)
 ·rfl
def abS{x:anv}{f:Frame}(h:FK (hA (aN x.anw f).1 (aN x.anw f).2) f=false\/(dy f.sz (df (hA (aN x.anw f).1 (aN x.anw f).2).got f.mix f.da)).2=false):(AI x f).1.log=x.log/\(AI x f).1.fo=x.fo:=by
 unfold AI;rcases h with h|h
 ·rw[h,auD];exact⟨rfl,rfl⟩
 ·split
  ·rw[h,auD];exact⟨rfl,rfl⟩
  ·exact⟨rfl,rfl⟩
def ak6{l:List anD}(nd:(l.map aoO).Nodup){i:Nat}(hi:i<l.length){a b:Int}(h1:(hA l i).fr=a)(h2:(hA l i).nu=b):tI l a b=(i:Int):=by
 rcases ny l a b with h|⟨j,h3,h4,h5,h6⟩
 ·exfalso;rcases bZ l.length (λ i=>decide ((hA l i).fr=a)&&decide ((hA l i).nu=b)) with⟨_,g⟩|⟨c,g,_⟩
  ·have:=g i hi;rw[h1,h2]at this;simp at this
  ·have:tI l a b=(c:Int):=g;omega
 ·rw[h3];have key:∀(p q:Nat) (hp:p<l.length) (hq:q<l.length),aoO l[p]=aoO l[q]->p=q:=by
   intro p q hp hq e;rcases awl p q with h|h|h
   ·exact absurd e (iH.1 nd q p hq hp h)
   ·exact h
   ·exact absurd e.symm (iH.1 nd p q hp hq h)
  rw[qN hi]at h1 h2;rw[qN h4]at h5 h6;rw[key j i h4 hi (by unfold aoO;rw[h1,h2,h5,h6])]
def agW{l:List anD}{a b:Int}(h:∀x∈l,aoO x≠(a,b)):tI l a b<0:=by
 rcases ny l a b with h1|⟨j,h3,h4,h5,h6⟩
 ·exact h1
 ·refine absurd ?_ (h _ (avm h4));rw[qN h4]at h5 h6;unfold aoO;rw[h5,h6]
def aeL{l:List anD}(nd:(l.map aoO).Nodup){i:Nat}(hi:i<l.length){f:Frame}(h1:(hA l i).fr=f.fr)(h2:(hA l i).nu=f.nu):aN l f=(l,i):=by
 unfold aN;rw[ak6 nd hi h1 h2,aur (by omega)];rfl
def aky(hv:List anD)(f:Frame):(hA (aN hv f).1 (aN hv f).2).fr=f.fr/\(hA (aN hv f).1 (aN hv f).2).nu=f.nu:=by
 rcases BL hv f with⟨i,e,_,h1,h2,_⟩|⟨_,l,_,e⟩
 ·rw[e];exact⟨h1,h2⟩
 ·rw[e,HP];exact⟨rfl,rfl⟩
def aj4{l:List anD}{i:Nat}(hi:i<l.length)(f:Frame):hA (fW l i f) i=⟨(hA l i).fr,(hA l i).nu,(hA l i).to,(hA l i).un,(hA l i).sz,df (hA l i).got f.mix f.da⟩:=by
 unfold fW;exact ad1 hi _
def ag6{mix:Int}{da:auB}{l:List anA}(h:∀m∈l,m.nu≠mix):(l++[(⟨mix,da⟩:anA)]).filter (er mix)=l:=by
 have e:er mix ⟨mix,da⟩=false:=by unfold er;simp
 rw[Pn,ayu.2 (λ m hm=>by unfold er;simp[h m hm]),e];simp
def ad2(got:List anA)(mix:Int)(da:auB)(_:got.length<=14):df (df got mix da) mix da=df got mix da:=by
 unfold df;have hf:∀m∈got.filter (er mix),m.nu≠mix:=λ m hm=>by
  have:=(awd.1 hm).2;unfold er at this;simpa using this
 have hlen:=avY (er mix) got;have apx:∃A:List anA,A=(if 14<=(got.filter (er mix)).length then(got.filter (er mix)).drop 1 else got.filter (er mix))/\(∀m∈A,m.nu≠mix)/\A.length<14:=by
  refine⟨_,rfl, ?_, ?_⟩
  ·split
   ·exact λ m hm=>hf m (awA hm)
   ·exact hf
  ·split
   ·rw[avy];omega
   ·omega
 obtain⟨A,e,h1,h2⟩:=apx;rw[← e,ag6 h1,aur (by omega)]
def ad5{f:Frame}(h:km f=true){tx:auB}(ht:Tk tx=true):ay ⟨f.fr,f.nu,f.to,f.un,tx⟩=true:=by
 have hr:=th h;unfold ay;simp only[hr.2.2.1,hr.2.2.2.1,hr.2.2.2.2.1,hr.2.2.2.2.2.1,ht,avT]
def Ti{x:anv}{n:anz}{f:Frame}(h:ay n=true->bV (stT x) (gh n)=none):(lX x n f).1=x/\(lX x n f).2=[]:=by
 unfold lX;split
 ·rename_i hc;simp only[auF]at hc;have h1:=hc.2;unfold wrR at h1;rw[h hc.1]at h1;cases h1
 ·exact⟨rfl,rfl⟩
def Vf{x:anv}(ok:ae x=true){f:Frame}(hu:x.up=true)(hf:km f=true)(hd:f.dst=x.id)(h1:f.ki=1)(c1:¬f.un<=(stT x).ti)(c2:¬(0<=aP (stT x).held f.fr f.nu\/0<=eC (stT x).marks f.fr f.nu))(c3:¬f.fr=x.id):aJ x f=AI x f:=by
 rw[lF ok];unfold mH;rw[aus (by rw[hu,hf,aut hd];rfl),aus (aut h1)];unfold iX;rw[aur c1,aur c2,aur c3]
def ad0{k:anv}{f:Frame}(ok:ae k=true)(ho:aiF k.anw):(aJ (aJ k f).1 f).1.log=(aJ k f).1.log/\(aJ (aJ k f).1 f).1.fo=(aJ k f).1.fo:=by
 have okx:=vW ok f;have hid:=Vg ok f;have same:(aJ k f).1=k->(aJ (aJ k f).1 f).1.log=(aJ k f).1.log/\(aJ (aJ k f).1 f).1.fo=(aJ k f).1.fo:=λ e=>by
  rw[e,e];exact⟨rfl,rfl⟩
 have arp:(aJ k f).2=[Oa 2 f]->(aJ (aJ k f).1 f).1.log=(aJ k f).1.log/\(aJ (aJ k f).1 f).1.fo=(aJ k f).1.fo:=λ e=>by
  obtain⟨o,hs,hh⟩:=Zh ok e rfl;generalize (aJ k f).1=x at *;rw[lF okx];unfold mH;split
  ·split
   ·unfold iX;rw[hs.is.stT];split
    ·exact⟨rfl,rfl⟩
    ·exact⟨rfl,hs.fo.symm⟩
   ·rw[hs.is.stT];split
    ·rename_i h1 h2;simp only[auF,avw,decide_eq_false_iff_not,decide_eq_true_eq]at h1 h2;exfalso;have hki:=Zg (k:=k) (f:=f) (g:=Oa 2 f) (by rw[e];exact avX _);have:(aJ k f).2=[]:=by
      rw[lF ok];unfold mH;split
      ·rw[aur (by rw[h2.1];decide)];split<;>rfl
      ·rfl
     rw[this]at e;cases e
    ·exact⟨rfl,rfl⟩
  ·exact⟨rfl,rfl⟩
 have hM:aJ k f=mH k f:=lF ok f;unfold mH at hM;split at hM
 ·rename_i hc;simp only[auF,decide_eq_true_eq]at hc;obtain⟨hu,hf,hd⟩:=hc;split at hM
  ·rename_i h1;have h1:=auv h1;unfold iX at hM;split at hM
   ·exact same (by rw[hM])
   ·rename_i c1;split at hM
    ·exact arp (by rw[hM])
    ·rename_i c2;split at hM
     ·exact same (by rw[hM])
     ·rename_i c3;have hp:=uE hf h1;have kf:=ck ok;have hvf:=aaB.1 kf.hv;have aok:=C5 (hv:=k.anw) (f:=f);have hpf:=aaa hvf hf h1;have haf:=aa2 hpf aok hp.2.1;have hky:=aky k.anw f;unfold AI at hM;split at hM
      ·rename_i c4;split at hM
       ·rename_i c5;by_cases hw:ay ⟨f.fr,f.nu,f.to,f.un,(dy f.sz (df (hA (aN k.anw f).1 (aN k.anw f).2).got f.mix f.da)).1⟩=true/\bV (stT k) (gh ⟨f.fr,f.nu,f.to,f.un,(dy f.sz (df (hA (aN k.anw f).1 (aN k.anw f).2).got f.mix f.da)).1⟩)≠none
        ·refine arp ?_;rw[hM];unfold lX;rw[aus];rw[hw.1,auN];unfold wrR;rw[show stT (oX k (oU (fW (aN k.anw f).1 (aN k.anw f).2 f) (aN k.anw f).2))=stT k from rfl];cases hc:bV (stT k) (gh ⟨f.fr,f.nu,f.to,f.un,(dy f.sz (df (hA (aN k.anw f).1 (aN k.anw f).2).got f.mix f.da)).1⟩) with
         | none=>exact absurd hc hw.2
         | some o=>rfl
        ·have arb:ay ⟨f.fr,f.nu,f.to,f.un,(dy f.sz (df (hA (aN k.anw f).1 (aN k.anw f).2).got f.mix f.da)).1⟩=true->bV (stT k) (gh ⟨f.fr,f.nu,f.to,f.un,(dy f.sz (df (hA (aN k.anw f).1 (aN k.anw f).2).got f.mix f.da)).1⟩)=none:=λ e=>Classical.byContradiction λ e2=>hw ⟨e,e2⟩;have hx:(aJ k f).1=oX k (oU (fW (aN k.anw f).1 (aN k.anw f).2 f) (aN k.anw f).2):=by
          rw[hM];exact(Ti (x:=oX k (oU (fW (aN k.anw f).1 (aN k.anw f).2 f) (aN k.anw f).2)) (n:=⟨f.fr,f.nu,f.to,f.un,(dy f.sz (df (hA (aN k.anw f).1 (aN k.anw f).2).got f.mix f.da)).1⟩) arb).1
         rw[hx]at okx ⊢;have hst:stT (oX k (oU (fW (aN k.anw f).1 (aN k.anw f).2 f) (aN k.anw f).2))=stT k:=rfl;generalize hX:oX k (oU (fW (aN k.anw f).1 (aN k.anw f).2 f) (aN k.anw f).2)=x at *;have hxh:x.anw=oU (fW (aN k.anw f).1 (aN k.anw f).2 f) (aN k.anw f).2:=by rw[← hX]
         have hxu:x.up=true:=by rw[← hX];exact hu
         have hxi:x.id=k.id:=by rw[← hX]
         rw[Vf okx hxu hf (by rw[hxi];exact hd) h1 (by rw[hst];exact c1) (by rw[hst];exact c2) (by rw[hxi];exact c3)];have hal:(aN k.anw f).2<(fW (aN k.anw f).1 (aN k.anw f).2 f).length:=by unfold fW;rw[avZ];exact aok
         have hno:∀h∈x.anw,aoO h≠(f.fr,f.nu):=by
          rw[hxh];intro h hh e;have hat:=aj4 aok f;rw[qN hal]at hat;generalize (fW (aN k.anw f).1 (aN k.anw f).2 f)=l at *;generalize (aN k.anw f).2=i at *;have hki:aoO l[i]=(f.fr,f.nu):=by rw[hat];unfold Go.VS.aoO;simp only;rw[hky.1,hky.2]
          unfold oU at hh;have key:∀(j:Nat) (hj:j<l.length),j≠i->aoO l[j]≠(f.fr,f.nu):=by
           intro j hj hne ej;rcases awl j i with g|g|g
           ·exact iH.1 haf.nd i j hal hj g (by rw[ej,hki])
           ·exact hne g
           ·exact iH.1 haf.nd j i hj hal g (by rw[ej,hki])
          rcases auX.1 hh with g|g
          ·obtain⟨j,hj,ej⟩:=axq.1 g;rw[avv]at hj;rw[List.getElem_take]at ej;exact key j (by omega) (by omega) (by rw[ej];exact e)
          ·obtain⟨j,hj,ej⟩:=axq.1 g;rw[avy]at hj;rw[List.getElem_drop]at ej;exact key (i+1+j) (by omega) (by omega) (by rw[ej];exact e)
         have aqe:=agW hno;rcases BL x.anw f with⟨i,_,hi',_,_,hI⟩|⟨_,l2,_,e2⟩
         ·omega
         ·rcases tf (dy f.sz [⟨f.mix,f.da⟩]).2 with ct|ct
          ·have h4:f.sz<=4:=by
            refine axD.1 λ h=> ?_;rw[afF (by omega)]at ct;cases ct
           have hT:((dy f.sz (df (hA (aN k.anw f).1 (aN k.anw f).2).got f.mix f.da)).1=(dy f.sz [⟨f.mix,f.da⟩]).1)\/((dy f.sz (df (hA (aN k.anw f).1 (aN k.anw f).2).got f.mix f.da)).1=ao6):=by
            rcases BL k.anw f with⟨i,e,hi,_,_,_⟩|⟨_,l,_,e⟩
            ·rw[e]at c4 c5 ⊢;simp only at c4 c5 ⊢;have hs:(hA k.anw i).sz=f.sz:=by
              unfold FK at c4;simp only[auF,decide_eq_true_eq]at c4;exact c4.2.2
             rcases ho (hA k.anw i) (by rw[qN hi];exact avm hi) with g|⟨n,g⟩
             ·omega
             ·rw[g]at c5 ⊢;have hn:inB n 0 999=true:=by
               have:=(aco (hvf.el (hA k.anw i) (by rw[qN hi];exact avm hi))).1.el ⟨n,ao6⟩ (by rw[g];exact avX _);exact this.1
              by_cases hnm:n=f.mix
              ·left;have:df [⟨n,B [97,98,99,100]⟩] f.mix f.da=[⟨f.mix,f.da⟩]:=by
                unfold df er;simp[hnm]
               rw[this]
              ·right;have:df [⟨n,B [97,98,99,100]⟩] f.mix f.da=[⟨n,ao6⟩,⟨f.mix,f.da⟩]:=by
                unfold df er;simp[hnm]
               rw[this]at c5 ⊢;exact afG hp.1 h4 hn c5
            ·left;rw[e];simp only[HP,M1]
           unfold AI;rw[e2];simp only[HP,TF,M1,ct,auy];have asd:ay ⟨f.fr,f.nu,f.to,f.un,(dy f.sz [⟨f.mix,f.da⟩]).1⟩=true->bV (stT k) (gh ⟨f.fr,f.nu,f.to,f.un,(dy f.sz [⟨f.mix,f.da⟩]).1⟩)=none:=by
            intro hn2;rcases hT with e|e
            ·rw[e]at arb;exact arb hn2
            ·rw[e]at arb;have hn1:=ad5 hf (tx:=ao6) (by rfl);exact adP (ib ok).kok (a:=⟨f.fr,f.nu,f.to,f.un,ao6⟩) ⟨rfl,rfl,rfl,rfl,by rw[hn1,hn2]⟩ hn1 (arb hn1)
           have ar3:∀hv,stT (oX x hv)=stT k:=λ hv=>by
            rw[← hst];exact Ts rfl rfl
           rw[(Ti (by rw[ar3];exact asd)).1];exact⟨rfl,rfl⟩
          ·refine abS (.inr ?_);rw[e2];simp only[HP,M1];exact ct
       ·rename_i c5;have c5:(dy f.sz (df (hA (aN k.anw f).1 (aN k.anw f).2).got f.mix f.da)).2=false:=by simpa using c5
        have hx:(aJ k f).1=oX k (fW (aN k.anw f).1 (aN k.anw f).2 f):=by rw[hM]
        rw[hx]at okx ⊢;have h14:=Ox (f:=f) (λ h hh=>hvf.el h hh);have hat:=aj4 aok f;have hal:(aN k.anw f).2<(fW (aN k.anw f).1 (aN k.anw f).2 f).length:=by unfold fW;rw[avZ];exact aok
        have asa:=aeL haf.nd hal (f:=f) (by rw[hat];exact hky.1) (by rw[hat];exact hky.2);rw[Vf okx hu hf hd h1 c1 c2 c3];refine abS (.inr ?_);rw[show(oX k (fW (aN k.anw f).1 (aN k.anw f).2 f)).anw=fW (aN k.anw f).1 (aN k.anw f).2 f from rfl,asa];simp only;rw[hat];simp only;rw[ad2 _ _ _ h14];exact c5
      ·rename_i c4;refine same ?_;rw[hM];rcases BL k.anw f with⟨i,e,_⟩|⟨_,l,_,e⟩
       ·rw[e]
       ·rw[e]at c4;simp only[HP,TF]at c4;exact absurd trivial c4
  ·rename_i h1;split at hM
   ·rename_i h2;simp only[auF,avw,decide_eq_false_iff_not,decide_eq_true_eq]at h2;have hx:(aJ k f).1=(wrR k (cH jk f.fr f.nu f.un) false).1:=by rw[hM]
    rcases tf (wrR k (cH jk f.fr f.nu f.un) false).2 with e|e
    ·obtain⟨o,hi,h3,_⟩:=JO (ib ok) (cH jk f.fr f.nu f.un) false;have hs:=h3 e;rw[← hx]at hi;have apW:aP o.held f.fr f.nu<0:=by
      refine agC hi.kok ?_;obtain⟨r1,r2,r3⟩:=HR hf;rw[YV (ib ok).kok r1 r2 r3]at hs;have hs:=(awe.1 hs).1;split at hs
      ·cases hs;exact Ur (x:=⟨f.fr,f.nu,f.un⟩) (Ml _ (.inl rfl)) rfl rfl
      ·cases hs
     generalize (aJ k f).1=x at *;rw[lF okx];unfold mH;split
     ·rw[hi.stT,aur]
      ·exact⟨rfl,rfl⟩
      ·rw[aut apW];simp
     ·exact⟨rfl,rfl⟩
    ·exact same (by rw[hx];exact Hv e)
   ·exact same (by rw[hM])
 ·exact same (by rw[hM])
variable {E:List Event}
def agb{N:Nat}{s:_}(h:SOk E N s)(hN:N<=900000):Tot (gY (s,())) λ a=>SOk E (N+2) a.2.1/\a.2.1.2=s.2/\(a.1.2.2.1=true->0<=a.1.1/\a.1.1<4/\isN (cO a.1.1 a.1.2.1.2.2.1)=true):=by
 unfold gY;refine Tot.bind (au h.r (by omega)) λ r1 h1=>Tot.sum (P:=λ y=>SOk E (N+2) y.1/\y.1.2=s.2/\(0<=y.2.1/\y.2.1<4/\isN (cO y.2.1 y.2.2.1.2.2.1)=true)) (Q:=λ y=>SOk E (N+2) y.1/\y.1.2=s.2) ?_ (λ y hy=>Tot.ret ⟨hy.1,hy.2.1,λ _=>hy.2.2⟩) (λ y hy=>Tot.ret ⟨hy.1,hy.2,λ h=>by cases h⟩);refine Tot.loop (λ i x=>SOk E (N+1) x.1/\x.1.2=s.2/\0<=x.2.2.1/\x.2.2.1<4/\x.2.2.2.1=(i:Int)) _ 4 (λ i x hi hx=> ?_) ⟨h.rd h1.1 (by omega),rfl,h1.2.1,h1.2.2 (show(1:Int)<=4 by decide),rfl⟩;obtain⟨hs,hw,a0,a1,hx⟩:=hx;have hk:=hs.w.has a0 a1;unfold kK;refine Tot.ite (λ hc=> ?_) (λ hc=>Tot.ret ⟨hs.up (by omega),hw⟩);have hc:=auv hc;refine Tot.pos hk.2.2 (Tot.bind (ae5 hk.1) λ r6 h6=> ?_);subst h6;refine Tot.ite (λ hl=> ?_) (λ hl=> ?_)
 ·have hl:(0:Int)<((stT (kA x.1.2.2.1 x.2.2.1.toNat)).held.length:Int):=auv hl;refine Tot.bind (au hs.r (by omega)) λ r7 h7=> ?_;have hlt:=h7.2.2 hl;refine Tot.pos (et h7.2.1 hlt) (Tot.ret ⟨hs.rd h7.1 (by omega),hw,a0,a1, ?_⟩);have hkk:=ib hk.1;have hid:=hkk.id;have h9:r7.1.1.toNat<(stT (kA x.1.2.2.1 x.2.2.1.toNat)).held.length:=by
   have:r7.1.1<((stT (kA x.1.2.2.1 x.2.2.1.toNat)).held.length:Int):=hlt;have:=h7.2.1;omega
  have:=Pe hkk.kok (n:=nA (stT (kA x.1.2.2.1 x.2.2.1.toNat)).held r7.1.1.toNat) (by rw[nA,auQ,auO h9];exact avm h9);rw[hid,hk.2.1]at this;exact this
 ·have hm:=am6 a0 a1;refine Tot.ret ⟨?_,hs,hw,hm.1,hm.2, ?_⟩
  ·omega
  ·show w64 (x.2.2.2.1+1)=_;rw[hx,ai (by omega) (by omega)];rfl
end Go.VS
namespace Go.VS
open Go
def alb{N:Nat}{r:List Int×Int×auC}(h:anU N r)(hN:N<=700000):Tot (pt (r,())) λ a=>anU (N+80) a.2.1:=by
 unfold pt;refine Tot.bind (aiH h (by omega)) λ r1 h1=>Tot.bind (au h1.1 (by omega)) λ r2 h2=>Tot.bind (au h2.1 (by omega)) λ r3 h3=>Tot.bind (Tot.eq lq) λ r4 _=> ?_;refine Tot.join (A:=λ j=>anU (N+64) j.1) ?_ (λ j hj=> ?_)
 ·refine Tot.ite (λ _=> ?_) (λ _=>Tot.ret (show anU (N+64) r3.2.1 from h3.1.up (by omega)));exact Tot.bind (au h3.1 (by omega)) λ r5 h5=>Tot.bind (Tot.eq (Fy r1.1.1.2.2.2.2.1 r5.1.1)) λ r6 _=>Tot.ret (show anU (N+64) r5.2.1 from h5.1.up (by omega))
 ·have hj:anU (N+64) j.1:=hj;refine Tot.bind (au hj (by omega)) λ r5 h5=> ?_;refine Tot.ite (λ _=> ?_) (λ _=> ?_)
  ·exact Tot.bind (au h5.1 (by omega)) λ r6 h6=>Tot.pos (et h6.2.1 (h6.2.2 (show(1:Int)<=2 by decide))) (Tot.ret (h6.1.up (by omega)))
  refine Tot.ite (λ _=> ?_) (λ _=> ?_)
  ·exact Tot.bind (au h5.1 (by omega)) λ r6 h6=>Tot.pos (et h6.2.1 (h6.2.2 (show(1:Int)<=3 by decide))) (Tot.ret (h6.1.up (by omega)))
  refine Tot.ite (λ _=> ?_) (λ _=> ?_)
  ·exact Tot.bind (au h5.1 (by omega)) λ r6 h6=>Tot.pos (et h6.2.1 (h6.2.2 (show(1:Int)<=3 by decide))) (Tot.ret (h6.1.up (by omega)))
  refine Tot.ite (λ _=> ?_) (λ _=> ?_)
  ·exact Tot.bind (aae h5.1 (by omega) (by decide)) λ r6 h6=>Tot.ret (h6.1.up (by omega))
  refine Tot.ite (λ _=> ?_) (λ _=>Tot.ret (h5.1.up (by omega)));exact Tot.bind (au h5.1 (by omega)) λ r6 h6=>Tot.ret (h6.1.up (by omega))
variable {E:List Event}
def Dw{k:anv}(f:Frame):cR (aJ k f).1:=by
 rcases tf (ae k) with h|h
 ·exact eW (vW h f)
 ·unfold aJ;rw[aur (by rw[h];exact avb)];exact⟨by decide,by decide,λ m hm=>by cases hm⟩
def agU{k:anv}{f:Frame}(hb:ao0 k)(g:WZ (λ _=>True) f):ao0 (aJ k f).1:=by
 rcases tf (ae k) with h|h
 ·exact acm h hb λ _=>g
 ·unfold aJ;rw[aur (by rw[h];exact avb)];exact λ m hm=>by cases hm
def amG{y:_}{f:Int×Int×Int×Int×Int×Int×Int×Int×Int×auB×auC}(hy:aqi y)(hf:∃g,f=tF g/\WZ (λ _=>True) g):Tot (al (y,f,())) λ a=>aqi a.1.1:=by
 obtain⟨k,rfl,hk,hb⟩:=hy;obtain⟨g,rfl,hg⟩:=hf;exact⟨_,cQ hk g,_,rfl,Dw _,agU hb hg⟩
def aiR(k:anv)(fr nu mix:Int):WZ (λ _=>True) (if ae k then uw k fr nu mix else(zF,false)).1:=by
 split
 ·rename_i h;rcases tf (uw k fr nu mix).2 with c|c
  ·exact aeR h (λ _ _=>trivial) c
  ·unfold uw at c ⊢;split
   ·rename_i h1;rw[aus h1]at c;cases c
   ·intro e;exact absurd e (show ¬(0:Int)=1 by decide)
 ·intro e;exact absurd e (show ¬(0:Int)=1 by decide)
def alU{y:_}{fr nu mix:Int}(hy:aqi y):Tot (dk (y,fr,nu,mix,())) λ a=>∃g,a.1.1=tF g/\WZ (λ _=>True) g:=by
 obtain⟨k,rfl,hk,_⟩:=hy;exact⟨_,uq hk fr nu mix,_,rfl,aiR k fr nu mix⟩
def ahV{b:List Int}(h:BOk b):Tot (ax (b,())) λ a=>a.1.2.1=true->0<=a.1.1.2.2.1/\a.1.1.2.2.1<4:=by
 refine⟨_,qc h,λ hu=> ?_⟩;have:=jv (th (CN hu)).2.1;show 0<=(dj b).1.dst/\(dj b).1.dst<4;omega
def aec{l:List Int}(hb:BOk l):Tot (bk (l,())) λ a=>KOk a.1.1:=by
 unfold bk;refine Tot.bind (aiB hb) λ r1 h1=>Tot.bind (ab8 h1 (by decide)) λ r2 h2=> ?_;obtain⟨h2,hy,hk⟩:=h2;refine Tot.sum (P:=λ y=>KOk y.1) (Q:=λ y=>anU 320100 y.2.2.1/\y.2.2.2.1=r2.1.1/\y.2.2.2.2.1=r2.1.2.1) ?_ (λ y hy=>Tot.ret hy) (λ y hq=> ?_)
 ·refine Tot.loop (λ i x=>anU (320000+i) x.2.2.1/\x.2.2.2.1=r2.1.1/\x.2.2.2.2.1=r2.1.2.1/\x.2.2.2.2.2.1=(i:Int)) _ 30 (λ i x hi hx=> ?_) ⟨h2.up (by omega),rfl,rfl,rfl⟩;obtain⟨x1,x2,x3,x4⟩:=hx;unfold kY;refine Tot.ite (λ hc=> ?_) (λ hc=>Tot.ret ⟨x1.up (by omega),x2,x3⟩);have hc:=auv hc;have hyx:YOk x.2.2.2.1:=by rw[x2];exact hy
  have x0:0<=x.2.2.2.2.2.1:=by omega
  have hpc:=hyx.pc x0 hc;refine Tot.pos (et x0 hc) (Tot.pos (aH (by omega)) (Tot.bind (ahV (BOk.str _)) λ r3 h3=> ?_));refine Tot.join (A:=λ j=>anU (320000+(i+1)) j.2.2.1/\j.2.2.2.1=r2.1.1/\j.2.2.2.2.1=r2.1.2.1/\j.2.2.2.2.2.1=(i:Int)/\(j.2.2.2.2.2.2.2.1=true->0<=j.2.2.2.2.2.2.1.2.2.1/\j.2.2.2.2.2.2.1.2.2.1<4)) ?_ (λ j hj=> ?_)
  ·refine Tot.ite (λ hu=> ?_) (λ hu=>Tot.ret ⟨x1.up (by omega),x2,x3,x4,λ h=>by cases h⟩);exact Tot.bind (au x1 (by omega)) λ r4 h4=>Tot.ret ⟨h4.1,x2,x3,x4,λ _=>h3 hu⟩
  ·obtain⟨j1,j2,j3,j4,j5⟩:=hj;refine Tot.ite (λ hu=> ?_) (λ hu=>Tot.ret ⟨by have:=hpc.2;omega,j1,j2,j3,qT j4 (by omega)⟩);have hyj:YOk j.2.2.2.1:=by rw[j2];exact hy
   have:=hyj.kp (j5 hu).1 (j5 hu).2;exact Tot.pos this.1 (Tot.ret this.2.ok)
 ·obtain⟨q1,q2,q3⟩:=hq;have hyq:YOk y.2.2.2.1:=by rw[q2];exact hy
  have hkq:KOk y.2.2.2.2.1:=by rw[q3];exact hk
  have hs:∃E,SOk E 320100 (y.2.2.1,y.2.2.2.1.1,y.2.2.2.1.2.1,y.2.2.2.1.2.2.1,y.2.2.2.1.2.2.2.1,y.2.2.2.1.2.2.2.2.1,y.2.2.2.1.2.2.2.2.2.1,([]:List Event),()):=by
   obtain⟨w,ev,e,hw⟩:=hyq;rw[e];exact⟨ev,q1,w,[],rfl,by rw[avj];exact hw,avM _⟩
  obtain⟨E,hs⟩:=hs;refine Tot.bind (agb hs (by omega)) λ r3 h3=> ?_;obtain⟨h3,_,h3'⟩:=h3;refine Tot.join (A:=λ j=>anU 320200 j.2.2.1/\KOk j.2.2.2.1) ?_ (λ j hj=> ?_)
  ·refine Tot.join (A:=λ j=>anU 320110 j.2.2.1/\YOk j.2.2.2.1/\KOk j.2.2.2.2.1/\(j.2.2.2.2.2.2.2.1=true->0<=j.2.2.2.2.2.1/\j.2.2.2.2.2.1<4/\isN (cO j.2.2.2.2.2.1 j.2.2.2.2.2.2.1.2.2.1)=true)) ?_ (λ j hj=> ?_)
   ·refine Tot.ite (λ hu=> ?_) (λ hu=>Tot.ret ⟨h3.r.up (by omega),hyq,hkq,λ h=>by cases h⟩);exact Tot.bind (au h3.r (by omega)) λ r4 h4=>Tot.ret ⟨h4.1.up (by omega),hyq,hkq,λ _=>h3' hu⟩
   ·obtain⟨j1,j2,j3,j4⟩:=hj;refine Tot.ite (λ hu=> ?_) (λ hu=>Tot.ret ⟨j1.up (by omega),j3⟩);obtain⟨a0,a1,a2⟩:=j4 hu;have ha2:=jv a2;have k1:=j2.kp a0 a1;have k2:=j2.kp ha2.1 (by omega);refine Tot.bind (Tot.eq lq) λ r4 h4=> ?_;subst h4;refine Tot.bind (au j1 (by omega)) λ r5 h5=>Tot.ite (λ _=> ?_) (λ _=> ?_)
    ·exact Tot.pos k1.1 (Tot.bind (au h5.1 (by omega)) λ r6 h6=>Tot.bind (au h6.1 (by omega)) λ r7 h7=>Tot.ret k1.2.ok)
    ·refine Tot.pos k2.1 (Tot.bind (au h5.1 (by omega)) λ r6 h6=> ?_);have v0:=h6.2.1;have v1:r6.1.1<8:=h6.2.2 (show(1:Int)<=8 by decide);refine Tot.sum (P:=λ _=>False) (Q:=λ y=>anU 320150 y.2.2.1/\YOk y.2.2.2.1/\KOk y.2.2.2.2.1/\y.2.2.2.2.2.1=j.2.2.2.2.2.1/\aqi y.2.2.2.2.2.2.2.1) ?_ (λ _ h=>h.elim) (λ y hy=> ?_)
     ·refine Tot.loop (λ i x=>anU (320120+i) x.2.2.1/\YOk x.2.2.2.1/\KOk x.2.2.2.2.1/\x.2.2.2.2.2.1=j.2.2.2.2.2.1/\aqi x.2.2.2.2.2.2.2.1/\x.2.2.2.2.2.2.2.2.1=r6.1.1 - (i:Int)) _ r6.1.1.toNat (λ i x hi hx=> ?_) ⟨h6.1.up (by omega),j2,j3,rfl,k2.2,by show r6.1.1=r6.1.1 - 0;omega⟩;obtain⟨x1,x2,x3,x4,x5,x6⟩:=hx;unfold kX;refine Tot.ite (λ hc=> ?_) (λ hc=>Tot.ret ⟨x1.up (by omega),x2,x3,x4,x5⟩);have hc:=auv hc;have kx:=x2.kp (i:=x.2.2.2.2.2.1) (by omega) (by omega);refine Tot.pos kx.1 (Tot.bind (au x1 (by omega)) λ r7 h7=>Tot.bind (alU kx.2) λ r8 h8=>Tot.bind (amG x5 h8) λ r9 h9=>Tot.ret ⟨by omega,h7.1,x2,x3,x4,h9, ?_⟩);show w64 (x.2.2.2.2.2.2.2.2.1 - 1)=r6.1.1 - ((i+1:Nat):Int);rw[ai (by omega) (by omega)];omega
     ·obtain⟨y1,y2,y3,y4,y5⟩:=hy;have ky:=y2.kp (i:=y.2.2.2.2.2.1) (by omega) (by omega);refine Tot.pos ky.1 (Tot.bind (au y1 (by omega)) λ r7 h7=>Tot.bind (alU ky.2) λ r8 _=>Tot.ite (λ _=>Tot.ret y5.ok) (λ _=>Tot.ret ⟨h7.1.up (by omega),y3⟩))
  ·exact Tot.bind (alb hj.1 (by omega)) λ r5 h5=>Tot.ret hj.2
end Go.VS
namespace Go.VS
open Go
def ab6{l:List anD}{i:Nat}(hi:i<l.length)(hl:(hA l i).got.length<=1048576):oN (l,l,(i:Int),0,())=some (.inr (l,l,(i:Int),())):=
 cy (b:=jV) (λ k=>(l,l,(i:Int),(k:Int),())) (hA l i).got.length (λ k hk=>by
  unfold jV;simp only[ak hi,L4,ak hk,auy,auz,avT,auG,auD,aA hk (by omega:(hA l i).got.length<=9223372036854775807)];rw[aus (by simpa using hk)]) (by
  unfold jV;simp only[ak hi,L4,auy];rw[aur (by simp)])
def Xq{l:List anD}(hl:l.length<=1048576)(hs:∀h∈l,J8 h):fT (l,l,())=some ((true,()),()):=by
 have h0:oO (l,l,0,())=some (.inr ()):=
  cy (b:=jW) (λ k=>(l,l,(k:Int),())) l.length (λ k hk=>by
   have hg:(hA l k).got.length<=1048576:=by rw[qN hk];exact(hs _ (avm hk)).1
   unfold jW;simp only[ak hk,L4,bD hk,auy,auz,auG,auD,ab6 hk hg,c8,aA hk (by omega:l.length<=9223372036854775807)]) (by
   unfold jW;rw[aur (by simp)])
 unfold fT;simp only[auz,auG,auD,h0,c8]
def ca{k:anv}(sm:cR k):aq (tKp k,tKp k,())=some ((true,()),()):=by
 unfold aq;simp only[auz,auy,Xq sm.2.1 sm.2.2];rfl
def eZ{l:List Frame}(hl:l.length<=1048576):aT (l,l,())=some ((true,()),()):=by
 have h0:oP (l,l,0,())=some (.inr ()):=
  cy (b:=jX) (λ k=>(l,l,(k:Int),())) l.length (λ k hk=>by
   unfold jX;simp only[ak hk,bD hk,auy,aha,auz,avT,auG,auD,aA hk (by omega:l.length<=9223372036854775807)]) (by
   unfold jX;rw[aur (by simp)])
 unfold aT;simp only[auz,auG,auD,h0,c8]
def Cj(k:anv)(f:Frame):(aJ k f).2.length<=1048576:=by
 have:=(uD k f).1;omega
def Vy{l:List Int}(hb:BOk l):∃k f,bk (l,())=some ((tKp k,tF f,()),())/\cR k/\aiF k.anw:=by
 obtain⟨⟨⟨y,⟨a,b,c,d,e,f,g,h,i,j,_⟩,_⟩,_⟩,e1,k,e2,sm⟩:=aec hb;simp only at e2;subst e2;exact⟨k,⟨a,b,c,d,e,f,g,h,i,j⟩,e1,sm⟩
def an4.aru{k:anv}{f:Frame}{a b:anE}{n:anz}(h:arK a b n):an4 k f a b:=by
 rcases h.at_ with⟨_,h1,_,h2⟩|⟨_,h1,_,h2⟩
 ·refine⟨λ x hx=> .inl (by rw[h1];exact hx),by rw[h1];omega,by rw[h1];omega, ?_⟩;rw[h2,ka,ql];omega
 ·refine⟨λ x hx=> .inl ?_, ?_, ?_,by rw[h2];omega⟩
  ·rw[h1];exact Ml _ (.inr hx)
  ·rw[h1,ka,ql];omega
  ·rw[h1,ka,ql];omega
def Mr{l:List anz}(hl:l.length<=1000):cE (l,l,())=some ((true,()),()):=by
 have h0:qi (l,l,0,())=some (.inr ()):=
  cy (b:=ly) (λ k=>(l,l,(k:Int),())) l.length (λ k hk=>by
   unfold ly;simp only[ak hk,bD hk,auy,aeb,auz,avT,auG,auD,aA hk (by omega:l.length<=9223372036854775807)]) (by
   unfold ly;rw[aur (by simp)])
 unfold cE;simp only[auz,auG,auD,h0,c8]
def aaq{l:List Mark}(hl:l.length<=1000):ng (l,l,())=some ((true,()),()):=by
 have h0:qj (l,l,0,())=some (.inr ()):=
  cy (b:=lz) (λ k=>(l,l,(k:Int),())) l.length (λ k hk=>by
   unfold lz;simp only[ak hk,bD hk,auy,auz,avT,auG,auD,aA hk (by omega:l.length<=9223372036854775807)]) (by
   unfold lz;rw[aur (by simp)])
 unfold ng;simp only[auz,auG,auD,h0,c8]
def ab5{k:anE}(h:aw k=true):va (tK k,tK k,())=some ((true,()),()):=by
 have hf:=bN h;have h1:=hf.hl;have h2:=hf.ml;have h3:=hf.il;unfold va;rw[show cE ((tK k).2.2.2.1,(tK k).2.2.2.1,())=_ from Mr (l:=k.held) (by omega),show ng ((tK k).2.2.2.2.1,(tK k).2.2.2.2.1,())=_ from aaq (l:=k.marks) (by omega),
  show cE ((tK k).2.2.2.2.2.1,(tK k).2.2.2.2.2)=_ from Mr (l:=k.inbox) (by omega)]
 simp only[auz,auy,auE,au4,bF,avd,avT]
def akf{l:List Int}(hb:BOk l):fp (l,())=some ((true,()),()):=by
 obtain⟨k,f,hd,sm,od⟩:=Vy hb;unfold fp;apply Tot.val;refine Tot.ite (λ _=>Tot.ret rfl) (λ _=> ?_);refine Tot.bind (Tot.eq hd) λ r1 h1=> ?_;subst h1;refine Tot.bind (Tot.eq (cQ sm f)) λ r2 h2=>Tot.bind (Tot.eq (cT sm f)) λ r3 h3=> ?_;subst h2 h3;have hk:=Dw (k:=k) f;have hn:=Cj k f;refine Tot.join (A:=λ j=>j=(tF f,tKp (aJ k f).1,(aJ k f).2,tKp (aJ k f).1,(aJ k f).2,!ae k,())) ?_ (λ j hj=> ?_)
 ·simp only[auE,ca hk,eZ hn,auG,auD,bj sm];exact Tot.ret rfl
 ·subst hj;simp only[ca hk,eZ hn,auE,au4,bF,auy,avd];refine Tot.ite (λ _=>Tot.ret rfl) (λ e=> ?_);have e:ae k=true:=by simpa using e
  have okx:=vW e f;obtain⟨e1,e2⟩:=ad0 e od (f:=f);have hy:=cT hk f;have oky:=vW okx f;have hst:stT (aJ (aJ k f).1 f).1=stT (aJ k f).1:=Ts (Vg okx f) e1;have hl1:=(uD (aJ k f).1 f).1;refine Tot.bind (Tot.eq hy) λ r4 h4=> ?_;subst h4;refine Tot.bind (Tot.eq (bP oky)) λ r5 h5=>Tot.bind (Tot.eq (bP okx)) λ r6 h6=> ?_;subst h5 h6;rw[hst];refine Tot.bind (Tot.eq (ab5 (ib okx).kok)) λ r7 h7=> ?_;subst h7;refine Tot.pos rfl (Tot.ret ?_);show((decide ((aJ (aJ k f).1 f).1.log=(aJ k f).1.log)&&(decide ((aJ (aJ k f).1 f).1.fo=(aJ k f).1.fo)&&true))&&decide (((aJ (aJ k f).1 f).2.length:Int)<=1))=true;rw[e1,e2,aut rfl,aut rfl,aut (by omega)];rfl
end Go.VS
end
end
