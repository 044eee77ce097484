/- Part 21. -/
import Derived.Test.YtimdnaklfelapaaGreatDoorQAT
set_option linter.unusedVariables false
set_option linter.unusedSimpArgs false
set_option linter.defProp false
open Bool renaming and_eq_true→auF,and_self→avT,false_ne_true→avb,not_eq_true'→avw,not_true→auG
open Int renaming not_lt→axD,tdiv→au6,tmod→avq
open List renaming append_nil→avj,getD_eq_getElem?_getD→auQ,getElem?_drop→awh,getElem?_eq_getElem→auO,getElem?_take_of_lt→ayM,getElem_mem→avm,getElem_of_mem→avA,length_append→auP,length_drop→avy,length_set→avZ,length_take→avv,mem_append_left→auT,mem_append_right→auY,mem_iff_getElem?→axI
open Nat renaming le_refl→auS,lt_or_ge→awm,not_lt_zero→axX,zero_le→avM
open Option renaming bind_some→auE,filter_eq_some_iff→awe,getD_some→avd,isSome_some→au4
section
noncomputable section
namespace Go.VS
open Go
def aeb(a b c d:Int)(e:auB)(a' b' c' d':Int)(e':auB):Bool:=decide (a=a')&&(decide (b=b')&&(decide (c=c')&&(decide (d=d')&&(decide (e=e')&&true))))
def aha(a b c d e f g h i:Int)(j:auB)(a' b' c' d' e' f' g' h' i':Int)(j':auB):Bool:=
 decide (a=a')&&(decide (b=b')&&(decide (c=c')&&(decide (d=d')&&(decide (e=e')&&(decide (f=f')&&(decide (g=g')&&(decide (h=h')&&(decide (i=i')&&(decide (j=j')&&true)))))))))
end Go.VS
end
end
section
noncomputable section
namespace Go.VS
open Go Go.Proofs
set_option maxRecDepth 100000
abbrev Z25:Sh:= .box 79 [Z23,.int .i64,.sl .anx,.sl .bool,.sl .anJ,.sl .note,.sl .note,.sl .aoc]
abbrev Z26:Sh:= .box 79 [Z19,.int .i64,.fz .anx,.fz .bool,.fz .anJ,.fz .note,.fz .note,.fz .aoc]
abbrev Z29:Sh:= .box 69 [.int .i64,.sl .anx,.sl .bool,.sl .anJ,.sl .note,.sl .note]
end Go.VS
end
end
section
noncomputable section
namespace Go.VS
open Go Go.Proofs
set_option maxRecDepth 100000
def DM:Cx:=cX [aY,cb] [] []
def tZ:OKC Tryz.prog DM af:=okc mixed (gC aE (gC bw (av)))
def kK(x:Y10×Y0×Int×Int×auC):Rnd (Y10×Y0×Int×Int×auC) (Y10×Int×Y0×Bool×auC) (Y10×Y0×auC):=
 if decide (x.2.2.2.1 < 4) then
 if inb x.2.2.1 x.1.2.2.1.length then
 (bm (((rd (dfl .anx) x.1.2.2.1 x.2.2.1).id,(rd (dfl .anx) x.1.2.2.1 x.2.2.1).up,(rd (dfl .anx) x.1.2.2.1 x.2.2.1).log,(rd (dfl .anx) x.1.2.2.1 x.2.2.1).fo,(rd (dfl .anx) x.1.2.2.1 x.2.2.1).anw,()),())).bind fun r61=>
 if decide (0 < (r61.1.1.2.2.2.1.length:Int)) then
 (ab (x.1.1,(r61.1.1.2.2.2.1.length:Int),())).bind fun r62=>
 if inb r62.1.1 r61.1.1.2.2.2.1.length then
 let v63:=(rd (dfl .note) r61.1.1.2.2.2.1 r62.1.1).fr
 let v64:=(rd (dfl .note) r61.1.1.2.2.2.1 r62.1.1).nu
 let v65:=(rd (dfl .note) r61.1.1.2.2.2.1 r62.1.1).to
 let v66:=(rd (dfl .note) r61.1.1.2.2.2.1 r62.1.1).un
 let v67:=(rd (dfl .note) r61.1.1.2.2.2.1 r62.1.1).tx
 some (.inr (.inl ((r62.2.1,x.1.2),x.2.2.1,(v63,v64,v65,v66,v67,()),true,())))
 else none
 else
 let v68:=(avq (w64 (x.2.2.1+1)) 4)
 some (.inl (x.1,x.2.1,v68,(w64 (x.2.2.2.1+1)),()))
 else none
 else
 some (.inr (.inr (x.1,x.2.1,())))
def ow:=aV kK
def qD:Loop:=⟨[(0,Z25),(3,Z0),(5,.int .i64),(6,.int .i64)],[(0,Z25),(3,Z0)],0,[(0,Z25),(2,.int .i64),(3,Z0),(4,.bool)],ow⟩
def Dk:LF Tryz.f37 [0] [1,1,0,1,0,0] qD:=sq (v:= .nil) tZ (b:=kK) kN
def gY(x:Y10×auC):Option ((Int×Y0×Bool×auC)×(Y10×auC)):=
 (ab (x.1.1,4,())).bind fun r1=>
 (aK (ow ((r1.2.1,x.1.2),(0,0,0,0,noB,()),r1.1.1,0,()))
 (fun y69=>some (y69.2,(y69.1,())))
 (fun y69=>some ((0,(0,0,0,0,noB,()),false,()),(y69.1,()))))
def tY:Ent:=(37,none,⟨[Z26],[.int .i64,Z1,.bool],gY⟩)
def ze:SQ Tryz.prog tY:=sk (v:=t1 (t1 (.two (t1 (.one (.loop qD))) .nil))) (fn:=Tryz.f37) tZ (kC Dk kN)
def Pq:Cx:=cX [aY,lI,yG,yA,gV] [] []
def Sq:OKC Tryz.prog Pq af:=okc mixed (gC aE (gC jm (gC xU (gC xI (gC eT (av))))))
def pt(x:Y8×auC):Option ((Y7×auC)×(Y8×auC)):=
 (mK x).bind fun r1=>
 (ab (r1.2.1,4,())).bind fun r2=>
 (ab (r2.2.1,3,())).bind fun r3=>
 (eF (r2.1.1,r1.1.1.2.2.1,())).bind fun r4=>
 (bH (X:=Y8×Y7×Y7×auC) (fun j8=>
 (ab (j8.1,16,())).bind fun r21=>
 if decide (r21.1.1=0) then
 (ab (r21.2.1,2,())).bind fun r22=>
 if inb r22.1.1 (([0,4]:List Int).length) then
 let v23:=(rd (dfl .int) ([0,4]:List Int) r22.1.1)
 some (((v23,j8.2.2.1.2),()),r22.2)
 else none
 else
 if decide (r21.1.1=1) then
 (ab (r21.2.1,3,())).bind fun r24=>
 if inb r24.1.1 (([0,25,5]:List Int).length) then
 let v25:=(rd (dfl .int) ([0,25,5]:List Int) r24.1.1)
 some (((j8.2.2.1.1,j8.2.2.1.2.1,j8.2.2.1.2.2.1,j8.2.2.1.2.2.2.1,j8.2.2.1.2.2.2.2.1,j8.2.2.1.2.2.2.2.2.1,j8.2.2.1.2.2.2.2.2.2.1,v25,j8.2.2.1.2.2.2.2.2.2.2.2),()),r24.2)
 else none
 else
 if decide (r21.1.1=2) then
 (ab (r21.2.1,3,())).bind fun r26=>
 if inb r26.1.1 (([(-1),999,1000]:List Int).length) then
 let v27:=(rd (dfl .int) ([(-1),999,1000]:List Int) r26.1.1)
 some (((j8.2.2.1.1,j8.2.2.1.2.1,j8.2.2.1.2.2.1,j8.2.2.1.2.2.2.1,j8.2.2.1.2.2.2.2.1,j8.2.2.1.2.2.2.2.2.1,j8.2.2.1.2.2.2.2.2.2.1,j8.2.2.1.2.2.2.2.2.2.2.1,v27,j8.2.2.1.2.2.2.2.2.2.2.2.2),()),r26.2)
 else none
 else
 if decide (r21.1.1=3) then
 (cB (r21.2.1,([noB,(B [97,98,99]),(B [97,98,99,100])]:List auB),())).bind fun r28=>
 some (((j8.2.2.1.1,j8.2.2.1.2.1,j8.2.2.1.2.2.1,j8.2.2.1.2.2.2.1,j8.2.2.1.2.2.2.2.1,j8.2.2.1.2.2.2.2.2.1,j8.2.2.1.2.2.2.2.2.2.1,j8.2.2.1.2.2.2.2.2.2.2.1,j8.2.2.1.2.2.2.2.2.2.2.2.1,r28.1),()),r28.2)
 else
 if decide (r21.1.1=4) then
 (ab (r21.2.1,4,())).bind fun r29=>
 some (((j8.2.2.1.1,r29.1.1,j8.2.2.1.2.2),()),r29.2)
 else
 some (j8.2.2,r21.2))
 ((if decide ((w64 (1+r3.1.1))=1) then
 let v9:=(r1.1.1.2.2.2.2.1.size:Int)
 (ab (r3.2.1,9,())).bind fun r10=>
 (mU (r1.1.1.2.2.2.2.1,r10.1)).bind fun r11=>
 some (.inr (r10.2.1,(0,0,0,0,0,0,0,0,0,noB,()),((w64 (1+r3.1.1)),r2.1.1,r4.1.1,r1.1.1.1,r1.1.1.2.1,r1.1.1.2.2.1,r1.1.1.2.2.2.1,v9,r10.1.1,r11.1),()))
 else
 some (.inr (r3.2.1,(0,0,0,0,0,0,0,0,0,noB,()),((w64 (1+r3.1.1)),r4.1.1,r2.1.1,r1.1.1.1,r1.1.1.2.1,r1.1.1.2.2.1,r1.1.1.2.2.2.1,0,0,noB,()),())))))
def Ex:Ent:=(39,none,⟨[Z19],[Z16],pt⟩)
def H8:SQ Tryz.prog Ex:=sk (v:=t1 (t1 (t1 (t1 (.join [(0,Z23),(2,Z18),(5,Z18)] .nil .nil))))) (fn:=Tryz.f39) Sq kN
def DN:Cx:=cX [cU,oq,A4,uF,qB,aY,tY,lI,Ex] [] []
def me:OKC Tryz.prog DN af:=okc mixed (gC cc (gC mV (gC zp (gC vq (gC rQ (gC aE (gC ze (gC jm (gC H8 (av))))))))))
def kX(x:Y3×Y7×Y8×Y9×Y3×Int×Y0×Y3×Int×auC):Rnd (Y3×Y7×Y8×Y9×Y3×Int×Y0×Y3×Int×auC) (auC) (Y3×Y7×Y8×Y9×Y3×Int×Y0×Y3×auC):=
 if decide (0 < x.2.2.2.2.2.2.2.2.1) then
 if inb x.2.2.2.2.2.1 x.2.2.2.1.2.1.length then
 (ab (x.2.2.1,9,())).bind fun asN=>
 (dk (((rd (dfl .anx) x.2.2.2.1.2.1 x.2.2.2.2.2.1).id,(rd (dfl .anx) x.2.2.2.1.2.1 x.2.2.2.2.2.1).up,(rd (dfl .anx) x.2.2.2.1.2.1 x.2.2.2.2.2.1).log,(rd (dfl .anx) x.2.2.2.1.2.1 x.2.2.2.2.2.1).fo,(rd (dfl .anx) x.2.2.2.1.2.1 x.2.2.2.2.2.1).anw,()),x.2.2.2.2.2.2.1.1,x.2.2.2.2.2.2.1.2.1,asN.1)).bind fun atx=>
 (al (x.2.2.2.2.2.2.2.1,atx.1.1,())).bind fun atw=>
 let ati:=(w64 (x.2.2.2.2.2.2.2.2.1 - 1))
 some (.inl (x.1,x.2.1,asN.2.1,x.2.2.2.1,x.2.2.2.2.1,x.2.2.2.2.2.1,x.2.2.2.2.2.2.1,atw.1.1,ati,()))
 else none
 else
 some (.inr (.inr (x.1,x.2.1,x.2.2.1,x.2.2.2.1,x.2.2.2.2.1,x.2.2.2.2.2.1,x.2.2.2.2.2.2.1,x.2.2.2.2.2.2.2.1,())))
def oy:=aV kX
def qG:Loop:=⟨[(2,Z14),(3,Z18),(4,Z23),(5,Z29),(6,Z14),(11,.int .i64),(12,Z0),(15,Z13),(16,.int .i64)],[(2,Z14),(3,Z18),(4,Z23),(5,Z29),(6,Z14),(11,.int .i64),(12,Z0),(15,Z13)],2,[],oy⟩
def Di:LF Tryz.f11 [] [1,1,1,1,1,1,0,1,0,1,1,1,0,1,0,0] qG:=sq (v:= .nil) me (b:=kX) kN
def kY(x:Y3×Y7×Y8×Y9×Y3×Int×auC):Rnd (Y3×Y7×Y8×Y9×Y3×Int×auC) (Y3×Y7×auC) (Y3×Y7×Y8×Y9×Y3×auC):=
 if decide (x.2.2.2.2.2.1 < (x.2.2.2.1.2.2.2.1.length:Int)) then
 if inb x.2.2.2.2.2.1 x.2.2.2.1.2.2.2.1.length then
 if an ((rd (dfl .anJ) x.2.2.2.1.2.2.2.1 x.2.2.2.2.2.1).data).size then
 (ax ((aL ((rd (dfl .anJ) x.2.2.2.1.2.2.2.1 x.2.2.2.2.2.1).data)),())).bind fun r85=>
 (bH (X:=Y3×Y7×Y8×Y9×Y3×Int×Y7×Bool×auC) (fun j86=>
 if j86.2.2.2.2.2.2.2.1 then
 if inb j86.2.2.2.2.2.2.1.2.2.1 j86.2.2.2.1.2.1.length then
 let v88:=(rd (dfl .anx) j86.2.2.2.1.2.1 j86.2.2.2.2.2.2.1.2.2.1).id
 let v89:=(rd (dfl .anx) j86.2.2.2.1.2.1 j86.2.2.2.2.2.2.1.2.2.1).up
 let v90:=(rd (dfl .anx) j86.2.2.2.1.2.1 j86.2.2.2.2.2.2.1.2.2.1).log
 let v91:=(rd (dfl .anx) j86.2.2.2.1.2.1 j86.2.2.2.2.2.2.1.2.2.1).fo
 let v92:=(rd (dfl .anx) j86.2.2.2.1.2.1 j86.2.2.2.2.2.2.1.2.2.1).anw
 some (.inr (.inl ((v88,v89,v90,v91,v92,()),j86.2.2.2.2.2.2.1,())))
 else none
 else
 let v93:=(w64 (j86.2.2.2.2.2.1+1))
 some (.inl (j86.1,j86.2.1,j86.2.2.1,j86.2.2.2.1,j86.2.2.2.2.1,v93,())))
 ((if r85.1.2.1 then
 (ab (x.2.2.1,2,())).bind fun r87=>
 some (.inr (x.1,x.2.1,r87.2.1,x.2.2.2.1,x.2.2.2.2.1,x.2.2.2.2.2.1,r85.1.1,(decide (r87.1.1=0)),()))
 else
 some (.inr (x.1,x.2.1,x.2.2.1,x.2.2.2.1,x.2.2.2.2.1,x.2.2.2.2.2.1,r85.1.1,false,())))))
 else none
 else none
 else
 some (.inr (.inr (x.1,x.2.1,x.2.2.1,x.2.2.2.1,x.2.2.2.2.1,())))
def oz:=aV kY
def qH:Loop:=⟨[(2,Z14),(3,Z18),(4,Z23),(5,Z20),(6,Z14),(7,.int .i64)],[(2,Z14),(3,Z18),(4,Z23),(5,Z20),(6,Z14)],0,[(2,Z13),(3,Z18)],oz⟩
def Dl:LF Tryz.f11 [] [1,1,1,0,1,0,0] qH:=sq (v:=t1 (.two (.one (t1 (.join [(2,Z14),(3,Z18),(4,Z23),(5,Z20),(6,Z14),(7,.int .i64),(8,Z18),(52,.bool)] .nil .nil))) .nil)) me (b:=kY) kN
def bk(x:List Int×auC):Option ((Y3×Y7×auC)×auC):=
 (o3 x).bind fun r1=>
 (jF r1.1).bind fun r2=>
 (aK (oz ((0,false,noB,0,([]:List anD),()),(0,0,0,0,0,0,0,0,0,noB,()),r2.2.1,r2.1.1,r2.1.2.1,0,()))
 (fun y94=>some (y94,()))
 (fun y94=>(gY ((y94.2.2.1,y94.2.2.2.1.1,y94.2.2.2.1.2.1,y94.2.2.2.1.2.2.1,y94.2.2.2.1.2.2.2.1,y94.2.2.2.1.2.2.2.2.1,y94.2.2.2.1.2.2.2.2.2.1,([]:List Event),()),())).bind fun r95=>
 (bH (X:=Y3×Y7×Y8×Y3×auC) (fun ar2=>
 (pt (ar2.2.2.1,())).bind fun arW=>
 some ((ar2.2.2.2.1,(arW.1.1.1,arW.1.1.2.1,ar2.2.2.2.1.1,arW.1.1.2.2.2),()),()))
 ((bH (X:=Y3×Y7×Y8×Y9×Y3×Int×Y0×Bool×auC) (fun an7=>
 if an7.2.2.2.2.2.2.2.1 then
 (eF (an7.2.2.2.2.2.1,an7.2.2.2.2.2.2.1.2.2.1,())).bind fun aqo=>
 (ab (an7.2.2.1,3,())).bind fun arX=>
 if decide (arX.1.1=0) then
 if inb an7.2.2.2.2.2.1 an7.2.2.2.1.2.1.length then
 (ab (arX.2.1,6,())).bind fun asP=>
 (ab (asP.2.1,8,())).bind fun atA=>
 let v152:=(rd (dfl .anx) an7.2.2.2.1.2.1 an7.2.2.2.2.2.1).id
 let asF:=(rd (dfl .anx) an7.2.2.2.1.2.1 an7.2.2.2.2.2.1).up
 let v154:=(rd (dfl .anx) an7.2.2.2.1.2.1 an7.2.2.2.2.2.1).log
 let atn:=(rd (dfl .anx) an7.2.2.2.1.2.1 an7.2.2.2.2.2.1).fo
 let atm:=(rd (dfl .anx) an7.2.2.2.1.2.1 an7.2.2.2.2.2.1).anw
 let v157:=(w64 (2+(w64 (au6 asP.1.1 5))))
 let atl:=(w64 (an7.2.2.2.2.2.2.1.2.2.2.1+(w64 (au6 atA.1.1 7))))
 some (.inl (((v152,asF,v154,atn,atm,()),(v157,aqo.1.1,an7.2.2.2.2.2.1,an7.2.2.2.2.2.2.1.1,an7.2.2.2.2.2.2.1.2.1,an7.2.2.2.2.2.2.1.2.2.1,atl,0,0,noB,()),()),()))
 else none
 else
 if inb aqo.1.1 an7.2.2.2.1.2.1.length then
 let v159:=(rd (dfl .anx) an7.2.2.2.1.2.1 aqo.1.1).id
 let v160:=(rd (dfl .anx) an7.2.2.2.1.2.1 aqo.1.1).up
 let atk:=(rd (dfl .anx) an7.2.2.2.1.2.1 aqo.1.1).log
 let v162:=(rd (dfl .anx) an7.2.2.2.1.2.1 aqo.1.1).fo
 let atj:=(rd (dfl .anx) an7.2.2.2.1.2.1 aqo.1.1).anw
 (ab (arX.2.1,8,())).bind fun asO=>
 (aK (oy (an7.1,an7.2.1,asO.2.1,an7.2.2.2.1,an7.2.2.2.2.1,an7.2.2.2.2.2.1,an7.2.2.2.2.2.2.1,(v159,v160,atk,v162,atj,()),asO.1))
 (fun _=>none)
 (fun aoK=>(if inb aoK.2.2.2.2.2.1 aoK.2.2.2.1.2.1.length then
 (ab (aoK.2.2.1,9,())).bind fun asM=>
 (dk (((rd (dfl .anx) aoK.2.2.2.1.2.1 aoK.2.2.2.2.2.1).id,(rd (dfl .anx) aoK.2.2.2.1.2.1 aoK.2.2.2.2.2.1).up,(rd (dfl .anx) aoK.2.2.2.1.2.1 aoK.2.2.2.2.2.1).log,(rd (dfl .anx) aoK.2.2.2.1.2.1 aoK.2.2.2.2.2.1).fo,(rd (dfl .anx) aoK.2.2.2.1.2.1 aoK.2.2.2.2.2.1).anw,()),aoK.2.2.2.2.2.2.1.1,aoK.2.2.2.2.2.2.1.2.1,asM.1)).bind fun asL=>
 if asL.1.2.1 then
 some (.inl ((aoK.2.2.2.2.2.2.2.1,asL.1.1,()),()))
 else
 some (.inr (aoK.1,aoK.2.1,asM.2.1,aoK.2.2.2.2.1,()))
 else none)))
 else none
 else
 some (.inr (an7.1,an7.2.1,an7.2.2.1,an7.2.2.2.2.1,())))
 ((if r95.1.2.2.1 then
 (ab (r95.2.1.1,4,())).bind fun asQ=>
 some (.inr (y94.1,y94.2.1,asQ.2.1,y94.2.2.2.1,y94.2.2.2.2.1,r95.1.1,r95.1.2.1,(decide (0 < asQ.1.1)),()))
 else
 some (.inr (y94.1,y94.2.1,r95.2.1.1,y94.2.2.2.1,y94.2.2.2.2.1,r95.1.1,r95.1.2.1,false,())))))))))
def cf:Ent:=(11,none,⟨[.fz .u8],[Z8,Z16],bk⟩)
def bU:SQ Tryz.prog cf:=sk (v:=t1 (t1 (t1 (.two (t1 (.one (.loop qH))) (t1 (t1 (.join [(2,Z14),(3,Z18),(4,Z23),(6,Z14)] (.join [(2,Z14),(3,Z18),(4,Z23),(5,Z29),(6,Z14),(11,.int .i64),(12,Z0),(75,.bool)] .nil (.two (t1 (t1 (t1 (.two (t1 (.one (.loop qG))) .nil)))) .nil)) .nil))))))) (fn:=Tryz.f11) me (kC Dl (kC Di kN))
def PJ:Cx:=cX [] [] []
def wJ:OKC Tryz.prog PJ af:=okc mixed (av)
def jV(x:List anD×List anD×Int×Int×auC):Rnd (List anD×List anD×Int×Int×auC) (Bool×auC) (List anD×List anD×Int×auC):=
 if inb x.2.2.1 x.1.length then
 if decide (x.2.2.2.1 < (((rd (dfl .half) x.1 x.2.2.1).got).length:Int)) then
 if inb x.2.2.1 x.1.length then
 if inb x.2.2.2.1 (((rd (dfl .half) x.1 x.2.2.1).got).length) then
 if inb x.2.2.1 x.2.1.length then
 if inb x.2.2.2.1 (((rd (dfl .half) x.2.1 x.2.2.1).got).length) then
 if !(decide ((rd (dfl .mixed) ((rd (dfl .half) x.1 x.2.2.1).got) x.2.2.2.1).nu=(rd (dfl .mixed) ((rd (dfl .half) x.2.1 x.2.2.1).got) x.2.2.2.1).nu)&&(decide ((rd (dfl .mixed) ((rd (dfl .half) x.1 x.2.2.1).got) x.2.2.2.1).da=(rd (dfl .mixed) ((rd (dfl .half) x.2.1 x.2.2.1).got) x.2.2.2.1).da)&&true)) then
 some (.inr (.inl (false,())))
 else
 some (.inl (x.1,x.2.1,x.2.2.1,(w64 (x.2.2.2.1+1)),()))
 else none
 else none
 else none
 else none
 else
 some (.inr (.inr (x.1,x.2.1,x.2.2.1,())))
 else none
def oN:=aV jV
def zO:Loop:=⟨[(0,.sl .half),(1,.sl .half),(5,.int .i64),(6,.int .i64)],[(0,.sl .half),(1,.sl .half),(5,.int .i64)],2,[(4,.bool)],oN⟩
def OS:LF Tryz.f53 [] [1,1,0,1,0,0,1,0,0,1,1,0,0] zO:=sq (v:= .nil) wJ (b:=jV) kN
def jW(x:List anD×List anD×Int×auC):Rnd (List anD×List anD×Int×auC) (Bool×auC) (auC):=
 if decide (x.2.2.1 < (x.1.length:Int)) then
 if inb x.2.2.1 x.1.length then
 if inb x.2.2.1 x.2.1.length then
 if !decide ((rd (dfl .half) x.1 x.2.2.1).fr=(rd (dfl .half) x.2.1 x.2.2.1).fr) then
 some (.inr (.inl (false,())))
 else
 if inb x.2.2.1 x.1.length then
 if inb x.2.2.1 x.2.1.length then
 if !decide ((rd (dfl .half) x.1 x.2.2.1).nu=(rd (dfl .half) x.2.1 x.2.2.1).nu) then
 some (.inr (.inl (false,())))
 else
 if inb x.2.2.1 x.1.length then
 if inb x.2.2.1 x.2.1.length then
 if !decide ((rd (dfl .half) x.1 x.2.2.1).to=(rd (dfl .half) x.2.1 x.2.2.1).to) then
 some (.inr (.inl (false,())))
 else
 if inb x.2.2.1 x.1.length then
 if inb x.2.2.1 x.2.1.length then
 if !decide ((rd (dfl .half) x.1 x.2.2.1).un=(rd (dfl .half) x.2.1 x.2.2.1).un) then
 some (.inr (.inl (false,())))
 else
 if inb x.2.2.1 x.1.length then
 if inb x.2.2.1 x.2.1.length then
 if !decide ((rd (dfl .half) x.1 x.2.2.1).sz=(rd (dfl .half) x.2.1 x.2.2.1).sz) then
 some (.inr (.inl (false,())))
 else
 if inb x.2.2.1 x.1.length then
 if inb x.2.2.1 x.2.1.length then
 if !decide ((((rd (dfl .half) x.1 x.2.2.1).got).length:Int)=(((rd (dfl .half) x.2.1 x.2.2.1).got).length:Int)) then
 some (.inr (.inl (false,())))
 else
 (aK (oN (x.1,x.2.1,x.2.2.1,0,()))
 (fun y7=>some (.inr (.inl y7)))
 (fun y7=>some (.inl (y7.1,y7.2.1,(w64 (y7.2.2.1+1)),()))))
 else none
 else none
 else none
 else none
 else none
 else none
 else none
 else none
 else none
 else none
 else none
 else none
 else
 some (.inr (.inr ()))
def oO:=aV jW
def zP:Loop:=⟨[(0,.sl .half),(1,.sl .half),(5,.int .i64)],[],0,[(4,.bool)],oO⟩
def O0:LF Tryz.f53 [] [1,1,0,1,0,0] zP:=sq (v:=t1 (.two (.one (t1 (t1 (.one (.loop zO))))) .nil)) wJ (b:=jW) (kC OS kN)
def fT(x:List anD×List anD×auC):Option ((Bool×auC)×auC):=
 if !decide ((x.1.length:Int)=(x.2.1.length:Int)) then
 some ((false,()),())
 else
 (aK (oO (x.1,x.2.1,0,()))
 (fun y8=>some (y8,()))
 (fun y8=>some ((true,()),())))
def EF:Ent:=(53,none,⟨[.fz .half,.fz .half],[.bool],fT⟩)
def Ii:SQ Tryz.prog EF:=sk (v:=t1 (t1 (.two (t1 (.one (.loop zP))) .nil))) (fn:=Tryz.f53) wJ (kC O0 kN)
def PI:Cx:=cX [EF] [] [(25,29)]
def SF:OKC Tryz.prog PI af:=okc mixed (gC Ii (av))
def aq(x:Y3×Y3×auC):Option ((Bool×auC)×auC):=
 if decide (x.1.1=x.2.1.1) then
 if decide (x.1.2.1=x.2.1.2.1) then
 if aX (decide (x.1.2.2.1=x.2.1.2.2.1)&&(decide (x.1.2.2.2.1=x.2.1.2.2.2.1)&&true)) ((fT (x.1.2.2.2.2.1,x.2.1.2.2.2.2)).isSome) then
 let v2:=((decide (x.1.2.2.1=x.2.1.2.2.1)&&(decide (x.1.2.2.2.1=x.2.1.2.2.2.1)&&true))&&(((fT (x.1.2.2.2.2.1,x.2.1.2.2.2.2)).getD ((false,()),())).1.1))
 some ((v2,()),())
 else none
 else
 if aX false ((fT (x.1.2.2.2.2.1,x.2.1.2.2.2.2)).isSome) then
 some ((false,()),())
 else none
 else
 if aX false ((fT (x.1.2.2.2.2.1,x.2.1.2.2.2.2)).isSome) then
 some ((false,()),())
 else none
def eL:Ent:=(14,none,⟨[Z8,Z8],[.bool],aq⟩)
def dw:SQ Tryz.prog eL:=sk (v:= .nil) (fn:=Tryz.f14) SF kN
def PK:Cx:=cX [] [] []
def EN:OKC Tryz.prog PK af:=okc mixed (av)
def jX(x:List Frame×List Frame×Int×auC):Rnd (List Frame×List Frame×Int×auC) (Bool×auC) (auC):=
 if decide (x.2.2.1 < (x.1.length:Int)) then
 if inb x.2.2.1 x.1.length then
 if inb x.2.2.1 x.2.1.length then
 if !(aha ((rd (dfl .frame) x.1 x.2.2.1).ki) ((rd (dfl .frame) x.1 x.2.2.1).src) ((rd (dfl .frame) x.1 x.2.2.1).dst) ((rd (dfl .frame) x.1 x.2.2.1).fr) ((rd (dfl .frame) x.1 x.2.2.1).nu) ((rd (dfl .frame) x.1 x.2.2.1).to) ((rd (dfl .frame) x.1 x.2.2.1).un) ((rd (dfl .frame) x.1 x.2.2.1).sz) ((rd (dfl .frame) x.1 x.2.2.1).mix) ((rd (dfl .frame) x.1 x.2.2.1).da) ((rd (dfl .frame) x.2.1 x.2.2.1).ki) ((rd (dfl .frame) x.2.1 x.2.2.1).src) ((rd (dfl .frame) x.2.1 x.2.2.1).dst) ((rd (dfl .frame) x.2.1 x.2.2.1).fr) ((rd (dfl .frame) x.2.1 x.2.2.1).nu) ((rd (dfl .frame) x.2.1 x.2.2.1).to) ((rd (dfl .frame) x.2.1 x.2.2.1).un) ((rd (dfl .frame) x.2.1 x.2.2.1).sz) ((rd (dfl .frame) x.2.1 x.2.2.1).mix) ((rd (dfl .frame) x.2.1 x.2.2.1).da)) then
 some (.inr (.inl (false,())))
 else
 some (.inl (x.1,x.2.1,(w64 (x.2.2.1+1)),()))
 else none
 else none
 else
 some (.inr (.inr ()))
def oP:=aV jX
def zQ:Loop:=⟨[(0,.sl .frame),(1,.sl .frame),(5,.int .i64)],[],0,[(4,.bool)],oP⟩
def O1:LF Tryz.f15 [] [1,1,0,1,0,0] zQ:=sq (v:= .nil) EN (b:=jX) kN
def aT(x:List Frame×List Frame×auC):Option ((Bool×auC)×auC):=
 if !decide ((x.1.length:Int)=(x.2.1.length:Int)) then
 some ((false,()),())
 else
 (aK (oP (x.1,x.2.1,0,()))
 (fun y2=>some (y2,()))
 (fun y2=>some ((true,()),())))
def fV:Ent:=(15,none,⟨[.fz .frame,.fz .frame],[.bool],aT⟩)
def eB:SQ Tryz.prog fV:=sk (v:=t1 (t1 (.two (t1 (.one (.loop zQ))) .nil))) (fn:=Tryz.f15) EN (kC O1 kN)
def XP:Cx:=cX [] [] []
def NY:OKC Tryz.prog XP af:=okc mixed (av)
def AS(x:List anz×Y0×Int×auC):Rnd (List anz×Y0×Int×auC) (Bool×auC) (auC):=
 if decide (x.2.2.1 < (x.1.length:Int)) then
 if inb x.2.2.1 x.1.length then
 if aeb ((rd (dfl .note) x.1 x.2.2.1).fr) ((rd (dfl .note) x.1 x.2.2.1).nu) ((rd (dfl .note) x.1 x.2.2.1).to) ((rd (dfl .note) x.1 x.2.2.1).un) ((rd (dfl .note) x.1 x.2.2.1).tx) x.2.1.1 x.2.1.2.1 x.2.1.2.2.1 x.2.1.2.2.2.1 x.2.1.2.2.2.2.1 then
 some (.inr (.inl (true,())))
 else
 some (.inl (x.1,x.2.1,(w64 (x.2.2.1+1)),()))
 else none
 else
 some (.inr (.inr ()))
def BV:=aV AS
def F8:Loop:=⟨[(0,.sl .note),(3,Z0),(5,.int .i64)],[],0,[(4,.bool)],BV⟩
def Xy:LF Tryz.f20 [] [1,0,1,0,0] F8:=sq (v:= .nil) NY (b:=AS) kN
def cS(x:List anz×Y0×auC):Option ((Bool×auC)×auC):=
 (aK (BV (x.1,x.2.1,0,()))
 (fun y2=>some (y2,()))
 (fun y2=>some ((false,()),())))
def DD:Ent:=(20,none,⟨[.fz .note,Z1],[.bool],cS⟩)
def BU:SQ Tryz.prog DD:=sk (v:=t1 (.two (t1 (.one (.loop F8))) .nil)) (fn:=Tryz.f20) NY (kC Xy kN)
def IG:Cx:=cX [cf,cU,cV,eL,fV,br,bW,DD,pT] [] [(52,54),(78,104),(125,131)]
def yX:OKC Tryz.prog IG af:=okc mixed (gC bU (gC cc (gC cd (gC dw (gC eB (gC aQ (gC bE (gC BU (gC oT (av))))))))))
def oQ(x:Y3×Y7×Y1×Y1×Int×auC):Rnd (Y3×Y7×Y1×Y1×Int×auC) (Bool×auC) (Y1×Y1×auC):=
 if decide (x.2.2.2.2.1 < (x.2.2.1.2.2.2.1.length:Int)) then
 if inb x.2.2.2.2.1 x.2.2.1.2.2.2.1.length then
 let v57:=(rd (dfl .note) x.2.2.1.2.2.2.1 x.2.2.2.2.1).fr
 let v58:=(rd (dfl .note) x.2.2.1.2.2.2.1 x.2.2.2.2.1).nu
 let v59:=(rd (dfl .note) x.2.2.1.2.2.2.1 x.2.2.2.2.1).to
 let v60:=(rd (dfl .note) x.2.2.1.2.2.2.1 x.2.2.2.2.1).un
 let v61:=(rd (dfl .note) x.2.2.1.2.2.2.1 x.2.2.2.2.1).tx
 (cS (x.2.2.2.1.2.2.2.1,(v57,v58,v59,v60,v61,()),())).bind fun r62=>
 if aX ((!r62.1.1)&&(!(((!decide (x.2.1.1=2))||(!decide (x.2.1.2.2.2.1=v57)))||(!decide (x.2.1.2.2.2.2.1=v58))))) ((bz (x.1.1,v59,())).isSome) then
 if(!r62.1.1)&&((((!decide (x.2.1.1=2))||(!decide (x.2.1.2.2.2.1=v57)))||(!decide (x.2.1.2.2.2.2.1=v58)))||(!decide (x.2.1.2.1=((bz (x.1.1,v59,())).getD ((0,()),())).1.1))) then
 some (.inr (.inl (false,())))
 else
 some (.inl (x.1,x.2.1,x.2.2.1,x.2.2.2.1,(w64 (x.2.2.2.2.1+1)),()))
 else none
 else none
 else
 some (.inr (.inr (x.2.2.1,x.2.2.2.1,())))
def k8:=aV oQ
def vN:Loop:=⟨[(3,Z13),(4,Z18),(9,Z4),(10,Z4),(11,.int .i64)],[(9,Z4),(10,Z4)],0,[(2,.bool)],k8⟩
def Iq:LF Tryz.f6 [] [1,1,1,1,1,1,1,1,0,1,0,0] vN:=sq (v:= .nil) yX (b:=oQ) kN
def gP(x:List Int×auC):Option ((Bool×auC)×auC):=
 if decide (1048576 < (x.1.length:Int)) then
 some ((true,()),())
 else
 (bk x).bind fun r1=>
 (al r1.1).bind fun r2=>
 (bq r1.1).bind fun r3=>
 (bH (X:=Y3×Y7×Y3×List Frame×Y3×List Frame×Bool×auC) (fun j15=>
 if j15.2.2.2.2.2.2.1 then
 (aq (j15.2.2.2.2.1,j15.2.2.1,())).bind fun r19=>
 if aX r19.1.1 ((aT (j15.2.2.2.2.2.1,j15.2.2.2.1,())).isSome) then
 let v20:=(r19.1.1&&(((aT (j15.2.2.2.2.2.1,j15.2.2.2.1,())).getD ((false,()),())).1.1))
 some ((v20,()),())
 else none
 else
 (bd (j15.1,())).bind fun r21=>
 (bd (j15.2.2.2.2.1,())).bind fun r22=>
 (aK (k8 (j15.1,j15.2.1,r21.1.1,r22.1.1,0,()))
 (fun y63=>some (y63,()))
 (fun y63=>(if decide ((w64 ((y63.1.2.2.2.1.length:Int) - 1))≤(y63.2.1.2.2.2.1.length:Int)) then
 let v65:=((decide ((y63.2.1.2.2.2.1.length:Int)≤(w64 ((y63.1.2.2.2.1.length:Int)+1))))&&(decide ((y63.1.2.2.2.2.2.1.length:Int)≤(y63.2.1.2.2.2.2.2.1.length:Int))))
 some ((v65,()),())
 else
 some ((false,()),())))))
 ((aq (r3.1.1,r2.1.1,())).bind fun r16=>
 if !r16.1.1 then
 some (.inr (r1.1.1,r1.1.2.1,r2.1.1,r2.1.2.1,r3.1.1,r3.1.2.1,true,()))
 else
 (aT (r3.1.2.1,r2.1.2)).bind fun r17=>
 if !r17.1.1 then
 some (.inr (r1.1.1,r1.1.2.1,r2.1.1,r2.1.2.1,r3.1.1,r3.1.2.1,true,()))
 else
 (aS (r1.1.1,())).bind fun r18=>
 some (.inr (r1.1.1,r1.1.2.1,r2.1.1,r2.1.2.1,r3.1.1,r3.1.2.1,(!r18.1.1),()))))
def KP:Ent:=(6,none,⟨[.fz .u8],[.bool],gP⟩)
def Df:SQ Tryz.prog KP:=sk (v:=t1 (t1 (t1 (t1 (t1 (.two (.join [(3,Z13),(4,Z18),(5,Z13),(6,.sl .frame),(7,Z13),(8,.sl .frame),(47,.bool)] .nil .nil) (t1 (t1 (.two (t1 (.one (.loop vN))) .nil))))))))) (fn:=Tryz.f6) yX (kC Iq kN)
end Go.VS
end
end
section
noncomputable section
namespace Go.VS
open Go
def aiK:l7 [108,101,116]:=by unfold l7;decide
def ahE(n:anz):L (gh n)=[116,97,107,101]++32::L (wr n):=by unfold gh;simp only[ua,L_B];rfl
def aca{k:anE}{r:auB}(hk:aw k=true):bV k r=(qX k r).filter aw:=by
 unfold bV ic;rw[aus hk];cases (qX k r).filter aw<;>rfl
def adi{k:anE}{n:anz}(hn:ay n=true):cL k kF (wr n)=if n.fr=k.id then none else Bl k n:=by
 unfold cL iR;by_cases h:n.fr=k.id
 ·simp[x8,x9,AJ,ya,wu,xB hn,h]
 ·simp[x8,x9,AJ,ya,wu,xB hn,h]
def Dh{k:anE}{n:anz}(hk:aw k=true)(hn:ay n=true):bV k (gh n)=(if n.fr=k.id then none else Bl k n).filter aw:=by
 rw[aca hk,qW YK (ahE n),B_L];rw[show cL k (B [116,97,107,101]) (wr n)=_ from adi hn]
def aru{k o:anE}{n:anz}(hk:aw k=true)(hn:ay n=true)(h:bV k (gh n)=some o):arK k o n:=by
 rw[Dh hk hn]at h;have h:=(awe.1 h).1;split at h
 ·cases h
 unfold Bl at h;split at h
 ·cases h
 split at h
 ·cases h
 split at h
 ·cases h
 split at h
 ·cases h
 split at h
 ·cases h
 split at h
 ·cases h
 split at h
 ·rename_i h1;cases h;exact⟨rfl,rfl,rfl,.inl ⟨auv h1,rfl,rfl,rfl⟩⟩
 ·rename_i h1;cases h;exact⟨rfl,rfl,rfl,.inr ⟨by simpa using h1,rfl,rfl,rfl⟩⟩
def Fc{k:anv}{st o:anE}{r:auB}(h:an9 k st)(hr:bV st r=some o):Safe (wrR k r true).1 o∧(wrR k r true).2=true:=by
 unfold wrR;rw[h.stT,hr];exact⟨⟨KM (ZI h hr),rfl⟩,rfl⟩
def Td{k:anv}{st:anE}{r:auB}{f:Bool}(h:an9 k st)(hr:(wrR k r f).2=true): ∃ o,bV st r=some o:=by
 unfold wrR at hr;rw[h.stT]at hr;cases hc:bV st r with
 | none=>rw[hc]at hr;cases hr
 | some o=>exact⟨o,rfl⟩
def ajE{k:anv}(h:ae k=true)(hu:k.up=true){f:Frame}(hf:km f=true)(h1:f.ki=1):an9 (oX k (oU (fW (aN k.anw f).1 (aN k.anw f).2 f) (aN k.anw f).2)) (stT k):=by
 have kf:=ck h;have hv:=aaB.1 kf.hv;have hp:=uE hf h1;have aok:=C5 (hv:=k.anw) (f:=f);have aoG:=FP (hv:=k.anw) (f:=f) kf.hl;have hpf:=aaa hv hf h1;have haf:=aa2 hpf aok hp.2.1;have hal:(fW (aN k.anw f).1 (aN k.anw f).2 f).length=(aN k.anw f).1.length:=by unfold fW;rw[avZ]
 exact Ll (ib h) hu (by unfold oU;simp;omega) (afi haf _)
def afT{k:anE}{m:Mark}{r:auB}(ht:oB r=some m):cL k jk r=if A2 k.held m then some ⟨k.id,k.ti,k.nx,zf k.held (aP k.held m.mf m.mn).toNat,vR k.marks m,k.inbox⟩ else none:=by
 unfold cL fc;cases h:A2 k.held m<;>simp[AN,AP,Da,AO,AR,yf,Db,AQ,ht,h]
def YV{k:anE}{a b c:Int}(hk:aw k=true)(ha:0≤a∧a≤999)(hb:0≤b∧b≤999)(hc:0≤c∧c≤999):
  bV k (cH jk a b c)=(if A2 k.held ⟨a,b,c⟩ then some ⟨k.id,k.ti,k.nx,zf k.held (aP k.held a b).toNat,vR k.marks ⟨a,b,c⟩,k.inbox⟩ else none).filter aw:=by
 have h3:=ZO (r:=B (Lib.itoa a++32::(Lib.itoa b++32::Lib.itoa c))) (a:=a) (b:=b) (c:=c) (by omega) (by omega) (by omega) (by omega) (by omega) (by omega) (L_B _);rw[aca hk,qW aiK (Qr jk a b c)];rw[show cL k (B [108,101,116]) _=_ from afT h3]
variable {E:List Event}
def agb{N:Nat}{s:_}(h:SOk E N s)(hN:N≤900000):Tot (gY (s,())) fun a=>SOk E (N+2) a.2.1∧a.2.1.2=s.2∧(a.1.2.2.1=true→0≤a.1.1∧a.1.1 < 4∧isN (cO a.1.1 a.1.2.1.2.2.1)=true):=by
 unfold gY;refine Tot.bind (au h.r (by omega)) fun r1 h1=>Tot.sum (P:=fun y=>SOk E (N+2) y.1∧y.1.2=s.2∧(0≤y.2.1∧y.2.1 < 4∧isN (cO y.2.1 y.2.2.1.2.2.1)=true)) (Q:=fun y=>SOk E (N+2) y.1∧y.1.2=s.2) ?_ (fun y hy=>Tot.ret ⟨hy.1,hy.2.1,fun _=>hy.2.2⟩) (fun y hy=>Tot.ret ⟨hy.1,hy.2,fun h=>by cases h⟩);refine Tot.loop (fun i x=>SOk E (N+1) x.1∧x.1.2=s.2∧0≤x.2.2.1∧x.2.2.1 < 4∧x.2.2.2.1=(i:Int)) _ 4 (fun i x hi hx=> ?_) ⟨h.rd h1.1 (by omega),rfl,h1.2.1,h1.2.2 (show(1:Int)≤4 by decide),rfl⟩;obtain⟨hs,hw,a0,a1,hx⟩:=hx;have hk:=hs.w.has a0 a1;unfold kK;refine Tot.ite (fun hc=> ?_) (fun hc=>Tot.ret ⟨hs.up (by omega),hw⟩);have hc:=auv hc;refine Tot.pos hk.2.2 (Tot.bind (ae5 hk.1) fun r6 h6=> ?_);subst h6;refine Tot.ite (fun hl=> ?_) (fun hl=> ?_)
 ·have hl:(0:Int) < ((stT (kA x.1.2.2.1 x.2.2.1.toNat)).held.length:Int):=auv hl;refine Tot.bind (au hs.r (by omega)) fun r7 h7=> ?_;have hlt:=h7.2.2 hl;refine Tot.pos (et h7.2.1 hlt) (Tot.ret ⟨hs.rd h7.1 (by omega),hw,a0,a1, ?_⟩);have hkk:=ib hk.1;have hid:=hkk.id;have h9:r7.1.1.toNat < (stT (kA x.1.2.2.1 x.2.2.1.toNat)).held.length:=by
   have:r7.1.1 < ((stT (kA x.1.2.2.1 x.2.2.1.toNat)).held.length:Int):=hlt;have:=h7.2.1;omega
  have:=Pe hkk.kok (n:=nA (stT (kA x.1.2.2.1 x.2.2.1.toNat)).held r7.1.1.toNat) (by rw[nA,auQ,auO h9];exact avm h9);rw[hid,hk.2.1]at this;exact this
 ·have hm:=am6 a0 a1;refine Tot.ret ⟨?_,hs,hw,hm.1,hm.2, ?_⟩
  ·omega
  ·show w64 (x.2.2.2.1+1)=_;rw[hx,ai (by omega) (by omega)];rfl
end Go.VS
namespace Go.VS
open Go
def alb{N:Nat}{r:List Int×Int×auC}(h:anU N r)(hN:N≤700000):Tot (pt (r,())) fun a=>anU (N+80) a.2.1:=by
 unfold pt;refine Tot.bind (aiH h (by omega)) fun r1 h1=>Tot.bind (au h1.1 (by omega)) fun r2 h2=>Tot.bind (au h2.1 (by omega)) fun r3 h3=>Tot.bind (Tot.eq lq) fun r4 _=> ?_;refine Tot.join (A:=fun j=>anU (N+64) j.1) ?_ (fun j hj=> ?_)
 ·refine Tot.ite (fun _=> ?_) (fun _=>Tot.ret (show anU (N+64) r3.2.1 from h3.1.up (by omega)));exact Tot.bind (au h3.1 (by omega)) fun r5 h5=>Tot.bind (Tot.eq (Fy r1.1.1.2.2.2.2.1 r5.1.1)) fun r6 _=>Tot.ret (show anU (N+64) r5.2.1 from h5.1.up (by omega))
 ·have hj:anU (N+64) j.1:=hj;refine Tot.bind (au hj (by omega)) fun r5 h5=> ?_;refine Tot.ite (fun _=> ?_) (fun _=> ?_)
  ·exact Tot.bind (au h5.1 (by omega)) fun r6 h6=>Tot.pos (et h6.2.1 (h6.2.2 (show(1:Int)≤2 by decide))) (Tot.ret (h6.1.up (by omega)))
  refine Tot.ite (fun _=> ?_) (fun _=> ?_)
  ·exact Tot.bind (au h5.1 (by omega)) fun r6 h6=>Tot.pos (et h6.2.1 (h6.2.2 (show(1:Int)≤3 by decide))) (Tot.ret (h6.1.up (by omega)))
  refine Tot.ite (fun _=> ?_) (fun _=> ?_)
  ·exact Tot.bind (au h5.1 (by omega)) fun r6 h6=>Tot.pos (et h6.2.1 (h6.2.2 (show(1:Int)≤3 by decide))) (Tot.ret (h6.1.up (by omega)))
  refine Tot.ite (fun _=> ?_) (fun _=> ?_)
  ·exact Tot.bind (aae h5.1 (by omega) (by decide)) fun r6 h6=>Tot.ret (h6.1.up (by omega))
  refine Tot.ite (fun _=> ?_) (fun _=>Tot.ret (h5.1.up (by omega)));exact Tot.bind (au h5.1 (by omega)) fun r6 h6=>Tot.ret (h6.1.up (by omega))
variable {E:List Event}
def Dw{k:anv}(f:Frame):cR (aJ k f).1:=by
 rcases tf (ae k) with h | h
 ·exact eW (vW h f)
 ·unfold aJ;rw[aur (by rw[h];exact avb)];exact⟨by decide,by decide,fun m hm=>by cases hm⟩
def agU{k:anv}{f:Frame}(hb:ao0 k)(g:WZ (fun _=>True) f):ao0 (aJ k f).1:=by
 rcases tf (ae k) with h | h
 ·exact acm h hb fun _=>g
 ·unfold aJ;rw[aur (by rw[h];exact avb)];exact fun m hm=>by cases hm
def amG{y:_}{f:Int×Int×Int×Int×Int×Int×Int×Int×Int×auB×auC}(hy:aqi y)(hf: ∃ g,f=tF g∧WZ (fun _=>True) g):Tot (al (y,f,())) fun a=>aqi a.1.1:=by
 obtain⟨k,rfl,hk,hb⟩:=hy;obtain⟨g,rfl,hg⟩:=hf;exact⟨_,cQ hk g,_,rfl,Dw _,agU hb hg⟩
def aiR(k:anv)(fr nu mix:Int):WZ (fun _=>True) (if ae k then uw k fr nu mix else(zF,false)).1:=by
 split
 ·rename_i h;rcases tf (uw k fr nu mix).2 with c | c
  ·exact aeR h (fun _ _=>trivial) c
  ·unfold uw at c ⊢;split
   ·rename_i h1;rw[aus h1]at c;cases c
   ·intro e;exact absurd e (show ¬ (0:Int)=1 by decide)
 ·intro e;exact absurd e (show ¬ (0:Int)=1 by decide)
def alU{y:_}{fr nu mix:Int}(hy:aqi y):Tot (dk (y,fr,nu,mix,())) fun a=> ∃ g,a.1.1=tF g∧WZ (fun _=>True) g:=by
 obtain⟨k,rfl,hk,_⟩:=hy;exact⟨_,uq hk fr nu mix,_,rfl,aiR k fr nu mix⟩
def ahV{b:List Int}(h:BOk b):Tot (ax (b,())) fun a=>a.1.2.1=true→0≤a.1.1.2.2.1∧a.1.1.2.2.1 < 4:=by
 refine⟨_,qc h,fun hu=> ?_⟩;have:=jv (th (CN hu)).2.1;show 0≤(dj b).1.dst∧(dj b).1.dst < 4;omega
def aec{l:List Int}(hb:BOk l):Tot (bk (l,())) fun a=>KOk a.1.1:=by
 unfold bk;refine Tot.bind (aiB hb) fun r1 h1=>Tot.bind (ab8 h1 (by decide)) fun r2 h2=> ?_;obtain⟨h2,hy,hk⟩:=h2;refine Tot.sum (P:=fun y=>KOk y.1) (Q:=fun y=>anU 320100 y.2.2.1∧y.2.2.2.1=r2.1.1∧y.2.2.2.2.1=r2.1.2.1) ?_ (fun y hy=>Tot.ret hy) (fun y hq=> ?_)
 ·refine Tot.loop (fun i x=>anU (320000+i) x.2.2.1∧x.2.2.2.1=r2.1.1∧x.2.2.2.2.1=r2.1.2.1∧x.2.2.2.2.2.1=(i:Int)) _ 30 (fun i x hi hx=> ?_) ⟨h2.up (by omega),rfl,rfl,rfl⟩;obtain⟨x1,x2,x3,x4⟩:=hx;unfold kY;refine Tot.ite (fun hc=> ?_) (fun hc=>Tot.ret ⟨x1.up (by omega),x2,x3⟩);have hc:=auv hc;have hyx:YOk x.2.2.2.1:=by rw[x2];exact hy
  have x0:0≤x.2.2.2.2.2.1:=by omega
  have hpc:=hyx.pc x0 hc;refine Tot.pos (et x0 hc) (Tot.pos (aH (by omega)) (Tot.bind (ahV (BOk.str _)) fun r3 h3=> ?_));refine Tot.join (A:=fun j=>anU (320000+(i+1)) j.2.2.1∧j.2.2.2.1=r2.1.1∧j.2.2.2.2.1=r2.1.2.1∧j.2.2.2.2.2.1=(i:Int)∧(j.2.2.2.2.2.2.2.1=true→0≤j.2.2.2.2.2.2.1.2.2.1∧j.2.2.2.2.2.2.1.2.2.1 < 4)) ?_ (fun j hj=> ?_)
  ·refine Tot.ite (fun hu=> ?_) (fun hu=>Tot.ret ⟨x1.up (by omega),x2,x3,x4,fun h=>by cases h⟩);exact Tot.bind (au x1 (by omega)) fun r4 h4=>Tot.ret ⟨h4.1,x2,x3,x4,fun _=>h3 hu⟩
  ·obtain⟨j1,j2,j3,j4,j5⟩:=hj;refine Tot.ite (fun hu=> ?_) (fun hu=>Tot.ret ⟨by have:=hpc.2;omega,j1,j2,j3,qT j4 (by omega)⟩);have hyj:YOk j.2.2.2.1:=by rw[j2];exact hy
   have:=hyj.kp (j5 hu).1 (j5 hu).2;exact Tot.pos this.1 (Tot.ret this.2.ok)
 ·obtain⟨q1,q2,q3⟩:=hq;have hyq:YOk y.2.2.2.1:=by rw[q2];exact hy
  have hkq:KOk y.2.2.2.2.1:=by rw[q3];exact hk
  have hs: ∃ E,SOk E 320100 (y.2.2.1,y.2.2.2.1.1,y.2.2.2.1.2.1,y.2.2.2.1.2.2.1,y.2.2.2.1.2.2.2.1,y.2.2.2.1.2.2.2.2.1,y.2.2.2.1.2.2.2.2.2.1,([]:List Event),()):=by
   obtain⟨w,ev,e,hw⟩:=hyq;rw[e];exact⟨ev,q1,w,[],rfl,by rw[avj];exact hw,avM _⟩
  obtain⟨E,hs⟩:=hs;refine Tot.bind (agb hs (by omega)) fun r3 h3=> ?_;obtain⟨h3,_,h3'⟩:=h3;refine Tot.join (A:=fun j=>anU 320200 j.2.2.1∧KOk j.2.2.2.1) ?_ (fun j hj=> ?_)
  ·refine Tot.join (A:=fun j=>anU 320110 j.2.2.1∧YOk j.2.2.2.1∧KOk j.2.2.2.2.1∧(j.2.2.2.2.2.2.2.1=true→0≤j.2.2.2.2.2.1∧j.2.2.2.2.2.1 < 4∧isN (cO j.2.2.2.2.2.1 j.2.2.2.2.2.2.1.2.2.1)=true)) ?_ (fun j hj=> ?_)
   ·refine Tot.ite (fun hu=> ?_) (fun hu=>Tot.ret ⟨h3.r.up (by omega),hyq,hkq,fun h=>by cases h⟩);exact Tot.bind (au h3.r (by omega)) fun r4 h4=>Tot.ret ⟨h4.1.up (by omega),hyq,hkq,fun _=>h3' hu⟩
   ·obtain⟨j1,j2,j3,j4⟩:=hj;refine Tot.ite (fun hu=> ?_) (fun hu=>Tot.ret ⟨j1.up (by omega),j3⟩);obtain⟨a0,a1,a2⟩:=j4 hu;have ha2:=jv a2;have k1:=j2.kp a0 a1;have k2:=j2.kp ha2.1 (by omega);refine Tot.bind (Tot.eq lq) fun r4 h4=> ?_;subst h4;refine Tot.bind (au j1 (by omega)) fun r5 h5=>Tot.ite (fun _=> ?_) (fun _=> ?_)
    ·exact Tot.pos k1.1 (Tot.bind (au h5.1 (by omega)) fun r6 h6=>Tot.bind (au h6.1 (by omega)) fun r7 h7=>Tot.ret k1.2.ok)
    ·refine Tot.pos k2.1 (Tot.bind (au h5.1 (by omega)) fun r6 h6=> ?_);have v0:=h6.2.1;have v1:r6.1.1 < 8:=h6.2.2 (show(1:Int)≤8 by decide);refine Tot.sum (P:=fun _=>False) (Q:=fun y=>anU 320150 y.2.2.1∧YOk y.2.2.2.1∧KOk y.2.2.2.2.1∧y.2.2.2.2.2.1=j.2.2.2.2.2.1∧aqi y.2.2.2.2.2.2.2.1) ?_ (fun _ h=>h.elim) (fun y hy=> ?_)
     ·refine Tot.loop (fun i x=>anU (320120+i) x.2.2.1∧YOk x.2.2.2.1∧KOk x.2.2.2.2.1∧x.2.2.2.2.2.1=j.2.2.2.2.2.1∧aqi x.2.2.2.2.2.2.2.1∧x.2.2.2.2.2.2.2.2.1=r6.1.1 - (i:Int)) _ r6.1.1.toNat (fun i x hi hx=> ?_) ⟨h6.1.up (by omega),j2,j3,rfl,k2.2,by show r6.1.1=r6.1.1 - 0;omega⟩;obtain⟨x1,x2,x3,x4,x5,x6⟩:=hx;unfold kX;refine Tot.ite (fun hc=> ?_) (fun hc=>Tot.ret ⟨x1.up (by omega),x2,x3,x4,x5⟩);have hc:=auv hc;have kx:=x2.kp (i:=x.2.2.2.2.2.1) (by omega) (by omega);refine Tot.pos kx.1 (Tot.bind (au x1 (by omega)) fun r7 h7=>Tot.bind (alU kx.2) fun r8 h8=>Tot.bind (amG x5 h8) fun r9 h9=>Tot.ret ⟨by omega,h7.1,x2,x3,x4,h9, ?_⟩);show w64 (x.2.2.2.2.2.2.2.2.1 - 1)=r6.1.1 - ((i+1:Nat):Int);rw[ai (by omega) (by omega)];omega
     ·obtain⟨y1,y2,y3,y4,y5⟩:=hy;have ky:=y2.kp (i:=y.2.2.2.2.2.1) (by omega) (by omega);refine Tot.pos ky.1 (Tot.bind (au y1 (by omega)) fun r7 h7=>Tot.bind (alU ky.2) fun r8 _=>Tot.ite (fun _=>Tot.ret y5.ok) (fun _=>Tot.ret ⟨h7.1.up (by omega),y3⟩))
  ·exact Tot.bind (alb hj.1 (by omega)) fun r5 h5=>Tot.ret hj.2
end Go.VS
namespace Go.VS
open Go
def ab6{l:List anD}{i:Nat}(hi:i < l.length)(hl:(hA l i).got.length≤1048576):oN (l,l,(i:Int),0,())=some (.inr (l,l,(i:Int),())):=
 cy (b:=jV) (fun k=>(l,l,(i:Int),(k:Int),())) (hA l i).got.length (fun k hk=>by
  unfold jV;simp only[ak hi,L4,ak hk,auy,auz,avT,auG,auD,aA hk (by omega:(hA l i).got.length≤9223372036854775807)];rw[aus (by simpa using hk)]) (by
  unfold jV;simp only[ak hi,L4,auy];rw[aur (by simp)])
def Xq{l:List anD}(hl:l.length≤1048576)(hs: ∀ h∈l,J8 h):fT (l,l,())=some ((true,()),()):=by
 have h0:oO (l,l,0,())=some (.inr ()):=
  cy (b:=jW) (fun k=>(l,l,(k:Int),())) l.length (fun k hk=>by
   have hg:(hA l k).got.length≤1048576:=by rw[qN hk];exact(hs _ (avm hk)).1
   unfold jW;simp only[ak hk,L4,bD hk,auy,auz,auG,auD,ab6 hk hg,c8,aA hk (by omega:l.length≤9223372036854775807)]) (by
   unfold jW;rw[aur (by simp)])
 unfold fT;simp only[auz,auG,auD,h0,c8]
def ca{k:anv}(sm:cR k):aq (tKp k,tKp k,())=some ((true,()),()):=by
 unfold aq;simp only[auz,auy,Xq sm.2.1 sm.2.2];rfl
def eZ{l:List Frame}(hl:l.length≤1048576):aT (l,l,())=some ((true,()),()):=by
 have h0:oP (l,l,0,())=some (.inr ()):=
  cy (b:=jX) (fun k=>(l,l,(k:Int),())) l.length (fun k hk=>by
   unfold jX;simp only[ak hk,bD hk,auy,aha,auz,avT,auG,auD,aA hk (by omega:l.length≤9223372036854775807)]) (by
   unfold jX;rw[aur (by simp)])
 unfold aT;simp only[auz,auG,auD,h0,c8]
def Cj(k:anv)(f:Frame):(aJ k f).2.length≤1048576:=by
 have:=(uD k f).1;omega
def Vy{l:List Int}(hb:BOk l): ∃ k f,bk (l,())=some ((tKp k,tF f,()),())∧cR k∧aiF k.anw:=by
 obtain⟨⟨⟨y,⟨a,b,c,d,e,f,g,h,i,j,_⟩,_⟩,_⟩,e1,k,e2,sm⟩:=aec hb;simp only at e2;subst e2;exact⟨k,⟨a,b,c,d,e,f,g,h,i,j⟩,e1,sm⟩
def uL{l:List Int}(hb:BOk l): ∃ k f,bk (l,())=some ((tKp k,tF f,()),())∧cR k:=by
 obtain⟨k,f,h1,h2,_⟩:=Vy hb;exact⟨k,f,h1,h2⟩
def aiT{l:List anz}{i:Nat}{x:anz}(h:x∈l)(hne:x≠nA l i):x∈zf l i:=by
 obtain⟨j,hj,rfl⟩:=avA h;have hji:j≠i:=by
  intro e;subst e;exact hne (ji (auO hj)).symm
 unfold zf;rcases awm j i with h1 | h1
 ·refine auT _ ?_;rw[axI];exact⟨j,by rw[ayM h1];exact auO hj⟩
 ·refine auY _ ?_;rw[axI];exact⟨j - (i+1),by rw[awh,show i+1+(j - (i+1))=j by omega];exact auO hj⟩
def an4.aru{k:anv}{f:Frame}{a b:anE}{n:anz}(h:arK a b n):an4 k f a b:=by
 rcases h.at_ with⟨_,h1,_,h2⟩ | ⟨_,h1,_,h2⟩
 ·refine⟨fun x hx=> .inl (by rw[h1];exact hx),by rw[h1];omega,by rw[h1];omega, ?_⟩;rw[h2,ka,ql];omega
 ·refine⟨fun x hx=> .inl ?_, ?_, ?_,by rw[h2];omega⟩
  ·rw[h1];exact Ml _ (.inr hx)
  ·rw[h1,ka,ql];omega
  ·rw[h1,ka,ql];omega
def ajb{k:anv}(h:ae k=true)(f:Frame): ∃ b,an9 (aJ k f).1 b∧an4 k f (stT k) b:=by
 have hk:=ib h;have hok:=vW h f;have self: ∀ x:anv,ae x=true→stT x=stT k→ ∃ b,an9 x b∧an4 k f (stT k) b:=fun x hx e=>⟨stT k,e▸ib hx,an4.same _ _ _⟩;rw[lF h]at hok ⊢;unfold mH at hok ⊢;split
 ·rename_i hc;rw[aus hc]at hok;simp only[auF]at hc;split
  ·rename_i h1;rw[aus h1]at hok;unfold iX at hok ⊢;split
   ·exact self _ h rfl
   ·rename_i c1;rw[aur c1]at hok;split
    ·exact⟨stT k,KM hk,an4.same _ _ _⟩
    ·rename_i c2;rw[aur c2]at hok;split
     ·exact self _ h rfl
     ·rename_i c3;rw[aur c3]at hok;unfold AI at hok ⊢;split
      ·rename_i c4;rw[aus c4]at hok;split
       ·rename_i c5;rw[aus c5]at hok;unfold lX at hok ⊢;have hi:=ajE h hc.1 hc.2.1 (auv h1);split
        ·rename_i c6;simp only[auF]at c6;obtain⟨o,ho⟩:=Td hi c6.2;exact⟨o,(Fc hi ho).1.is,an4.aru (aru hi.kok c6.1 ho)⟩
        ·exact⟨stT k,hi,an4.same _ _ _⟩
       ·rename_i c5;rw[aur c5]at hok;exact self _ hok rfl
      ·rename_i c4;rw[aur c4]at hok;exact self _ hok rfl
  ·split
   ·rename_i h1 h2;simp only[auF,avw,decide_eq_false_iff_not,decide_eq_true_eq]at h2;obtain⟨r1,r2,r3⟩:=HR hc.2.1;obtain⟨o,ho,h3,h4⟩:=JO hk (cH jk f.fr f.nu f.un) false;rcases tf (wrR k (cH jk f.fr f.nu f.un) false).2 with e | e
    ·have hs:=h3 e;rw[YV hk.kok r1 r2 r3]at hs;have hs:=(awe.1 hs).1;split at hs
     ·cases hs;refine⟨_,ho,fun n hn=> ?_, ?_, ?_,auS _⟩
      ·by_cases hne:n=nA (stT k).held (aP (stT k).held f.fr f.nu).toNat
       ·refine .inr ⟨h2.1, ?_⟩;have hi:=jt (axD.1 h2.2.1);rw[hne];refine⟨hi.2.2.1.symm,hi.2.2.2.symm, ?_⟩;have r7:=(th hc.2.1).2.2.2.2.2.2;unfold yy at r7;rw[aur h1]at r7;simp only[auF,decide_eq_true_eq]at r7;rw[r7.2.2.2.2,h2.2.2.1,auv hc.2.2]
       ·exact .inl (aiT hn hne)
      ·show(stT k).held.length≤(zf _ _).length+1;have hi:=jt (axD.1 h2.2.1);unfold zf;simp only[auP,avv,avy];omega
      ·show(zf _ _).length≤_;unfold zf;simp only[auP,avv,avy];omega
     ·cases hs
    ·obtain⟨rfl,_⟩:=h4 e;exact⟨_,ho,an4.same _ _ _⟩
   ·exact self _ h rfl
 ·exact self _ h rfl
def aar{l:List anz}{n:anz}(hl:l.length≤1000):Tot (cS (l,(n.fr,n.nu,n.to,n.un,n.tx,()),())) fun r=>r.1.1=true↔n∈l:=by
 unfold cS;refine Tot.sum (P:=fun y=>y.1=true∧n∈l) (Q:=fun _=>n ∉ l) ?_ (fun y hy=>Tot.ret ⟨fun _=>hy.2,fun _=>hy.1⟩) (fun y hy=>Tot.ret ⟨(fun h=>by cases h),fun h=>absurd h hy⟩);refine Tot.loop (fun i s=>s=(l,(n.fr,n.nu,n.to,n.un,n.tx,()),(i:Int),())∧ ∀ j,j < i→nA l j≠n) _ l.length (fun i s hi hs=> ?_) ⟨rfl,fun j hj=>absurd hj (axX _)⟩;obtain⟨rfl,hs⟩:=hs;unfold AS;refine Tot.ite (fun hc=> ?_) (fun hc=> ?_)
 ·have hc:(i:Int) < (l.length:Int):=auv hc;have hi':i < l.length:=by omega
  refine Tot.pos (ak hi') (Tot.ite (fun he=>Tot.ret ⟨rfl, ?_⟩) (fun he=>Tot.ret ⟨hi',by rw[show w64 ((i:Int)+1)=_ from qT rfl (by omega)],fun j hj=> ?_⟩))
  ·have he:aeb (nA l i).fr (nA l i).nu (nA l i).to (nA l i).un (nA l i).tx n.fr n.nu n.to n.un n.tx=true:=he;unfold aeb at he;simp only[auF,decide_eq_true_eq]at he;have:nA l i=n:=by
    cases hN:nA l i;cases n;rw[hN]at he;simp only at he;obtain⟨rfl,rfl,rfl,rfl,rfl,_⟩:=he;rfl
   rw[← this];exact adJ hi'
  ·rcases awm j i with h | h
   ·exact hs j h
   ·have:j=i:=by omega
    subst this;intro e;have he:aeb (nA l j).fr (nA l j).nu (nA l j).to (nA l j).un (nA l j).tx n.fr n.nu n.to n.un n.tx=false:=he;rw[e]at he;unfold aeb at he;simp at he
 ·have hc: ¬ (i:Int) < (l.length:Int):=auw hc;refine Tot.ret fun hn=> ?_;obtain⟨j,hj,e⟩:=avA hn;exact hs j (by omega) (by rw[ji (auO hj)];exact e)
def amB{k:anv}{f:Frame}{a b:anE}(ha:a.held.length≤6)(hb:b.held.length≤6)(h:an4 k f a b):
  Tot (k8 (tKp k,tF f,tK a,tK b,0,())) (Rn (fun _=>False) (fun y=>y=(tK a,tK b,()))):=by
 refine Tot.loop (fun i s=>s=(tKp k,tF f,tK a,tK b,(i:Int),())) _ a.held.length (fun i s hi hs=> ?_) rfl;subst hs;unfold oQ;refine Tot.ite (fun hc=> ?_) (fun hc=>Tot.ret rfl);have hc:(i:Int) < (a.held.length:Int):=auv hc;have hi':i < a.held.length:=by omega
 have hh:=h.held (nA a.held i) (adJ hi');refine Tot.pos (ak hi') (Tot.bind (aar (n:=nA a.held i) (l:=b.held) (by omega)) fun r hr=> ?_);refine Tot.pos ?_ (Tot.neg ?_ (Tot.ret ⟨hi',by rw[show w64 ((i:Int)+1)=_ from qT rfl (by omega)]⟩))
 ·show aX _ (bz (k.id,(nA a.held i).to,())).isSome=true;rw[pQ];exact bF _
 show(!r.1.1&&(((!decide (f.ki=2))||(!decide (f.fr=(nA a.held i).fr)))||(!decide (f.nu=(nA a.held i).nu))||(!decide (f.src=((bz (k.id,(nA a.held i).to,())).getD ((0,()),())).1.1))))=false;rw[pQ];rcases hh with h1 | ⟨h1,h2,h3,h4⟩
 ·rw[hr.2 h1];rfl
 ·show(!r.1.1&&(((!decide (f.ki=2))||(!decide (f.fr=(nA a.held i).fr)))||(!decide (f.nu=(nA a.held i).nu))||(!decide (f.src=cO k.id (nA a.held i).to))))=false;rw[aut h1,aut h2,aut h3,aut h4];simp
def am8{l:List Int}(hb:BOk l):gP (l,())=some ((true,()),()):=by
 obtain⟨k,f,hd,sm⟩:=uL hb;unfold gP;apply Tot.val;refine Tot.ite (fun _=>Tot.ret rfl) (fun _=> ?_);refine Tot.bind (Tot.eq hd) fun r1 h1=> ?_;subst h1;refine Tot.bind (Tot.eq (cQ sm f)) fun r2 h2=>Tot.bind (Tot.eq (cT sm f)) fun r3 h3=> ?_;subst h2 h3;have hk:=Dw (k:=k) f;have hn:=Cj k f;refine Tot.join (A:=fun j=>j=(tKp k,tF f,tKp (aJ k f).1,(aJ k f).2,tKp (aJ k f).1,(aJ k f).2,!ae k,())) ?_ (fun j hj=> ?_)
 ·simp only[auE,ca hk,eZ hn,auG,auD,bj sm];exact Tot.ret rfl
 ·subst hj;simp only[ca hk,eZ hn,auE,au4,bF,auy,avd];refine Tot.ite (fun _=>Tot.ret rfl) (fun e=> ?_);have e:ae k=true:=by simpa using e
  obtain⟨b,hkb,hr⟩:=ajb e f;have ha:=bN (ib e).kok;have hbf:=bN hkb.kok;rw[bP e];simp only[auE];rw[bP hkb.ok,hkb.stT];simp only[auE];refine Tot.sum (amB ha.hl hbf.hl hr) (fun _ h=>h.elim) (fun y hy=> ?_);subst hy;have h1:=ha.hl;have h2:=hbf.hl;have h3:=hr.lo;have h4:=hr.hi;have h5:=hr.inb;refine Tot.pos ?_ (Tot.ret ?_)
  ·show decide (w64 (((stT k).held.length:Int) - 1)≤(b.held.length:Int))=true;rw[ai (by omega) (by omega)];exact aut (by omega)
  ·show(decide ((b.held.length:Int)≤w64 (((stT k).held.length:Int)+1))&&decide (((stT k).inbox.length:Int)≤(b.inbox.length:Int)))=true;rw[ai (by omega) (by omega),aut (by omega),aut (by omega)];rfl
end Go.VS
end
end
