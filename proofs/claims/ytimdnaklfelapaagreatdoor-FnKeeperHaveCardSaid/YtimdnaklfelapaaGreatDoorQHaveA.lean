/- Part 21. -/
import Derived.Test.YtimdnaklfelapaaGreatDoorQAT
set_option linter.unusedVariables false
set_option linter.unusedSimpArgs false
set_option linter.defProp false
open Bool renaming and_eq_true→auF,and_self→avT,false_ne_true→avb,not_false→auH,not_true→auG
open Int renaming tdiv→au6,tmod→avq,toNat_natCast→auV,toNat→auK
open List renaming append_nil→avj,getD_eq_getElem?_getD→auQ,getElem?_eq_getElem→auO,getElem_mem→avm,length_set→avZ,mem_singleton→avh
open Nat renaming lt_or_ge→awm,not_lt_zero→axX,zero_le→avM
open Option renaming bind_some→auE,filter_eq_some_iff→awe
section
noncomputable section
namespace Go.VS
open Go
def aha(a b c d e f g h i:Int)(j:auB)(a' b' c' d' e' f' g' h' i':Int)(j':auB):Bool:=
 decide (a=a')&&(decide (b=b')&&(decide (c=c')&&(decide (d=d')&&(decide (e=e')&&(decide (f=f')&&(decide (g=g')&&(decide (h=h')&&(decide (i=i')&&(decide (j=j')&&true)))))))))
end Go.VS
end
end
section
noncomputable section
namespace Go.VS
open Go Go.Proofs
set_option maxRecDepth 100000
abbrev Z25:Sh:= .box 79 [Z23,.int .i64,.sl .anx,.sl .bool,.sl .anJ,.sl .note,.sl .note,.sl .aoc]
abbrev Z26:Sh:= .box 79 [Z19,.int .i64,.fz .anx,.fz .bool,.fz .anJ,.fz .note,.fz .note,.fz .aoc]
abbrev Z29:Sh:= .box 69 [.int .i64,.sl .anx,.sl .bool,.sl .anJ,.sl .note,.sl .note]
end Go.VS
end
end
section
noncomputable section
namespace Go.VS
open Go Go.Proofs
set_option maxRecDepth 100000
def DM:Cx:=cX [aY,cb] [] []
def tZ:OKC Tryz.prog DM af:=okc mixed (gC aE (gC bw (av)))
def kK(x:Y10×Y0×Int×Int×auC):Rnd (Y10×Y0×Int×Int×auC) (Y10×Int×Y0×Bool×auC) (Y10×Y0×auC):=
 if decide (x.2.2.2.1 < 4) then
 if inb x.2.2.1 x.1.2.2.1.length then
 (bm (((rd (dfl .anx) x.1.2.2.1 x.2.2.1).id,(rd (dfl .anx) x.1.2.2.1 x.2.2.1).up,(rd (dfl .anx) x.1.2.2.1 x.2.2.1).log,(rd (dfl .anx) x.1.2.2.1 x.2.2.1).fo,(rd (dfl .anx) x.1.2.2.1 x.2.2.1).anw,()),())).bind fun r61=>
 if decide (0 < (r61.1.1.2.2.2.1.length:Int)) then
 (ab (x.1.1,(r61.1.1.2.2.2.1.length:Int),())).bind fun r62=>
 if inb r62.1.1 r61.1.1.2.2.2.1.length then
 let v63:=(rd (dfl .note) r61.1.1.2.2.2.1 r62.1.1).fr
 let v64:=(rd (dfl .note) r61.1.1.2.2.2.1 r62.1.1).nu
 let v65:=(rd (dfl .note) r61.1.1.2.2.2.1 r62.1.1).to
 let v66:=(rd (dfl .note) r61.1.1.2.2.2.1 r62.1.1).un
 let v67:=(rd (dfl .note) r61.1.1.2.2.2.1 r62.1.1).tx
 some (.inr (.inl ((r62.2.1,x.1.2),x.2.2.1,(v63,v64,v65,v66,v67,()),true,())))
 else none
 else
 let v68:=(avq (w64 (x.2.2.1+1)) 4)
 some (.inl (x.1,x.2.1,v68,(w64 (x.2.2.2.1+1)),()))
 else none
 else
 some (.inr (.inr (x.1,x.2.1,())))
def ow:=aV kK
def qD:Loop:=⟨[(0,Z25),(3,Z0),(5,.int .i64),(6,.int .i64)],[(0,Z25),(3,Z0)],0,[(0,Z25),(2,.int .i64),(3,Z0),(4,.bool)],ow⟩
def Dk:LF Tryz.f37 [0] [1,1,0,1,0,0] qD:=sq (v:= .nil) tZ (b:=kK) kN
def gY(x:Y10×auC):Option ((Int×Y0×Bool×auC)×(Y10×auC)):=
 (ab (x.1.1,4,())).bind fun r1=>
 (aK (ow ((r1.2.1,x.1.2),(0,0,0,0,noB,()),r1.1.1,0,()))
 (fun y69=>some (y69.2,(y69.1,())))
 (fun y69=>some ((0,(0,0,0,0,noB,()),false,()),(y69.1,()))))
def tY:Ent:=(37,none,⟨[Z26],[.int .i64,Z1,.bool],gY⟩)
def ze:SQ Tryz.prog tY:=sk (v:=t1 (t1 (.two (t1 (.one (.loop qD))) .nil))) (fn:=Tryz.f37) tZ (kC Dk kN)
def Pq:Cx:=cX [aY,lI,yG,yA,gV] [] []
def Sq:OKC Tryz.prog Pq af:=okc mixed (gC aE (gC jm (gC xU (gC xI (gC eT (av))))))
def pt(x:Y8×auC):Option ((Y7×auC)×(Y8×auC)):=
 (mK x).bind fun r1=>
 (ab (r1.2.1,4,())).bind fun r2=>
 (ab (r2.2.1,3,())).bind fun r3=>
 (eF (r2.1.1,r1.1.1.2.2.1,())).bind fun r4=>
 (bH (X:=Y8×Y7×Y7×auC) (fun j8=>
 (ab (j8.1,16,())).bind fun r21=>
 if decide (r21.1.1=0) then
 (ab (r21.2.1,2,())).bind fun r22=>
 if inb r22.1.1 (([0,4]:List Int).length) then
 let v23:=(rd (dfl .int) ([0,4]:List Int) r22.1.1)
 some (((v23,j8.2.2.1.2),()),r22.2)
 else none
 else
 if decide (r21.1.1=1) then
 (ab (r21.2.1,3,())).bind fun r24=>
 if inb r24.1.1 (([0,25,5]:List Int).length) then
 let v25:=(rd (dfl .int) ([0,25,5]:List Int) r24.1.1)
 some (((j8.2.2.1.1,j8.2.2.1.2.1,j8.2.2.1.2.2.1,j8.2.2.1.2.2.2.1,j8.2.2.1.2.2.2.2.1,j8.2.2.1.2.2.2.2.2.1,j8.2.2.1.2.2.2.2.2.2.1,v25,j8.2.2.1.2.2.2.2.2.2.2.2),()),r24.2)
 else none
 else
 if decide (r21.1.1=2) then
 (ab (r21.2.1,3,())).bind fun r26=>
 if inb r26.1.1 (([(-1),999,1000]:List Int).length) then
 let v27:=(rd (dfl .int) ([(-1),999,1000]:List Int) r26.1.1)
 some (((j8.2.2.1.1,j8.2.2.1.2.1,j8.2.2.1.2.2.1,j8.2.2.1.2.2.2.1,j8.2.2.1.2.2.2.2.1,j8.2.2.1.2.2.2.2.2.1,j8.2.2.1.2.2.2.2.2.2.1,j8.2.2.1.2.2.2.2.2.2.2.1,v27,j8.2.2.1.2.2.2.2.2.2.2.2.2),()),r26.2)
 else none
 else
 if decide (r21.1.1=3) then
 (cB (r21.2.1,([noB,(B [97,98,99]),(B [97,98,99,100])]:List auB),())).bind fun r28=>
 some (((j8.2.2.1.1,j8.2.2.1.2.1,j8.2.2.1.2.2.1,j8.2.2.1.2.2.2.1,j8.2.2.1.2.2.2.2.1,j8.2.2.1.2.2.2.2.2.1,j8.2.2.1.2.2.2.2.2.2.1,j8.2.2.1.2.2.2.2.2.2.2.1,j8.2.2.1.2.2.2.2.2.2.2.2.1,r28.1),()),r28.2)
 else
 if decide (r21.1.1=4) then
 (ab (r21.2.1,4,())).bind fun r29=>
 some (((j8.2.2.1.1,r29.1.1,j8.2.2.1.2.2),()),r29.2)
 else
 some (j8.2.2,r21.2))
 ((if decide ((w64 (1+r3.1.1))=1) then
 let v9:=(r1.1.1.2.2.2.2.1.size:Int)
 (ab (r3.2.1,9,())).bind fun r10=>
 (mU (r1.1.1.2.2.2.2.1,r10.1)).bind fun r11=>
 some (.inr (r10.2.1,(0,0,0,0,0,0,0,0,0,noB,()),((w64 (1+r3.1.1)),r2.1.1,r4.1.1,r1.1.1.1,r1.1.1.2.1,r1.1.1.2.2.1,r1.1.1.2.2.2.1,v9,r10.1.1,r11.1),()))
 else
 some (.inr (r3.2.1,(0,0,0,0,0,0,0,0,0,noB,()),((w64 (1+r3.1.1)),r4.1.1,r2.1.1,r1.1.1.1,r1.1.1.2.1,r1.1.1.2.2.1,r1.1.1.2.2.2.1,0,0,noB,()),())))))
def Ex:Ent:=(39,none,⟨[Z19],[Z16],pt⟩)
def H8:SQ Tryz.prog Ex:=sk (v:=t1 (t1 (t1 (t1 (.join [(0,Z23),(2,Z18),(5,Z18)] .nil .nil))))) (fn:=Tryz.f39) Sq kN
def DN:Cx:=cX [cU,oq,A4,uF,qB,aY,tY,lI,Ex] [] []
def me:OKC Tryz.prog DN af:=okc mixed (gC cc (gC mV (gC zp (gC vq (gC rQ (gC aE (gC ze (gC jm (gC H8 (av))))))))))
def kX(x:Y3×Y7×Y8×Y9×Y3×Int×Y0×Y3×Int×auC):Rnd (Y3×Y7×Y8×Y9×Y3×Int×Y0×Y3×Int×auC) (auC) (Y3×Y7×Y8×Y9×Y3×Int×Y0×Y3×auC):=
 if decide (0 < x.2.2.2.2.2.2.2.2.1) then
 if inb x.2.2.2.2.2.1 x.2.2.2.1.2.1.length then
 (ab (x.2.2.1,9,())).bind fun asN=>
 (dk (((rd (dfl .anx) x.2.2.2.1.2.1 x.2.2.2.2.2.1).id,(rd (dfl .anx) x.2.2.2.1.2.1 x.2.2.2.2.2.1).up,(rd (dfl .anx) x.2.2.2.1.2.1 x.2.2.2.2.2.1).log,(rd (dfl .anx) x.2.2.2.1.2.1 x.2.2.2.2.2.1).fo,(rd (dfl .anx) x.2.2.2.1.2.1 x.2.2.2.2.2.1).anw,()),x.2.2.2.2.2.2.1.1,x.2.2.2.2.2.2.1.2.1,asN.1)).bind fun atx=>
 (al (x.2.2.2.2.2.2.2.1,atx.1.1,())).bind fun atw=>
 let ati:=(w64 (x.2.2.2.2.2.2.2.2.1 - 1))
 some (.inl (x.1,x.2.1,asN.2.1,x.2.2.2.1,x.2.2.2.2.1,x.2.2.2.2.2.1,x.2.2.2.2.2.2.1,atw.1.1,ati,()))
 else none
 else
 some (.inr (.inr (x.1,x.2.1,x.2.2.1,x.2.2.2.1,x.2.2.2.2.1,x.2.2.2.2.2.1,x.2.2.2.2.2.2.1,x.2.2.2.2.2.2.2.1,())))
def oy:=aV kX
def qG:Loop:=⟨[(2,Z14),(3,Z18),(4,Z23),(5,Z29),(6,Z14),(11,.int .i64),(12,Z0),(15,Z13),(16,.int .i64)],[(2,Z14),(3,Z18),(4,Z23),(5,Z29),(6,Z14),(11,.int .i64),(12,Z0),(15,Z13)],2,[],oy⟩
def Di:LF Tryz.f11 [] [1,1,1,1,1,1,0,1,0,1,1,1,0,1,0,0] qG:=sq (v:= .nil) me (b:=kX) kN
def kY(x:Y3×Y7×Y8×Y9×Y3×Int×auC):Rnd (Y3×Y7×Y8×Y9×Y3×Int×auC) (Y3×Y7×auC) (Y3×Y7×Y8×Y9×Y3×auC):=
 if decide (x.2.2.2.2.2.1 < (x.2.2.2.1.2.2.2.1.length:Int)) then
 if inb x.2.2.2.2.2.1 x.2.2.2.1.2.2.2.1.length then
 if an ((rd (dfl .anJ) x.2.2.2.1.2.2.2.1 x.2.2.2.2.2.1).data).size then
 (ax ((aL ((rd (dfl .anJ) x.2.2.2.1.2.2.2.1 x.2.2.2.2.2.1).data)),())).bind fun r85=>
 (bH (X:=Y3×Y7×Y8×Y9×Y3×Int×Y7×Bool×auC) (fun j86=>
 if j86.2.2.2.2.2.2.2.1 then
 if inb j86.2.2.2.2.2.2.1.2.2.1 j86.2.2.2.1.2.1.length then
 let v88:=(rd (dfl .anx) j86.2.2.2.1.2.1 j86.2.2.2.2.2.2.1.2.2.1).id
 let v89:=(rd (dfl .anx) j86.2.2.2.1.2.1 j86.2.2.2.2.2.2.1.2.2.1).up
 let v90:=(rd (dfl .anx) j86.2.2.2.1.2.1 j86.2.2.2.2.2.2.1.2.2.1).log
 let v91:=(rd (dfl .anx) j86.2.2.2.1.2.1 j86.2.2.2.2.2.2.1.2.2.1).fo
 let v92:=(rd (dfl .anx) j86.2.2.2.1.2.1 j86.2.2.2.2.2.2.1.2.2.1).anw
 some (.inr (.inl ((v88,v89,v90,v91,v92,()),j86.2.2.2.2.2.2.1,())))
 else none
 else
 let v93:=(w64 (j86.2.2.2.2.2.1+1))
 some (.inl (j86.1,j86.2.1,j86.2.2.1,j86.2.2.2.1,j86.2.2.2.2.1,v93,())))
 ((if r85.1.2.1 then
 (ab (x.2.2.1,2,())).bind fun r87=>
 some (.inr (x.1,x.2.1,r87.2.1,x.2.2.2.1,x.2.2.2.2.1,x.2.2.2.2.2.1,r85.1.1,(decide (r87.1.1=0)),()))
 else
 some (.inr (x.1,x.2.1,x.2.2.1,x.2.2.2.1,x.2.2.2.2.1,x.2.2.2.2.2.1,r85.1.1,false,())))))
 else none
 else none
 else
 some (.inr (.inr (x.1,x.2.1,x.2.2.1,x.2.2.2.1,x.2.2.2.2.1,())))
def oz:=aV kY
def qH:Loop:=⟨[(2,Z14),(3,Z18),(4,Z23),(5,Z20),(6,Z14),(7,.int .i64)],[(2,Z14),(3,Z18),(4,Z23),(5,Z20),(6,Z14)],0,[(2,Z13),(3,Z18)],oz⟩
def Dl:LF Tryz.f11 [] [1,1,1,0,1,0,0] qH:=sq (v:=t1 (.two (.one (t1 (.join [(2,Z14),(3,Z18),(4,Z23),(5,Z20),(6,Z14),(7,.int .i64),(8,Z18),(52,.bool)] .nil .nil))) .nil)) me (b:=kY) kN
def bk(x:List Int×auC):Option ((Y3×Y7×auC)×auC):=
 (o3 x).bind fun r1=>
 (jF r1.1).bind fun r2=>
 (aK (oz ((0,false,noB,0,([]:List anD),()),(0,0,0,0,0,0,0,0,0,noB,()),r2.2.1,r2.1.1,r2.1.2.1,0,()))
 (fun y94=>some (y94,()))
 (fun y94=>(gY ((y94.2.2.1,y94.2.2.2.1.1,y94.2.2.2.1.2.1,y94.2.2.2.1.2.2.1,y94.2.2.2.1.2.2.2.1,y94.2.2.2.1.2.2.2.2.1,y94.2.2.2.1.2.2.2.2.2.1,([]:List Event),()),())).bind fun r95=>
 (bH (X:=Y3×Y7×Y8×Y3×auC) (fun ar2=>
 (pt (ar2.2.2.1,())).bind fun arW=>
 some ((ar2.2.2.2.1,(arW.1.1.1,arW.1.1.2.1,ar2.2.2.2.1.1,arW.1.1.2.2.2),()),()))
 ((bH (X:=Y3×Y7×Y8×Y9×Y3×Int×Y0×Bool×auC) (fun an7=>
 if an7.2.2.2.2.2.2.2.1 then
 (eF (an7.2.2.2.2.2.1,an7.2.2.2.2.2.2.1.2.2.1,())).bind fun aqo=>
 (ab (an7.2.2.1,3,())).bind fun arX=>
 if decide (arX.1.1=0) then
 if inb an7.2.2.2.2.2.1 an7.2.2.2.1.2.1.length then
 (ab (arX.2.1,6,())).bind fun asP=>
 (ab (asP.2.1,8,())).bind fun atA=>
 let v152:=(rd (dfl .anx) an7.2.2.2.1.2.1 an7.2.2.2.2.2.1).id
 let asF:=(rd (dfl .anx) an7.2.2.2.1.2.1 an7.2.2.2.2.2.1).up
 let v154:=(rd (dfl .anx) an7.2.2.2.1.2.1 an7.2.2.2.2.2.1).log
 let atn:=(rd (dfl .anx) an7.2.2.2.1.2.1 an7.2.2.2.2.2.1).fo
 let atm:=(rd (dfl .anx) an7.2.2.2.1.2.1 an7.2.2.2.2.2.1).anw
 let v157:=(w64 (2+(w64 (au6 asP.1.1 5))))
 let atl:=(w64 (an7.2.2.2.2.2.2.1.2.2.2.1+(w64 (au6 atA.1.1 7))))
 some (.inl (((v152,asF,v154,atn,atm,()),(v157,aqo.1.1,an7.2.2.2.2.2.1,an7.2.2.2.2.2.2.1.1,an7.2.2.2.2.2.2.1.2.1,an7.2.2.2.2.2.2.1.2.2.1,atl,0,0,noB,()),()),()))
 else none
 else
 if inb aqo.1.1 an7.2.2.2.1.2.1.length then
 let v159:=(rd (dfl .anx) an7.2.2.2.1.2.1 aqo.1.1).id
 let v160:=(rd (dfl .anx) an7.2.2.2.1.2.1 aqo.1.1).up
 let atk:=(rd (dfl .anx) an7.2.2.2.1.2.1 aqo.1.1).log
 let v162:=(rd (dfl .anx) an7.2.2.2.1.2.1 aqo.1.1).fo
 let atj:=(rd (dfl .anx) an7.2.2.2.1.2.1 aqo.1.1).anw
 (ab (arX.2.1,8,())).bind fun asO=>
 (aK (oy (an7.1,an7.2.1,asO.2.1,an7.2.2.2.1,an7.2.2.2.2.1,an7.2.2.2.2.2.1,an7.2.2.2.2.2.2.1,(v159,v160,atk,v162,atj,()),asO.1))
 (fun _=>none)
 (fun aoK=>(if inb aoK.2.2.2.2.2.1 aoK.2.2.2.1.2.1.length then
 (ab (aoK.2.2.1,9,())).bind fun asM=>
 (dk (((rd (dfl .anx) aoK.2.2.2.1.2.1 aoK.2.2.2.2.2.1).id,(rd (dfl .anx) aoK.2.2.2.1.2.1 aoK.2.2.2.2.2.1).up,(rd (dfl .anx) aoK.2.2.2.1.2.1 aoK.2.2.2.2.2.1).log,(rd (dfl .anx) aoK.2.2.2.1.2.1 aoK.2.2.2.2.2.1).fo,(rd (dfl .anx) aoK.2.2.2.1.2.1 aoK.2.2.2.2.2.1).anw,()),aoK.2.2.2.2.2.2.1.1,aoK.2.2.2.2.2.2.1.2.1,asM.1)).bind fun asL=>
 if asL.1.2.1 then
 some (.inl ((aoK.2.2.2.2.2.2.2.1,asL.1.1,()),()))
 else
 some (.inr (aoK.1,aoK.2.1,asM.2.1,aoK.2.2.2.2.1,()))
 else none)))
 else none
 else
 some (.inr (an7.1,an7.2.1,an7.2.2.1,an7.2.2.2.2.1,())))
 ((if r95.1.2.2.1 then
 (ab (r95.2.1.1,4,())).bind fun asQ=>
 some (.inr (y94.1,y94.2.1,asQ.2.1,y94.2.2.2.1,y94.2.2.2.2.1,r95.1.1,r95.1.2.1,(decide (0 < asQ.1.1)),()))
 else
 some (.inr (y94.1,y94.2.1,r95.2.1.1,y94.2.2.2.1,y94.2.2.2.2.1,r95.1.1,r95.1.2.1,false,())))))))))
def cf:Ent:=(11,none,⟨[.fz .u8],[Z8,Z16],bk⟩)
def bU:SQ Tryz.prog cf:=sk (v:=t1 (t1 (t1 (.two (t1 (.one (.loop qH))) (t1 (t1 (.join [(2,Z14),(3,Z18),(4,Z23),(6,Z14)] (.join [(2,Z14),(3,Z18),(4,Z23),(5,Z29),(6,Z14),(11,.int .i64),(12,Z0),(75,.bool)] .nil (.two (t1 (t1 (t1 (.two (t1 (.one (.loop qG))) .nil)))) .nil)) .nil))))))) (fn:=Tryz.f11) me (kC Dl (kC Di kN))
def PJ:Cx:=cX [] [] []
def wJ:OKC Tryz.prog PJ af:=okc mixed (av)
def jV(x:List anD×List anD×Int×Int×auC):Rnd (List anD×List anD×Int×Int×auC) (Bool×auC) (List anD×List anD×Int×auC):=
 if inb x.2.2.1 x.1.length then
 if decide (x.2.2.2.1 < (((rd (dfl .half) x.1 x.2.2.1).got).length:Int)) then
 if inb x.2.2.1 x.1.length then
 if inb x.2.2.2.1 (((rd (dfl .half) x.1 x.2.2.1).got).length) then
 if inb x.2.2.1 x.2.1.length then
 if inb x.2.2.2.1 (((rd (dfl .half) x.2.1 x.2.2.1).got).length) then
 if !(decide ((rd (dfl .mixed) ((rd (dfl .half) x.1 x.2.2.1).got) x.2.2.2.1).nu=(rd (dfl .mixed) ((rd (dfl .half) x.2.1 x.2.2.1).got) x.2.2.2.1).nu)&&(decide ((rd (dfl .mixed) ((rd (dfl .half) x.1 x.2.2.1).got) x.2.2.2.1).da=(rd (dfl .mixed) ((rd (dfl .half) x.2.1 x.2.2.1).got) x.2.2.2.1).da)&&true)) then
 some (.inr (.inl (false,())))
 else
 some (.inl (x.1,x.2.1,x.2.2.1,(w64 (x.2.2.2.1+1)),()))
 else none
 else none
 else none
 else none
 else
 some (.inr (.inr (x.1,x.2.1,x.2.2.1,())))
 else none
def oN:=aV jV
def zO:Loop:=⟨[(0,.sl .half),(1,.sl .half),(5,.int .i64),(6,.int .i64)],[(0,.sl .half),(1,.sl .half),(5,.int .i64)],2,[(4,.bool)],oN⟩
def OS:LF Tryz.f53 [] [1,1,0,1,0,0,1,0,0,1,1,0,0] zO:=sq (v:= .nil) wJ (b:=jV) kN
def jW(x:List anD×List anD×Int×auC):Rnd (List anD×List anD×Int×auC) (Bool×auC) (auC):=
 if decide (x.2.2.1 < (x.1.length:Int)) then
 if inb x.2.2.1 x.1.length then
 if inb x.2.2.1 x.2.1.length then
 if !decide ((rd (dfl .half) x.1 x.2.2.1).fr=(rd (dfl .half) x.2.1 x.2.2.1).fr) then
 some (.inr (.inl (false,())))
 else
 if inb x.2.2.1 x.1.length then
 if inb x.2.2.1 x.2.1.length then
 if !decide ((rd (dfl .half) x.1 x.2.2.1).nu=(rd (dfl .half) x.2.1 x.2.2.1).nu) then
 some (.inr (.inl (false,())))
 else
 if inb x.2.2.1 x.1.length then
 if inb x.2.2.1 x.2.1.length then
 if !decide ((rd (dfl .half) x.1 x.2.2.1).to=(rd (dfl .half) x.2.1 x.2.2.1).to) then
 some (.inr (.inl (false,())))
 else
 if inb x.2.2.1 x.1.length then
 if inb x.2.2.1 x.2.1.length then
 if !decide ((rd (dfl .half) x.1 x.2.2.1).un=(rd (dfl .half) x.2.1 x.2.2.1).un) then
 some (.inr (.inl (false,())))
 else
 if inb x.2.2.1 x.1.length then
 if inb x.2.2.1 x.2.1.length then
 if !decide ((rd (dfl .half) x.1 x.2.2.1).sz=(rd (dfl .half) x.2.1 x.2.2.1).sz) then
 some (.inr (.inl (false,())))
 else
 if inb x.2.2.1 x.1.length then
 if inb x.2.2.1 x.2.1.length then
 if !decide ((((rd (dfl .half) x.1 x.2.2.1).got).length:Int)=(((rd (dfl .half) x.2.1 x.2.2.1).got).length:Int)) then
 some (.inr (.inl (false,())))
 else
 (aK (oN (x.1,x.2.1,x.2.2.1,0,()))
 (fun y7=>some (.inr (.inl y7)))
 (fun y7=>some (.inl (y7.1,y7.2.1,(w64 (y7.2.2.1+1)),()))))
 else none
 else none
 else none
 else none
 else none
 else none
 else none
 else none
 else none
 else none
 else none
 else none
 else
 some (.inr (.inr ()))
def oO:=aV jW
def zP:Loop:=⟨[(0,.sl .half),(1,.sl .half),(5,.int .i64)],[],0,[(4,.bool)],oO⟩
def O0:LF Tryz.f53 [] [1,1,0,1,0,0] zP:=sq (v:=t1 (.two (.one (t1 (t1 (.one (.loop zO))))) .nil)) wJ (b:=jW) (kC OS kN)
def fT(x:List anD×List anD×auC):Option ((Bool×auC)×auC):=
 if !decide ((x.1.length:Int)=(x.2.1.length:Int)) then
 some ((false,()),())
 else
 (aK (oO (x.1,x.2.1,0,()))
 (fun y8=>some (y8,()))
 (fun y8=>some ((true,()),())))
def EF:Ent:=(53,none,⟨[.fz .half,.fz .half],[.bool],fT⟩)
def Ii:SQ Tryz.prog EF:=sk (v:=t1 (t1 (.two (t1 (.one (.loop zP))) .nil))) (fn:=Tryz.f53) wJ (kC O0 kN)
def PI:Cx:=cX [EF] [] [(25,29)]
def SF:OKC Tryz.prog PI af:=okc mixed (gC Ii (av))
def aq(x:Y3×Y3×auC):Option ((Bool×auC)×auC):=
 if decide (x.1.1=x.2.1.1) then
 if decide (x.1.2.1=x.2.1.2.1) then
 if aX (decide (x.1.2.2.1=x.2.1.2.2.1)&&(decide (x.1.2.2.2.1=x.2.1.2.2.2.1)&&true)) ((fT (x.1.2.2.2.2.1,x.2.1.2.2.2.2)).isSome) then
 let v2:=((decide (x.1.2.2.1=x.2.1.2.2.1)&&(decide (x.1.2.2.2.1=x.2.1.2.2.2.1)&&true))&&(((fT (x.1.2.2.2.2.1,x.2.1.2.2.2.2)).getD ((false,()),())).1.1))
 some ((v2,()),())
 else none
 else
 if aX false ((fT (x.1.2.2.2.2.1,x.2.1.2.2.2.2)).isSome) then
 some ((false,()),())
 else none
 else
 if aX false ((fT (x.1.2.2.2.2.1,x.2.1.2.2.2.2)).isSome) then
 some ((false,()),())
 else none
def eL:Ent:=(14,none,⟨[Z8,Z8],[.bool],aq⟩)
def dw:SQ Tryz.prog eL:=sk (v:= .nil) (fn:=Tryz.f14) SF kN
def PK:Cx:=cX [] [] []
def EN:OKC Tryz.prog PK af:=okc mixed (av)
def jX(x:List Frame×List Frame×Int×auC):Rnd (List Frame×List Frame×Int×auC) (Bool×auC) (auC):=
 if decide (x.2.2.1 < (x.1.length:Int)) then
 if inb x.2.2.1 x.1.length then
 if inb x.2.2.1 x.2.1.length then
 if !(aha ((rd (dfl .frame) x.1 x.2.2.1).ki) ((rd (dfl .frame) x.1 x.2.2.1).src) ((rd (dfl .frame) x.1 x.2.2.1).dst) ((rd (dfl .frame) x.1 x.2.2.1).fr) ((rd (dfl .frame) x.1 x.2.2.1).nu) ((rd (dfl .frame) x.1 x.2.2.1).to) ((rd (dfl .frame) x.1 x.2.2.1).un) ((rd (dfl .frame) x.1 x.2.2.1).sz) ((rd (dfl .frame) x.1 x.2.2.1).mix) ((rd (dfl .frame) x.1 x.2.2.1).da) ((rd (dfl .frame) x.2.1 x.2.2.1).ki) ((rd (dfl .frame) x.2.1 x.2.2.1).src) ((rd (dfl .frame) x.2.1 x.2.2.1).dst) ((rd (dfl .frame) x.2.1 x.2.2.1).fr) ((rd (dfl .frame) x.2.1 x.2.2.1).nu) ((rd (dfl .frame) x.2.1 x.2.2.1).to) ((rd (dfl .frame) x.2.1 x.2.2.1).un) ((rd (dfl .frame) x.2.1 x.2.2.1).sz) ((rd (dfl .frame) x.2.1 x.2.2.1).mix) ((rd (dfl .frame) x.2.1 x.2.2.1).da)) then
 some (.inr (.inl (false,())))
 else
 some (.inl (x.1,x.2.1,(w64 (x.2.2.1+1)),()))
 else none
 else none
 else
 some (.inr (.inr ()))
def oP:=aV jX
def zQ:Loop:=⟨[(0,.sl .frame),(1,.sl .frame),(5,.int .i64)],[],0,[(4,.bool)],oP⟩
def O1:LF Tryz.f15 [] [1,1,0,1,0,0] zQ:=sq (v:= .nil) EN (b:=jX) kN
def aT(x:List Frame×List Frame×auC):Option ((Bool×auC)×auC):=
 if !decide ((x.1.length:Int)=(x.2.1.length:Int)) then
 some ((false,()),())
 else
 (aK (oP (x.1,x.2.1,0,()))
 (fun y2=>some (y2,()))
 (fun y2=>some ((true,()),())))
def fV:Ent:=(15,none,⟨[.fz .frame,.fz .frame],[.bool],aT⟩)
def eB:SQ Tryz.prog fV:=sk (v:=t1 (t1 (.two (t1 (.one (.loop zQ))) .nil))) (fn:=Tryz.f15) EN (kC O1 kN)
def NB:Cx:=cX [kt,ot] [] []
def Qe:OKC Tryz.prog NB af:=okc mixed (gC gS (gC nq (av)))
def nZ(x:Y4×Int×auC):Option ((Y4×auC)×auC):=
 (fu (x.1,())).bind fun r2=>
 if !r2.1.1 then
 some (((noB,0,()),()),())
 else
 if decide (0≤(w64 (x.1.2.1+(if 0 < (if(w64 ((x.1.1.size:Int) - x.1.2.1)) < x.2.1 then(w64 ((x.1.1.size:Int) - x.1.2.1)) else x.2.1) then(if(w64 ((x.1.1.size:Int) - x.1.2.1)) < x.2.1 then(w64 ((x.1.1.size:Int) - x.1.2.1)) else x.2.1) else 0))))&&decide ((w64 (x.1.2.1+(if 0 < (if(w64 ((x.1.1.size:Int) - x.1.2.1)) < x.2.1 then(w64 ((x.1.1.size:Int) - x.1.2.1)) else x.2.1) then(if(w64 ((x.1.1.size:Int) - x.1.2.1)) < x.2.1 then(w64 ((x.1.1.size:Int) - x.1.2.1)) else x.2.1) else 0)))≤(x.1.1.size:Int)) then
 let v3:=(x.1.1.extract (0) (auK (w64 (x.1.2.1+(if 0 < (if(w64 ((x.1.1.size:Int) - x.1.2.1)) < x.2.1 then(w64 ((x.1.1.size:Int) - x.1.2.1)) else x.2.1) then(if(w64 ((x.1.1.size:Int) - x.1.2.1)) < x.2.1 then(w64 ((x.1.1.size:Int) - x.1.2.1)) else x.2.1) else 0)))))
 (eV (v3,())).bind fun r4=>
 if decide (0≤r4.1.2.1)&&decide (r4.1.2.1≤(v3.size:Int)) then
 let v5:=(v3.extract (0) (auK r4.1.2.1))
 some (((v5,r4.1.2),()),())
 else none
 else none
def Cy:Ent:=(72,none,⟨[Z9,.int .i64],[Z9],nZ⟩)
def Gi:SQ Tryz.prog Cy:=sk (v:= .nil) (fn:=Tryz.f72) Qe kN
def K9:Cx:=cX [dM,Cy] [] []
def N6:OKC Tryz.prog K9 af:=okc mixed (gC cP (gC Gi (av)))
def iO(x:Y3×Int×auC):Option ((Y3×auC)×auC):=
 (cF (x.1,())).bind fun r2=>
 if !r2.1.1 then
 some (((0,false,noB,0,([]:List anD),()),()),())
 else
 (nZ ((x.1.2.2.1,x.1.2.2.2.1,()),x.2)).bind fun r3=>
 some (((x.1.1,false,r3.1.1.1,r3.1.1.2.1,([]:List anD),()),()),())
def tr:Ent:=(30,none,⟨[Z8,.int .i64],[Z15],iO⟩)
def tX:SQ Tryz.prog tr:=sk (v:= .nil) (fn:=Tryz.f30) N6 kN
def K6:Cx:=cX [dM,ey] [] []
def N3:OKC Tryz.prog K6 af:=okc mixed (gC cP (gC dE (av)))
def iN(x:Y3×auC):Option ((Y3×auC)×auC):=
 (cF x).bind fun r2=>
 if !r2.1.1 then
 some (((0,false,noB,0,([]:List anD),()),()),())
 else
 (bR x).bind fun r3=>
 some (((r3.1.1.1,true,r3.1.1.2.2),()),())
def Ar:Ent:=(68,none,⟨[Z8],[Z15],iN⟩)
def E3:SQ Tryz.prog Ar:=sk (v:= .nil) (fn:=Tryz.f68) N3 kN
def VW:Cx:=cX [bW,tr,Ar] [] []
def X9:OKC Tryz.prog VW af:=okc mixed (gC bE (gC tX (gC E3 (av))))
def o7(x:Y3×auC):Option ((Y1×auC)×auC):=
 (iO (x.1,0,())).bind fun r1=>
 (iN r1.1).bind fun r2=>
 (bd r2.1).bind fun r3=>
 some (r3.1,())
def Ba:Ent:=(27,none,⟨[Z8],[Z7],o7⟩)
def zM:SQ Tryz.prog Ba:=sk (v:= .nil) (fn:=Tryz.f27) X9 kN
def GZ:Cx:=cX [cf,cU,cV,eL,fV,Ba] [] [(39,42),(67,86),(97,116)]
def jE:OKC Tryz.prog GZ af:=okc mixed (gC bU (gC cc (gC cd (gC dw (gC eB (gC zM (av)))))))
def nh(x:Y7×Y3×List Frame×Int×Y1×Bool×Int×auC):Rnd (Y7×Y3×List Frame×Int×Y1×Bool×Int×auC) (auC) (Y7×Y3×List Frame×Int×Bool×auC):=
 if decide (x.2.2.2.2.2.2.1 < (x.2.2.2.2.1.2.2.2.2.1.length:Int)) then
 if aX (!x.2.2.2.2.2.1) (inb x.2.2.2.2.2.2.1 x.2.2.2.2.1.2.2.2.2.1.length) then
 if aX ((!x.2.2.2.2.2.1)&&(decide ((rd (dfl .mark) x.2.2.2.2.1.2.2.2.2.1 x.2.2.2.2.2.2.1).mf=x.1.2.2.2.1))) (inb x.2.2.2.2.2.2.1 x.2.2.2.2.1.2.2.2.2.1.length) then
 let v89:=(x.2.2.2.2.2.1||((decide ((rd (dfl .mark) x.2.2.2.2.1.2.2.2.2.1 x.2.2.2.2.2.2.1).mf=x.1.2.2.2.1))&&(decide ((rd (dfl .mark) x.2.2.2.2.1.2.2.2.2.1 x.2.2.2.2.2.2.1).mn=x.1.2.2.2.2.1))))
 let v90:=(w64 (x.2.2.2.2.2.2.1+1))
 some (.inl (x.1,x.2.1,x.2.2.1,x.2.2.2.1,x.2.2.2.2.1,v89,v90,()))
 else none
 else none
 else
 some (.inr (.inr (x.1,x.2.1,x.2.2.1,x.2.2.2.1,x.2.2.2.2.2.1,())))
def jY:=aV nh
def tT:Loop:=⟨[(4,Z18),(7,Z13),(8,.sl .frame),(9,.int .i64),(10,Z4),(11,.bool),(13,.int .i64)],[(4,Z18),(7,Z13),(8,.sl .frame),(9,.int .i64),(11,.bool)],4,[],jY⟩
def Ga:LF Tryz.f9 [] [1,1,1,1,1,1,0,1,0,0,1,0,0,1,1,1,1,0,1,0,0] tT:=sq (v:= .nil) jE (b:=nh) kN
def ni(x:Y7×Y3×List Frame×Int×Y1×Bool×Int×auC):Rnd (Y7×Y3×List Frame×Int×Y1×Bool×Int×auC) (auC) (Y7×Y3×List Frame×Int×Y1×Bool×auC):=
 if decide (x.2.2.2.2.2.2.1 < (x.2.2.2.2.1.2.2.2.1.length:Int)) then
 if aX (!x.2.2.2.2.2.1) (inb x.2.2.2.2.2.2.1 x.2.2.2.2.1.2.2.2.1.length) then
 if aX ((!x.2.2.2.2.2.1)&&(decide ((rd (dfl .note) x.2.2.2.2.1.2.2.2.1 x.2.2.2.2.2.2.1).fr=x.1.2.2.2.1))) (inb x.2.2.2.2.2.2.1 x.2.2.2.2.1.2.2.2.1.length) then
 let v82:=(x.2.2.2.2.2.1||((decide ((rd (dfl .note) x.2.2.2.2.1.2.2.2.1 x.2.2.2.2.2.2.1).fr=x.1.2.2.2.1))&&(decide ((rd (dfl .note) x.2.2.2.2.1.2.2.2.1 x.2.2.2.2.2.2.1).nu=x.1.2.2.2.2.1))))
 let v83:=(w64 (x.2.2.2.2.2.2.1+1))
 some (.inl (x.1,x.2.1,x.2.2.1,x.2.2.2.1,x.2.2.2.2.1,v82,v83,()))
 else none
 else none
 else
 some (.inr (.inr (x.1,x.2.1,x.2.2.1,x.2.2.2.1,x.2.2.2.2.1,x.2.2.2.2.2.1,())))
def jZ:=aV ni
def tU:Loop:=⟨[(4,Z18),(7,Z13),(8,.sl .frame),(9,.int .i64),(10,Z4),(11,.bool),(12,.int .i64)],[(4,Z18),(7,Z13),(8,.sl .frame),(9,.int .i64),(10,Z4),(11,.bool)],2,[],jZ⟩
def Gb:LF Tryz.f9 [] [1,1,1,1,1,1,0,1,0,0,1,0,0,1,1,1,0,1,0,0] tU:=sq (v:= .nil) jE (b:=ni) kN
def iI(x:Y7×Y3×List Frame×Int×auC):Rnd (Y7×Y3×List Frame×Int×auC) (Bool×auC) (auC):=
 if decide (x.2.2.2.1 < (x.2.2.1.length:Int)) then
 if inb x.2.2.2.1 x.2.2.1.length then
 if !decide ((rd (dfl .frame) x.2.2.1 x.2.2.2.1).ki=2) then
 some (.inl (x.1,x.2.1,x.2.2.1,(w64 (x.2.2.2.1+1)),()))
 else
 (o7 (x.2.1,())).bind fun r77=>
 (aK (jZ (x.1,x.2.1,x.2.2.1,x.2.2.2.1,r77.1.1,false,0,()))
 (fun _=>none)
 (fun y84=>(aK (jY (y84.1,y84.2.1,y84.2.2.1,y84.2.2.2.1,y84.2.2.2.2.1,y84.2.2.2.2.2.1,0,()))
 (fun _=>none)
 (fun y91=>(if !y91.2.2.2.2.1 then
 some (.inr (.inl (false,())))
 else
 some (.inl (y91.1,y91.2.1,y91.2.2.1,(w64 (y91.2.2.2.1+1)),())))))))
 else none
 else
 some (.inr (.inr ()))
def j0:=aV iI
def tV:Loop:=⟨[(4,Z18),(7,Z13),(8,.sl .frame),(9,.int .i64)],[],0,[(2,.bool)],j0⟩
def Ge:LF Tryz.f9 [] [1,1,1,1,1,1,0,1,0,0] tV:=sq (v:=t1 (.two (.one (t1 (t1 (t1 (.two (t1 (.one (.loop tU))) (.two (t1 (.one (.loop tT))) .nil)))))) .nil)) jE (b:=iI) (kC Gb (kC Ga kN))
def gb(x:List Int×auC):Option ((Bool×auC)×auC):=
 if decide (1048576 < (x.1.length:Int)) then
 some ((true,()),())
 else
 (bk x).bind fun r1=>
 (al r1.1).bind fun r2=>
 (bq r1.1).bind fun r3=>
 (aq (r3.1.1,r2.1.1,())).bind fun r6=>
 if aX (!(!r6.1.1)) ((aT (r3.1.2.1,r2.1.2)).isSome) then
 if(!r6.1.1)||(!(((aT (r3.1.2.1,r2.1.2)).getD ((false,()),())).1.1)) then
 some ((false,()),())
 else
 (aK (j0 (r1.1.2.1,r3.1.1,r3.1.2.1,0,()))
 (fun y92=>some (y92,()))
 (fun y92=>some ((true,()),())))
 else none
def Iw:Ent:=(9,none,⟨[.fz .u8],[.bool],gb⟩)
def BX:SQ Tryz.prog Iw:=sk (v:=t1 (t1 (t1 (t1 (t1 (t1 (.two (t1 (.one (.loop tV))) .nil))))))) (fn:=Tryz.f9) jE (kC Ge kN)
end Go.VS
end
end
section
noncomputable section
namespace Go.VS
open Go
def akP{l:List Mark}{f n:Int}(h:0≤eC l f n):(eC l f n).toNat < l.length∧((eC l f n).toNat:Int)=eC l f n∧(mA l (eC l f n).toNat).mf=f∧(mA l (eC l f n).toNat).mn=n:=by
 rcases bZ l.length (fun i=>decide ((mA l i).mf=f)&&decide ((mA l i).mn=n)) with⟨h1,_⟩ | ⟨i,h1,h2,h3,_⟩
 ·unfold eC at h;omega
 ·have e:eC l f n=(i:Int):=h1;rw[e];simp at h3;exact⟨h2,rfl,h3.1,h3.2⟩
end Go.VS
end
end
section
noncomputable section
namespace Go.VS
open Go
def alv{lg:auB}{fo keep:Int}(h0:0≤fo)(h1:fo≤lg.size)(h2:lg.size≤2400):
  w64 (fo+(if 0 < (if w64 ((lg.size:Int) - fo) < keep then w64 ((lg.size:Int) - fo) else keep) then(if w64 ((lg.size:Int) - fo) < keep then w64 ((lg.size:Int) - fo) else keep) else 0))=(wG lg fo keep:Int)∧wG lg fo keep≤lg.size:=by
 rw[ai (n:=(lg.size:Int) - fo) (by omega) (by omega)];unfold wG;by_cases h3:(lg.size:Int) - fo < keep
 ·rw[aus h3];by_cases h4:(0:Int) < (lg.size:Int) - fo
  ·rw[aus h4,ai (by omega) (by omega)];omega
  ·rw[aur h4,ai (by omega) (by omega)];omega
 ·rw[aur h3];by_cases h4:(0:Int) < keep
  ·rw[aus h4,ai (by omega) (by omega)];omega
  ·rw[aur h4,ai (by omega) (by omega)];omega
def Pa{lg:auB}{fo keep:Int}(hl:lg.size≤1048576):nZ ((lg,fo,()),keep,())=some ((((M8 lg fo keep).1,(M8 lg fo keep).2,()),()),()):=by
 unfold nZ M8;simp only[nt hl,auE];rcases tf (cr lg fo) with e | e
 ·have hr:=mZ e;obtain⟨c1,c2⟩:=alv (keep:=keep) hr.2.1 hr.2.2 hr.1;simp only[e,auG,auD,auy,c1,auV];have hz:(lg.extract 0 (wG lg fo keep)).size=wG lg fo keep:=by rw[ee (by omega)];omega
  have hg:=qe (lg.extract 0 (wG lg fo keep));rw[aus (by simp;omega),nY (by omega)];simp only[auE,auV];rw[aus (by simp;omega)]
 ·simp only[e,auH,auD,auy]
def Ab{k:anv}(sm:cR k)(keep:Int):iO (tKp k,keep,())=some ((tKp (if ae k then faM k keep else zKp),()),()):=by
 unfold iO;rw[eK sm];rcases tf (ae k) with h | h
 ·simp only[auE,h,auG,auD,auy,Pa sm.1,acz h]
 ·simp only[auE,h,auH,auy,auD]
def MV{k:anv}(h:ae k=true):iN (tKp k,())=some ((tKp (riM k),()),()):=by
 unfold iN riM;rw[eK (eW h)];simp only[auE,h,auG,auD,dD (eW h)]
def ahE(n:anz):L (gh n)=[116,97,107,101]++32::L (wr n):=by unfold gh;simp only[ua,L_B];rfl
def aca{k:anE}{r:auB}(hk:aw k=true):bV k r=(qX k r).filter aw:=by
 unfold bV ic;rw[aus hk];cases (qX k r).filter aw<;>rfl
def adi{k:anE}{n:anz}(hn:ay n=true):cL k kF (wr n)=if n.fr=k.id then none else Bl k n:=by
 unfold cL iR;by_cases h:n.fr=k.id
 ·simp[x8,x9,AJ,ya,wu,xB hn,h]
 ·simp[x8,x9,AJ,ya,wu,xB hn,h]
def Dh{k:anE}{n:anz}(hk:aw k=true)(hn:ay n=true):bV k (gh n)=(if n.fr=k.id then none else Bl k n).filter aw:=by
 rw[aca hk,qW YK (ahE n),B_L];rw[show cL k (B [116,97,107,101]) (wr n)=_ from adi hn]
def aru{k o:anE}{n:anz}(hk:aw k=true)(hn:ay n=true)(h:bV k (gh n)=some o):arK k o n:=by
 rw[Dh hk hn]at h;have h:=(awe.1 h).1;split at h
 ·cases h
 unfold Bl at h;split at h
 ·cases h
 split at h
 ·cases h
 split at h
 ·cases h
 split at h
 ·cases h
 split at h
 ·cases h
 split at h
 ·cases h
 split at h
 ·rename_i h1;cases h;exact⟨rfl,rfl,rfl,.inl ⟨auv h1,rfl,rfl,rfl⟩⟩
 ·rename_i h1;cases h;exact⟨rfl,rfl,rfl,.inr ⟨by simpa using h1,rfl,rfl,rfl⟩⟩
def Fc{k:anv}{st o:anE}{r:auB}(h:an9 k st)(hr:bV st r=some o):Safe (wrR k r true).1 o∧(wrR k r true).2=true:=by
 unfold wrR;rw[h.stT,hr];exact⟨⟨KM (ZI h hr),rfl⟩,rfl⟩
def Td{k:anv}{st:anE}{r:auB}{f:Bool}(h:an9 k st)(hr:(wrR k r f).2=true): ∃ o,bV st r=some o:=by
 unfold wrR at hr;rw[h.stT]at hr;cases hc:bV st r with
 | none=>rw[hc]at hr;cases hr
 | some o=>exact⟨o,rfl⟩
def ajE{k:anv}(h:ae k=true)(hu:k.up=true){f:Frame}(hf:km f=true)(h1:f.ki=1):an9 (oX k (oU (fW (aN k.anw f).1 (aN k.anw f).2 f) (aN k.anw f).2)) (stT k):=by
 have kf:=ck h;have hv:=aaB.1 kf.hv;have hp:=uE hf h1;have aok:=C5 (hv:=k.anw) (f:=f);have aoG:=FP (hv:=k.anw) (f:=f) kf.hl;have hpf:=aaa hv hf h1;have haf:=aa2 hpf aok hp.2.1;have hal:(fW (aN k.anw f).1 (aN k.anw f).2 f).length=(aN k.anw f).1.length:=by unfold fW;rw[avZ]
 exact Ll (ib h) hu (by unfold oU;simp;omega) (afi haf _)
def Zh{k:anv}{f:Frame}(h:ae k=true){g:Frame}(hg:(aJ k f).2=[g])(h2:g.ki=2): ∃ o,Safe (aJ k f).1 o∧(0≤aP o.held f.fr f.nu∨0≤eC o.marks f.fr f.nu):=by
 have hk:=ib h;rw[lF h]at hg ⊢;unfold mH at hg ⊢;split at hg
 ·rename_i hc;rw[aus hc];simp only[auF]at hc;split at hg
  ·rename_i h1;rw[aus h1];unfold iX at hg ⊢;split at hg
   ·cases hg;exact absurd h2 (by show ¬ (3:Int)=2;decide)
   ·rename_i c1;rw[aur c1];split at hg
    ·rename_i c2;rw[aus c2];exact⟨stT k,⟨KM hk,rfl⟩,c2⟩
    ·rename_i c2;rw[aur c2];split at hg
     ·cases hg
     ·rename_i c3;rw[aur c3];unfold AI at hg ⊢;split at hg
      ·rename_i c4;rw[aus c4];split at hg
       ·rename_i c5;rw[aus c5];unfold lX at hg ⊢;split at hg
        ·rename_i c6;rw[aus c6];simp only[auF]at c6;have hi:=ajE h hc.1 hc.2.1 (auv h1);obtain⟨o,ho⟩:=Td hi c6.2;refine⟨o,(Fc hi ho).1, ?_⟩;exact(aru hi.kok c6.1 ho).has
        ·cases hg
       ·cases hg
      ·cases hg
  ·split at hg<;>cases hg
 ·cases hg
variable {E:List Event}
def agb{N:Nat}{s:_}(h:SOk E N s)(hN:N≤900000):Tot (gY (s,())) fun a=>SOk E (N+2) a.2.1∧a.2.1.2=s.2∧(a.1.2.2.1=true→0≤a.1.1∧a.1.1 < 4∧isN (cO a.1.1 a.1.2.1.2.2.1)=true):=by
 unfold gY;refine Tot.bind (au h.r (by omega)) fun r1 h1=>Tot.sum (P:=fun y=>SOk E (N+2) y.1∧y.1.2=s.2∧(0≤y.2.1∧y.2.1 < 4∧isN (cO y.2.1 y.2.2.1.2.2.1)=true)) (Q:=fun y=>SOk E (N+2) y.1∧y.1.2=s.2) ?_ (fun y hy=>Tot.ret ⟨hy.1,hy.2.1,fun _=>hy.2.2⟩) (fun y hy=>Tot.ret ⟨hy.1,hy.2,fun h=>by cases h⟩);refine Tot.loop (fun i x=>SOk E (N+1) x.1∧x.1.2=s.2∧0≤x.2.2.1∧x.2.2.1 < 4∧x.2.2.2.1=(i:Int)) _ 4 (fun i x hi hx=> ?_) ⟨h.rd h1.1 (by omega),rfl,h1.2.1,h1.2.2 (show(1:Int)≤4 by decide),rfl⟩;obtain⟨hs,hw,a0,a1,hx⟩:=hx;have hk:=hs.w.has a0 a1;unfold kK;refine Tot.ite (fun hc=> ?_) (fun hc=>Tot.ret ⟨hs.up (by omega),hw⟩);have hc:=auv hc;refine Tot.pos hk.2.2 (Tot.bind (ae5 hk.1) fun r6 h6=> ?_);subst h6;refine Tot.ite (fun hl=> ?_) (fun hl=> ?_)
 ·have hl:(0:Int) < ((stT (kA x.1.2.2.1 x.2.2.1.toNat)).held.length:Int):=auv hl;refine Tot.bind (au hs.r (by omega)) fun r7 h7=> ?_;have hlt:=h7.2.2 hl;refine Tot.pos (et h7.2.1 hlt) (Tot.ret ⟨hs.rd h7.1 (by omega),hw,a0,a1, ?_⟩);have hkk:=ib hk.1;have hid:=hkk.id;have h9:r7.1.1.toNat < (stT (kA x.1.2.2.1 x.2.2.1.toNat)).held.length:=by
   have:r7.1.1 < ((stT (kA x.1.2.2.1 x.2.2.1.toNat)).held.length:Int):=hlt;have:=h7.2.1;omega
  have:=Pe hkk.kok (n:=nA (stT (kA x.1.2.2.1 x.2.2.1.toNat)).held r7.1.1.toNat) (by rw[nA,auQ,auO h9];exact avm h9);rw[hid,hk.2.1]at this;exact this
 ·have hm:=am6 a0 a1;refine Tot.ret ⟨?_,hs,hw,hm.1,hm.2, ?_⟩
  ·omega
  ·show w64 (x.2.2.2.1+1)=_;rw[hx,ai (by omega) (by omega)];rfl
end Go.VS
namespace Go.VS
open Go
def alb{N:Nat}{r:List Int×Int×auC}(h:anU N r)(hN:N≤700000):Tot (pt (r,())) fun a=>anU (N+80) a.2.1:=by
 unfold pt;refine Tot.bind (aiH h (by omega)) fun r1 h1=>Tot.bind (au h1.1 (by omega)) fun r2 h2=>Tot.bind (au h2.1 (by omega)) fun r3 h3=>Tot.bind (Tot.eq lq) fun r4 _=> ?_;refine Tot.join (A:=fun j=>anU (N+64) j.1) ?_ (fun j hj=> ?_)
 ·refine Tot.ite (fun _=> ?_) (fun _=>Tot.ret (show anU (N+64) r3.2.1 from h3.1.up (by omega)));exact Tot.bind (au h3.1 (by omega)) fun r5 h5=>Tot.bind (Tot.eq (Fy r1.1.1.2.2.2.2.1 r5.1.1)) fun r6 _=>Tot.ret (show anU (N+64) r5.2.1 from h5.1.up (by omega))
 ·have hj:anU (N+64) j.1:=hj;refine Tot.bind (au hj (by omega)) fun r5 h5=> ?_;refine Tot.ite (fun _=> ?_) (fun _=> ?_)
  ·exact Tot.bind (au h5.1 (by omega)) fun r6 h6=>Tot.pos (et h6.2.1 (h6.2.2 (show(1:Int)≤2 by decide))) (Tot.ret (h6.1.up (by omega)))
  refine Tot.ite (fun _=> ?_) (fun _=> ?_)
  ·exact Tot.bind (au h5.1 (by omega)) fun r6 h6=>Tot.pos (et h6.2.1 (h6.2.2 (show(1:Int)≤3 by decide))) (Tot.ret (h6.1.up (by omega)))
  refine Tot.ite (fun _=> ?_) (fun _=> ?_)
  ·exact Tot.bind (au h5.1 (by omega)) fun r6 h6=>Tot.pos (et h6.2.1 (h6.2.2 (show(1:Int)≤3 by decide))) (Tot.ret (h6.1.up (by omega)))
  refine Tot.ite (fun _=> ?_) (fun _=> ?_)
  ·exact Tot.bind (aae h5.1 (by omega) (by decide)) fun r6 h6=>Tot.ret (h6.1.up (by omega))
  refine Tot.ite (fun _=> ?_) (fun _=>Tot.ret (h5.1.up (by omega)));exact Tot.bind (au h5.1 (by omega)) fun r6 h6=>Tot.ret (h6.1.up (by omega))
variable {E:List Event}
def Dw{k:anv}(f:Frame):cR (aJ k f).1:=by
 rcases tf (ae k) with h | h
 ·exact eW (vW h f)
 ·unfold aJ;rw[aur (by rw[h];exact avb)];exact⟨by decide,by decide,fun m hm=>by cases hm⟩
def agU{k:anv}{f:Frame}(hb:ao0 k)(g:WZ (fun _=>True) f):ao0 (aJ k f).1:=by
 rcases tf (ae k) with h | h
 ·exact acm h hb fun _=>g
 ·unfold aJ;rw[aur (by rw[h];exact avb)];exact fun m hm=>by cases hm
def amG{y:_}{f:Int×Int×Int×Int×Int×Int×Int×Int×Int×auB×auC}(hy:aqi y)(hf: ∃ g,f=tF g∧WZ (fun _=>True) g):Tot (al (y,f,())) fun a=>aqi a.1.1:=by
 obtain⟨k,rfl,hk,hb⟩:=hy;obtain⟨g,rfl,hg⟩:=hf;exact⟨_,cQ hk g,_,rfl,Dw _,agU hb hg⟩
def aiR(k:anv)(fr nu mix:Int):WZ (fun _=>True) (if ae k then uw k fr nu mix else(zF,false)).1:=by
 split
 ·rename_i h;rcases tf (uw k fr nu mix).2 with c | c
  ·exact aeR h (fun _ _=>trivial) c
  ·unfold uw at c ⊢;split
   ·rename_i h1;rw[aus h1]at c;cases c
   ·intro e;exact absurd e (show ¬ (0:Int)=1 by decide)
 ·intro e;exact absurd e (show ¬ (0:Int)=1 by decide)
def alU{y:_}{fr nu mix:Int}(hy:aqi y):Tot (dk (y,fr,nu,mix,())) fun a=> ∃ g,a.1.1=tF g∧WZ (fun _=>True) g:=by
 obtain⟨k,rfl,hk,_⟩:=hy;exact⟨_,uq hk fr nu mix,_,rfl,aiR k fr nu mix⟩
def ahV{b:List Int}(h:BOk b):Tot (ax (b,())) fun a=>a.1.2.1=true→0≤a.1.1.2.2.1∧a.1.1.2.2.1 < 4:=by
 refine⟨_,qc h,fun hu=> ?_⟩;have:=jv (th (CN hu)).2.1;show 0≤(dj b).1.dst∧(dj b).1.dst < 4;omega
def aec{l:List Int}(hb:BOk l):Tot (bk (l,())) fun a=>KOk a.1.1:=by
 unfold bk;refine Tot.bind (aiB hb) fun r1 h1=>Tot.bind (ab8 h1 (by decide)) fun r2 h2=> ?_;obtain⟨h2,hy,hk⟩:=h2;refine Tot.sum (P:=fun y=>KOk y.1) (Q:=fun y=>anU 320100 y.2.2.1∧y.2.2.2.1=r2.1.1∧y.2.2.2.2.1=r2.1.2.1) ?_ (fun y hy=>Tot.ret hy) (fun y hq=> ?_)
 ·refine Tot.loop (fun i x=>anU (320000+i) x.2.2.1∧x.2.2.2.1=r2.1.1∧x.2.2.2.2.1=r2.1.2.1∧x.2.2.2.2.2.1=(i:Int)) _ 30 (fun i x hi hx=> ?_) ⟨h2.up (by omega),rfl,rfl,rfl⟩;obtain⟨x1,x2,x3,x4⟩:=hx;unfold kY;refine Tot.ite (fun hc=> ?_) (fun hc=>Tot.ret ⟨x1.up (by omega),x2,x3⟩);have hc:=auv hc;have hyx:YOk x.2.2.2.1:=by rw[x2];exact hy
  have x0:0≤x.2.2.2.2.2.1:=by omega
  have hpc:=hyx.pc x0 hc;refine Tot.pos (et x0 hc) (Tot.pos (aH (by omega)) (Tot.bind (ahV (BOk.str _)) fun r3 h3=> ?_));refine Tot.join (A:=fun j=>anU (320000+(i+1)) j.2.2.1∧j.2.2.2.1=r2.1.1∧j.2.2.2.2.1=r2.1.2.1∧j.2.2.2.2.2.1=(i:Int)∧(j.2.2.2.2.2.2.2.1=true→0≤j.2.2.2.2.2.2.1.2.2.1∧j.2.2.2.2.2.2.1.2.2.1 < 4)) ?_ (fun j hj=> ?_)
  ·refine Tot.ite (fun hu=> ?_) (fun hu=>Tot.ret ⟨x1.up (by omega),x2,x3,x4,fun h=>by cases h⟩);exact Tot.bind (au x1 (by omega)) fun r4 h4=>Tot.ret ⟨h4.1,x2,x3,x4,fun _=>h3 hu⟩
  ·obtain⟨j1,j2,j3,j4,j5⟩:=hj;refine Tot.ite (fun hu=> ?_) (fun hu=>Tot.ret ⟨by have:=hpc.2;omega,j1,j2,j3,qT j4 (by omega)⟩);have hyj:YOk j.2.2.2.1:=by rw[j2];exact hy
   have:=hyj.kp (j5 hu).1 (j5 hu).2;exact Tot.pos this.1 (Tot.ret this.2.ok)
 ·obtain⟨q1,q2,q3⟩:=hq;have hyq:YOk y.2.2.2.1:=by rw[q2];exact hy
  have hkq:KOk y.2.2.2.2.1:=by rw[q3];exact hk
  have hs: ∃ E,SOk E 320100 (y.2.2.1,y.2.2.2.1.1,y.2.2.2.1.2.1,y.2.2.2.1.2.2.1,y.2.2.2.1.2.2.2.1,y.2.2.2.1.2.2.2.2.1,y.2.2.2.1.2.2.2.2.2.1,([]:List Event),()):=by
   obtain⟨w,ev,e,hw⟩:=hyq;rw[e];exact⟨ev,q1,w,[],rfl,by rw[avj];exact hw,avM _⟩
  obtain⟨E,hs⟩:=hs;refine Tot.bind (agb hs (by omega)) fun r3 h3=> ?_;obtain⟨h3,_,h3'⟩:=h3;refine Tot.join (A:=fun j=>anU 320200 j.2.2.1∧KOk j.2.2.2.1) ?_ (fun j hj=> ?_)
  ·refine Tot.join (A:=fun j=>anU 320110 j.2.2.1∧YOk j.2.2.2.1∧KOk j.2.2.2.2.1∧(j.2.2.2.2.2.2.2.1=true→0≤j.2.2.2.2.2.1∧j.2.2.2.2.2.1 < 4∧isN (cO j.2.2.2.2.2.1 j.2.2.2.2.2.2.1.2.2.1)=true)) ?_ (fun j hj=> ?_)
   ·refine Tot.ite (fun hu=> ?_) (fun hu=>Tot.ret ⟨h3.r.up (by omega),hyq,hkq,fun h=>by cases h⟩);exact Tot.bind (au h3.r (by omega)) fun r4 h4=>Tot.ret ⟨h4.1.up (by omega),hyq,hkq,fun _=>h3' hu⟩
   ·obtain⟨j1,j2,j3,j4⟩:=hj;refine Tot.ite (fun hu=> ?_) (fun hu=>Tot.ret ⟨j1.up (by omega),j3⟩);obtain⟨a0,a1,a2⟩:=j4 hu;have ha2:=jv a2;have k1:=j2.kp a0 a1;have k2:=j2.kp ha2.1 (by omega);refine Tot.bind (Tot.eq lq) fun r4 h4=> ?_;subst h4;refine Tot.bind (au j1 (by omega)) fun r5 h5=>Tot.ite (fun _=> ?_) (fun _=> ?_)
    ·exact Tot.pos k1.1 (Tot.bind (au h5.1 (by omega)) fun r6 h6=>Tot.bind (au h6.1 (by omega)) fun r7 h7=>Tot.ret k1.2.ok)
    ·refine Tot.pos k2.1 (Tot.bind (au h5.1 (by omega)) fun r6 h6=> ?_);have v0:=h6.2.1;have v1:r6.1.1 < 8:=h6.2.2 (show(1:Int)≤8 by decide);refine Tot.sum (P:=fun _=>False) (Q:=fun y=>anU 320150 y.2.2.1∧YOk y.2.2.2.1∧KOk y.2.2.2.2.1∧y.2.2.2.2.2.1=j.2.2.2.2.2.1∧aqi y.2.2.2.2.2.2.2.1) ?_ (fun _ h=>h.elim) (fun y hy=> ?_)
     ·refine Tot.loop (fun i x=>anU (320120+i) x.2.2.1∧YOk x.2.2.2.1∧KOk x.2.2.2.2.1∧x.2.2.2.2.2.1=j.2.2.2.2.2.1∧aqi x.2.2.2.2.2.2.2.1∧x.2.2.2.2.2.2.2.2.1=r6.1.1 - (i:Int)) _ r6.1.1.toNat (fun i x hi hx=> ?_) ⟨h6.1.up (by omega),j2,j3,rfl,k2.2,by show r6.1.1=r6.1.1 - 0;omega⟩;obtain⟨x1,x2,x3,x4,x5,x6⟩:=hx;unfold kX;refine Tot.ite (fun hc=> ?_) (fun hc=>Tot.ret ⟨x1.up (by omega),x2,x3,x4,x5⟩);have hc:=auv hc;have kx:=x2.kp (i:=x.2.2.2.2.2.1) (by omega) (by omega);refine Tot.pos kx.1 (Tot.bind (au x1 (by omega)) fun r7 h7=>Tot.bind (alU kx.2) fun r8 h8=>Tot.bind (amG x5 h8) fun r9 h9=>Tot.ret ⟨by omega,h7.1,x2,x3,x4,h9, ?_⟩);show w64 (x.2.2.2.2.2.2.2.2.1 - 1)=r6.1.1 - ((i+1:Nat):Int);rw[ai (by omega) (by omega)];omega
     ·obtain⟨y1,y2,y3,y4,y5⟩:=hy;have ky:=y2.kp (i:=y.2.2.2.2.2.1) (by omega) (by omega);refine Tot.pos ky.1 (Tot.bind (au y1 (by omega)) fun r7 h7=>Tot.bind (alU ky.2) fun r8 _=>Tot.ite (fun _=>Tot.ret y5.ok) (fun _=>Tot.ret ⟨h7.1.up (by omega),y3⟩))
  ·exact Tot.bind (alb hj.1 (by omega)) fun r5 h5=>Tot.ret hj.2
end Go.VS
namespace Go.VS
open Go
def ab6{l:List anD}{i:Nat}(hi:i < l.length)(hl:(hA l i).got.length≤1048576):oN (l,l,(i:Int),0,())=some (.inr (l,l,(i:Int),())):=
 cy (b:=jV) (fun k=>(l,l,(i:Int),(k:Int),())) (hA l i).got.length (fun k hk=>by
  unfold jV;simp only[ak hi,L4,ak hk,auy,auz,avT,auG,auD,aA hk (by omega:(hA l i).got.length≤9223372036854775807)];rw[aus (by simpa using hk)]) (by
  unfold jV;simp only[ak hi,L4,auy];rw[aur (by simp)])
def Xq{l:List anD}(hl:l.length≤1048576)(hs: ∀ h∈l,J8 h):fT (l,l,())=some ((true,()),()):=by
 have h0:oO (l,l,0,())=some (.inr ()):=
  cy (b:=jW) (fun k=>(l,l,(k:Int),())) l.length (fun k hk=>by
   have hg:(hA l k).got.length≤1048576:=by rw[qN hk];exact(hs _ (avm hk)).1
   unfold jW;simp only[ak hk,L4,bD hk,auy,auz,auG,auD,ab6 hk hg,c8,aA hk (by omega:l.length≤9223372036854775807)]) (by
   unfold jW;rw[aur (by simp)])
 unfold fT;simp only[auz,auG,auD,h0,c8]
def ca{k:anv}(sm:cR k):aq (tKp k,tKp k,())=some ((true,()),()):=by
 unfold aq;simp only[auz,auy,Xq sm.2.1 sm.2.2];rfl
def eZ{l:List Frame}(hl:l.length≤1048576):aT (l,l,())=some ((true,()),()):=by
 have h0:oP (l,l,0,())=some (.inr ()):=
  cy (b:=jX) (fun k=>(l,l,(k:Int),())) l.length (fun k hk=>by
   unfold jX;simp only[ak hk,bD hk,auy,aha,auz,avT,auG,auD,aA hk (by omega:l.length≤9223372036854775807)]) (by
   unfold jX;rw[aur (by simp)])
 unfold aT;simp only[auz,auG,auD,h0,c8]
def Cj(k:anv)(f:Frame):(aJ k f).2.length≤1048576:=by
 have:=(uD k f).1;omega
def Vy{l:List Int}(hb:BOk l): ∃ k f,bk (l,())=some ((tKp k,tF f,()),())∧cR k∧aiF k.anw:=by
 obtain⟨⟨⟨y,⟨a,b,c,d,e,f,g,h,i,j,_⟩,_⟩,_⟩,e1,k,e2,sm⟩:=aec hb;simp only at e2;subst e2;exact⟨k,⟨a,b,c,d,e,f,g,h,i,j⟩,e1,sm⟩
def uL{l:List Int}(hb:BOk l): ∃ k f,bk (l,())=some ((tKp k,tF f,()),())∧cR k:=by
 obtain⟨k,f,h1,h2,_⟩:=Vy hb;exact⟨k,f,h1,h2⟩
def Ut{k:anv}(h:ae k=true):o7 (tKp k,())=some ((tK (stT (riM (faM k 0))),()),()):=by
 have h1:=aaH h 0;have h2:=aim h1;unfold o7;rw[Ab (eW h) 0,aus h];simp only[auE];rw[show iN (tKp (faM k 0),())=_ from MV h1];simp only[auE];rw[show bd (tKp (riM (faM k 0)),())=_ from bP h2];rfl
def Oo{k:anv}{st:anE}(h:Safe k st):stT (riM (faM k 0))=st:=(ain (Vp h.is h.fo 0).1).stT
def ak3{f:Frame}{y:Int×Bool×auB×Int×List anD×auC}{l:List Frame}{i0:Int}{o:anE}(hl:o.held.length≤6):
  Tot (jZ (tF f,y,l,i0,tK o,false,0,())) (Rn (fun _=>False) (fun z=> ∃ g,z=(tF f,y,l,i0,tK o,g,())∧(0≤aP o.held f.fr f.nu→g=true))):=by
 refine Tot.loop (fun i s=> ∃ g,s=(tF f,y,l,i0,tK o,g,(i:Int),())∧ ∀ j,j < i→(nA o.held j).fr=f.fr→(nA o.held j).nu=f.nu→g=true) _ o.held.length (fun i s hi hs=> ?_) ⟨false,rfl,fun j hj=>absurd hj (axX _)⟩;obtain⟨g,rfl,hg⟩:=hs;unfold ni;refine Tot.ite (fun hc=> ?_) (fun hc=> ?_)
 ·have hc:(i:Int) < (o.held.length:Int):=auv hc;have hi':i < o.held.length:=by omega
  have hb:=ak hi';refine Tot.pos (by rw[hb];exact bF _) (Tot.pos (by rw[hb];exact bF _) (Tot.ret ⟨hi',_,by rw[show w64 ((i:Int)+1)=_ from qT rfl (by omega)],fun j hj e1 e2=> ?_⟩));rcases awm j i with h | h
  ·rw[hg j h e1 e2];rfl
  ·have:j=i:=by omega
   subst this;show(g||(decide ((nA o.held j).fr=f.fr)&&decide ((nA o.held j).nu=f.nu)))=true;rw[e1,e2];simp
 ·have hc: ¬ (i:Int) < (o.held.length:Int):=auw hc;refine Tot.ret ⟨g,rfl,fun h=> ?_⟩;obtain⟨a,_,b,c⟩:=jt h;exact hg _ (by omega) b c
def ak2{f:Frame}{y:Int×Bool×auB×Int×List anD×auC}{l:List Frame}{i0:Int}{o:anE}{g0:Bool}(hl:o.marks.length≤12):
  Tot (jY (tF f,y,l,i0,tK o,g0,0,())) (Rn (fun _=>False) (fun z=> ∃ g,z=(tF f,y,l,i0,g,())∧(g0=true→g=true)∧(0≤eC o.marks f.fr f.nu→g=true))):=by
 refine Tot.loop (fun i s=> ∃ g,s=(tF f,y,l,i0,tK o,g,(i:Int),())∧(g0=true→g=true)∧ ∀ j,j < i→(mA o.marks j).mf=f.fr→(mA o.marks j).mn=f.nu→g=true) _ o.marks.length (fun i s hi hs=> ?_) ⟨g0,rfl,id,fun j hj=>absurd hj (axX _)⟩;obtain⟨g,rfl,hg0,hg⟩:=hs;unfold nh;refine Tot.ite (fun hc=> ?_) (fun hc=> ?_)
 ·have hc:(i:Int) < (o.marks.length:Int):=auv hc;have hi':i < o.marks.length:=by omega
  have hb:=ak hi';refine Tot.pos (by rw[hb];exact bF _) (Tot.pos (by rw[hb];exact bF _) (Tot.ret ⟨hi',_,by rw[show w64 ((i:Int)+1)=_ from qT rfl (by omega)],fun h=> ?_,fun j hj e1 e2=> ?_⟩))
  ·rw[hg0 h];rfl
  rcases awm j i with h | h
  ·rw[hg j h e1 e2];rfl
  ·have:j=i:=by omega
   subst this;show(g||(decide ((mA o.marks j).mf=f.fr)&&decide ((mA o.marks j).mn=f.nu)))=true;rw[e1,e2];simp
 ·have hc: ¬ (i:Int) < (o.marks.length:Int):=auw hc;refine Tot.ret ⟨g,rfl,hg0,fun h=> ?_⟩;obtain⟨a,_,b,c⟩:=akP h;exact hg _ (by omega) b c
def ak4{x:anv}{f:Frame}{l:List Frame}(hx:ae x=true)(hl:l.length≤1)(hh: ∀ g∈l,g.ki=2→ ∃ o,Safe x o∧(0≤aP o.held f.fr f.nu∨0≤eC o.marks f.fr f.nu)):
  Tot (j0 (tF f,tKp x,l,0,())) (Rn (fun _=>False) (fun _=>True)):=by
 refine Tot.loop (fun i s=>s=(tF f,tKp x,l,(i:Int),())) _ l.length (fun i s hi hs=> ?_) rfl;subst hs;unfold iI;refine Tot.ite (fun hc=> ?_) (fun hc=>Tot.ret trivial);have hc:(i:Int) < (l.length:Int):=auv hc;have hi':i < l.length:=by omega
 have hw:w64 ((i:Int)+1)=((i+1:Nat):Int):=qT rfl (by omega);refine Tot.pos (ak hi') (Tot.ite (fun hk=>Tot.ret ⟨hi',by rw[show w64 ((i:Int)+1)=_ from hw]⟩) (fun hk=> ?_));have hk:(frA l i).ki=2:=by
  have:(!decide ((frA l i).ki=2))=false:=hk;simpa using this
 obtain⟨o,hs,ho⟩:=hh (frA l i) (by rw[ajm hi'];exact avm hi') hk;have hof:=bN hs.is.kok;refine Tot.bind (Tot.eq (Ut hx)) fun r hr=> ?_;subst hr;rw[Oo hs];refine Tot.sum (ak3 hof.hl) (fun _ h=>h.elim) (fun z hz=> ?_);obtain⟨g,rfl,hg⟩:=hz;refine Tot.sum (ak2 hof.ml) (fun _ h=>h.elim) (fun z hz=> ?_);obtain⟨g',rfl,hg0,hg1⟩:=hz;have hg':g'=true:=by
  rcases ho with h | h
  ·exact hg0 (hg h)
  ·exact hg1 h
 subst hg';exact Tot.neg rfl (Tot.ret ⟨hi',by rw[show w64 ((i:Int)+1)=_ from hw]⟩)
def amH{l:List Int}(hb:BOk l):gb (l,())=some ((true,()),()):=by
 obtain⟨k,f,hd,sm⟩:=uL hb;unfold gb;apply Tot.val;refine Tot.ite (fun _=>Tot.ret rfl) (fun _=> ?_);refine Tot.bind (Tot.eq hd) fun r1 h1=> ?_;subst h1;refine Tot.bind (Tot.eq (cQ sm f)) fun r2 h2=>Tot.bind (Tot.eq (cT sm f)) fun r3 h3=> ?_;subst h2 h3;have hk:=Dw (k:=k) f;have hn:=Cj k f;simp only[ca hk,auE];rw[show aT ((aJ k f).2,(aJ k f).2,())=_ from eZ hn];refine Tot.pos (by rfl) (Tot.neg (by rfl) ?_);refine Tot.sum (P:=fun _=>False) (Q:=fun _=>True) ?_ (fun _ h=>h.elim) (fun _ _=>Tot.ret rfl);rcases tf (ae k) with e | e
 ·refine ak4 (vW e f) (uD k f).1 fun g hg h2=> ?_;have hlen:=(uD k f).1;have hg':(aJ k f).2=[g]:=by
   cases hL:(aJ k f).2 with
   | nil=>rw[hL]at hg;cases hg
   | cons a t=>
    rw[hL]at hg hlen;have ht:t=[]:=by
     cases t with
     | nil=>rfl
     | cons b c=>simp at hlen
    subst ht;rw[avh.1 hg]
  exact Zh e hg' h2
 ·have he:aJ k f=(zKp,[]):=by
   unfold aJ;rw[aur (by rw[e];exact avb)]
  rw[he];refine Tot.loop (fun i s=>s=(tF f,tKp zKp,([]:List Frame),(i:Int),())) _ 0 (fun i s hi hs=> ?_) rfl;subst hs;unfold iI;refine Tot.neg (by simp) (Tot.ret trivial)
def an4.aru{k:anv}{f:Frame}{a b:anE}{n:anz}(h:arK a b n):an4 k f a b:=by
 rcases h.at_ with⟨_,h1,_,h2⟩ | ⟨_,h1,_,h2⟩
 ·refine⟨fun x hx=> .inl (by rw[h1];exact hx),by rw[h1];omega,by rw[h1];omega, ?_⟩;rw[h2,ka,ql];omega
 ·refine⟨fun x hx=> .inl ?_, ?_, ?_,by rw[h2];omega⟩
  ·rw[h1];exact Ml _ (.inr hx)
  ·rw[h1,ka,ql];omega
  ·rw[h1,ka,ql];omega
end Go.VS
end
end
