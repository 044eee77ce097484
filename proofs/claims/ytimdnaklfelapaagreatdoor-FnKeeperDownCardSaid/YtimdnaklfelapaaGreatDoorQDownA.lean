/- Part 21. -/
import Derived.Test.YtimdnaklfelapaaGreatDoorQAT
set_option linter.unusedVariables false
set_option linter.unusedSimpArgs false
set_option linter.defProp false
open Bool renaming and_false→au7,and_self→avT,false_and→auL,false_ne_true→avb,not_false→auH,not_true→auG,or_self→awu,or_true→avG
open Int renaming tdiv→au6,tmod→avq,toNat_natCast→auV,toNat→auK
open List renaming append_nil→avj,drop_eq_nil_of_le→awE,drop→avp,eq_nil_of_length_eq_zero→avi,foldl_nil→axa,getD_eq_getElem?_getD→auQ,getElem?_drop→awh,getElem?_eq_getElem→auO,getElem_mem→avm,length_append→auP,length_drop→avy,length_map→avK,map_append→avS,map_congr_left→av0,mem_cons_of_mem→auJ,mem_cons_self→auM,range_succ→awP,range→au9,replicate→au0,take_of_length_le→awv,take→au3
open Nat renaming le_refl→auS,zero_le→avM
open Option renaming bind_some→auE,getD_some→avd,isSome_some→au4
section
noncomputable section
namespace Go.VS
open Go Go.Proofs
set_option maxRecDepth 100000
abbrev Z25:Sh:= .box 79 [Z23,.int .i64,.sl .anx,.sl .bool,.sl .anJ,.sl .note,.sl .note,.sl .aoc]
abbrev Z26:Sh:= .box 79 [Z19,.int .i64,.fz .anx,.fz .bool,.fz .anJ,.fz .note,.fz .note,.fz .aoc]
abbrev Z29:Sh:= .box 69 [.int .i64,.sl .anx,.sl .bool,.sl .anJ,.sl .note,.sl .note]
end Go.VS
end
end
section
noncomputable section
namespace Go.VS
open Go Go.Proofs
set_option maxRecDepth 100000
def DM:Cx:=cX [aY,cb] [] []
def tZ:OKC Tryz.prog DM af:=okc mixed (gC aE (gC bw (av)))
def kK(x:Y10×Y0×Int×Int×auC):Rnd (Y10×Y0×Int×Int×auC) (Y10×Int×Y0×Bool×auC) (Y10×Y0×auC):=
 if decide (x.2.2.2.1 < 4) then
 if inb x.2.2.1 x.1.2.2.1.length then
 (bm (((rd (dfl .anx) x.1.2.2.1 x.2.2.1).id,(rd (dfl .anx) x.1.2.2.1 x.2.2.1).up,(rd (dfl .anx) x.1.2.2.1 x.2.2.1).log,(rd (dfl .anx) x.1.2.2.1 x.2.2.1).fo,(rd (dfl .anx) x.1.2.2.1 x.2.2.1).anw,()),())).bind fun r61=>
 if decide (0 < (r61.1.1.2.2.2.1.length:Int)) then
 (ab (x.1.1,(r61.1.1.2.2.2.1.length:Int),())).bind fun r62=>
 if inb r62.1.1 r61.1.1.2.2.2.1.length then
 let v63:=(rd (dfl .note) r61.1.1.2.2.2.1 r62.1.1).fr
 let v64:=(rd (dfl .note) r61.1.1.2.2.2.1 r62.1.1).nu
 let v65:=(rd (dfl .note) r61.1.1.2.2.2.1 r62.1.1).to
 let v66:=(rd (dfl .note) r61.1.1.2.2.2.1 r62.1.1).un
 let v67:=(rd (dfl .note) r61.1.1.2.2.2.1 r62.1.1).tx
 some (.inr (.inl ((r62.2.1,x.1.2),x.2.2.1,(v63,v64,v65,v66,v67,()),true,())))
 else none
 else
 let v68:=(avq (w64 (x.2.2.1+1)) 4)
 some (.inl (x.1,x.2.1,v68,(w64 (x.2.2.2.1+1)),()))
 else none
 else
 some (.inr (.inr (x.1,x.2.1,())))
def ow:=aV kK
def qD:Loop:=⟨[(0,Z25),(3,Z0),(5,.int .i64),(6,.int .i64)],[(0,Z25),(3,Z0)],0,[(0,Z25),(2,.int .i64),(3,Z0),(4,.bool)],ow⟩
def Dk:LF Tryz.f37 [0] [1,1,0,1,0,0] qD:=sq (v:= .nil) tZ (b:=kK) kN
def gY(x:Y10×auC):Option ((Int×Y0×Bool×auC)×(Y10×auC)):=
 (ab (x.1.1,4,())).bind fun r1=>
 (aK (ow ((r1.2.1,x.1.2),(0,0,0,0,noB,()),r1.1.1,0,()))
 (fun y69=>some (y69.2,(y69.1,())))
 (fun y69=>some ((0,(0,0,0,0,noB,()),false,()),(y69.1,()))))
def tY:Ent:=(37,none,⟨[Z26],[.int .i64,Z1,.bool],gY⟩)
def ze:SQ Tryz.prog tY:=sk (v:=t1 (t1 (.two (t1 (.one (.loop qD))) .nil))) (fn:=Tryz.f37) tZ (kC Dk kN)
def Pq:Cx:=cX [aY,lI,yG,yA,gV] [] []
def Sq:OKC Tryz.prog Pq af:=okc mixed (gC aE (gC jm (gC xU (gC xI (gC eT (av))))))
def pt(x:Y8×auC):Option ((Y7×auC)×(Y8×auC)):=
 (mK x).bind fun r1=>
 (ab (r1.2.1,4,())).bind fun r2=>
 (ab (r2.2.1,3,())).bind fun r3=>
 (eF (r2.1.1,r1.1.1.2.2.1,())).bind fun r4=>
 (bH (X:=Y8×Y7×Y7×auC) (fun j8=>
 (ab (j8.1,16,())).bind fun r21=>
 if decide (r21.1.1=0) then
 (ab (r21.2.1,2,())).bind fun r22=>
 if inb r22.1.1 (([0,4]:List Int).length) then
 let v23:=(rd (dfl .int) ([0,4]:List Int) r22.1.1)
 some (((v23,j8.2.2.1.2),()),r22.2)
 else none
 else
 if decide (r21.1.1=1) then
 (ab (r21.2.1,3,())).bind fun r24=>
 if inb r24.1.1 (([0,25,5]:List Int).length) then
 let v25:=(rd (dfl .int) ([0,25,5]:List Int) r24.1.1)
 some (((j8.2.2.1.1,j8.2.2.1.2.1,j8.2.2.1.2.2.1,j8.2.2.1.2.2.2.1,j8.2.2.1.2.2.2.2.1,j8.2.2.1.2.2.2.2.2.1,j8.2.2.1.2.2.2.2.2.2.1,v25,j8.2.2.1.2.2.2.2.2.2.2.2),()),r24.2)
 else none
 else
 if decide (r21.1.1=2) then
 (ab (r21.2.1,3,())).bind fun r26=>
 if inb r26.1.1 (([(-1),999,1000]:List Int).length) then
 let v27:=(rd (dfl .int) ([(-1),999,1000]:List Int) r26.1.1)
 some (((j8.2.2.1.1,j8.2.2.1.2.1,j8.2.2.1.2.2.1,j8.2.2.1.2.2.2.1,j8.2.2.1.2.2.2.2.1,j8.2.2.1.2.2.2.2.2.1,j8.2.2.1.2.2.2.2.2.2.1,j8.2.2.1.2.2.2.2.2.2.2.1,v27,j8.2.2.1.2.2.2.2.2.2.2.2.2),()),r26.2)
 else none
 else
 if decide (r21.1.1=3) then
 (cB (r21.2.1,([noB,(B [97,98,99]),(B [97,98,99,100])]:List auB),())).bind fun r28=>
 some (((j8.2.2.1.1,j8.2.2.1.2.1,j8.2.2.1.2.2.1,j8.2.2.1.2.2.2.1,j8.2.2.1.2.2.2.2.1,j8.2.2.1.2.2.2.2.2.1,j8.2.2.1.2.2.2.2.2.2.1,j8.2.2.1.2.2.2.2.2.2.2.1,j8.2.2.1.2.2.2.2.2.2.2.2.1,r28.1),()),r28.2)
 else
 if decide (r21.1.1=4) then
 (ab (r21.2.1,4,())).bind fun r29=>
 some (((j8.2.2.1.1,r29.1.1,j8.2.2.1.2.2),()),r29.2)
 else
 some (j8.2.2,r21.2))
 ((if decide ((w64 (1+r3.1.1))=1) then
 let v9:=(r1.1.1.2.2.2.2.1.size:Int)
 (ab (r3.2.1,9,())).bind fun r10=>
 (mU (r1.1.1.2.2.2.2.1,r10.1)).bind fun r11=>
 some (.inr (r10.2.1,(0,0,0,0,0,0,0,0,0,noB,()),((w64 (1+r3.1.1)),r2.1.1,r4.1.1,r1.1.1.1,r1.1.1.2.1,r1.1.1.2.2.1,r1.1.1.2.2.2.1,v9,r10.1.1,r11.1),()))
 else
 some (.inr (r3.2.1,(0,0,0,0,0,0,0,0,0,noB,()),((w64 (1+r3.1.1)),r4.1.1,r2.1.1,r1.1.1.1,r1.1.1.2.1,r1.1.1.2.2.1,r1.1.1.2.2.2.1,0,0,noB,()),())))))
def Ex:Ent:=(39,none,⟨[Z19],[Z16],pt⟩)
def H8:SQ Tryz.prog Ex:=sk (v:=t1 (t1 (t1 (t1 (.join [(0,Z23),(2,Z18),(5,Z18)] .nil .nil))))) (fn:=Tryz.f39) Sq kN
def DN:Cx:=cX [cU,oq,A4,uF,qB,aY,tY,lI,Ex] [] []
def me:OKC Tryz.prog DN af:=okc mixed (gC cc (gC mV (gC zp (gC vq (gC rQ (gC aE (gC ze (gC jm (gC H8 (av))))))))))
def kX(x:Y3×Y7×Y8×Y9×Y3×Int×Y0×Y3×Int×auC):Rnd (Y3×Y7×Y8×Y9×Y3×Int×Y0×Y3×Int×auC) (auC) (Y3×Y7×Y8×Y9×Y3×Int×Y0×Y3×auC):=
 if decide (0 < x.2.2.2.2.2.2.2.2.1) then
 if inb x.2.2.2.2.2.1 x.2.2.2.1.2.1.length then
 (ab (x.2.2.1,9,())).bind fun asN=>
 (dk (((rd (dfl .anx) x.2.2.2.1.2.1 x.2.2.2.2.2.1).id,(rd (dfl .anx) x.2.2.2.1.2.1 x.2.2.2.2.2.1).up,(rd (dfl .anx) x.2.2.2.1.2.1 x.2.2.2.2.2.1).log,(rd (dfl .anx) x.2.2.2.1.2.1 x.2.2.2.2.2.1).fo,(rd (dfl .anx) x.2.2.2.1.2.1 x.2.2.2.2.2.1).anw,()),x.2.2.2.2.2.2.1.1,x.2.2.2.2.2.2.1.2.1,asN.1)).bind fun atx=>
 (al (x.2.2.2.2.2.2.2.1,atx.1.1,())).bind fun atw=>
 let ati:=(w64 (x.2.2.2.2.2.2.2.2.1 - 1))
 some (.inl (x.1,x.2.1,asN.2.1,x.2.2.2.1,x.2.2.2.2.1,x.2.2.2.2.2.1,x.2.2.2.2.2.2.1,atw.1.1,ati,()))
 else none
 else
 some (.inr (.inr (x.1,x.2.1,x.2.2.1,x.2.2.2.1,x.2.2.2.2.1,x.2.2.2.2.2.1,x.2.2.2.2.2.2.1,x.2.2.2.2.2.2.2.1,())))
def oy:=aV kX
def qG:Loop:=⟨[(2,Z14),(3,Z18),(4,Z23),(5,Z29),(6,Z14),(11,.int .i64),(12,Z0),(15,Z13),(16,.int .i64)],[(2,Z14),(3,Z18),(4,Z23),(5,Z29),(6,Z14),(11,.int .i64),(12,Z0),(15,Z13)],2,[],oy⟩
def Di:LF Tryz.f11 [] [1,1,1,1,1,1,0,1,0,1,1,1,0,1,0,0] qG:=sq (v:= .nil) me (b:=kX) kN
def kY(x:Y3×Y7×Y8×Y9×Y3×Int×auC):Rnd (Y3×Y7×Y8×Y9×Y3×Int×auC) (Y3×Y7×auC) (Y3×Y7×Y8×Y9×Y3×auC):=
 if decide (x.2.2.2.2.2.1 < (x.2.2.2.1.2.2.2.1.length:Int)) then
 if inb x.2.2.2.2.2.1 x.2.2.2.1.2.2.2.1.length then
 if an ((rd (dfl .anJ) x.2.2.2.1.2.2.2.1 x.2.2.2.2.2.1).data).size then
 (ax ((aL ((rd (dfl .anJ) x.2.2.2.1.2.2.2.1 x.2.2.2.2.2.1).data)),())).bind fun r85=>
 (bH (X:=Y3×Y7×Y8×Y9×Y3×Int×Y7×Bool×auC) (fun j86=>
 if j86.2.2.2.2.2.2.2.1 then
 if inb j86.2.2.2.2.2.2.1.2.2.1 j86.2.2.2.1.2.1.length then
 let v88:=(rd (dfl .anx) j86.2.2.2.1.2.1 j86.2.2.2.2.2.2.1.2.2.1).id
 let v89:=(rd (dfl .anx) j86.2.2.2.1.2.1 j86.2.2.2.2.2.2.1.2.2.1).up
 let v90:=(rd (dfl .anx) j86.2.2.2.1.2.1 j86.2.2.2.2.2.2.1.2.2.1).log
 let v91:=(rd (dfl .anx) j86.2.2.2.1.2.1 j86.2.2.2.2.2.2.1.2.2.1).fo
 let v92:=(rd (dfl .anx) j86.2.2.2.1.2.1 j86.2.2.2.2.2.2.1.2.2.1).anw
 some (.inr (.inl ((v88,v89,v90,v91,v92,()),j86.2.2.2.2.2.2.1,())))
 else none
 else
 let v93:=(w64 (j86.2.2.2.2.2.1+1))
 some (.inl (j86.1,j86.2.1,j86.2.2.1,j86.2.2.2.1,j86.2.2.2.2.1,v93,())))
 ((if r85.1.2.1 then
 (ab (x.2.2.1,2,())).bind fun r87=>
 some (.inr (x.1,x.2.1,r87.2.1,x.2.2.2.1,x.2.2.2.2.1,x.2.2.2.2.2.1,r85.1.1,(decide (r87.1.1=0)),()))
 else
 some (.inr (x.1,x.2.1,x.2.2.1,x.2.2.2.1,x.2.2.2.2.1,x.2.2.2.2.2.1,r85.1.1,false,())))))
 else none
 else none
 else
 some (.inr (.inr (x.1,x.2.1,x.2.2.1,x.2.2.2.1,x.2.2.2.2.1,())))
def oz:=aV kY
def qH:Loop:=⟨[(2,Z14),(3,Z18),(4,Z23),(5,Z20),(6,Z14),(7,.int .i64)],[(2,Z14),(3,Z18),(4,Z23),(5,Z20),(6,Z14)],0,[(2,Z13),(3,Z18)],oz⟩
def Dl:LF Tryz.f11 [] [1,1,1,0,1,0,0] qH:=sq (v:=t1 (.two (.one (t1 (.join [(2,Z14),(3,Z18),(4,Z23),(5,Z20),(6,Z14),(7,.int .i64),(8,Z18),(52,.bool)] .nil .nil))) .nil)) me (b:=kY) kN
def bk(x:List Int×auC):Option ((Y3×Y7×auC)×auC):=
 (o3 x).bind fun r1=>
 (jF r1.1).bind fun r2=>
 (aK (oz ((0,false,noB,0,([]:List anD),()),(0,0,0,0,0,0,0,0,0,noB,()),r2.2.1,r2.1.1,r2.1.2.1,0,()))
 (fun y94=>some (y94,()))
 (fun y94=>(gY ((y94.2.2.1,y94.2.2.2.1.1,y94.2.2.2.1.2.1,y94.2.2.2.1.2.2.1,y94.2.2.2.1.2.2.2.1,y94.2.2.2.1.2.2.2.2.1,y94.2.2.2.1.2.2.2.2.2.1,([]:List Event),()),())).bind fun r95=>
 (bH (X:=Y3×Y7×Y8×Y3×auC) (fun ar2=>
 (pt (ar2.2.2.1,())).bind fun arW=>
 some ((ar2.2.2.2.1,(arW.1.1.1,arW.1.1.2.1,ar2.2.2.2.1.1,arW.1.1.2.2.2),()),()))
 ((bH (X:=Y3×Y7×Y8×Y9×Y3×Int×Y0×Bool×auC) (fun an7=>
 if an7.2.2.2.2.2.2.2.1 then
 (eF (an7.2.2.2.2.2.1,an7.2.2.2.2.2.2.1.2.2.1,())).bind fun aqo=>
 (ab (an7.2.2.1,3,())).bind fun arX=>
 if decide (arX.1.1=0) then
 if inb an7.2.2.2.2.2.1 an7.2.2.2.1.2.1.length then
 (ab (arX.2.1,6,())).bind fun asP=>
 (ab (asP.2.1,8,())).bind fun atA=>
 let v152:=(rd (dfl .anx) an7.2.2.2.1.2.1 an7.2.2.2.2.2.1).id
 let asF:=(rd (dfl .anx) an7.2.2.2.1.2.1 an7.2.2.2.2.2.1).up
 let v154:=(rd (dfl .anx) an7.2.2.2.1.2.1 an7.2.2.2.2.2.1).log
 let atn:=(rd (dfl .anx) an7.2.2.2.1.2.1 an7.2.2.2.2.2.1).fo
 let atm:=(rd (dfl .anx) an7.2.2.2.1.2.1 an7.2.2.2.2.2.1).anw
 let v157:=(w64 (2+(w64 (au6 asP.1.1 5))))
 let atl:=(w64 (an7.2.2.2.2.2.2.1.2.2.2.1+(w64 (au6 atA.1.1 7))))
 some (.inl (((v152,asF,v154,atn,atm,()),(v157,aqo.1.1,an7.2.2.2.2.2.1,an7.2.2.2.2.2.2.1.1,an7.2.2.2.2.2.2.1.2.1,an7.2.2.2.2.2.2.1.2.2.1,atl,0,0,noB,()),()),()))
 else none
 else
 if inb aqo.1.1 an7.2.2.2.1.2.1.length then
 let v159:=(rd (dfl .anx) an7.2.2.2.1.2.1 aqo.1.1).id
 let v160:=(rd (dfl .anx) an7.2.2.2.1.2.1 aqo.1.1).up
 let atk:=(rd (dfl .anx) an7.2.2.2.1.2.1 aqo.1.1).log
 let v162:=(rd (dfl .anx) an7.2.2.2.1.2.1 aqo.1.1).fo
 let atj:=(rd (dfl .anx) an7.2.2.2.1.2.1 aqo.1.1).anw
 (ab (arX.2.1,8,())).bind fun asO=>
 (aK (oy (an7.1,an7.2.1,asO.2.1,an7.2.2.2.1,an7.2.2.2.2.1,an7.2.2.2.2.2.1,an7.2.2.2.2.2.2.1,(v159,v160,atk,v162,atj,()),asO.1))
 (fun _=>none)
 (fun aoK=>(if inb aoK.2.2.2.2.2.1 aoK.2.2.2.1.2.1.length then
 (ab (aoK.2.2.1,9,())).bind fun asM=>
 (dk (((rd (dfl .anx) aoK.2.2.2.1.2.1 aoK.2.2.2.2.2.1).id,(rd (dfl .anx) aoK.2.2.2.1.2.1 aoK.2.2.2.2.2.1).up,(rd (dfl .anx) aoK.2.2.2.1.2.1 aoK.2.2.2.2.2.1).log,(rd (dfl .anx) aoK.2.2.2.1.2.1 aoK.2.2.2.2.2.1).fo,(rd (dfl .anx) aoK.2.2.2.1.2.1 aoK.2.2.2.2.2.1).anw,()),aoK.2.2.2.2.2.2.1.1,aoK.2.2.2.2.2.2.1.2.1,asM.1)).bind fun asL=>
 if asL.1.2.1 then
 some (.inl ((aoK.2.2.2.2.2.2.2.1,asL.1.1,()),()))
 else
 some (.inr (aoK.1,aoK.2.1,asM.2.1,aoK.2.2.2.2.1,()))
 else none)))
 else none
 else
 some (.inr (an7.1,an7.2.1,an7.2.2.1,an7.2.2.2.2.1,())))
 ((if r95.1.2.2.1 then
 (ab (r95.2.1.1,4,())).bind fun asQ=>
 some (.inr (y94.1,y94.2.1,asQ.2.1,y94.2.2.2.1,y94.2.2.2.2.1,r95.1.1,r95.1.2.1,(decide (0 < asQ.1.1)),()))
 else
 some (.inr (y94.1,y94.2.1,r95.2.1.1,y94.2.2.2.1,y94.2.2.2.2.1,r95.1.1,r95.1.2.1,false,())))))))))
def cf:Ent:=(11,none,⟨[.fz .u8],[Z8,Z16],bk⟩)
def bU:SQ Tryz.prog cf:=sk (v:=t1 (t1 (t1 (.two (t1 (.one (.loop qH))) (t1 (t1 (.join [(2,Z14),(3,Z18),(4,Z23),(6,Z14)] (.join [(2,Z14),(3,Z18),(4,Z23),(5,Z29),(6,Z14),(11,.int .i64),(12,Z0),(75,.bool)] .nil (.two (t1 (t1 (t1 (.two (t1 (.one (.loop qG))) .nil)))) .nil)) .nil))))))) (fn:=Tryz.f11) me (kC Dl (kC Di kN))
def PJ:Cx:=cX [] [] []
def wJ:OKC Tryz.prog PJ af:=okc mixed (av)
def jV(x:List anD×List anD×Int×Int×auC):Rnd (List anD×List anD×Int×Int×auC) (Bool×auC) (List anD×List anD×Int×auC):=
 if inb x.2.2.1 x.1.length then
 if decide (x.2.2.2.1 < (((rd (dfl .half) x.1 x.2.2.1).got).length:Int)) then
 if inb x.2.2.1 x.1.length then
 if inb x.2.2.2.1 (((rd (dfl .half) x.1 x.2.2.1).got).length) then
 if inb x.2.2.1 x.2.1.length then
 if inb x.2.2.2.1 (((rd (dfl .half) x.2.1 x.2.2.1).got).length) then
 if !(decide ((rd (dfl .mixed) ((rd (dfl .half) x.1 x.2.2.1).got) x.2.2.2.1).nu=(rd (dfl .mixed) ((rd (dfl .half) x.2.1 x.2.2.1).got) x.2.2.2.1).nu)&&(decide ((rd (dfl .mixed) ((rd (dfl .half) x.1 x.2.2.1).got) x.2.2.2.1).da=(rd (dfl .mixed) ((rd (dfl .half) x.2.1 x.2.2.1).got) x.2.2.2.1).da)&&true)) then
 some (.inr (.inl (false,())))
 else
 some (.inl (x.1,x.2.1,x.2.2.1,(w64 (x.2.2.2.1+1)),()))
 else none
 else none
 else none
 else none
 else
 some (.inr (.inr (x.1,x.2.1,x.2.2.1,())))
 else none
def oN:=aV jV
def zO:Loop:=⟨[(0,.sl .half),(1,.sl .half),(5,.int .i64),(6,.int .i64)],[(0,.sl .half),(1,.sl .half),(5,.int .i64)],2,[(4,.bool)],oN⟩
def OS:LF Tryz.f53 [] [1,1,0,1,0,0,1,0,0,1,1,0,0] zO:=sq (v:= .nil) wJ (b:=jV) kN
def jW(x:List anD×List anD×Int×auC):Rnd (List anD×List anD×Int×auC) (Bool×auC) (auC):=
 if decide (x.2.2.1 < (x.1.length:Int)) then
 if inb x.2.2.1 x.1.length then
 if inb x.2.2.1 x.2.1.length then
 if !decide ((rd (dfl .half) x.1 x.2.2.1).fr=(rd (dfl .half) x.2.1 x.2.2.1).fr) then
 some (.inr (.inl (false,())))
 else
 if inb x.2.2.1 x.1.length then
 if inb x.2.2.1 x.2.1.length then
 if !decide ((rd (dfl .half) x.1 x.2.2.1).nu=(rd (dfl .half) x.2.1 x.2.2.1).nu) then
 some (.inr (.inl (false,())))
 else
 if inb x.2.2.1 x.1.length then
 if inb x.2.2.1 x.2.1.length then
 if !decide ((rd (dfl .half) x.1 x.2.2.1).to=(rd (dfl .half) x.2.1 x.2.2.1).to) then
 some (.inr (.inl (false,())))
 else
 if inb x.2.2.1 x.1.length then
 if inb x.2.2.1 x.2.1.length then
 if !decide ((rd (dfl .half) x.1 x.2.2.1).un=(rd (dfl .half) x.2.1 x.2.2.1).un) then
 some (.inr (.inl (false,())))
 else
 if inb x.2.2.1 x.1.length then
 if inb x.2.2.1 x.2.1.length then
 if !decide ((rd (dfl .half) x.1 x.2.2.1).sz=(rd (dfl .half) x.2.1 x.2.2.1).sz) then
 some (.inr (.inl (false,())))
 else
 if inb x.2.2.1 x.1.length then
 if inb x.2.2.1 x.2.1.length then
 if !decide ((((rd (dfl .half) x.1 x.2.2.1).got).length:Int)=(((rd (dfl .half) x.2.1 x.2.2.1).got).length:Int)) then
 some (.inr (.inl (false,())))
 else
 (aK (oN (x.1,x.2.1,x.2.2.1,0,()))
 (fun y7=>some (.inr (.inl y7)))
 (fun y7=>some (.inl (y7.1,y7.2.1,(w64 (y7.2.2.1+1)),()))))
 else none
 else none
 else none
 else none
 else none
 else none
 else none
 else none
 else none
 else none
 else none
 else none
 else
 some (.inr (.inr ()))
def oO:=aV jW
def zP:Loop:=⟨[(0,.sl .half),(1,.sl .half),(5,.int .i64)],[],0,[(4,.bool)],oO⟩
def O0:LF Tryz.f53 [] [1,1,0,1,0,0] zP:=sq (v:=t1 (.two (.one (t1 (t1 (.one (.loop zO))))) .nil)) wJ (b:=jW) (kC OS kN)
def fT(x:List anD×List anD×auC):Option ((Bool×auC)×auC):=
 if !decide ((x.1.length:Int)=(x.2.1.length:Int)) then
 some ((false,()),())
 else
 (aK (oO (x.1,x.2.1,0,()))
 (fun y8=>some (y8,()))
 (fun y8=>some ((true,()),())))
def EF:Ent:=(53,none,⟨[.fz .half,.fz .half],[.bool],fT⟩)
def Ii:SQ Tryz.prog EF:=sk (v:=t1 (t1 (.two (t1 (.one (.loop zP))) .nil))) (fn:=Tryz.f53) wJ (kC O0 kN)
def PI:Cx:=cX [EF] [] [(25,29)]
def SF:OKC Tryz.prog PI af:=okc mixed (gC Ii (av))
def aq(x:Y3×Y3×auC):Option ((Bool×auC)×auC):=
 if decide (x.1.1=x.2.1.1) then
 if decide (x.1.2.1=x.2.1.2.1) then
 if aX (decide (x.1.2.2.1=x.2.1.2.2.1)&&(decide (x.1.2.2.2.1=x.2.1.2.2.2.1)&&true)) ((fT (x.1.2.2.2.2.1,x.2.1.2.2.2.2)).isSome) then
 let v2:=((decide (x.1.2.2.1=x.2.1.2.2.1)&&(decide (x.1.2.2.2.1=x.2.1.2.2.2.1)&&true))&&(((fT (x.1.2.2.2.2.1,x.2.1.2.2.2.2)).getD ((false,()),())).1.1))
 some ((v2,()),())
 else none
 else
 if aX false ((fT (x.1.2.2.2.2.1,x.2.1.2.2.2.2)).isSome) then
 some ((false,()),())
 else none
 else
 if aX false ((fT (x.1.2.2.2.2.1,x.2.1.2.2.2.2)).isSome) then
 some ((false,()),())
 else none
def eL:Ent:=(14,none,⟨[Z8,Z8],[.bool],aq⟩)
def dw:SQ Tryz.prog eL:=sk (v:= .nil) (fn:=Tryz.f14) SF kN
def Wg:Cx:=cX [dn,iQ] [] []
def JJ:OKC Tryz.prog Wg af:=okc mixed (gC bK (gC jc (av)))
def sY(x:auB×List auB×Int×auC):Rnd (auB×List auB×Int×auC) (auC) (List auB×auC):=
 if decide (x.2.2.1 < (x.1.size:Int)) then
 if decide (0≤4)&&decide (4≤4294967296) then
 if decide (0≤x.2.2.1)&&decide (x.2.2.1≤(x.1.size:Int)) then
 if an (x.2.1.length+([(eS (au3 (au0 (auK 4) (dfl .u8)).length (aL (x.1.extract (auK x.2.2.1) (x.1.size)))++avp (aL (x.1.extract (auK x.2.2.1) (x.1.size))).length (au0 (auK 4) (dfl .u8))))]:List auB).length) then
 some (.inl (x.1,(x.2.1++([(eS (au3 (au0 (auK 4) (dfl .u8)).length (aL (x.1.extract (auK x.2.2.1) (x.1.size)))++avp (aL (x.1.extract (auK x.2.2.1) (x.1.size))).length (au0 (auK 4) (dfl .u8))))]:List auB)),(w64 (x.2.2.1+4)),()))
 else none
 else none
 else none
 else
 some (.inr (.inr (x.2.1,())))
def sX:=aV sY
def Eo:Loop:=⟨[(0,.str),(3,.row 9 .str),(4,.int .i64)],[(3,.row 9 .str)],0,[],sX⟩
def UZ:LF Tryz.f121 [] [1,1,1,0,1,0,0] Eo:=sq (v:= .nil) JJ (b:=sY) kN
def vg(x:auB×auC):Option ((List auB×auC)×auC):=
 (aO ((x.1.size:Int),1,24,())).bind fun r2=>
 if !r2.1.1 then
 some ((([]:List auB),()),())
 else
 (aK (sX (x.1,([]:List auB),0,()))
 (fun _=>none)
 (fun y4=>(dS y4).bind fun r5=>
 some (r5.1,())))
def Js:Ent:=(121,none,⟨[.str],[.row 9 .str],vg⟩)
def MU:SQ Tryz.prog Js:=sk (v:=t1 (t1 (t1 (.two (t1 (.one (.loop Eo))) .nil)))) (fn:=Tryz.f121) JJ (kC UZ kN)
def Sn:Cx:=cX [Js,DI,DF] [] []
def Hl:OKC Tryz.prog Sn af:=okc mixed (gC MU (gC Ch (gC B1 (av))))
def lD(x:List auB×auB×List Int×Int×Int×auC):Rnd (List auB×auB×List Int×Int×Int×auC) (auC) (auB×auC):=
 if decide (x.2.2.2.2.1 < x.2.2.2.1) then
 if inb x.2.2.2.2.1 x.2.2.1.length then
 let v15:=(rd (dfl .int) x.2.2.1 x.2.2.2.2.1)
 (if decide (x.2.2.2.2.1=0) then
 if inb v15 x.1.length then
 some (.inl (x.1,(rd (dfl .str) x.1 v15),x.2.2.1,x.2.2.2.1,(w64 (x.2.2.2.2.1+1)),()))
 else none
 else
 if inb v15 x.1.length then
 (sg (x.2.1,(rd (dfl .str) x.1 v15),())).bind fun r16=>
 some (.inl (x.1,r16.1.1,x.2.2.1,x.2.2.2.1,(w64 (x.2.2.2.2.1+1)),()))
 else none)
 else none
 else
 some (.inr (.inr (x.2.1,())))
def gU:=aV lD
def Ci:Loop:=⟨[(5,.row 9 .str),(6,.str),(14,.row 3 .int),(15,.int .i64),(16,.int .i64)],[(6,.str)],0,[],gU⟩
def RD:LF Tryz.f65 [] [1,1,1,0,1,0,0] Ci:=sq (v:= .nil) Hl (b:=lD) kN
def sW(x:auB×Int×auC):Option ((auB×auC)×auC):=
 (vg (x.1,())).bind fun r1=>
 (sV ((r1.1.1.length:Int),x.2)).bind fun r8=>
 (aK (gU (r1.1.1,noB,r8.1.1,(r8.1.1.length:Int),0,()))
 (fun _=>none)
 (fun y17=>some (y17,())))
def GS:Ent:=(65,none,⟨[.str,.int .i64],[.str],sW⟩)
def KH:SQ Tryz.prog GS:=sk (v:=t1 (t1 (t1 (.two (t1 (.one (.loop Ci))) .nil)))) (fn:=Tryz.f65) Hl (kC RD kN)
def NG:Cx:=cX [bW,pT,dM,jg,dn,GS] [] []
def Qh:OKC Tryz.prog NG af:=okc mixed (gC bE (gC oT (gC cP (gC fH (gC bK (gC KH (av)))))))
def gD(x:Y3×Int×Int×Int×auC):Option ((Y7×Bool×auC)×auC):=
 (cF (x.1,())).bind fun r5=>
 if !r5.1.1 then
 some (((0,0,0,0,0,0,0,0,0,noB,()),false,()),())
 else
 if !x.1.2.1 then
 some (((0,0,0,0,0,0,0,0,0,noB,()),false,()),())
 else
 (aO (x.2.2.2.1,0,999,())).bind fun r6=>
 if !r6.1.1 then
 some (((0,0,0,0,0,0,0,0,0,noB,()),false,()),())
 else
 (bd (x.1,())).bind fun r7=>
 (cJ (r7.1.1.2.2.2.1,x.2.1,x.2.2.1,())).bind fun r8=>
 if decide (r8.1.1 < 0) then
 some (((0,0,0,0,0,0,0,0,0,noB,()),false,()),())
 else
 if inb r8.1.1 r7.1.1.2.2.2.1.length then
 let v9:=(rd (dfl .note) r7.1.1.2.2.2.1 r8.1.1).fr
 let v10:=(rd (dfl .note) r7.1.1.2.2.2.1 r8.1.1).nu
 let v11:=(rd (dfl .note) r7.1.1.2.2.2.1 r8.1.1).to
 let v12:=(rd (dfl .note) r7.1.1.2.2.2.1 r8.1.1).un
 let v13:=(rd (dfl .note) r7.1.1.2.2.2.1 r8.1.1).tx
 (bz (x.1.1,v11,())).bind fun r14=>
 (sW (v13,x.2.2.2)).bind fun r15=>
 some (((1,x.1.1,r14.1.1,v9,v10,v11,v12,(v13.size:Int),x.2.2.2.1,r15.1),true,()),())
 else none
def uK:Ent:=(24,none,⟨[Z8,.int .i64,.int .i64,.int .i64],[Z16,.bool],gD⟩)
def vV:SQ Tryz.prog uK:=sk (v:= .nil) (fn:=Tryz.f24) Qh kN
def Si:Cx:=cX [ey,Ao,Bf] [] []
def WG:OKC Tryz.prog Si af:=okc mixed (gC dE (gC ww (gC zZ (av))))
def gR(x:Y3×auB×auC):Option ((Y3×Bool×auC)×auC):=
 (kH x).bind fun r1=>
 if !r1.1.2.1 then
 (bR (x.1,())).bind fun r3=>
 some ((r3.1.1,false,()),())
 else
 (lU (r1.1.1,())).bind fun r4=>
 (bR r4.1).bind fun r5=>
 some ((r5.1.1,true,()),())
def yK:Ent:=(66,none,⟨[Z8,.str],[Z15,.bool],gR⟩)
def ym:SQ Tryz.prog yK:=sk (v:= .nil) (fn:=Tryz.f66) WG kN
def K5:Cx:=cX [bW,dM,ey,yK,ko] [] []
def N2:OKC Tryz.prog K5 af:=okc mixed (gC bE (gC cP (gC dE (gC ym (gC gG (av))))))
def iM(x:Y3×auC):Option ((Y3×Bool×auC)×auC):=
 (cF x).bind fun r2=>
 if !r2.1.1 then
 some (((0,false,noB,0,([]:List anD),()),false,()),())
 else
 if !x.1.2.1 then
 (bR x).bind fun r4=>
 some ((r4.1.1,false,()),())
 else
 (bd x).bind fun r5=>
 (ch ((w64 (r5.1.1.2.1+1)),())).bind fun r6=>
 if decide ((B [116,105,109,101,32]).size+r6.1.1.size≤4611686018427387904) then
 (gR (x.1,((B [116,105,109,101,32])++r6.1.1),())).bind fun r7=>
 some (r7.1,())
 else none
def tq:Ent:=(26,none,⟨[Z8],[Z15,.bool],iM⟩)
def tW:SQ Tryz.prog tq:=sk (v:= .nil) (fn:=Tryz.f26) N2 kN
def NB:Cx:=cX [kt,ot] [] []
def Qe:OKC Tryz.prog NB af:=okc mixed (gC gS (gC nq (av)))
def nZ(x:Y4×Int×auC):Option ((Y4×auC)×auC):=
 (fu (x.1,())).bind fun r2=>
 if !r2.1.1 then
 some (((noB,0,()),()),())
 else
 if decide (0≤(w64 (x.1.2.1+(if 0 < (if(w64 ((x.1.1.size:Int) - x.1.2.1)) < x.2.1 then(w64 ((x.1.1.size:Int) - x.1.2.1)) else x.2.1) then(if(w64 ((x.1.1.size:Int) - x.1.2.1)) < x.2.1 then(w64 ((x.1.1.size:Int) - x.1.2.1)) else x.2.1) else 0))))&&decide ((w64 (x.1.2.1+(if 0 < (if(w64 ((x.1.1.size:Int) - x.1.2.1)) < x.2.1 then(w64 ((x.1.1.size:Int) - x.1.2.1)) else x.2.1) then(if(w64 ((x.1.1.size:Int) - x.1.2.1)) < x.2.1 then(w64 ((x.1.1.size:Int) - x.1.2.1)) else x.2.1) else 0)))≤(x.1.1.size:Int)) then
 let v3:=(x.1.1.extract (0) (auK (w64 (x.1.2.1+(if 0 < (if(w64 ((x.1.1.size:Int) - x.1.2.1)) < x.2.1 then(w64 ((x.1.1.size:Int) - x.1.2.1)) else x.2.1) then(if(w64 ((x.1.1.size:Int) - x.1.2.1)) < x.2.1 then(w64 ((x.1.1.size:Int) - x.1.2.1)) else x.2.1) else 0)))))
 (eV (v3,())).bind fun r4=>
 if decide (0≤r4.1.2.1)&&decide (r4.1.2.1≤(v3.size:Int)) then
 let v5:=(v3.extract (0) (auK r4.1.2.1))
 some (((v5,r4.1.2),()),())
 else none
 else none
def Cy:Ent:=(72,none,⟨[Z9,.int .i64],[Z9],nZ⟩)
def Gi:SQ Tryz.prog Cy:=sk (v:= .nil) (fn:=Tryz.f72) Qe kN
def K9:Cx:=cX [dM,Cy] [] []
def N6:OKC Tryz.prog K9 af:=okc mixed (gC cP (gC Gi (av)))
def iO(x:Y3×Int×auC):Option ((Y3×auC)×auC):=
 (cF (x.1,())).bind fun r2=>
 if !r2.1.1 then
 some (((0,false,noB,0,([]:List anD),()),()),())
 else
 (nZ ((x.1.2.2.1,x.1.2.2.2.1,()),x.2)).bind fun r3=>
 some (((x.1.1,false,r3.1.1.1,r3.1.1.2.1,([]:List anD),()),()),())
def tr:Ent:=(30,none,⟨[Z8,.int .i64],[Z15],iO⟩)
def tX:SQ Tryz.prog tr:=sk (v:= .nil) (fn:=Tryz.f30) N6 kN
def NE:Cx:=cX [bW,dM,ey,yK,ku] [] []
def Qg:OKC Tryz.prog NE af:=okc mixed (gC bE (gC cP (gC dE (gC ym (gC iJ (av))))))
def kg(x:Y3×Int×Int×auB×auC):Option ((Y3×Int×auC)×auC):=
 (cF (x.1,())).bind fun r2=>
 if !r2.1.1 then
 some (((0,false,noB,0,([]:List anD),()),0,()),())
 else
 if !x.1.2.1 then
 (bR (x.1,())).bind fun r4=>
 some ((r4.1.1,0,()),())
 else
 (bd (x.1,())).bind fun r5=>
 (dm ((x.1.1,r5.1.1.2.2.1,x.2),())).bind fun r6=>
 if decide ((B [111,119,110,32]).size+r6.1.1.size≤4611686018427387904) then
 (gR (x.1,((B [111,119,110,32])++r6.1.1),())).bind fun r7=>
 if !r7.1.2.1 then
 some ((r7.1.1,0,()),())
 else
 some ((r7.1.1,r5.1.1.2.2.1,()),())
 else none
def CA:Ent:=(31,none,⟨[Z8,.int .i64,.int .i64,.str],[Z15,.int .i64],kg⟩)
def Gn:SQ Tryz.prog CA:=sk (v:= .nil) (fn:=Tryz.f31) Qg kN
def K7:Cx:=cX [bW,dM,ey,uJ,wF] [] []
def N4:OKC Tryz.prog K7 af:=okc mixed (gC bE (gC cP (gC dE (gC vU (gC xa (av))))))
def mG(x:Y3×auC):Option ((Y3×Bool×auC)×auC):=
 (cF x).bind fun r2=>
 if !r2.1.1 then
 some (((0,false,noB,0,([]:List anD),()),false,()),())
 else
 (bR x).bind fun r3=>
 if !x.1.2.1 then
 some ((r3.1.1,false,()),())
 else
 (bd x).bind fun r4=>
 (lE r4.1).bind fun r5=>
 (gB ((x.1.2.2.1,x.1.2.2.2.1,()),r5.1)).bind fun r6=>
 some (((r3.1.1.1,r3.1.1.2.1,r6.1.1.1,r6.1.1.2.1,r3.1.1.2.2.2.2),r6.1.2),())
def As:Ent:=(32,none,⟨[Z8],[Z15,.bool],mG⟩)
def E4:SQ Tryz.prog As:=sk (v:= .nil) (fn:=Tryz.f32) N4 kN
def G0:Cx:=cX [cf,cV,eL,br,uK,tq,tl,tr,CA,As] [] [(34,36),(105,107)]
def IM:OKC Tryz.prog G0 af:=okc mixed (gC bU (gC cd (gC dw (gC aQ (gC vV (gC tW (gC tR (gC tX (gC Gn (gC E4 (av)))))))))))
def gf(x:List Int×auC):Option ((Bool×auC)×auC):=
 if decide (1048576 < (x.1.length:Int)) then
 some ((true,()),())
 else
 (bk x).bind fun r1=>
 (fB (r1.1.1,0,())).bind fun r2=>
 (iO (r1.1.1,0,())).bind fun r3=>
 (aq (r3.1.1,r2.1)).bind fun r7=>
 if aX (!(!r7.1.1)) ((aS (r1.1.1,())).isSome) then
 if(!r7.1.1)||(!(((aS (r1.1.1,())).getD ((false,()),())).1.1)) then
 (aq (r3.1.1,r2.1)).bind fun r8=>
 some (r8.1,())
 else
 (kg (r3.1.1,(avq (w64 (r1.1.1.1+1)) 4),999,(B [120]),())).bind fun r9=>
 (iM r3.1).bind fun r10=>
 (bq (r3.1.1,r1.1.2)).bind fun r11=>
 (gD (r3.1.1,r1.1.2.1.2.2.2.1,r1.1.2.1.2.2.2.2.1,0,())).bind fun r12=>
 (mG r3.1).bind fun r13=>
 if decide (r9.1.2.1=0) then
 if !r10.1.2.1 then
 if decide ((r11.1.2.1.length:Int)=0) then
 if !r12.1.2.1 then
 if !r13.1.2.1 then
 (aq (r9.1.1,r3.1)).bind fun r17=>
 if r17.1.1 then
 (aq (r10.1.1,r3.1)).bind fun r18=>
 if aX r18.1.1 ((aq (r11.1.1,r3.1)).isSome) then
 let v19:=(r18.1.1&&(((aq (r11.1.1,r3.1)).getD ((false,()),())).1.1))
 some ((v19,()),())
 else none
 else
 if aX false ((aq (r11.1.1,r3.1)).isSome) then
 some ((false,()),())
 else none
 else
 if aX false ((aq (r11.1.1,r3.1)).isSome) then
 some ((false,()),())
 else none
 else
 if aX false ((aq (r11.1.1,r3.1)).isSome) then
 some ((false,()),())
 else none
 else
 if aX false ((aq (r11.1.1,r3.1)).isSome) then
 some ((false,()),())
 else none
 else
 if aX false ((aq (r11.1.1,r3.1)).isSome) then
 some ((false,()),())
 else none
 else
 if aX false ((aq (r11.1.1,r3.1)).isSome) then
 some ((false,()),())
 else none
 else none
def Ix:Ent:=(10,none,⟨[.fz .u8],[.bool],gf⟩)
def BY:SQ Tryz.prog Ix:=sk (v:= .nil) (fn:=Tryz.f10) IM kN
end Go.VS
end
end
section
noncomputable section
namespace Go.VS
open Go
def alu(l:List UInt8):au3 (au0 (auK 4) (dfl .u8)).length (bI l)++avp (bI l).length (au0 (auK 4) (dfl .u8))=bI ((au9 4).map fun j=>l.getD j 0):=by
 rcases l with _ | ⟨a,_ | ⟨b,_ | ⟨c,_ | ⟨d,l⟩⟩⟩⟩
 ·rfl
 ·rfl
 ·rfl
 ·rfl
 ·rw[awE (by simp),avj];rfl
def ahe(l:List UInt8)(k:Nat):(au9 4).map (fun j=>(l.drop k).getD j 0)=(au9 4).map fun j=>l.getD (k+j) 0:=by
 refine av0 ?_;intro j _;rw[auQ,auQ,awh]
def am1(s:auB)(k:Nat):L (s.extract k s.size)=(L s).drop k:=by
 rw[kB,awv];rw[avy,ba];exact auS _
def XH(t:auB):vg (t,())=some ((oV t,()),()):=by
 unfold vg oV;simp only[cm,auE];rcases tf (inB t.size 1 24) with e | e
 ·have h1:=ah.1 e;simp only[e,auG,auD,auy];have h:sX (t,[],0,())=some (.inr ((au9 ((t.size+3) / 4)).map (fun i=>B (DR (L t) i)),())):=by
   refine cy (fun i=>(t,(au9 i).map (fun i=>B (DR (L t) i)),((4 * i:Nat):Int),())) ((t.size+3) / 4) ?_ ?_
   ·intro i hi;unfold sY;simp only[show decide (((4 * i:Nat):Int) < (t.size:Int))=true from aut (by omega),auy];rw[aus (by rfl),aus (by simp;omega),aus (aH (by simp;omega))];rw[auV,HZ,am1,alu,Lu,ahe,ai (by omega) (by omega),awP (n:=i),avS];rw[show((4 * i:Nat):Int)+4=((4 * (i+1):Nat):Int) by omega];rfl
   ·unfold sY;simp only[show decide (((4 * ((t.size+3) / 4):Nat):Int) < (t.size:Int))=false from auu (by omega),auD]
  rw[h];simp only[aK,auE];rw[np (by simp;omega)];rfl
 ·simp only[e,auH,auy,auD]
section
variable {bs:List auB} (hbs: ∀ k,k < bs.length→(bsA bs k).size=4)
include hbs
def agQ(post:List Nat): ∀ (pre:List Nat) (y:auB),pre≠[]→y.size=4→(pre++post).length≤1048576→(∀ k∈post,k < bs.length)→
  gU (bs,y,bT (pre++post),((bT (pre++post)).length:Int),(pre.length:Int),())=some (.inr (B (post.foldl (fun x k=>gF x (L (bsA bs k))) (L y)),())):=by
 induction post with
 | nil=>
  intro pre y _ _ _ _;refine ao ?_;unfold lD;simp only[avj,avK,show decide ((pre.length:Int) < (pre.length:Int))=false from auu (by omega),auD,axa,B_L]
 | cons k post ih=>
  intro pre y hp hy hl hk;have h1:=hk k auM;have hne:pre.length≠0:=fun h=>hp (avi h);have hlen:pre.length < (bT (pre++k::post)).length:=by simp
  refine aj (x':=(bs,B (gF (L y) (L (bsA bs k))),bT (pre++k::post),((bT (pre++k::post)).length:Int),((pre++[k]).length:Int),())) ?_ ?_
  ·unfold lD;simp only[show decide ((pre.length:Int) < ((bT (pre++k::post)).length:Int))=true from aut (by omega),auy,ak hlen,C2,show decide ((pre.length:Int)=0)=false from auu (by omega),auD,ak h1,Ke,MI hy (hbs k h1),auE];rw[dx hlen (by simpa using hl),auP];rfl
  ·have:=ih (pre++[k]) (B (gF (L y) (L (bsA bs k)))) (by simp) (by rw[aW,Bm (by rw[ba,ba,hy,hbs k h1]),ba,hy]) (by rw[← snoc];exact hl) fun x hx=>hk x (auJ k hx);rw[← snoc]at this;exact this
end
def Vc(t:auB)(n:Int):sW (t,n,())=some ((vL t n,()),()):=by
 unfold sW vL;simp only[XH,Ds,auE];have hk: ∀ k∈aU (oV t).length n,k < (oV t).length:=fun k h=>by
  have:=jT h;omega
 have hl:=De (oV t).length n;revert hk hl;generalize aU (oV t).length n=ks;intro hk hl;cases ks with
 | nil=>
  rw[show gU (oV t,noB,bT [],((bT []).length:Int),0,())=some (.inr (noB,())) from ao rfl];rfl
 | cons k ks=>
  have h1:=hk k auM;rw[aur (by simp)];have hlen:0 < (bT (k::ks)).length:=by simp
  have hrd: @rd Int (dfl .int) (bT (k::ks)) 0=(k:Int):=C2 [] k ks;have h:gU (oV t,noB,bT (k::ks),((bT (k::ks)).length:Int),0,())=some (.inr (B (rX 4 (DR (L t)) (k::ks)),())):=by
   refine aj (x':=(oV t,bsA (oV t) k,bT ([k]++ks),((bT ([k]++ks)).length:Int),(([k]:List Nat).length:Int),())) ?_ ?_
   ·unfold lD;simp only[show decide ((0:Int) < ((bT (k::ks)).length:Int))=true from aut (by omega),auy,ak (i:=0) hlen,show inb 0 (bT (k::ks)).length=true from ak (i:=0) hlen,hrd,show decide ((0:Int)=0)=true from rfl,ak h1,Ke];rfl
   ·have:=agQ S8 ks [k] (bsA (oV t) k) (by simp) (S8 k h1) (by simpa using (by simp at hl;omega:ks.length+1≤1048576)) fun x hx=>hk x (auJ k hx);rw[ab0 (n:=n) (by rw[ba];exact S8 k h1) fun x hx=>hk x (auJ k hx),NL h1]at this;rw[NL h1];exact this
  rw[h];rfl
end Go.VS
end
end
section
noncomputable section
namespace Go.VS
open Go
def alv{lg:auB}{fo keep:Int}(h0:0≤fo)(h1:fo≤lg.size)(h2:lg.size≤2400):
  w64 (fo+(if 0 < (if w64 ((lg.size:Int) - fo) < keep then w64 ((lg.size:Int) - fo) else keep) then(if w64 ((lg.size:Int) - fo) < keep then w64 ((lg.size:Int) - fo) else keep) else 0))=(wG lg fo keep:Int)∧wG lg fo keep≤lg.size:=by
 rw[ai (n:=(lg.size:Int) - fo) (by omega) (by omega)];unfold wG;by_cases h3:(lg.size:Int) - fo < keep
 ·rw[aus h3];by_cases h4:(0:Int) < (lg.size:Int) - fo
  ·rw[aus h4,ai (by omega) (by omega)];omega
  ·rw[aur h4,ai (by omega) (by omega)];omega
 ·rw[aur h3];by_cases h4:(0:Int) < keep
  ·rw[aus h4,ai (by omega) (by omega)];omega
  ·rw[aur h4,ai (by omega) (by omega)];omega
def Pa{lg:auB}{fo keep:Int}(hl:lg.size≤1048576):nZ ((lg,fo,()),keep,())=some ((((M8 lg fo keep).1,(M8 lg fo keep).2,()),()),()):=by
 unfold nZ M8;simp only[nt hl,auE];rcases tf (cr lg fo) with e | e
 ·have hr:=mZ e;obtain⟨c1,c2⟩:=alv (keep:=keep) hr.2.1 hr.2.2 hr.1;simp only[e,auG,auD,auy,c1,auV];have hz:(lg.extract 0 (wG lg fo keep)).size=wG lg fo keep:=by rw[ee (by omega)];omega
  have hg:=qe (lg.extract 0 (wG lg fo keep));rw[aus (by simp;omega),nY (by omega)];simp only[auE,auV];rw[aus (by simp;omega)]
 ·simp only[e,auH,auD,auy]
def yn{k:anv}{st:anE}(h:an9 k st){r:auB}(hr:r.size≤1048576):gR (tKp k,r,())=some ((tKp (wrR k r true).1,(wrR k r true).2,()),()):=by
 have hl:=h.apV;unfold gR;simp only[zW hl hr,auE];unfold wrR;rw[hl.stT];cases hc:bV st r with
 | none=>
  simp only[auH,auy,dD (eW h.ok),auE]
 | some o=>
  simp only[auG,auD,auy];rw[AY (ahL hl hc)];simp only[auE];have hsm:cR (foM (wrM k r)):=eW (KM (ZI h hc)).ok;rw[show bR (tKp (foM (wrM k r)),())=_ from dD hsm];rfl
def z8{k:anv}(h:ae k=true):iM (tKp k,())=some ((tKp (fY k).1,(fY k).2,()),()):=by
 have hk:=ib h;have hf:=bN hk.kok;have t0:=hf.t0;have t1:=hf.t1;have hz:=TI (t:=(stT k).ti+1) (by omega) (by omega);have hd:=yQ (n:=(stT k).ti+1) (by omega) 4 (by omega) (by omega);unfold iM fY;rw[eK (eW h)];simp only[auE,h,auG,auD,bP h,dD (eW h)];rcases tf k.up with e | e
 ·simp only[e,auG,auD,auy];rw[ai (by omega) (by omega),ux (by omega) (by omega)];simp only[auE];rw[aus (aut (by rw[aW];simp;omega))];rw[show gR (tKp k,B [116,105,109,101,32]++cZ ((stT k).ti+1),())=_ from yn hk (r:=fD ((stT k).ti+1)) (by omega)];rfl
 ·simp only[e,auH,auy,auD]
def aiJ:l7 [111,119,110]:=by unfold l7;decide
def Pc{k:anv}(h:ae k=true)(tt un:Int){tx:auB}(ht:tx.size≤1048576):kg (tKp k,tt,un,tx,())=some ((tKp (vG k tt un tx).1,(vG k tt un tx).2,()),()):=by
 have hk:=ib h;unfold kg vG;rw[eK (eW h)];simp only[auE,h,auG,auD,bP h,dD (eW h),ke ht];rcases tf k.up with e | e
 ·rcases tf (ay ⟨k.id,(stT k).nx,tt,un,tx⟩) with e2 | e2
  ·have hz:=ZY (w:=B [111,119,110,32]) (by rw[aW];decide) e2;simp only[e,e2,auG,auD,avT,auy];rw[aus (aut (by rw[aB]at hz;omega))];rw[show gR (tKp k,B [111,119,110,32]++wr ⟨k.id,(stT k).nx,tt,un,tx⟩,())=_ from yn hk (r:=Ka ⟨k.id,(stT k).nx,tt,un,tx⟩) hz];simp only[auE];rcases tf (wrR k (Ka ⟨k.id,(stT k).nx,tt,un,tx⟩) true).2 with e3 | e3
   ·simp only[e3,auG,auD,auy]
   ·simp only[e3,auH,auD,auy]
  ·simp only[e,e2,auG,auD,au7];have hb:bV (stT k) (B [111,119,110,32]++noB)=none:=UA hk.kok aiJ (.inl rfl);have hz0:(B [111,119,110,32]++noB).size≤1048576:=by rw[aB,aW];show 4+0≤1048576;omega
   have hl:=yn hk (r:=B [111,119,110,32]++noB) hz0;rw[aa6 hb]at hl;rw[aus (aut (show(B [111,119,110,32]).size+noB.size≤4611686018427387904 by rw[aW];show 4+0≤4611686018427387904;omega)),hl];rfl
 ·simp only[e,auH,auL,auy,auD]
def uC{k:anv}(sm:cR k)(fr nu mix:Int):gD (tKp k,fr,nu,mix,())=some ((tF (if ae k then uw k fr nu mix else(zF,false)).1,(if ae k then uw k fr nu mix else(zF,false)).2,()),()):=by
 unfold gD uw;rw[eK sm];rcases tf (ae k) with h | h
 ·have hk:=ib h;have hf:=bN hk.kok;have hl:=hf.hl;rcases tf k.up with e | e
  ·simp only[auE,h,e,auG,auD,auy,cm];rcases tf (inB mix 0 999) with e2 | e2
   ·simp only[e2,auG,auD,bP h,fb (l:=(stT k).held) (show(stT k).held.length≤1048576 by omega),auE];by_cases hi:aP (stT k).held fr nu < 0
    ·simp only[aut hi,auy,auG,auL,au7,auD]
    ·have hi':0≤aP (stT k).held fr nu:=by omega
     simp only[auu hi,auD,auH,avT,auy,vS hi',abD,pQ,Vc,auE]
   ·simp only[e2,auH,auy,au7,auD]
  ·simp only[auE,h,e,auG,auH,auy,auL,auD]
 ·simp only[auE,h,auH,auy,auD]
def MW{k:anv}(h:ae k=true):mG (tKp k,())=some ((tKp (nc k).1,(nc k).2,()),()):=by
 have hk:=ib h;have hsm:=HS (bN hk.kok);have hP:=Cb (lg:=k.log) (fo:=k.fo) (rs:=bp (stT k)) (BZ h) (LY hk.kok);rw[aiw hk.apV]at hP;unfold mG nc;rw[eK (eW h)];simp only[auE,h,auG,auD,dD (eW h)];rcases tf k.up with e | e
 ·simp only[e,auG,auD,auy,bP h,Ep hsm,hk.kok,hP,auE];unfold pkM;simp only[e]
 ·simp only[e,auH,auy,auD]
def Ab{k:anv}(sm:cR k)(keep:Int):iO (tKp k,keep,())=some ((tKp (if ae k then faM k keep else zKp),()),()):=by
 unfold iO;rw[eK sm];rcases tf (ae k) with h | h
 ·simp only[auE,h,auG,auD,auy,Pa sm.1,acz h]
 ·simp only[auE,h,auH,auy,auD]
variable {E:List Event}
def agb{N:Nat}{s:_}(h:SOk E N s)(hN:N≤900000):Tot (gY (s,())) fun a=>SOk E (N+2) a.2.1∧a.2.1.2=s.2∧(a.1.2.2.1=true→0≤a.1.1∧a.1.1 < 4∧isN (cO a.1.1 a.1.2.1.2.2.1)=true):=by
 unfold gY;refine Tot.bind (au h.r (by omega)) fun r1 h1=>Tot.sum (P:=fun y=>SOk E (N+2) y.1∧y.1.2=s.2∧(0≤y.2.1∧y.2.1 < 4∧isN (cO y.2.1 y.2.2.1.2.2.1)=true)) (Q:=fun y=>SOk E (N+2) y.1∧y.1.2=s.2) ?_ (fun y hy=>Tot.ret ⟨hy.1,hy.2.1,fun _=>hy.2.2⟩) (fun y hy=>Tot.ret ⟨hy.1,hy.2,fun h=>by cases h⟩);refine Tot.loop (fun i x=>SOk E (N+1) x.1∧x.1.2=s.2∧0≤x.2.2.1∧x.2.2.1 < 4∧x.2.2.2.1=(i:Int)) _ 4 (fun i x hi hx=> ?_) ⟨h.rd h1.1 (by omega),rfl,h1.2.1,h1.2.2 (show(1:Int)≤4 by decide),rfl⟩;obtain⟨hs,hw,a0,a1,hx⟩:=hx;have hk:=hs.w.has a0 a1;unfold kK;refine Tot.ite (fun hc=> ?_) (fun hc=>Tot.ret ⟨hs.up (by omega),hw⟩);have hc:=auv hc;refine Tot.pos hk.2.2 (Tot.bind (ae5 hk.1) fun r6 h6=> ?_);subst h6;refine Tot.ite (fun hl=> ?_) (fun hl=> ?_)
 ·have hl:(0:Int) < ((stT (kA x.1.2.2.1 x.2.2.1.toNat)).held.length:Int):=auv hl;refine Tot.bind (au hs.r (by omega)) fun r7 h7=> ?_;have hlt:=h7.2.2 hl;refine Tot.pos (et h7.2.1 hlt) (Tot.ret ⟨hs.rd h7.1 (by omega),hw,a0,a1, ?_⟩);have hkk:=ib hk.1;have hid:=hkk.id;have h9:r7.1.1.toNat < (stT (kA x.1.2.2.1 x.2.2.1.toNat)).held.length:=by
   have:r7.1.1 < ((stT (kA x.1.2.2.1 x.2.2.1.toNat)).held.length:Int):=hlt;have:=h7.2.1;omega
  have:=Pe hkk.kok (n:=nA (stT (kA x.1.2.2.1 x.2.2.1.toNat)).held r7.1.1.toNat) (by rw[nA,auQ,auO h9];exact avm h9);rw[hid,hk.2.1]at this;exact this
 ·have hm:=am6 a0 a1;refine Tot.ret ⟨?_,hs,hw,hm.1,hm.2, ?_⟩
  ·omega
  ·show w64 (x.2.2.2.1+1)=_;rw[hx,ai (by omega) (by omega)];rfl
end Go.VS
namespace Go.VS
open Go
def alb{N:Nat}{r:List Int×Int×auC}(h:anU N r)(hN:N≤700000):Tot (pt (r,())) fun a=>anU (N+80) a.2.1:=by
 unfold pt;refine Tot.bind (aiH h (by omega)) fun r1 h1=>Tot.bind (au h1.1 (by omega)) fun r2 h2=>Tot.bind (au h2.1 (by omega)) fun r3 h3=>Tot.bind (Tot.eq lq) fun r4 _=> ?_;refine Tot.join (A:=fun j=>anU (N+64) j.1) ?_ (fun j hj=> ?_)
 ·refine Tot.ite (fun _=> ?_) (fun _=>Tot.ret (show anU (N+64) r3.2.1 from h3.1.up (by omega)));exact Tot.bind (au h3.1 (by omega)) fun r5 h5=>Tot.bind (Tot.eq (Fy r1.1.1.2.2.2.2.1 r5.1.1)) fun r6 _=>Tot.ret (show anU (N+64) r5.2.1 from h5.1.up (by omega))
 ·have hj:anU (N+64) j.1:=hj;refine Tot.bind (au hj (by omega)) fun r5 h5=> ?_;refine Tot.ite (fun _=> ?_) (fun _=> ?_)
  ·exact Tot.bind (au h5.1 (by omega)) fun r6 h6=>Tot.pos (et h6.2.1 (h6.2.2 (show(1:Int)≤2 by decide))) (Tot.ret (h6.1.up (by omega)))
  refine Tot.ite (fun _=> ?_) (fun _=> ?_)
  ·exact Tot.bind (au h5.1 (by omega)) fun r6 h6=>Tot.pos (et h6.2.1 (h6.2.2 (show(1:Int)≤3 by decide))) (Tot.ret (h6.1.up (by omega)))
  refine Tot.ite (fun _=> ?_) (fun _=> ?_)
  ·exact Tot.bind (au h5.1 (by omega)) fun r6 h6=>Tot.pos (et h6.2.1 (h6.2.2 (show(1:Int)≤3 by decide))) (Tot.ret (h6.1.up (by omega)))
  refine Tot.ite (fun _=> ?_) (fun _=> ?_)
  ·exact Tot.bind (aae h5.1 (by omega) (by decide)) fun r6 h6=>Tot.ret (h6.1.up (by omega))
  refine Tot.ite (fun _=> ?_) (fun _=>Tot.ret (h5.1.up (by omega)));exact Tot.bind (au h5.1 (by omega)) fun r6 h6=>Tot.ret (h6.1.up (by omega))
variable {E:List Event}
def Dw{k:anv}(f:Frame):cR (aJ k f).1:=by
 rcases tf (ae k) with h | h
 ·exact eW (vW h f)
 ·unfold aJ;rw[aur (by rw[h];exact avb)];exact⟨by decide,by decide,fun m hm=>by cases hm⟩
def agU{k:anv}{f:Frame}(hb:ao0 k)(g:WZ (fun _=>True) f):ao0 (aJ k f).1:=by
 rcases tf (ae k) with h | h
 ·exact acm h hb fun _=>g
 ·unfold aJ;rw[aur (by rw[h];exact avb)];exact fun m hm=>by cases hm
def amG{y:_}{f:Int×Int×Int×Int×Int×Int×Int×Int×Int×auB×auC}(hy:aqi y)(hf: ∃ g,f=tF g∧WZ (fun _=>True) g):Tot (al (y,f,())) fun a=>aqi a.1.1:=by
 obtain⟨k,rfl,hk,hb⟩:=hy;obtain⟨g,rfl,hg⟩:=hf;exact⟨_,cQ hk g,_,rfl,Dw _,agU hb hg⟩
def aiR(k:anv)(fr nu mix:Int):WZ (fun _=>True) (if ae k then uw k fr nu mix else(zF,false)).1:=by
 split
 ·rename_i h;rcases tf (uw k fr nu mix).2 with c | c
  ·exact aeR h (fun _ _=>trivial) c
  ·unfold uw at c ⊢;split
   ·rename_i h1;rw[aus h1]at c;cases c
   ·intro e;exact absurd e (show ¬ (0:Int)=1 by decide)
 ·intro e;exact absurd e (show ¬ (0:Int)=1 by decide)
def alU{y:_}{fr nu mix:Int}(hy:aqi y):Tot (dk (y,fr,nu,mix,())) fun a=> ∃ g,a.1.1=tF g∧WZ (fun _=>True) g:=by
 obtain⟨k,rfl,hk,_⟩:=hy;exact⟨_,uq hk fr nu mix,_,rfl,aiR k fr nu mix⟩
def ahV{b:List Int}(h:BOk b):Tot (ax (b,())) fun a=>a.1.2.1=true→0≤a.1.1.2.2.1∧a.1.1.2.2.1 < 4:=by
 refine⟨_,qc h,fun hu=> ?_⟩;have:=jv (th (CN hu)).2.1;show 0≤(dj b).1.dst∧(dj b).1.dst < 4;omega
def aec{l:List Int}(hb:BOk l):Tot (bk (l,())) fun a=>KOk a.1.1:=by
 unfold bk;refine Tot.bind (aiB hb) fun r1 h1=>Tot.bind (ab8 h1 (by decide)) fun r2 h2=> ?_;obtain⟨h2,hy,hk⟩:=h2;refine Tot.sum (P:=fun y=>KOk y.1) (Q:=fun y=>anU 320100 y.2.2.1∧y.2.2.2.1=r2.1.1∧y.2.2.2.2.1=r2.1.2.1) ?_ (fun y hy=>Tot.ret hy) (fun y hq=> ?_)
 ·refine Tot.loop (fun i x=>anU (320000+i) x.2.2.1∧x.2.2.2.1=r2.1.1∧x.2.2.2.2.1=r2.1.2.1∧x.2.2.2.2.2.1=(i:Int)) _ 30 (fun i x hi hx=> ?_) ⟨h2.up (by omega),rfl,rfl,rfl⟩;obtain⟨x1,x2,x3,x4⟩:=hx;unfold kY;refine Tot.ite (fun hc=> ?_) (fun hc=>Tot.ret ⟨x1.up (by omega),x2,x3⟩);have hc:=auv hc;have hyx:YOk x.2.2.2.1:=by rw[x2];exact hy
  have x0:0≤x.2.2.2.2.2.1:=by omega
  have hpc:=hyx.pc x0 hc;refine Tot.pos (et x0 hc) (Tot.pos (aH (by omega)) (Tot.bind (ahV (BOk.str _)) fun r3 h3=> ?_));refine Tot.join (A:=fun j=>anU (320000+(i+1)) j.2.2.1∧j.2.2.2.1=r2.1.1∧j.2.2.2.2.1=r2.1.2.1∧j.2.2.2.2.2.1=(i:Int)∧(j.2.2.2.2.2.2.2.1=true→0≤j.2.2.2.2.2.2.1.2.2.1∧j.2.2.2.2.2.2.1.2.2.1 < 4)) ?_ (fun j hj=> ?_)
  ·refine Tot.ite (fun hu=> ?_) (fun hu=>Tot.ret ⟨x1.up (by omega),x2,x3,x4,fun h=>by cases h⟩);exact Tot.bind (au x1 (by omega)) fun r4 h4=>Tot.ret ⟨h4.1,x2,x3,x4,fun _=>h3 hu⟩
  ·obtain⟨j1,j2,j3,j4,j5⟩:=hj;refine Tot.ite (fun hu=> ?_) (fun hu=>Tot.ret ⟨by have:=hpc.2;omega,j1,j2,j3,qT j4 (by omega)⟩);have hyj:YOk j.2.2.2.1:=by rw[j2];exact hy
   have:=hyj.kp (j5 hu).1 (j5 hu).2;exact Tot.pos this.1 (Tot.ret this.2.ok)
 ·obtain⟨q1,q2,q3⟩:=hq;have hyq:YOk y.2.2.2.1:=by rw[q2];exact hy
  have hkq:KOk y.2.2.2.2.1:=by rw[q3];exact hk
  have hs: ∃ E,SOk E 320100 (y.2.2.1,y.2.2.2.1.1,y.2.2.2.1.2.1,y.2.2.2.1.2.2.1,y.2.2.2.1.2.2.2.1,y.2.2.2.1.2.2.2.2.1,y.2.2.2.1.2.2.2.2.2.1,([]:List Event),()):=by
   obtain⟨w,ev,e,hw⟩:=hyq;rw[e];exact⟨ev,q1,w,[],rfl,by rw[avj];exact hw,avM _⟩
  obtain⟨E,hs⟩:=hs;refine Tot.bind (agb hs (by omega)) fun r3 h3=> ?_;obtain⟨h3,_,h3'⟩:=h3;refine Tot.join (A:=fun j=>anU 320200 j.2.2.1∧KOk j.2.2.2.1) ?_ (fun j hj=> ?_)
  ·refine Tot.join (A:=fun j=>anU 320110 j.2.2.1∧YOk j.2.2.2.1∧KOk j.2.2.2.2.1∧(j.2.2.2.2.2.2.2.1=true→0≤j.2.2.2.2.2.1∧j.2.2.2.2.2.1 < 4∧isN (cO j.2.2.2.2.2.1 j.2.2.2.2.2.2.1.2.2.1)=true)) ?_ (fun j hj=> ?_)
   ·refine Tot.ite (fun hu=> ?_) (fun hu=>Tot.ret ⟨h3.r.up (by omega),hyq,hkq,fun h=>by cases h⟩);exact Tot.bind (au h3.r (by omega)) fun r4 h4=>Tot.ret ⟨h4.1.up (by omega),hyq,hkq,fun _=>h3' hu⟩
   ·obtain⟨j1,j2,j3,j4⟩:=hj;refine Tot.ite (fun hu=> ?_) (fun hu=>Tot.ret ⟨j1.up (by omega),j3⟩);obtain⟨a0,a1,a2⟩:=j4 hu;have ha2:=jv a2;have k1:=j2.kp a0 a1;have k2:=j2.kp ha2.1 (by omega);refine Tot.bind (Tot.eq lq) fun r4 h4=> ?_;subst h4;refine Tot.bind (au j1 (by omega)) fun r5 h5=>Tot.ite (fun _=> ?_) (fun _=> ?_)
    ·exact Tot.pos k1.1 (Tot.bind (au h5.1 (by omega)) fun r6 h6=>Tot.bind (au h6.1 (by omega)) fun r7 h7=>Tot.ret k1.2.ok)
    ·refine Tot.pos k2.1 (Tot.bind (au h5.1 (by omega)) fun r6 h6=> ?_);have v0:=h6.2.1;have v1:r6.1.1 < 8:=h6.2.2 (show(1:Int)≤8 by decide);refine Tot.sum (P:=fun _=>False) (Q:=fun y=>anU 320150 y.2.2.1∧YOk y.2.2.2.1∧KOk y.2.2.2.2.1∧y.2.2.2.2.2.1=j.2.2.2.2.2.1∧aqi y.2.2.2.2.2.2.2.1) ?_ (fun _ h=>h.elim) (fun y hy=> ?_)
     ·refine Tot.loop (fun i x=>anU (320120+i) x.2.2.1∧YOk x.2.2.2.1∧KOk x.2.2.2.2.1∧x.2.2.2.2.2.1=j.2.2.2.2.2.1∧aqi x.2.2.2.2.2.2.2.1∧x.2.2.2.2.2.2.2.2.1=r6.1.1 - (i:Int)) _ r6.1.1.toNat (fun i x hi hx=> ?_) ⟨h6.1.up (by omega),j2,j3,rfl,k2.2,by show r6.1.1=r6.1.1 - 0;omega⟩;obtain⟨x1,x2,x3,x4,x5,x6⟩:=hx;unfold kX;refine Tot.ite (fun hc=> ?_) (fun hc=>Tot.ret ⟨x1.up (by omega),x2,x3,x4,x5⟩);have hc:=auv hc;have kx:=x2.kp (i:=x.2.2.2.2.2.1) (by omega) (by omega);refine Tot.pos kx.1 (Tot.bind (au x1 (by omega)) fun r7 h7=>Tot.bind (alU kx.2) fun r8 h8=>Tot.bind (amG x5 h8) fun r9 h9=>Tot.ret ⟨by omega,h7.1,x2,x3,x4,h9, ?_⟩);show w64 (x.2.2.2.2.2.2.2.2.1 - 1)=r6.1.1 - ((i+1:Nat):Int);rw[ai (by omega) (by omega)];omega
     ·obtain⟨y1,y2,y3,y4,y5⟩:=hy;have ky:=y2.kp (i:=y.2.2.2.2.2.1) (by omega) (by omega);refine Tot.pos ky.1 (Tot.bind (au y1 (by omega)) fun r7 h7=>Tot.bind (alU ky.2) fun r8 _=>Tot.ite (fun _=>Tot.ret y5.ok) (fun _=>Tot.ret ⟨h7.1.up (by omega),y3⟩))
  ·exact Tot.bind (alb hj.1 (by omega)) fun r5 h5=>Tot.ret hj.2
end Go.VS
namespace Go.VS
open Go
def ab6{l:List anD}{i:Nat}(hi:i < l.length)(hl:(hA l i).got.length≤1048576):oN (l,l,(i:Int),0,())=some (.inr (l,l,(i:Int),())):=
 cy (b:=jV) (fun k=>(l,l,(i:Int),(k:Int),())) (hA l i).got.length (fun k hk=>by
  unfold jV;simp only[ak hi,L4,ak hk,auy,auz,avT,auG,auD,aA hk (by omega:(hA l i).got.length≤9223372036854775807)];rw[aus (by simpa using hk)]) (by
  unfold jV;simp only[ak hi,L4,auy];rw[aur (by simp)])
def Xq{l:List anD}(hl:l.length≤1048576)(hs: ∀ h∈l,J8 h):fT (l,l,())=some ((true,()),()):=by
 have h0:oO (l,l,0,())=some (.inr ()):=
  cy (b:=jW) (fun k=>(l,l,(k:Int),())) l.length (fun k hk=>by
   have hg:(hA l k).got.length≤1048576:=by rw[qN hk];exact(hs _ (avm hk)).1
   unfold jW;simp only[ak hk,L4,bD hk,auy,auz,auG,auD,ab6 hk hg,c8,aA hk (by omega:l.length≤9223372036854775807)]) (by
   unfold jW;rw[aur (by simp)])
 unfold fT;simp only[auz,auG,auD,h0,c8]
def ca{k:anv}(sm:cR k):aq (tKp k,tKp k,())=some ((true,()),()):=by
 unfold aq;simp only[auz,auy,Xq sm.2.1 sm.2.2];rfl
def Vy{l:List Int}(hb:BOk l): ∃ k f,bk (l,())=some ((tKp k,tF f,()),())∧cR k∧aiF k.anw:=by
 obtain⟨⟨⟨y,⟨a,b,c,d,e,f,g,h,i,j,_⟩,_⟩,_⟩,e1,k,e2,sm⟩:=aec hb;simp only at e2;subst e2;exact⟨k,⟨a,b,c,d,e,f,g,h,i,j⟩,e1,sm⟩
def uL{l:List Int}(hb:BOk l): ∃ k f,bk (l,())=some ((tKp k,tF f,()),())∧cR k:=by
 obtain⟨k,f,h1,h2,_⟩:=Vy hb;exact⟨k,f,h1,h2⟩
def amI(k:anv)(n:Int):(faM k n).up=false:=by unfold faM;rfl
def ajF{k:anv}(h:k.up=false)(tt un:Int)(tx:auB):vG k tt un tx=(k,0):=by
 unfold vG;rw[h,auL,auD]
def ahh{k:anv}(h:k.up=false):fY k=(k,false):=by
 unfold fY;rw[h,auD]
def ahj{k:anv}(ok:ae k=true)(h:k.up=false)(f:Frame):aJ k f=(k,[]):=by
 rw[lF ok];unfold mH;rw[h,auL,auD]
def ajG{k:anv}(h:k.up=false)(fr nu mix:Int):uw k fr nu mix=(zF,false):=by
 unfold uw;rw[h,auL,auD]
def ahi{k:anv}(h:k.up=false):nc k=(k,false):=by
 unfold nc;rw[h,auD]
def amN{l:List Int}(hb:BOk l):gf (l,())=some ((true,()),()):=by
 obtain⟨k,f,hd,sm⟩:=uL hb;unfold gf;apply Tot.val;refine Tot.ite (fun _=>Tot.ret rfl) (fun _=> ?_);refine Tot.bind (Tot.eq hd) fun r1 h1=> ?_;subst h1;refine Tot.bind (Tot.eq (zA sm 0)) fun r2 h2=>Tot.bind (Tot.eq (Ab sm 0)) fun r3 h3=> ?_;subst h2 h3;rcases tf (ae k) with e | e
 ·have hx:ae (faM k 0)=true:=aaH e 0;have hu:=amI k 0;have hs:=eW hx;simp only[e,auy];generalize faM k 0=x at hx hu hs;rw[show aq (tKp x,tKp x,())=_ from ca hs];simp only[auE,bj sm,e,au4,bF,auy,avd,auG,awu,auD];rw[show kg (tKp x,_,_,_,())=_ from Pc hx (avq (w64 (k.id+1)) 4) 999 (tx:=B [120]) (by decide),ajF hu];simp only[auE];rw[z8 hx,ahh hu];simp only[auE];rw[show bq (tKp x,tF f,())=_ from cT hs f,ahj hx hu];simp only[auE];rw[uC hs,aus hx,ajG hu];simp only[auE];rw[MW hx,ahi hu];simp only[auE,ca hs,au4,bF,auy,avd,auH,auz,avT];exact Tot.ret rfl
 ·have hs:cR zKp:=⟨by decide,by decide,fun m hm=>by cases hm⟩;simp only[e,auD];rw[show aq (tKp zKp,tKp zKp,())=_ from ca hs];simp only[auE,bj sm,e,au4,bF,auy,avd,auG,auH,avG];exact Tot.ret rfl
end Go.VS
end
end
