/- Part 17. -/
import Derived.Test.YtimdnaklfelapaaGreatDoorQAP
open Int renaming tdiv→au6,tmod→avq,toNat→auK
open List renaming drop→avp,replicate→au0,set→ave,take→au3
set_option linter.unusedVariables false
set_option linter.unusedSimpArgs false
set_option linter.defProp false
noncomputable section
namespace Go.VS
open Go Go.Proofs
set_option maxRecDepth 100000
def fe:SQ Tryz.prog cK:=soX (fn:=Tryz.f130) (l:=5) (g:=9) P1 (by kernel_rfl) rfl (by kernel_rfl) amP amO
def KQ:Cx:=cX [aY,cb,gV,cK] [] []
def NO:OKC Tryz.prog KQ af:=okc mixed (gC aE (gC bw (gC eT (gC fe (av)))))
def iu(x:Y10×auC):Option ((auC)×(Y10×auC)):=
 (ab (x.1.1,4,())).bind fun r1=>
 (cB (r1.2.1,([(B [97]),(B [104,101,108,108,111]),(B [97,32,108,111,110,103,101,114,32,109,101,115,115,97,103,101]),(B [97,98,99,100]),(B [49,50,51,52,53,54,55,56]),(B [106,117,115,116,32,116,119,101,110,116,121,45,102,111,117,114,32,98,121,116,101,115,32,33,33]),(B [109,105,120,101,100,32,98,108,111,99,107,115])]:List auB),())).bind fun r2=>
 (bH (X:=Y10×Int×auB×auC) (fun j4=>
 if inb j4.2.1 j4.1.2.2.1.length then
 (bm (((rd (dfl .anx) j4.1.2.2.1 j4.2.1).id,(rd (dfl .anx) j4.1.2.2.1 j4.2.1).up,(rd (dfl .anx) j4.1.2.2.1 j4.2.1).log,(rd (dfl .anx) j4.1.2.2.1 j4.2.1).fo,(rd (dfl .anx) j4.1.2.2.1 j4.2.1).anw,()),())).bind fun r6=>
 (ab (j4.1.1,4,())).bind fun r7=>
 (ab (r7.2.1,12,())).bind fun r8=>
 (ap ((r8.2.1,j4.1.2),(1,j4.2.1,0,0,0,0,0,r7.1.1,(w64 ((w64 (r6.1.1.2.1+1))+r8.1.1)),j4.2.2),())).bind fun r9=>
 some ((),r9.2)
 else none)
 ((if decide (24 < (r2.1.1.size:Int)) then
 if decide (0≤24)&&decide (24≤(r2.1.1.size:Int)) then
 let v5:=(r2.1.1.extract (0) (auK 24))
 some (.inr ((r2.2.1,x.1.2),r1.1.1,v5,()))
 else none
 else
 some (.inr ((r2.2.1,x.1.2),r1.1.1,r2.1)))))
def tj:Ent:=(115,none,⟨[Z22],[],iu⟩)
def tM:SQ Tryz.prog tj:=sk (v:=t1 (t1 (.join [(0,Z24),(2,.int .i64),(3,.str)] .nil .nil))) (fn:=Tryz.f115) NO kN
def IB:Cx:=cX [aY,cb] [] []
def yT:OKC Tryz.prog IB af:=okc mixed (gC aE (gC bw (av)))
def oD(x:Y10×Y0×Int×Int×auC):Rnd (Y10×Y0×Int×Int×auC) (Y10×Int×Y0×Bool×auC) (Y10×Y0×auC):=
 if decide (x.2.2.2.1 < 4) then
 if inb x.2.2.1 x.1.2.2.1.length then
 (bm (((rd (dfl .anx) x.1.2.2.1 x.2.2.1).id,(rd (dfl .anx) x.1.2.2.1 x.2.2.1).up,(rd (dfl .anx) x.1.2.2.1 x.2.2.1).log,(rd (dfl .anx) x.1.2.2.1 x.2.2.1).fo,(rd (dfl .anx) x.1.2.2.1 x.2.2.1).anw,()),())).bind fun r61=>
 if decide (0 < (r61.1.1.2.2.2.1.length:Int)) then
 (ab (x.1.1,(r61.1.1.2.2.2.1.length:Int),())).bind fun r62=>
 if inb r62.1.1 r61.1.1.2.2.2.1.length then
 let v63:=(rd (dfl .note) r61.1.1.2.2.2.1 r62.1.1).fr
 let v64:=(rd (dfl .note) r61.1.1.2.2.2.1 r62.1.1).nu
 let v65:=(rd (dfl .note) r61.1.1.2.2.2.1 r62.1.1).to
 let v66:=(rd (dfl .note) r61.1.1.2.2.2.1 r62.1.1).un
 let v67:=(rd (dfl .note) r61.1.1.2.2.2.1 r62.1.1).tx
 some (.inr (.inl ((r62.2.1,x.1.2),x.2.2.1,(v63,v64,v65,v66,v67,()),true,())))
 else none
 else
 let v68:=(avq (w64 (x.2.2.1+1)) 4)
 some (.inl (x.1,x.2.1,v68,(w64 (x.2.2.2.1+1)),()))
 else none
 else
 some (.inr (.inr (x.1,x.2.1,())))
def q7:=aV oD
def vt:Loop:=⟨[(0,Z24),(3,Z0),(5,.int .i64),(6,.int .i64)],[(0,Z24),(3,Z0)],0,[(0,Z24),(2,.int .i64),(3,Z0),(4,.bool)],q7⟩
def Io:LF Tryz.f37 [0] [1,1,0,1,0,0] vt:=sq (v:= .nil) yT (b:=oD) kN
def gH(x:Y10×auC):Option ((Int×Y0×Bool×auC)×(Y10×auC)):=
 (ab (x.1.1,4,())).bind fun r1=>
 (aK (q7 ((r1.2.1,x.1.2),(0,0,0,0,noB,()),r1.1.1,0,()))
 (fun y69=>some (y69.2,(y69.1,())))
 (fun y69=>some ((0,(0,0,0,0,noB,()),false,()),(y69.1,()))))
def qA:Ent:=(37,none,⟨[Z22],[.int .i64,Z1,.bool],gH⟩)
def q6:SQ Tryz.prog qA:=sk (v:=t1 (t1 (.two (t1 (.one (.loop vt))) .nil))) (fn:=Tryz.f37) yT (kC Io kN)
def GX:Cx:=cX [aY,cK] [] [(12,18)]
def xe:OKC Tryz.prog GX af:=okc mixed (gC aE (gC fe (av)))
def mM(x:Y10×Int×Int×Int×auC):Rnd (Y10×Int×Int×Int×auC) (auC) (Y10×auC):=
 if(decide (x.2.2.2.1 < x.2.1))&&(decide (0 < (x.1.2.2.2.2.1.length:Int))) then
 (bH (X:=Y10×Int×Int×Int×Y7×auC) (fun j71=>
 (bH (X:=Y10×Int×Int×Int×Y7×auC) (fun j79=>
 (bH (X:=Y10×Int×Int×Int×Y7×Bool×auC) (fun j82=>
 if j82.2.2.2.2.2.1 then
 (ab (j82.1.1,17,())).bind fun r84=>
 (ab (r84.2.1,255,())).bind fun r85=>
 (ap ((r85.2.1,j82.1.2),(j82.2.2.2.2.1.1,j82.2.2.2.2.1.2.1,j82.2.2.2.2.1.2.2.1,j82.2.2.2.2.1.2.2.2.1,j82.2.2.2.2.1.2.2.2.2.1,r84.1.1,(w64 (1+r85.1.1)),j82.2.2.2.2.1.2.2.2.2.2.2.2),())).bind fun r86=>
 some (.inl (r86.2.1,j82.2.1,j82.2.2.1,(w64 (j82.2.2.2.1+1)),()))
 else
 some (.inl (j82.1,j82.2.1,j82.2.2.1,(w64 (j82.2.2.2.1+1)),())))
 ((if decide (j79.2.2.2.2.1.1=6) then
 (ab (j79.1.1,2,())).bind fun r83=>
 some (.inr ((r83.2.1,j79.1.2),j79.2.1,j79.2.2.1,j79.2.2.2.1,j79.2.2.2.2.1,(decide (r83.1.1=0)),()))
 else
 some (.inr (j79.1,j79.2.1,j79.2.2.1,j79.2.2.2.1,j79.2.2.2.2.1,false,()))))))
 ((ap (j71.1,j71.2.2.2.2)).bind fun r80=>
 if !r80.1.1 then
 (ap (r80.2.1,(5,0,0,0,0,0,0,0,0,noB,()),())).bind fun r81=>
 some (.inr (r81.2.1,j71.2))
 else
 some (.inr (r80.2.1,j71.2)))))
 ((bH (X:=Y10×Int×Int×Int×Y7×Bool×auC) (fun j72=>
 if j72.2.2.2.2.2.1 then
 (ab (j72.1.1,5,())).bind fun r74=>
 if decide (r74.1.1=0) then
 some (.inr ((r74.2.1,j72.1.2),j72.2.1,j72.2.2.1,j72.2.2.2.1,(5,j72.2.2.2.2.1.2),()))
 else
 if decide (r74.1.1=1) then
 some (.inr ((r74.2.1,j72.1.2),j72.2.1,j72.2.2.1,j72.2.2.2.1,(j72.2.2.2.2.1.1,j72.2.2.2.2.1.2.1,j72.2.2.2.2.1.2.2.1,j72.2.2.2.2.1.2.2.2.1,j72.2.2.2.2.1.2.2.2.2.1,j72.2.2.2.2.1.2.2.2.2.2.1,1,j72.2.2.2.2.1.2.2.2.2.2.2.2),()))
 else
 if decide (r74.1.1=2) then
 (ab (r74.2.1,(j72.1.2.2.2.2.1.length:Int),())).bind fun r75=>
 (ab (r75.2.1,17,())).bind fun r76=>
 (ab (r76.2.1,255,())).bind fun r77=>
 some (.inr ((r77.2.1,j72.1.2),j72.2.1,j72.2.2.1,j72.2.2.2.1,(6,j72.2.2.2.2.1.2.1,j72.2.2.2.2.1.2.2.1,j72.2.2.2.2.1.2.2.2.1,r75.1.1,r76.1.1,(w64 (1+r77.1.1)),j72.2.2.2.2.1.2.2.2.2.2.2.2),()))
 else
 (ab (r74.2.1,(j72.1.2.2.2.2.1.length:Int),())).bind fun r78=>
 some (.inr ((r78.2.1,j72.1.2),j72.2.1,j72.2.2.1,j72.2.2.2.1,(j72.2.2.2.2.1.1,j72.2.2.2.2.1.2.1,j72.2.2.2.2.1.2.2.1,j72.2.2.2.2.1.2.2.2.1,r78.1.1,j72.2.2.2.2.1.2.2.2.2.2),()))
 else
 some (.inr (j72.1,j72.2.1,j72.2.2.1,j72.2.2.2.1,j72.2.2.2.2.1,())))
 ((if decide (0 < x.2.2.1) then
 (ab (x.1.1,x.2.2.1,())).bind fun r73=>
 some (.inr ((r73.2.1,x.1.2),x.2.1,x.2.2.1,x.2.2.2.1,(4,0,0,0,0,0,0,0,0,noB,()),(decide (r73.1.1=0)),()))
 else
 some (.inr (x.1,x.2.1,x.2.2.1,x.2.2.2.1,(4,0,0,0,0,0,0,0,0,noB,()),false,())))))))
 else
 some (.inr (.inr (x.1,())))
def qF:=aV mM
def tP:Loop:=⟨[(0,Z24),(1,.int .i64),(2,.int .i64),(6,.int .i64)],[(0,Z24)],0,[],qF⟩
def Gd:LF Tryz.f131 [0] [1,0,0] tP:=sq (v:=t1 (.two (.one (t1 (.join [(0,Z24),(1,.int .i64),(2,.int .i64),(6,.int .i64),(7,Z27)] (.join [(0,Z24),(1,.int .i64),(2,.int .i64),(6,.int .i64),(7,Z27),(33,.bool)] .nil .nil) (.join [(0,Z24),(1,.int .i64),(2,.int .i64),(6,.int .i64),(7,Z27)] .nil (.join [(0,Z24),(1,.int .i64),(2,.int .i64),(6,.int .i64),(7,Z27),(102,.bool)] .nil .nil))))) .nil)) xe (b:=mM) kN
def cN(x:Y10×Int×Int×auC):Option ((auC)×(Y10×auC)):=
 (aK (qF (x.1,x.2.1,x.2.2.1,0,()))
 (fun _=>none)
 (fun y87=>some ((),y87)))
def jD:Ent:=(131,none,⟨[Z22,.int .i64,.int .i64],[],cN⟩)
def jH:SQ Tryz.prog jD:=sk (v:=t1 (.one (.loop tP))) (fn:=Tryz.f131) xe (kC Gd kN)
def GW:Cx:=cX [aY,qA,cK,jD] [] []
def xd:OKC Tryz.prog GW af:=okc mixed (gC aE (gC q6 (gC fe (gC jH (av)))))
def mL(x:Y10×Int×Int×Int×Y0×Int×Int×auC):Rnd (Y10×Int×Int×Int×Y0×Int×Int×auC) (auC) (Y10×Int×Int×auC):=
 if decide (x.2.2.2.2.2.2.1 < x.2.1) then
 (ap (x.1,(3,x.2.2.2.1,x.2.2.2.2.1.1,x.2.2.2.2.1.2.1,0,(w64 (x.2.2.2.2.2.1+x.2.2.2.2.2.2.1)),0,0,0,noB,()),())).bind fun r12=>
 let v13:=(w64 (x.2.2.2.2.2.2.1+1))
 some (.inl (r12.2.1,x.2.1,x.2.2.1,x.2.2.2.1,x.2.2.2.2.1,x.2.2.2.2.2.1,v13,()))
 else
 some (.inr (.inr (x.1,x.2.1,x.2.2.1,())))
def qE:=aV mL
def tO:Loop:=⟨[(0,Z24),(1,.int .i64),(2,.int .i64),(6,.int .i64),(7,Z0),(9,.int .i64),(10,.int .i64)],[(0,Z24),(1,.int .i64),(2,.int .i64)],0,[],qE⟩
def Gc:LF Tryz.f76 [0] [1,1,1,0,1,0,0] tO:=sq (v:= .nil) xd (b:=mL) kN
def cM(x:Y10×Int×Int×auC):Option ((auC)×(Y10×auC)):=
 (gH (x.1,())).bind fun r1=>
 if !r1.1.2.2.1 then
 some ((),r1.2)
 else
 (ab (r1.2.1.1,2,())).bind fun r2=>
 (ab (r2.2.1,40,())).bind fun r3=>
 (aK (qE ((r3.2.1,r1.2.1.2),x.2.1,x.2.2.1,r1.1.1,r1.1.2.1,(w64 (r2.1.1 * r3.1.1)),0,()))
 (fun _=>none)
 (fun y14=>(ab (y14.1.1,(w64 (y14.2.1+4)),())).bind fun r15=>
 (cN ((r15.2.1,y14.1.2),r15.1.1,y14.2.2)).bind fun r16=>
 some ((),r16.2)))
def jC:Ent:=(76,none,⟨[Z22,.int .i64,.int .i64],[],cM⟩)
def jG:SQ Tryz.prog jC:=sk (v:=t1 (t1 (t1 (.two (t1 (.one (.loop tO))) .nil)))) (fn:=Tryz.f76) xd (kC Gc kN)
def IC:Cx:=cX [aY,jC,cK,jD] [] [(89,96)]
def gX:OKC Tryz.prog IC af:=okc mixed (gC aE (gC jG (gC fe (gC jH (av)))))
def oF(x:Y10×Int×Int×auC):Rnd (Y10×Int×Int×auC) (auC) (Y10×auC):=
 if decide (0 < x.2.2.1) then
 (ap (x.1,(2,x.2.1,0,0,0,0,0,0,0,noB,()),())).bind fun r55=>
 some (.inl (r55.2.1,x.2.1,(w64 (x.2.2.1 - 1)),()))
 else
 some (.inr (.inr (x.1,())))
def q9:=aV oF
def vw:Loop:=⟨[(0,Z24),(5,.int .i64),(6,.int .i64)],[(0,Z24)],5,[],q9⟩
def Ik:LF Tryz.f152 [0] [1,1,1,1,0,1,0,1,1,1,0,1,0,0] vw:=sq (v:= .nil) gX (b:=oF) kN
def oG(x:Y10×Int×Int×Int×auC):Rnd (Y10×Int×Int×Int×auC) (auC) (Y10×Int×auC):=
 if decide (x.2.2.2.1 < x.2.2.1) then
 (ap (x.1,(4,0,0,0,x.2.2.2.1,0,1,0,0,noB,()),())).bind fun r34=>
 some (.inl (r34.2.1,x.2.1,x.2.2.1,(w64 (x.2.2.2.1+1)),()))
 else
 some (.inr (.inr (x.1,x.2.1,())))
def rb:=aV oG
def vz:Loop:=⟨[(0,Z24),(2,.int .i64),(3,.int .i64),(4,.int .i64)],[(0,Z24),(2,.int .i64)],2,[],rb⟩
def Il:LF Tryz.f152 [0] [1,1,0,1,0,0,1,0,0,1,1,0,0] vz:=sq (v:= .nil) gX (b:=oG) kN
def oE(x:Y10×Int×Int×auC):Rnd (Y10×Int×Int×auC) (auC) (Y10×auC):=
 if(decide (x.2.2.1 < 12))&&(decide (x.2.1 < (x.1.2.2.2.2.1.length:Int))) then
 (ap (x.1,(4,0,0,0,x.2.1,0,0,0,0,noB,()),())).bind fun r65=>
 some (.inl (r65.2.1,x.2.1,(w64 (x.2.2.1+1)),()))
 else
 some (.inr (.inr (x.1,())))
def q8:=aV oE
def vu:Loop:=⟨[(0,Z24),(7,.int .i64),(8,.int .i64)],[(0,Z24)],7,[],q8⟩
def Ij:LF Tryz.f152 [0] [1,1,1,1,1,1,1,0,1,0,0] vu:=sq (v:= .nil) gX (b:=oE) kN
def oH(x:Y10×Int×auC):Rnd (Y10×Int×auC) (auC) (Y10×auC):=
 (ab (x.1.1,2,())).bind fun r25=>
 if decide (x.2.1 < (w64 (1+r25.1.1))) then
 let v30:=(x.1.2.2.2.2.1.length:Int)
 (aK (rb ((r25.2.1,x.1.2),x.2.1,v30,0,()))
 (fun _=>some (.inr (.inl ())))
 (fun y35=>some (.inl (y35.1,(w64 (y35.2.1+1)),()))))
 else
 some (.inr (.inr ((r25.2.1,x.1.2),())))
def re:=aV oH
def vA:Loop:=⟨[(0,Z24),(2,.int .i64)],[(0,Z24)],0,[],re⟩
def Ip:LF Tryz.f152 [0] [1,1,0,1,0,0] vA:=sq (v:=t1 (.two (.one (t1 (t1 (.one (.loop vz))))) .nil)) gX (b:=oH) (kC Il kN)
def kL(x:Y10×auC):Option ((auC)×(Y10×auC)):=
 (cN (x.1,40,0,())).bind fun r1=>
 (cM (r1.2.1,6,0,())).bind fun r2=>
 (aK (re (r2.2.1,0,()))
 (fun _=>none)
 (fun y36=>(ab (y36.1.1,4,())).bind fun r37=>
 (bH (X:=Y10×auC) (fun j46=>
 let v57:=(j46.1.2.2.2.2.1.length:Int)
 (cM (j46.1,6,0,())).bind fun r58=>
 (aK (q8 (r58.2.1,v57,0,()))
 (fun _=>none)
 (fun y66=>(cN (y66.1,40,0,())).bind fun r67=>
 some ((),r67.2))))
 ((ab (r37.2.1,3,())).bind fun r47=>
 if decide (r47.1.1=0) then
 (ab (r47.2.1,40,())).bind fun r48=>
 (ap ((r48.2.1,y36.1.2),(7,r37.1.1,0,0,0,0,r48.1.1,0,0,noB,()),())).bind fun r49=>
 (ap (r49.2.1,(8,r37.1.1,0,0,0,0,0,0,0,noB,()),())).bind fun r50=>
 some (.inr r50.2)
 else
 if decide (r47.1.1=1) then
 (ab (r47.2.1,9,())).bind fun r51=>
 (aK (q9 ((r51.2.1,y36.1.2),r37.1.1,r51.1))
 (fun _=>none)
 (fun y56=>some (.inr y56)))
 else
 some (.inr ((r47.2.1,y36.1.2),()))))))
def yC:Ent:=(152,none,⟨[Z22],[],kL⟩)
def CQ:SQ Tryz.prog yC:=sk (v:=t1 (t1 (.two (t1 (.one (.loop vA))) (t1 (.join [(0,Z24)] (t1 (.one (t1 (t1 (t1 (.two (t1 (.one (.loop vw))) .nil)))))) (t1 (t1 (.two (t1 (.one (.loop vu))) .nil)))))))) (fn:=Tryz.f152) gX (kC Ip (kC Ik (kC Ij kN)))
def IA:Cx:=cX [aY,cb,jC,tj,cK,jD,yC] [] []
def yS:OKC Tryz.prog IA af:=okc mixed (gC aE (gC bw (gC jG (gC tM (gC fe (gC jH (gC CQ (av))))))))
def oC(x:Y10×Int×auC):Rnd (Y10×Int×auC) (auC) (Y10×auC):=
 if decide (x.2.1 < 4) then
 (cM (x.1,7,0,())).bind fun r76=>
 (cN (r76.2.1,20,0,())).bind fun r77=>
 some (.inl (r77.2.1,(w64 (x.2.1+1)),()))
 else
 some (.inr (.inr (x.1,())))
def q5:=aV oC
def vr:Loop:=⟨[(0,Z24),(8,.int .i64)],[(0,Z24)],1,[],q5⟩
def Im:LF Tryz.f116 [0] [1,1,0,1,1,1,1,1,1,1,1,1,1,1,1,1,1,1,1,1,1,1,1,1,0,0] vr:=sq (v:= .nil) yS (b:=oC) kN
def kJ(x:Y10×Int×auC):Option ((auC)×(Y10×auC)):=
 (ab (x.1.1,4,())).bind fun r1=>
 (ab (r1.2.1,24,())).bind fun r2=>
 (bH (X:=Y10×Int×Int×Int×Bool×auC) (fun j3=>
 if j3.2.2.2.2.1 then
 (iu (j3.1,())).bind fun r4=>
 some ((),r4.2)
 else
 (bH (X:=Y10×Int×Int×Int×Bool×auC) (fun j11=>
 if j11.2.2.2.2.1 then
 (ab (j11.1.1,7,())).bind fun r18=>
 (cM ((r18.2.1,j11.1.2),(w64 (1+r18.1.1)),j11.2.1,())).bind fun r19=>
 some ((),r19.2)
 else
 (bH (X:=Y10×Int×Int×Int×Bool×auC) (fun j22=>
 if j22.2.2.2.2.1 then
 (ab (j22.1.1,20,())).bind fun r25=>
 (cN ((r25.2.1,j22.1.2),(w64 (1+r25.1.1)),j22.2.1,())).bind fun r26=>
 some ((),r26.2)
 else
 (bH (X:=Y10×Int×Int×Bool×auC) (fun j29=>
 if j29.2.2.2.1 then
 (ap (j29.1,(2,j29.2.1,0,0,0,0,0,0,0,noB,()),())).bind fun r32=>
 some ((),r32.2)
 else
 let v33:=(decide (j29.2.2.1=13))
 (if v33 then
 (ab (j29.1.1,50,())).bind fun r34=>
 (ap ((r34.2.1,j29.1.2),(7,j29.2.1,0,0,0,0,r34.1.1,0,0,noB,()),())).bind fun r35=>
 some ((),r35.2)
 else
 (bH (X:=Y10×Int×Int×Bool×auC) (fun j38=>
 if j38.2.2.2.1 then
 (ap (j38.1,(8,j38.2.1,0,0,0,0,0,0,0,noB,()),())).bind fun r41=>
 some ((),r41.2)
 else
 let v42:=(decide (j38.2.2.1=16))
 (if v42 then
 (ab (j38.1.1,2,())).bind fun r43=>
 (ab (r43.2.1,3,())).bind fun r44=>
 (ap ((r44.2.1,j38.1.2),((w64 (9+r43.1.1)),r44.1.1,0,0,0,0,0,0,0,noB,()),())).bind fun r45=>
 some ((),r45.2)
 else
 (bH (X:=Y10×Int×Int×Bool×auC) (fun j48=>
 if j48.2.2.2.1 then
 if inb j48.2.1 j48.1.2.2.1.length then
 (bm (((rd (dfl .anx) j48.1.2.2.1 j48.2.1).id,(rd (dfl .anx) j48.1.2.2.1 j48.2.1).up,(rd (dfl .anx) j48.1.2.2.1 j48.2.1).log,(rd (dfl .anx) j48.1.2.2.1 j48.2.1).fo,(rd (dfl .anx) j48.1.2.2.1 j48.2.1).anw,()),())).bind fun r51=>
 if decide (0 < (r51.1.1.2.2.2.2.2.1.length:Int)) then
 (ab (j48.1.1,(r51.1.1.2.2.2.2.2.1.length:Int),())).bind fun r52=>
 if inb r52.1.1 r51.1.1.2.2.2.2.2.1.length then
 let v53:=(rd (dfl .note) r51.1.1.2.2.2.2.2.1 r52.1.1).fr
 let v54:=(rd (dfl .note) r51.1.1.2.2.2.2.2.1 r52.1.1).nu
 let v55:=(rd (dfl .note) r51.1.1.2.2.2.2.2.1 r52.1.1).to
 let v56:=(rd (dfl .note) r51.1.1.2.2.2.2.2.1 r52.1.1).un
 let v57:=(rd (dfl .note) r51.1.1.2.2.2.2.2.1 r52.1.1).tx
 (ap ((r52.2.1,j48.1.2),(11,j48.2.1,v53,v54,0,0,0,0,0,noB,()),())).bind fun r58=>
 some ((),r58.2)
 else none
 else
 some ((),(j48.1,()))
 else none
 else
 let v59:=(decide (j48.2.2.1=19))
 (if v59 then
 (ab (j48.1.1,2,())).bind fun r60=>
 (ap ((r60.2.1,j48.1.2),((w64 (12+r60.1.1)),j48.2.1,0,0,0,0,0,0,0,noB,()),())).bind fun r61=>
 some ((),r61.2)
 else
 (bH (X:=Y10×Bool×auC) (fun j65=>
 if j65.2.1 then
 (kL (j65.1,())).bind fun r69=>
 some ((),r69.2)
 else
 (aK (q5 (j65.1,0,()))
 (fun _=>none)
 (fun y78=>some ((),y78))))
 (let v66:=(decide (j48.2.2.1=20))
 (if v66 then
 some (.inr (j48.1,v66,()))
 else
 let v67:=(decide (j48.2.2.1=21))
 (if v67 then
 some (.inr (j48.1,v67,()))
 else
 let v68:=(decide (j48.2.2.1=22))
 some (.inr (j48.1,v68,()))))))))
 (let v49:=(decide (j38.2.2.1=17))
 (if v49 then
 some (.inr (j38.1,j38.2.1,j38.2.2.1,v49,()))
 else
 let v50:=(decide (j38.2.2.1=18))
 some (.inr (j38.1,j38.2.1,j38.2.2.1,v50,())))))))
 (let v39:=(decide (j29.2.2.1=14))
 (if v39 then
 some (.inr (j29.1,j29.2.1,j29.2.2.1,v39,()))
 else
 let v40:=(decide (j29.2.2.1=15))
 some (.inr (j29.1,j29.2.1,j29.2.2.1,v40,())))))))
 (let v30:=(decide (j22.2.2.2.1=11))
 (if v30 then
 some (.inr (j22.1,j22.2.2.1,j22.2.2.2.1,v30,()))
 else
 let v31:=(decide (j22.2.2.2.1=12))
 some (.inr (j22.1,j22.2.2.1,j22.2.2.2.1,v31,()))))))
 (let v23:=(decide (j11.2.2.2.1=9))
 (if v23 then
 some (.inr (j11.1,j11.2.1,j11.2.2.1,j11.2.2.2.1,v23,()))
 else
 let v24:=(decide (j11.2.2.2.1=10))
 some (.inr (j11.1,j11.2.1,j11.2.2.1,j11.2.2.2.1,v24,()))))))
 (let v12:=(decide (j3.2.2.2.1=3))
 (if v12 then
 some (.inr (j3.1,j3.2.1,j3.2.2.1,j3.2.2.2.1,v12,()))
 else
 let v13:=(decide (j3.2.2.2.1=4))
 (if v13 then
 some (.inr (j3.1,j3.2.1,j3.2.2.1,j3.2.2.2.1,v13,()))
 else
 let v14:=(decide (j3.2.2.2.1=5))
 (if v14 then
 some (.inr (j3.1,j3.2.1,j3.2.2.1,j3.2.2.2.1,v14,()))
 else
 let v15:=(decide (j3.2.2.2.1=6))
 (if v15 then
 some (.inr (j3.1,j3.2.1,j3.2.2.1,j3.2.2.2.1,v15,()))
 else
 let v16:=(decide (j3.2.2.2.1=7))
 (if v16 then
 some (.inr (j3.1,j3.2.1,j3.2.2.1,j3.2.2.2.1,v16,()))
 else
 let v17:=(decide (j3.2.2.2.1=8))
 some (.inr (j3.1,j3.2.1,j3.2.2.1,j3.2.2.2.1,v17,()))))))))))
 ((if decide (r2.1.1=0) then
 some (.inr ((r2.2.1,x.1.2),x.2.1,r1.1.1,r2.1.1,(decide (r2.1.1=0)),()))
 else
 if decide (r2.1.1=1) then
 some (.inr ((r2.2.1,x.1.2),x.2.1,r1.1.1,r2.1.1,(decide (r2.1.1=1)),()))
 else
 some (.inr ((r2.2.1,x.1.2),x.2.1,r1.1.1,r2.1.1,(decide (r2.1.1=2)),())))))
def yB:Ent:=(116,none,⟨[Z22,.int .i64],[],kJ⟩)
def CP:SQ Tryz.prog yB:=sk (v:=t1 (t1 (.one (.join [(0,Z24),(1,.int .i64),(4,.int .i64),(18,.int .i64),(27,.bool)] .nil (t1 (.join [(0,Z24),(1,.int .i64),(4,.int .i64),(18,.int .i64),(33,.bool)] .nil (t1 (.join [(0,Z24),(1,.int .i64),(4,.int .i64),(18,.int .i64),(49,.bool)] .nil (t1 (.join [(0,Z24),(4,.int .i64),(18,.int .i64),(61,.bool)] .nil (t1 (t1 (t1 (.join [(0,Z24),(4,.int .i64),(18,.int .i64),(79,.bool)] .nil (t1 (t1 (t1 (.join [(0,Z24),(4,.int .i64),(18,.int .i64),(102,.bool)] .nil (t1 (t1 (t1 (.join [(0,Z24),(153,.bool)] .nil (t1 (t1 (.one (.loop vr)))))))))))))))))))))))))) (fn:=Tryz.f116) yS (kC Im kN)
def RN:Cx:=cX [aY,Ak,tj,yB] [] []
def G4:OKC Tryz.prog RN af:=okc mixed (gC aE (gC ES (gC tM (gC CP (av)))))
def wi(x:Y8×Y11×Int×Int×auC):Rnd (Y8×Y11×Int×Int×auC) (auC) (Y8×Y11×auC):=
 if decide (0 < x.2.2.2.1) then
 (kJ ((x.1,x.2.1.2),x.2.2.1,())).bind fun r13=>
 some (.inl (r13.2.1.1,((),r13.2.1.2),x.2.2.1,(w64 (x.2.2.2.1 - 1)),()))
 else
 some (.inr (.inr (x.1,((),x.2.1.2),())))
def xK:=aV wi
def Br:Loop:=⟨[(0,Z23),(5,Z28),(6,.int .i64),(7,.int .i64)],[(0,Z23),(5,Z28)],0,[],xK⟩
def Rj:LF Tryz.f62 [0] [1,1,1,1,0,1,0,0] Br:=sq (v:= .nil) G4 (b:=wi) kN
def mN(x:Y8×Int×auC):Option ((Y11×auC)×(Y8×auC)):=
 (mw ()).bind fun r1=>
 (ab (x.1,5,())).bind fun r2=>
 if inb r2.1.1 (([0,0,3,6,12]:List Int).length) then
 let v3:=(rd (dfl .int) ([0,0,3,6,12]:List Int) r2.1.1)
 (iu ((r2.2.1,r1.1.1.1,r1.1.1.2.1,r1.1.1.2.2.1,r1.1.1.2.2.2.1,r1.1.1.2.2.2.2.1,r1.1.1.2.2.2.2.2.1,([]:List Event),()),())).bind fun r4=>
 (ab (r4.2.1.1,x.2)).bind fun r9=>
 (aK (xK (r9.2.1,((),r4.2.1.2),v3,r9.1))
 (fun _=>none)
 (fun y14=>some ((((),y14.2.1.2),()),(y14.1,()))))
 else none
def yD:Ent:=(62,none,⟨[Z19,.int .i64],[Z28],mN⟩)
def xJ:SQ Tryz.prog yD:=sk (v:=t1 (t1 (t1 (t1 (.two (t1 (.one (.loop Br))) .nil))))) (fn:=Tryz.f62) G4 (kC Rj kN)
def VC:Cx:=cX [] [] []
def Jv:OKC Tryz.prog VC af:=okc mixed (av)
def xL(x:auB×Int×auB×auC):Rnd (auB×Int×auB×auC) (auC) (auB×auC):=
 if decide (0 < x.2.1) then
 (bH (X:=auB×Int×auB×auC) (fun j6=>
 if decide (j6.1.size+j6.1.size≤4611686018427387904) then
 let v7:=(w64 (au6 j6.2.1 2))
 some (.inl ((j6.1++j6.1),v7,j6.2.2))
 else none)
 ((if decide ((avq x.2.1 2)=1) then
 if decide (x.2.2.1.size+x.1.size≤4611686018427387904) then
 some (.inr (x.1,x.2.1,(x.2.2.1++x.1),()))
 else none
 else
 some (.inr x))))
 else
 some (.inr (.inr x.2.2))
def zq:=aV xL
def DU:Loop:=⟨[(0,.str),(1,.int .i64),(5,.str)],[(5,.str)],0,[],zq⟩
def UH:LF Tryz.f133 [] [1,1,0,0,0] DU:=sq (v:=t1 (.one (.join [(0,.str),(1,.int .i64),(5,.str)] .nil .nil))) Jv (b:=xL) kN
def gk(x:auB×Int×auC):Option ((auB×auC)×auC):=
 (aK (zq (x.1,x.2.1,noB,()))
 (fun _=>none)
 (fun y8=>some (y8,())))
def vj:Ent:=(133,none,⟨[.str,.int .i64],[.str],gk⟩)
def rh:SQ Tryz.prog vj:=sk (v:=t1 (t1 (.two (.one (.loop DU)) .nil))) (fn:=Tryz.f133) Jv (kC UH kN)
def RI:Cx:=cX [aY,gV,vj] [] []
def G3:OKC Tryz.prog RI af:=okc mixed (gC aE (gC eT (gC rh (av))))
def wh(x:Y8×List Int×Int×auC):Rnd (Y8×List Int×Int×auC) (auC) (Y8×List Int×auC):=
 if decide (0 < x.2.2.1) then
 (ab (x.1,256,())).bind fun r21=>
 if an (x.2.1.length+([(w8 r21.1.1)]:List Int).length) then
 some (.inl (r21.2.1,(x.2.1++([(w8 r21.1.1)]:List Int)),(w64 (x.2.2.1 - 1)),()))
 else none
 else
 some (.inr (.inr (x.1,x.2.1,())))
def xH:=aV wh
def Bq:Loop:=⟨[(0,Z23),(3,.row 5 .u8),(4,.int .i64)],[(0,Z23),(3,.row 5 .u8)],1,[],xH⟩
def Ri:LF Tryz.f136 [0] [1,0,1,0,1,1,1,0,1,0,1,0,0] Bq:=sq (v:= .nil) G3 (b:=wh) kN
def qY(x:Y8×auC):Option ((auB×auC)×(Y8×auC)):=
 (ab (x.1,8,())).bind fun r13=>
 if decide (r13.1.1=0) then
 (gk ((B [120]),24,())).bind fun r14=>
 (gk ((B [121]),25,())).bind fun r15=>
 (cB (r13.2.1,([noB,r14.1.1,r15.1.1,(B [0,1]),(B [97,10])]:List auB),())).bind fun r16=>
 some (r16.1,r16.2)
 else
 if decide (r13.1.1=1) then
 (ab (r13.2.1,20,())).bind fun r17=>
 (aK (xH (r17.2.1,([]:List Int),(w64 (1+r17.1.1)),()))
 (fun _=>none)
 (fun y22=>some (((eS y22.2.1),()),(y22.1,()))))
 else
 (cB (r13.2.1,([(B [97]),(B [97,98,99,100]),(B [104,101,108,108,111]),(B [49,50,51,52,53,54,55,56]),(B [97,32,108,111,110,103,101,114,32,109,101,115,115,97,103,101]),(B [106,117,115,116,32,116,119,101,110,116,121,45,102,111,117,114,32,98,121,116,101,115,32,33]),(B [109,105,120,101,100,32,98,108,111,99,107,115]),(B [102,111,117,114,32,119,111,114,100,115,32,111,102,32,97,32,116,101,120,116])]:List auB),())).bind fun r23=>
 some (r23.1,r23.2)
def Gw:Ent:=(136,none,⟨[Z19],[.str],qY⟩)
def JW:SQ Tryz.prog Gw:=sk (v:=t1 (.two (t1 (.one (t1 (t1 (t1 (.two (t1 (.two (t1 (.one (.loop Bq))) .nil)) .nil)))))) .nil)) (fn:=Tryz.f136) G3 (kC Ri kN)
def RJ:Cx:=cX [aY,gV,Gw] [] []
def Wr:OKC Tryz.prog RJ af:=okc mixed (gC aE (gC eT (gC JW (av))))
def mK(x:Y8×auC):Option ((Y0×auC)×(Y8×auC)):=
 (ab (x.1,4,())).bind fun r1=>
 (ab (r1.2.1,5,())).bind fun r2=>
 (ab (r2.2.1,4,())).bind fun r3=>
 (ab (r3.2.1,30,())).bind fun r4=>
 (cB (r4.2.1,([(B [97]),(B [104,101,108,108,111]),(B [97,32,108,111,110,103,101,114,32,109,101,115,115,97,103,101]),(B [32,120,32]),(B [106,117,115,116,32,116,119,101,110,116,121,45,102,111,117,114,32,98,121,116,101,115,32,33])]:List auB),())).bind fun r5=>
 (ab (r5.2.1,16,())).bind fun r16=>
 if decide (r16.1.1=0) then
 (ab (r16.2.1,2,())).bind fun r17=>
 if inb r17.1.1 (([(-1),4]:List Int).length) then
 let v18:=(rd (dfl .int) ([(-1),4]:List Int) r17.1.1)
 some (((v18,(w64 (1+r2.1.1)),r3.1.1,(w64 (1+r4.1.1)),r5.1),()),r17.2)
 else none
 else
 if decide (r16.1.1=1) then
 (ab (r16.2.1,3,())).bind fun r19=>
 if inb r19.1.1 (([0,99,100]:List Int).length) then
 let v20:=(rd (dfl .int) ([0,99,100]:List Int) r19.1.1)
 some (((r1.1.1,v20,r3.1.1,(w64 (1+r4.1.1)),r5.1),()),r19.2)
 else none
 else
 if decide (r16.1.1=2) then
 (ab (r16.2.1,3,())).bind fun r21=>
 if inb r21.1.1 (([0,999,1000]:List Int).length) then
 let v22:=(rd (dfl .int) ([0,999,1000]:List Int) r21.1.1)
 some (((r1.1.1,(w64 (1+r2.1.1)),r3.1.1,v22,r5.1),()),r21.2)
 else none
 else
 if decide (r16.1.1=3) then
 (qY r16.2).bind fun r23=>
 some (((r1.1.1,(w64 (1+r2.1.1)),r3.1.1,(w64 (1+r4.1.1)),r23.1),()),r23.2)
 else
 if decide (r16.1.1=4) then
 (ab (r16.2.1,2,())).bind fun r24=>
 if inb r24.1.1 (([(-1),4]:List Int).length) then
 let v25:=(rd (dfl .int) ([(-1),4]:List Int) r24.1.1)
 some (((r1.1.1,(w64 (1+r2.1.1)),v25,(w64 (1+r4.1.1)),r5.1),()),r24.2)
 else none
 else
 some (((r1.1.1,(w64 (1+r2.1.1)),r3.1.1,(w64 (1+r4.1.1)),r5.1),()),r16.2)
def yA:Ent:=(81,none,⟨[Z19],[Z1],mK⟩)
def xI:SQ Tryz.prog yA:=sk (v:= .nil) (fn:=Tryz.f81) Wr kN
def VA:Cx:=cX [aY,pS,yA,gV,gE,gi,vj] [] []
def XY:OKC Tryz.prog VA af:=okc mixed (gC aE (gC oI (gC xI (gC eT (gC fh (gC dP (gC rh (av))))))))
def oZ(x:Y8×auC):Option ((auB×auC)×(Y8×auC)):=
 (ab (x.1,8,())).bind fun r18=>
 if decide (r18.1.1=0) then
 (ab (r18.2.1,30,())).bind fun r19=>
 (aG r19.1).bind fun r20=>
 if decide ((B [116,105,109,101,32]).size+r20.1.1.size≤4611686018427387904) then
 let v21:=((B [116,105,109,101,32])++r20.1.1)
 some ((v21,()),r19.2)
 else none
 else
 if decide (r18.1.1=1) then
 (ab (r18.2.1,4,())).bind fun r22=>
 (ab (r22.2.1,3,())).bind fun r23=>
 (ab (r23.2.1,30,())).bind fun r24=>
 (eD (r22.1.1,(w64 (1+r23.1.1)),(w64 (1+r24.1.1)),())).bind fun r25=>
 if decide ((B [108,101,116,32]).size+r25.1.1.size≤4611686018427387904) then
 let v26:=((B [108,101,116,32])++r25.1.1)
 some ((v26,()),r24.2)
 else none
 else
 if decide (r18.1.1=2) then
 (ab (r18.2.1,4,())).bind fun r27=>
 (ab (r27.2.1,3,())).bind fun r28=>
 (ab (r28.2.1,30,())).bind fun r29=>
 (eD (r27.1.1,(w64 (1+r28.1.1)),(w64 (1+r29.1.1)),())).bind fun r30=>
 if decide ((B [101,97,116,32]).size+r30.1.1.size≤4611686018427387904) then
 let v31:=((B [101,97,116,32])++r30.1.1)
 some ((v31,()),r29.2)
 else none
 else
 if decide (r18.1.1=3) then
 (gk ((B [122]),60,())).bind fun r32=>
 (gk ((B [122]),61,())).bind fun r33=>
 (cB (r18.2.1,([noB,(B [119,104,97,116]),(B [116,105,109,101]),(B [116,105,109,101,32,48]),(B [116,105,109,101,32,48,49]),(B [110,101,120,116,32,51]),(B [110,101,120,116,32,49]),(B [109,97,114,107,32,48,32,49,32,53]),(B [109,97,114,107,32,48,32,49]),(B [109,97,114,107,32,48,32,49,32,53,32]),(B [104,101,108,100,32,48,32,49,32,50,32,57,32,120]),(B [105,110,98,111,120,32,48,32,49,32,50,32,57,32,120]),r32.1.1,r33.1.1]:List auB),())).bind fun r34=>
 some (r34.1,r34.2)
 else
 (cB (r18.2.1,([(B [111,119,110,32]),(B [116,97,107,101,32]),(B [116,97,107,101,32]),(B [104,101,108,100,32]),(B [105,110,98,111,120,32])]:List auB),())).bind fun r35=>
 (mK r35.2).bind fun r36=>
 (cj r36.1).bind fun r37=>
 if decide (r35.1.1.size+r37.1.1.size≤4611686018427387904) then
 some (((r35.1.1++r37.1.1),()),r36.2)
 else none
def A3:Ent:=(79,none,⟨[Z19],[.str],oZ⟩)
def zo:SQ Tryz.prog A3:=sk (v:= .nil) (fn:=Tryz.f79) XY kN
def RM:Cx:=cX [aY,gV] [] []
def Ws:OKC Tryz.prog RM af:=okc mixed (gC aE (gC eT (av)))
def qZ(x:Y8×auB×auC):Option ((auB×auC)×(Y8×auC)):=
 if decide ((x.2.1.size:Int)=0) then
 some (x.2,(x.1,()))
 else
 (ab (x.1,2,())).bind fun r3=>
 if decide (r3.1.1=0) then
 some (x.2,r3.2)
 else
 (ab (r3.2.1,(x.2.1.size:Int),())).bind fun r4=>
 (ab (r4.2.1,5,())).bind fun r11=>
 if decide (r11.1.1=0) then
 if decide (0≤r4.1.1)&&decide (r4.1.1≤(x.2.1.size:Int)) then
 if decide (0≤(w64 (r4.1.1+1)))&&decide ((w64 (r4.1.1+1))≤(x.2.1.size:Int)) then
 if decide ((x.2.1.extract (0) (auK r4.1.1)).size+(x.2.1.extract (auK (w64 (r4.1.1+1))) (x.2.1.size)).size≤4611686018427387904) then
 let v12:=((x.2.1.extract (0) (auK r4.1.1))++(x.2.1.extract (auK (w64 (r4.1.1+1))) (x.2.1.size)))
 some ((v12,()),r11.2)
 else none
 else none
 else none
 else
 if decide (r11.1.1=1) then
 if decide (0≤r4.1.1)&&decide (r4.1.1≤(x.2.1.size:Int)) then
 (cB (r11.2.1,([(B [32]),(B [48]),(B [45]),(B [49]),(B [120]),(B [58]),(B [59])]:List auB),())).bind fun r13=>
 if decide ((x.2.1.extract (0) (auK r4.1.1)).size+r13.1.1.size≤4611686018427387904) then
 if decide (0≤r4.1.1)&&decide (r4.1.1≤(x.2.1.size:Int)) then
 if decide (((x.2.1.extract (0) (auK r4.1.1))++r13.1.1).size+(x.2.1.extract (auK r4.1.1) (x.2.1.size)).size≤4611686018427387904) then
 let v14:=(((x.2.1.extract (0) (auK r4.1.1))++r13.1.1)++(x.2.1.extract (auK r4.1.1) (x.2.1.size)))
 some ((v14,()),r13.2)
 else none
 else none
 else none
 else none
 else
 if decide (r11.1.1=2) then
 if decide (0≤r4.1.1)&&decide (r4.1.1≤(x.2.1.size:Int)) then
 (cB (r11.2.1,([(B [57]),(B [45]),(B [59]),(B [32]),(B [10])]:List auB),())).bind fun r15=>
 if decide ((x.2.1.extract (0) (auK r4.1.1)).size+r15.1.1.size≤4611686018427387904) then
 if decide (0≤(w64 (r4.1.1+1)))&&decide ((w64 (r4.1.1+1))≤(x.2.1.size:Int)) then
 if decide (((x.2.1.extract (0) (auK r4.1.1))++r15.1.1).size+(x.2.1.extract (auK (w64 (r4.1.1+1))) (x.2.1.size)).size≤4611686018427387904) then
 let v16:=(((x.2.1.extract (0) (auK r4.1.1))++r15.1.1)++(x.2.1.extract (auK (w64 (r4.1.1+1))) (x.2.1.size)))
 some ((v16,()),r15.2)
 else none
 else none
 else none
 else none
 else
 if decide (r11.1.1=3) then
 if decide (x.2.1.size+x.2.1.size≤4611686018427387904) then
 some (((x.2.1++x.2.1),()),r11.2)
 else none
 else
 if decide (0≤r4.1.1)&&decide (r4.1.1≤(x.2.1.size:Int)) then
 let v17:=(x.2.1.extract (0) (auK r4.1.1))
 some ((v17,()),r11.2)
 else none
def Gx:Ent:=(132,none,⟨[Z19,.str],[.str],qZ⟩)
def JX:SQ Tryz.prog Gx:=sk (v:= .nil) (fn:=Tryz.f132) Ws kN
def Pp:Cx:=cX [aY,pf,A3,iP,wA,Gx,vj] [] []
def wH:OKC Tryz.prog Pp af:=okc mixed (gC aE (gC mr (gC zo (gC gZ (gC wP (gC JX (gC rh (av))))))))
def ug(x:Y8×Y4×Y4×Int×auC):Rnd (Y8×Y4×Y4×Int×auC) (auC) (Y8×Y4×Y4×auC):=
 (ab (x.1,3,())).bind fun r57=>
 if decide (x.2.2.2.1 < (w64 (38+r57.1.1))) then
 (ab (r57.2.1,3,())).bind fun r61=>
 (gk ((B [102]),(w64 (58+r61.1.1)),())).bind fun r62=>
 (dF r62.1).bind fun r63=>
 if decide (x.2.2.1.1.size+r63.1.1.size≤4611686018427387904) then
 some (.inl (r61.2.1,x.2.1,((x.2.2.1.1++r63.1.1),x.2.2.1.2),(w64 (x.2.2.2.1+1)),()))
 else none
 else
 some (.inr (.inr (r57.2.1,x.2.1,x.2.2.1,())))
def wK:=aV ug
def zk:Loop:=⟨[(0,Z23),(2,Z17),(3,Z17),(5,.int .i64)],[(0,Z23),(2,Z17),(3,Z17)],3,[],wK⟩
def OP:LF Tryz.f77 [0] [1,1,1,0,1,0,1,1,1,1,1,0,1,0,0] zk:=sq (v:= .nil) wH (b:=ug) kN
def uh(x:Y8×Y4×Y4×Int×auC):Rnd (Y8×Y4×Y4×Int×auC) (auC) (Y8×Y4×Y4×auC):=
 if decide (0 < x.2.2.2.1) then
 (oZ (x.1,())).bind fun r24=>
 (eE (x.2.2.1,r24.1)).bind fun r25=>
 (ab (r24.2.1,3,())).bind fun r26=>
 if decide (r26.1.1=0) then
 (dz (r25.1.1,())).bind fun r27=>
 some (.inl (r26.2.1,x.2.1,r27.1.1,(w64 (x.2.2.2.1 - 1)),()))
 else
 some (.inl (r26.2.1,x.2.1,r25.1.1,(w64 (x.2.2.2.1 - 1)),()))
 else
 some (.inr (.inr (x.1,x.2.1,x.2.2.1,())))
def wL:=aV uh
def zm:Loop:=⟨[(0,Z23),(2,Z17),(3,Z17),(4,.int .i64)],[(0,Z23),(2,Z17),(3,Z17)],0,[],wL⟩
def OU:LF Tryz.f77 [0] [1,1,0,1,0,0] zm:=sq (v:= .nil) wH (b:=uh) kN
def pr(x:Y8×auC):Option ((Y4×auC)×(Y8×auC)):=
 (ab (x.1,9,())).bind fun r11=>
 (aK (wL (r11.2.1,(noB,0,()),(noB,0,()),r11.1))
 (fun _=>none)
 (fun y28=>(ab (y28.1,14,())).bind fun r43=>
 if decide (r43.1.1=0) then
 (qZ (r43.2.1,y28.2.2.1.1,())).bind fun r44=>
 some (((r44.1.1,y28.2.2.1.2),()),r44.2)
 else
 if decide (r43.1.1=1) then
 (ab (r43.2.1,(w64 ((y28.2.2.1.1.size:Int)+1)),())).bind fun r45=>
 (ab (r45.2.1,3,())).bind fun r46=>
 if inb r46.1.1 (([(-1),(w64 ((y28.2.2.1.1.size:Int)+1)),r45.1.1]:List Int).length) then
 let v47:=(rd (dfl .int) ([(-1),(w64 ((y28.2.2.1.1.size:Int)+1)),r45.1.1]:List Int) r46.1.1)
 some (((y28.2.2.1.1,v47,()),()),r46.2)
 else none
 else
 if decide (r43.1.1=2) then
 (aK (wK (r43.2.1,y28.2.1,y28.2.2.1,0,()))
 (fun _=>none)
 (fun y64=>some (y64.2.2,(y64.1,()))))
 else
 some (y28.2.2,r43.2)))
def Ew:Ent:=(77,none,⟨[Z19],[Z9],pr⟩)
def H7:SQ Tryz.prog Ew:=sk (v:=t1 (t1 (.two (t1 (.one (.loop zm))) (.two (t1 (.one (t1 (t1 (t1 (t1 (t1 (.two (t1 (.one (.loop zk))) .nil)))))))) .nil)))) (fn:=Tryz.f77) wH (kC OU (kC OP kN))
def Nf:Cx:=cX [aY,eu,yD,jC,Ew,pf,A3] [] []
def PZ:OKC Tryz.prog Nf af:=okc mixed (gC aE (gC c9 (gC xJ (gC jG (gC H7 (gC mr (gC zo (av))))))))
def jF(x:Y8×auC):Option ((Y9×Y3×auC)×(Y8×auC)):=
 (mN (x.1,12,())).bind fun r1=>
 (bH (X:=Y8×Y9×Y3×Y11×auC) (fun j4=>
 (ab (j4.1,4,())).bind fun r7=>
 if inb r7.1.1 j4.2.2.2.1.2.2.1.length then
 (bu (((rd (dfl .anx) j4.2.2.2.1.2.2.1 r7.1.1).id,(rd (dfl .anx) j4.2.2.2.1.2.2.1 r7.1.1).up,(rd (dfl .anx) j4.2.2.2.1.2.2.1 r7.1.1).log,(rd (dfl .anx) j4.2.2.2.1.2.2.1 r7.1.1).fo,(rd (dfl .anx) j4.2.2.2.1.2.2.1 r7.1.1).anw,()),())).bind fun r8=>
 (ab (r7.2.1,20,())).bind fun r23=>
 if decide (r23.1.1=0) then
 (ab (r23.2.1,3,())).bind fun r24=>
 if inb r24.1.1 (([(-1),4,(avq (w64 (r8.1.1.1+1)) 4)]:List Int).length) then
 let v25:=(rd (dfl .int) ([(-1),4,(avq (w64 (r8.1.1.1+1)) 4)]:List Int) r24.1.1)
 some (((j4.2.2.2.1.2.1,j4.2.2.2.1.2.2.1,j4.2.2.2.1.2.2.2.1,j4.2.2.2.1.2.2.2.2.1,j4.2.2.2.1.2.2.2.2.2.1,j4.2.2.2.1.2.2.2.2.2.2.1,()),(v25,r8.1.1.2),()),r24.2)
 else none
 else
 if decide (r23.1.1=1) then
 (pr r23.2).bind fun r26=>
 some (((j4.2.2.2.1.2.1,j4.2.2.2.1.2.2.1,j4.2.2.2.1.2.2.2.1,j4.2.2.2.1.2.2.2.2.1,j4.2.2.2.1.2.2.2.2.2.1,j4.2.2.2.1.2.2.2.2.2.2.1,()),(r8.1.1.1,r8.1.1.2.1,r26.1.1.1,r26.1.1.2.1,r8.1.1.2.2.2.2),()),r26.2)
 else
 if decide (r23.1.1=2) then
 (ab (r23.2.1,4,())).bind fun r27=>
 if inb r27.1.1 (([(-1),0,(r8.1.1.2.2.1.size:Int),(w64 ((r8.1.1.2.2.1.size:Int)+1))]:List Int).length) then
 let v28:=(rd (dfl .int) ([(-1),0,(r8.1.1.2.2.1.size:Int),(w64 ((r8.1.1.2.2.1.size:Int)+1))]:List Int) r27.1.1)
 some (((j4.2.2.2.1.2.1,j4.2.2.2.1.2.2.1,j4.2.2.2.1.2.2.2.1,j4.2.2.2.1.2.2.2.2.1,j4.2.2.2.1.2.2.2.2.2.1,j4.2.2.2.1.2.2.2.2.2.2.1,()),(r8.1.1.1,r8.1.1.2.1,r8.1.1.2.2.1,v28,r8.1.1.2.2.2.2),()),r27.2)
 else none
 else
 if decide (r23.1.1=3) then
 (ab (r23.2.1,5,())).bind fun r29=>
 (ab (r29.2.1,3,())).bind fun r30=>
 (ab (r30.2.1,4,())).bind fun r31=>
 (ab (r31.2.1,26,())).bind fun r32=>
 (ab (r32.2.1,9,())).bind fun r33=>
 if an (r8.1.1.2.2.2.2.1.length+([(anD.mk r29.1.1 (w64 (1+r30.1.1)) r31.1.1 9 r32.1.1 ([(anA.mk r33.1.1 (B [97,98,99,100]))]:List anA))]:List anD).length) then
 some (((j4.2.2.2.1.2.1,j4.2.2.2.1.2.2.1,j4.2.2.2.1.2.2.2.1,j4.2.2.2.1.2.2.2.2.1,j4.2.2.2.1.2.2.2.2.2.1,j4.2.2.2.1.2.2.2.2.2.2.1,()),(r8.1.1.1,r8.1.1.2.1,r8.1.1.2.2.1,r8.1.1.2.2.2.1,(r8.1.1.2.2.2.2.1++([(anD.mk r29.1.1 (w64 (1+r30.1.1)) r31.1.1 9 r32.1.1 ([(anA.mk r33.1.1 (B [97,98,99,100]))]:List anA))]:List anD)),()),()),r33.2)
 else none
 else
 if decide (r23.1.1=4) then
 some (((j4.2.2.2.1.2.1,j4.2.2.2.1.2.2.1,j4.2.2.2.1.2.2.2.1,j4.2.2.2.1.2.2.2.2.1,j4.2.2.2.1.2.2.2.2.2.1,j4.2.2.2.1.2.2.2.2.2.2.1,()),(r8.1.1.1,(!r8.1.1.2.1),r8.1.1.2.2),()),r23.2)
 else
 if decide (r23.1.1=5) then
 (oZ r23.2).bind fun r34=>
 (dF r34.1).bind fun r35=>
 if decide (r8.1.1.2.2.1.size+r35.1.1.size≤4611686018427387904) then
 let v36:=(r8.1.1.2.2.1++r35.1.1)
 some (((j4.2.2.2.1.2.1,j4.2.2.2.1.2.2.1,j4.2.2.2.1.2.2.2.1,j4.2.2.2.1.2.2.2.2.1,j4.2.2.2.1.2.2.2.2.2.1,j4.2.2.2.1.2.2.2.2.2.2.1,()),(r8.1.1.1,r8.1.1.2.1,v36,r8.1.1.2.2.2),()),r34.2)
 else none
 else
 some (((j4.2.2.2.1.2.1,j4.2.2.2.1.2.2.1,j4.2.2.2.1.2.2.2.1,j4.2.2.2.1.2.2.2.2.1,j4.2.2.2.1.2.2.2.2.2.1,j4.2.2.2.1.2.2.2.2.2.2.1,()),r8.1),r23.2)
 else none)
 ((ab (r1.2.1,2,())).bind fun r5=>
 if decide (r5.1.1=0) then
 (cM ((r5.2.1,r1.1.1.2),7,0,())).bind fun r6=>
 some (.inr (r6.2.1.1,(0,([]:List anv),([]:List Bool),([]:List anB),([]:List anz),([]:List anz),()),(0,false,noB,0,([]:List anD),()),((),r6.2.1.2),()))
 else
 some (.inr (r5.2.1,(0,([]:List anv),([]:List Bool),([]:List anB),([]:List anz),([]:List anz),()),(0,false,noB,0,([]:List anD),()),((),r1.1.1.2),()))))
def uF:Ent:=(34,none,⟨[Z19],[Z21,Z15],jF⟩)
def vq:SQ Tryz.prog uF:=sk (v:=t1 (t1 (.join [(0,Z23),(2,Z20),(3,Z14),(4,Z28)] .nil .nil))) (fn:=Tryz.f34) PZ kN
def aem:Cx:=cX [] [] [(11,13)]
def ahs:OKC Tryz.prog aem af:=okc mixed (av)
def aO(x:Int×Int×Int×auC):Option ((Bool×auC)×auC):=
 let v2:=((decide (x.2.1≤x.1))&&(decide (x.1≤x.2.2.1)))
 some ((v2,()),())
def dn:Ent:=(60,none,⟨[.int .i64,.int .i64,.int .i64],[.bool],aO⟩)
def bK:SQ Tryz.prog dn:=sk (v:= .nil) (fn:=Tryz.f60) ahs kN
def V6:Cx:=cX [dn] [] []
def Yd:OKC Tryz.prog V6 af:=okc mixed (gC bK (av))
def bJ(x:Int×auC):Option ((Bool×auC)×auC):=
 (aO (x.1,0,3,())).bind fun r1=>
 some (r1.1,())
def dL:Ent:=(59,none,⟨[.int .i64],[.bool],bJ⟩)
def cu:SQ Tryz.prog dL:=sk (v:= .nil) (fn:=Tryz.f59) Yd kN
def PS:Cx:=cX [dL] [] []
def SK:OKC Tryz.prog PS af:=okc mixed (gC cu (av))
def bz(x:Int×Int×auC):Option ((Int×auC)×auC):=
 (bH (X:=Int×Int×Bool×auC) (fun j6=>
 if j6.2.2.1 then
 some (((-1),()),())
 else
 if decide (j6.1 < j6.2.1) then
 some (((w64 (j6.1+1)),()),())
 else
 some (((w64 (j6.1 - 1)),()),()))
 ((bJ (x.1,())).bind fun r7=>
 if !r7.1.1 then
 some (.inr (x.1,x.2.1,true,()))
 else
 (bJ x.2).bind fun r8=>
 if !r8.1.1 then
 some (.inr (x.1,x.2.1,true,()))
 else
 some (.inr (x.1,x.2.1,(decide (x.1=x.2.1)),()))))
def pT:Ent:=(21,none,⟨[.int .i64,.int .i64],[.int .i64],bz⟩)
def oT:SQ Tryz.prog pT:=sk (v:=t1 (.two (.one (.join [(0,.int .i64),(1,.int .i64),(5,.bool)] .nil .nil)) .nil)) (fn:=Tryz.f21) SK kN
def So:Cx:=cX [pT,dL,dn] [] [(56,63),(82,89)]
def WI:OKC Tryz.prog So af:=okc mixed (gC oT (gC cu (gC bK (av))))
def kh(x:Y7×auC):Option ((Bool×auC)×auC):=
 (bJ (x.1.2.1,())).bind fun r13=>
 if !r13.1.1 then
 some ((false,()),())
 else
 (bJ (x.1.2.2.1,())).bind fun r14=>
 if !r14.1.1 then
 some ((false,()),())
 else
 (bJ (x.1.2.2.2.1,())).bind fun r15=>
 if !r15.1.1 then
 some ((false,()),())
 else
 (bJ (x.1.2.2.2.2.2.1,())).bind fun r16=>
 if !r16.1.1 then
 some ((false,()),())
 else
 (aO (x.1.2.2.2.2.1,1,99,())).bind fun r17=>
 if !r17.1.1 then
 some ((false,()),())
 else
 (aO (x.1.2.2.2.2.2.2.1,1,999,())).bind fun r18=>
 if !r18.1.1 then
 some ((false,()),())
 else
 if decide (x.1.1=1) then
 (aO (x.1.2.2.2.2.2.2.2.1,1,24,())).bind fun r28=>
 if r28.1.1 then
 (aO (x.1.2.2.2.2.2.2.2.2.1,0,999,())).bind fun r29=>
 if r29.1.1 then
 if aX (decide ((x.1.2.2.2.2.2.2.2.2.2.1.size:Int)=4)) ((bz (x.1.2.1,x.1.2.2.2.2.2.1,())).isSome) then
 let v30:=((decide ((x.1.2.2.2.2.2.2.2.2.2.1.size:Int)=4))&&(decide (x.1.2.2.1=((bz (x.1.2.1,x.1.2.2.2.2.2.1,())).getD ((0,()),())).1.1)))
 some ((v30,()),())
 else none
 else
 if aX false ((bz (x.1.2.1,x.1.2.2.2.2.2.1,())).isSome) then
 some ((false,()),())
 else none
 else
 if aX false ((bz (x.1.2.1,x.1.2.2.2.2.2.1,())).isSome) then
 some ((false,()),())
 else none
 else
 (bH (X:=Y7×Bool×auC) (fun j31=>
 if j31.2.1 then
 if decide (j31.1.2.2.2.2.2.2.2.1=0) then
 if decide (j31.1.2.2.2.2.2.2.2.2.1=0) then
 if aX (decide (j31.1.2.2.2.2.2.2.2.2.2.1=noB)) ((bz (j31.1.2.2.1,j31.1.2.2.2.2.2.1,())).isSome) then
 let v32:=((decide (j31.1.2.2.2.2.2.2.2.2.2.1=noB))&&(decide (j31.1.2.1=((bz (j31.1.2.2.1,j31.1.2.2.2.2.2.1,())).getD ((0,()),())).1.1)))
 some ((v32,()),())
 else none
 else
 if aX false ((bz (j31.1.2.2.1,j31.1.2.2.2.2.2.1,())).isSome) then
 some ((false,()),())
 else none
 else
 if aX false ((bz (j31.1.2.2.1,j31.1.2.2.2.2.2.1,())).isSome) then
 some ((false,()),())
 else none
 else
 some ((false,()),()))
 ((if decide (x.1.1=2) then
 some (.inr (x.1,(decide (x.1.1=2)),()))
 else
 some (.inr (x.1,(decide (x.1.1=3)),())))))
def yP:Ent:=(18,none,⟨[Z16],[.bool],kh⟩)
def yv:SQ Tryz.prog yP:=sk (v:=t1 (t1 (.two (t1 (.one (t1 (t1 (.join [(1,Z18),(65,.bool)] .nil .nil))))) .nil))) (fn:=Tryz.f18) WI kN
def Fa:Cx:=cX [] [] []
def Hk:OKC Tryz.prog Fa af:=okc mixed (av)
def dS(x:List auB×auC):Option ((List auB×auC)×auC):=
 if decide ((x.1.length:Int)=0) then
 some ((([]:List auB),()),())
 else
 if decide (0≤(x.1.length:Int))&&decide ((x.1.length:Int)≤4294967296) then
 some (((au3 (au0 (auK (x.1.length:Int)) (dfl .str)).length x.1++avp x.1.length (au0 (auK (x.1.length:Int)) (dfl .str))),()),())
 else none
def iQ:Ent:=(129,none,⟨[.fz .str],[.row 9 .str],dS⟩)
def jc:SQ Tryz.prog iQ:=sk (v:= .nil) (fn:=Tryz.f129) Hk kN
def Sf:Cx:=cX [dn] [] [(11,18)]
def Hi:OKC Tryz.prog Sf af:=okc mixed (gC bK (av))
def pL(x:auB×Int×Int×auC):Rnd (auB×Int×Int×auC) (Int×Bool×auC) (Int×auC):=
 if decide (x.2.2.1 < (x.1.size:Int)) then
 if inb x.2.2.1 x.1.size then
 (aO ((w64 (bt x.1 x.2.2.1)),48,57,())).bind fun r18=>
 if !r18.1.1 then
 some (.inr (.inl (0,false,())))
 else
 if inb x.2.2.1 x.1.size then
 let v19:=(w64 ((w64 (10 * x.2.1))+(w64 (w8 ((bt x.1 x.2.2.1) - 48)))))
 some (.inl (x.1,v19,(w64 (x.2.2.1+1)),()))
 else none
 else none
 else
 some (.inr (.inr (x.2.1,())))
def qp:=aV pL
def B4:Loop:=⟨[(0,.str),(4,.int .i64),(5,.int .i64)],[(4,.int .i64)],0,[(2,.int .i64),(3,.bool)],qp⟩
def Rx:LF Tryz.f149 [] [1,1,1,0,1,0,0] B4:=sq (v:= .nil) Hi (b:=pL) kN
def gQ(x:auB×auC):Option ((Int×Bool×auC)×auC):=
 (aO ((x.1.size:Int),1,5,())).bind fun r3=>
 if aX (!(!r3.1.1)) (inb 0 x.1.size) then
 if(!r3.1.1)||((decide ((bt x.1 0)=48))&&(decide (1 < (x.1.size:Int)))) then
 some ((0,false,()),())
 else
 (aK (qp (x.1,0,0,()))
 (fun y20=>some (y20,()))
 (fun y20=>some ((y20.1,true,()),())))
 else none
def tp:Ent:=(149,none,⟨[.str],[.int .i64,.bool],gQ⟩)
def qo:SQ Tryz.prog tp:=sk (v:=t1 (t1 (t1 (.two (t1 (.one (.loop B4))) .nil)))) (fn:=Tryz.f149) Hi (kC Rx kN)
def Nz:Cx:=cX [dn,iQ,tp] [] [(26,29),(38,41)]
def uQ:OKC Tryz.prog Nz af:=okc mixed (gC bK (gC jc (gC qo (av))))
def mD(x:auB×List auB×Int×Int×auC):Rnd (auB×List auB×Int×Int×auC) (auC) (auB×List auB×Int×Int×auC):=
 if decide (x.2.2.2.1 < (x.1.size:Int)) then
 if aX (decide (x.2.2.2.1 < (w64 (x.2.2.1+3)))) (inb x.2.2.2.1 x.1.size) then
 if(decide (x.2.2.2.1 < (w64 (x.2.2.1+3))))&&(!decide ((bt x.1 x.2.2.2.1)=58)) then
 some (.inl (x.1,x.2.1,x.2.2.1,(w64 (x.2.2.2.1+1)),()))
 else
 some (.inr (.inr x))
 else none
 else
 if aX false (inb x.2.2.2.1 x.1.size) then
 some (.inr (.inr x))
 else none
def nr:=aV mD
def yp:Loop:=⟨[(0,.str),(4,.row 9 .str),(5,.int .i64),(6,.int .i64)],[(0,.str),(4,.row 9 .str),(5,.int .i64),(6,.int .i64)],2,[],nr⟩
def Mv:LF Tryz.f112 [] [1,1,1,0,0,0,1,0,1,0,0,0] yp:=sq (v:= .nil) uQ (b:=mD) kN
def fI(x:auB×List auB×Int×auC):Rnd (auB×List auB×Int×auC) (auC) (List auB×Int×auC):=
 if decide (x.2.2.1 < (x.1.size:Int)) then
 (aK (nr (x.1,x.2.1,x.2.2.1,x.2.2))
 (fun _=>some (.inr (.inl ())))
 (fun y31=>(if aX (!(decide ((y31.1.size:Int)≤y31.2.2.2.1))) (inb y31.2.2.2.1 y31.1.size) then
 if(decide ((y31.1.size:Int)≤y31.2.2.2.1))||(!decide ((bt y31.1 y31.2.2.2.1)=58)) then
 some (.inr (.inr (y31.2.1,y31.2.2.1,())))
 else
 if(decide (0≤y31.2.2.2.1)&&decide (y31.2.2.2.1≤(y31.1.size:Int)))&&(decide (0≤y31.2.2.1)&&decide (y31.2.2.1≤y31.2.2.2.1)) then
 (gQ ((y31.1.extract (auK y31.2.2.1) (auK y31.2.2.2.1)),())).bind fun r32=>
 let v33:=(w64 ((w64 (y31.2.2.2.1+1))+r32.1.1))
 (if !r32.1.2.1 then
 some (.inr (.inr (y31.2.1,y31.2.2.1,())))
 else
 (aO (r32.1.1,1,60,())).bind fun r36=>
 if !r36.1.1 then
 some (.inr (.inr (y31.2.1,y31.2.2.1,())))
 else
 if decide ((y31.1.size:Int)≤v33) then
 some (.inr (.inr (y31.2.1,y31.2.2.1,())))
 else
 if inb v33 y31.1.size then
 if !decide ((bt y31.1 v33)=59) then
 some (.inr (.inr (y31.2.1,y31.2.2.1,())))
 else
 if(decide (0≤v33)&&decide (v33≤(y31.1.size:Int)))&&(decide (0≤(w64 (y31.2.2.2.1+1)))&&decide ((w64 (y31.2.2.2.1+1))≤v33)) then
 if an (y31.2.1.length+([(y31.1.extract (auK (w64 (y31.2.2.2.1+1))) (auK v33))]:List auB).length) then
 some (.inl (y31.1,(y31.2.1++([(y31.1.extract (auK (w64 (y31.2.2.2.1+1))) (auK v33))]:List auB)),(w64 (v33+1)),()))
 else none
 else none
 else none)
 else none
 else none)))
 else
 some (.inr (.inr x.2))
def ns:=aV fI
def yq:Loop:=⟨[(0,.str),(4,.row 9 .str),(5,.int .i64)],[(4,.row 9 .str),(5,.int .i64)],0,[],ns⟩
def MC:LF Tryz.f112 [] [1,1,1,0,0,0] yq:=sq (v:=t1 (.one (t1 (.two (.one (.loop yp)) .nil)))) uQ (b:=fI) (kC Mv kN)
def eV(x:auB×auC):Option ((List auB×Int×auC)×auC):=
 (aK (ns (x.1,([]:List auB),0,()))
 (fun _=>none)
 (fun y37=>(dS (y37.1,())).bind fun r38=>
 some ((r38.1.1,y37.2),())))
def ot:Ent:=(112,none,⟨[.str],[.row 9 .str,.int .i64],eV⟩)
def nq:SQ Tryz.prog ot:=sk (v:=t1 (t1 (t1 (.two (.one (.loop yq)) .nil)))) (fn:=Tryz.f112) uQ (kC MC kN)
def V5:Cx:=cX [] [] [(21,24)]
def JH:OKC Tryz.prog V5 af:=okc mixed (av)
def sE(x:Int×Int×List Mark×Int×Int×auC):Rnd (Int×Int×List Mark×Int×Int×auC) (Int×auC) (auC):=
 if decide (x.2.2.2.2.1 < x.2.2.2.1) then
 if inb x.2.2.2.2.1 x.2.2.1.length then
 let v17:=(rd (dfl .mark) x.2.2.1 x.2.2.2.2.1).mf
 let v18:=(rd (dfl .mark) x.2.2.1 x.2.2.2.2.1).mn
 let v19:=(rd (dfl .mark) x.2.2.1 x.2.2.2.2.1).mu
 if(decide (v17=x.1))&&(decide (v18=x.2.1)) then
 some (.inr (.inl x.2.2.2.2))
 else
 some (.inl (x.1,x.2.1,x.2.2.1,x.2.2.2.1,(w64 (x.2.2.2.2.1+1)),()))
 else none
 else
 some (.inr (.inr ()))
def sD:=aV sE
def Ei:Loop:=⟨[(1,.int .i64),(2,.int .i64),(9,.sl .mark),(10,.int .i64),(11,.int .i64)],[],0,[(6,.int .i64)],sD⟩
def UW:LF Tryz.f103 [] [1,0,1,0,0] Ei:=sq (v:= .nil) JH (b:=sE) kN
def dK(x:List Mark×Int×Int×auC):Option ((Int×auC)×auC):=
 (aK (sD (x.2.1,x.2.2.1,x.1,(x.1.length:Int),0,()))
 (fun y20=>some (y20,()))
 (fun y20=>some (((-1),()),())))
def pg:Ent:=(103,none,⟨[.fz .mark,.int .i64,.int .i64],[.int .i64],dK⟩)
def mB:SQ Tryz.prog pg:=sk (v:=t1 (.two (t1 (.one (.loop Ei))) .nil)) (fn:=Tryz.f103) JH (kC UW kN)
def VY:Cx:=cX [dn] [] []
def JD:OKC Tryz.prog VY af:=okc mixed (gC bK (av))
def sj(x:auB×Int×auC):Rnd (auB×Int×auC) (Bool×auC) (auB×auC):=
 if decide (x.2.1 < (x.1.size:Int)) then
 if inb x.2.1 x.1.size then
 (aO ((w64 (bt x.1 x.2.1)),32,126,())).bind fun r7=>
 if !r7.1.1 then
 some (.inr (.inl (false,())))
 else
 some (.inl (x.1,(w64 (x.2.1+1)),()))
 else none
 else
 some (.inr (.inr (x.1,())))
def si:=aV sj
def Ee:Loop:=⟨[(0,.str),(3,.int .i64)],[(0,.str)],0,[(2,.bool)],si⟩
def UR:LF Tryz.f160 [] [1,0,1,0,0] Ee:=sq (v:= .nil) JD (b:=sj) kN
def gr(x:auB×auC):Option ((Bool×auC)×auC):=
 (aK (si (x.1,0,()))
 (fun y8=>some (y8,()))
 (fun y8=>(aO ((y8.1.size:Int),1,24,())).bind fun r9=>
 some (r9.1,())))
def Jl:Ent:=(160,none,⟨[.str],[.bool],gr⟩)
def MJ:SQ Tryz.prog Jl:=sk (v:=t1 (.two (t1 (.one (.loop Ee))) .nil)) (fn:=Tryz.f160) JD (kC UR kN)
def Wf:Cx:=cX [dL,dn,Jl] [] [(22,24)]
def Yk:OKC Tryz.prog Wf af:=okc mixed (gC cu (gC bK (gC MJ (av))))
def jd(x:Y0×auC):Option ((Bool×auC)×auC):=
 (bJ (x.1.1,())).bind fun r6=>
 if r6.1.1 then
 (bJ (x.1.2.2.1,())).bind fun r7=>
 if r7.1.1 then
 (aO (x.1.2.1,1,99,())).bind fun r8=>
 if r8.1.1 then
 (aO (x.1.2.2.2.1,1,999,())).bind fun r9=>
 if aX r9.1.1 ((gr x.1.2.2.2.2).isSome) then
 let v10:=(r9.1.1&&(((gr x.1.2.2.2.2).getD ((false,()),())).1.1))
 some ((v10,()),())
 else none
 else
 if aX false ((gr x.1.2.2.2.2).isSome) then
 some ((false,()),())
 else none
 else
 if aX false ((gr x.1.2.2.2.2).isSome) then
 some ((false,()),())
 else none
 else
 if aX false ((gr x.1.2.2.2.2).isSome) then
 some ((false,()),())
 else none
def pj:Ent:=(125,none,⟨[Z1],[.bool],jd⟩)
def mF:SQ Tryz.prog pj:=sk (v:= .nil) (fn:=Tryz.f125) Yk kN
def Wc:Cx:=cX [] [] [(13,20)]
def Yh:OKC Tryz.prog Wc af:=okc mixed (av)
def dY(x:Int×Int×Int×Int×auC):Option ((Bool×auC)×auC):=
 let v2:=((decide (x.1 < x.2.2.1))||((decide (x.1=x.2.2.1))&&(decide (x.2.1 < x.2.2.2.1))))
 some ((v2,()),())
def ph:Ent:=(192,none,⟨[.int .i64,.int .i64,.int .i64,.int .i64],[.bool],dY⟩)
def mC:SQ Tryz.prog ph:=sk (v:= .nil) (fn:=Tryz.f192) Yh kN
def Sd:Cx:=cX [pj,ph] [] [(16,37)]
def Hh:OKC Tryz.prog Sd af:=okc mixed (gC mF (gC mC (av)))
def pK(x:List anz×List anz×Int×Int×auC):Rnd (List anz×List anz×Int×Int×auC) (Bool×auC) (auC):=
 if decide (x.2.2.2.1 < x.2.2.1) then
 if inb x.2.2.2.1 x.2.1.length then
 let v35:=(rd (dfl .note) x.2.1 x.2.2.2.1).fr
 let v36:=(rd (dfl .note) x.2.1 x.2.2.2.1).nu
 let v37:=(rd (dfl .note) x.2.1 x.2.2.2.1).to
 let v38:=(rd (dfl .note) x.2.1 x.2.2.2.1).un
 let v39:=(rd (dfl .note) x.2.1 x.2.2.2.1).tx
 (jd ((v35,v36,v37,v38,v39,()),())).bind fun r40=>
 if aX ((!(!r40.1.1))&&(decide (0 < x.2.2.2.1))) (inb (w64 (x.2.2.2.1 - 1)) x.1.length) then
 if aX ((!(!r40.1.1))&&(decide (0 < x.2.2.2.1))) (inb (w64 (x.2.2.2.1 - 1)) x.1.length) then
 if aX ((!(!r40.1.1))&&(decide (0 < x.2.2.2.1))) ((dY ((rd (dfl .note) x.1 (w64 (x.2.2.2.1 - 1))).fr,(rd (dfl .note) x.1 (w64 (x.2.2.2.1 - 1))).nu,v35,v36,())).isSome) then
 if(!r40.1.1)||((decide (0 < x.2.2.2.1))&&(!(((dY ((rd (dfl .note) x.1 (w64 (x.2.2.2.1 - 1))).fr,(rd (dfl .note) x.1 (w64 (x.2.2.2.1 - 1))).nu,v35,v36,())).getD ((false,()),())).1.1))) then
 some (.inr (.inl (false,())))
 else
 some (.inl (x.1,x.2.1,x.2.2.1,(w64 (x.2.2.2.1+1)),()))
 else none
 else none
 else none
 else none
 else
 some (.inr (.inr ()))
def qn:=aV pK
def B3:Loop:=⟨[(0,.sl .note),(5,.sl .note),(6,.int .i64),(7,.int .i64)],[],0,[(2,.bool)],qn⟩
def Rw:LF Tryz.f161 [] [1,0,1,0,0] B3:=sq (v:= .nil) Hh (b:=pK) kN
def nj(x:List anz×auC):Option ((Bool×auC)×auC):=
 (aK (qn (x.1,x.1,(x.1.length:Int),0,()))
 (fun y41=>some (y41,()))
 (fun y41=>some ((true,()),())))
def GM:Ent:=(161,none,⟨[.fz .note],[.bool],nj⟩)
def Kz:SQ Tryz.prog GM:=sk (v:=t1 (.two (t1 (.one (.loop B3))) .nil)) (fn:=Tryz.f161) Hh (kC Rw kN)
def V3:Cx:=cX [dL,dn] [] [(12,14)]
def Yc:OKC Tryz.prog V3 af:=okc mixed (gC cu (gC bK (av)))
def vc(x:Y2×auC):Option ((Bool×auC)×auC):=
 (bJ (x.1.1,())).bind fun r4=>
 if r4.1.1 then
 (aO (x.1.2.1,1,99,())).bind fun r5=>
 if aX r5.1.1 ((aO (x.1.2.2.1,1,999,())).isSome) then
 let v6:=(r5.1.1&&(((aO (x.1.2.2.1,1,999,())).getD ((false,()),())).1.1))
 some ((v6,()),())
 else none
 else
 if aX false ((aO (x.1.2.2.1,1,999,())).isSome) then
 some ((false,()),())
 else none
def Jm:Ent:=(193,none,⟨[Z6],[.bool],vc⟩)
def ML:SQ Tryz.prog Jm:=sk (v:= .nil) (fn:=Tryz.f193) Yc kN
def Sg:Cx:=cX [ph,Jm] [] [(16,37)]
def Hj:OKC Tryz.prog Sg af:=okc mixed (gC mC (gC ML (av)))
def pM(x:List Mark×List Mark×Int×Int×auC):Rnd (List Mark×List Mark×Int×Int×auC) (Bool×auC) (auC):=
 if decide (x.2.2.2.1 < x.2.2.1) then
 if inb x.2.2.2.1 x.2.1.length then
 let v25:=(rd (dfl .mark) x.2.1 x.2.2.2.1).mf
 let v26:=(rd (dfl .mark) x.2.1 x.2.2.2.1).mn
 let v27:=(rd (dfl .mark) x.2.1 x.2.2.2.1).mu
 (vc ((v25,v26,v27,()),())).bind fun r28=>
 if aX ((!(!r28.1.1))&&(decide (0 < x.2.2.2.1))) (inb (w64 (x.2.2.2.1 - 1)) x.1.length) then
 if aX ((!(!r28.1.1))&&(decide (0 < x.2.2.2.1))) (inb (w64 (x.2.2.2.1 - 1)) x.1.length) then
 if aX ((!(!r28.1.1))&&(decide (0 < x.2.2.2.1))) ((dY ((rd (dfl .mark) x.1 (w64 (x.2.2.2.1 - 1))).mf,(rd (dfl .mark) x.1 (w64 (x.2.2.2.1 - 1))).mn,v25,v26,())).isSome) then
 if(!r28.1.1)||((decide (0 < x.2.2.2.1))&&(!(((dY ((rd (dfl .mark) x.1 (w64 (x.2.2.2.1 - 1))).mf,(rd (dfl .mark) x.1 (w64 (x.2.2.2.1 - 1))).mn,v25,v26,())).getD ((false,()),())).1.1))) then
 some (.inr (.inl (false,())))
 else
 some (.inl (x.1,x.2.1,x.2.2.1,(w64 (x.2.2.2.1+1)),()))
 else none
 else none
 else none
 else none
 else
 some (.inr (.inr ()))
def qt:=aV pM
def B6:Loop:=⟨[(0,.sl .mark),(5,.sl .mark),(6,.int .i64),(7,.int .i64)],[],0,[(2,.bool)],qt⟩
def Ry:LF Tryz.f162 [] [1,0,1,0,0] B6:=sq (v:= .nil) Hj (b:=pM) kN
def sA(x:List Mark×auC):Option ((Bool×auC)×auC):=
 (aK (qt (x.1,x.1,(x.1.length:Int),0,()))
 (fun y29=>some (y29,()))
 (fun y29=>some ((true,()),())))
def GO:Ent:=(162,none,⟨[.fz .mark],[.bool],sA⟩)
def KB:SQ Tryz.prog GO:=sk (v:=t1 (.two (t1 (.one (.loop B6))) .nil)) (fn:=Tryz.f162) Hj (kC Ry kN)
def XS:Cx:=cX [dn] [] [(10,23)]
def aaV:OKC Tryz.prog XS af:=okc mixed (gC bK (av))
def sr(x:Int×Y0×auC):Option ((Bool×auC)×auC):=
 if aX (!decide (x.1=x.2.1.2.2.1)) ((aO (x.1,x.2.1.1,x.2.1.2.2.1,())).isSome) then
 if aX ((!decide (x.1=x.2.1.2.2.1))&&(!(((aO (x.1,x.2.1.1,x.2.1.2.2.1,())).getD ((false,()),())).1.1))) ((aO (x.1,x.2.1.2.2.1,x.2.1.1,())).isSome) then
 let v2:=((!decide (x.1=x.2.1.2.2.1))&&((((aO (x.1,x.2.1.1,x.2.1.2.2.1,())).getD ((false,()),())).1.1)||(((aO (x.1,x.2.1.2.2.1,x.2.1.1,())).getD ((false,()),())).1.1)))
 some ((v2,()),())
 else none
 else none
def Na:Ent:=(163,none,⟨[.int .i64,Z1],[.bool],sr⟩)
def O6:SQ Tryz.prog Na:=sk (v:= .nil) (fn:=Tryz.f163) aaV kN
def Wh:Cx:=cX [dL,dn,pg,GM,GO,Na] [] [(123,127)]
def vn:OKC Tryz.prog Wh af:=okc mixed (gC cu (gC bK (gC mB (gC Kz (gC KB (gC O6 (av)))))))
def ta(x:Y1×List anz×Int×Int×auC):Rnd (Y1×List anz×Int×Int×auC) (Bool×auC) (auC):=
 if decide (x.2.2.2.1 < x.2.2.1) then
 if inb x.2.2.2.1 x.2.1.length then
 let arO:=(rd (dfl .note) x.2.1 x.2.2.2.1).fr
 let arN:=(rd (dfl .note) x.2.1 x.2.2.2.1).nu
 let asG:=(rd (dfl .note) x.2.1 x.2.2.2.1).to
 let v152:=(rd (dfl .note) x.2.1 x.2.2.2.1).un
 let asF:=(rd (dfl .note) x.2.1 x.2.2.2.1).tx
 (if decide (arO=x.1.1) then
 if decide (x.1.2.2.1≤arN) then
 some (.inr (.inl (false,())))
 else
 if !decide (asG=x.1.1) then
 some (.inr (.inl (false,())))
 else
 if decide (x.1.2.1 < v152) then
 (dK (x.1.2.2.2.2.1,arO,arN,())).bind fun atz=>
 if decide (atz.1.1 < 0) then
 some (.inr (.inl (false,())))
 else
 some (.inl (x.1,x.2.1,x.2.2.1,(w64 (x.2.2.2.1+1)),()))
 else
 some (.inl (x.1,x.2.1,x.2.2.1,(w64 (x.2.2.2.1+1)),()))
 else
 if !decide (asG=x.1.1) then
 some (.inr (.inl (false,())))
 else
 if decide (x.1.2.1 < v152) then
 (dK (x.1.2.2.2.2.1,arO,arN,())).bind fun aty=>
 if decide (aty.1.1 < 0) then
 some (.inr (.inl (false,())))
 else
 some (.inl (x.1,x.2.1,x.2.2.1,(w64 (x.2.2.2.1+1)),()))
 else
 some (.inl (x.1,x.2.1,x.2.2.1,(w64 (x.2.2.2.1+1)),())))
 else none
 else
 some (.inr (.inr ()))
def sZ:=aV ta
def Er:Loop:=⟨[(1,Z2),(131,.sl .note),(132,.int .i64),(133,.int .i64)],[],4,[(2,.bool)],sZ⟩
def UC:LF Tryz.f128 [] [1,1,1,1,1,0,1,0,0] Er:=sq (v:= .nil) vn (b:=ta) kN
def tb(x:Y1×List Mark×Int×Int×auC):Rnd (Y1×List Mark×Int×Int×auC) (Bool×auC) (Y1×auC):=
 if decide (x.2.2.2.1 < x.2.2.1) then
 if inb x.2.2.2.1 x.2.1.length then
 let arR:=(rd (dfl .mark) x.2.1 x.2.2.2.1).mf
 let arQ:=(rd (dfl .mark) x.2.1 x.2.2.2.1).mn
 let v105:=(rd (dfl .mark) x.2.1 x.2.2.2.1).mu
 if decide (arR=x.1.1) then
 if(decide (x.1.2.2.1≤arQ))||(decide (v105≤x.1.2.1)) then
 some (.inr (.inl (false,())))
 else
 some (.inl (x.1,x.2.1,x.2.2.1,(w64 (x.2.2.2.1+1)),()))
 else
 if decide (v105≤x.1.2.1) then
 some (.inr (.inl (false,())))
 else
 some (.inl (x.1,x.2.1,x.2.2.1,(w64 (x.2.2.2.1+1)),()))
 else none
 else
 some (.inr (.inr (x.1,())))
def s8:=aV tb
def Es:Loop:=⟨[(1,Z2),(104,.sl .mark),(105,.int .i64),(106,.int .i64)],[(1,Z2)],2,[(2,.bool)],s8⟩
def UG:LF Tryz.f128 [] [1,1,1,1,0,1,0,0] Es:=sq (v:= .nil) vn (b:=tb) kN
def tc(x:Y1×List anz×Int×Int×auC):Rnd (Y1×List anz×Int×Int×auC) (Bool×auC) (Y1×auC):=
 if decide (x.2.2.2.1 < x.2.2.1) then
 if inb x.2.2.2.1 x.2.1.length then
 let v77:=(rd (dfl .note) x.2.1 x.2.2.2.1).fr
 let v78:=(rd (dfl .note) x.2.1 x.2.2.2.1).nu
 let v79:=(rd (dfl .note) x.2.1 x.2.2.2.1).to
 let v80:=(rd (dfl .note) x.2.1 x.2.2.2.1).un
 let v81:=(rd (dfl .note) x.2.1 x.2.2.2.1).tx
 if decide (v77=x.1.1) then
 if decide (x.1.2.2.1≤v78) then
 some (.inr (.inl (false,())))
 else
 if decide (v80≤x.1.2.1) then
 some (.inr (.inl (false,())))
 else
 (sr (x.1.1,(v77,v78,v79,v80,v81,()),())).bind fun r82=>
 if !r82.1.1 then
 some (.inr (.inl (false,())))
 else
 (dK (x.1.2.2.2.2.1,v77,v78,())).bind fun r83=>
 if decide (0≤r83.1.1) then
 some (.inr (.inl (false,())))
 else
 some (.inl (x.1,x.2.1,x.2.2.1,(w64 (x.2.2.2.1+1)),()))
 else
 if decide (v80≤x.1.2.1) then
 some (.inr (.inl (false,())))
 else
 (sr (x.1.1,(v77,v78,v79,v80,v81,()),())).bind fun r84=>
 if !r84.1.1 then
 some (.inr (.inl (false,())))
 else
 (dK (x.1.2.2.2.2.1,v77,v78,())).bind fun r85=>
 if decide (0≤r85.1.1) then
 some (.inr (.inl (false,())))
 else
 some (.inl (x.1,x.2.1,x.2.2.1,(w64 (x.2.2.2.1+1)),()))
 else none
 else
 some (.inr (.inr (x.1,())))
def s9:=aV tc
def Et:Loop:=⟨[(1,Z2),(60,.sl .note),(61,.int .i64),(62,.int .i64)],[(1,Z2)],0,[(2,.bool)],s9⟩
def U0:LF Tryz.f128 [] [1,1,1,0,1,0,0] Et:=sq (v:= .nil) vn (b:=tc) kN
def je(x:Y1×auC):Option ((Bool×auC)×auC):=
 (bJ (x.1.1,())).bind fun r7=>
 if !r7.1.1 then
 some ((false,()),())
 else
 (aO (x.1.2.1,0,999,())).bind fun r8=>
 if !r8.1.1 then
 some ((false,()),())
 else
 (aO (x.1.2.2.1,1,100,())).bind fun r9=>
 if !r9.1.1 then
 some ((false,()),())
 else
 if decide (6 < (x.1.2.2.2.1.length:Int)) then
 some ((false,()),())
 else
 if decide (12 < (x.1.2.2.2.2.1.length:Int)) then
 some ((false,()),())
 else
 if decide (6 < (x.1.2.2.2.2.2.1.length:Int)) then
 some ((false,()),())
 else
 (nj (x.1.2.2.2.1,())).bind fun r16=>
 if !r16.1.1 then
 some ((false,()),())
 else
 (sA (x.1.2.2.2.2.1,())).bind fun r17=>
 if !r17.1.1 then
 some ((false,()),())
 else
 (nj x.1.2.2.2.2.2).bind fun r18=>
 if !r18.1.1 then
 some ((false,()),())
 else
 (aK (s9 (x.1,x.1.2.2.2.1,(x.1.2.2.2.1.length:Int),0,()))
 (fun y86=>some (y86,()))
 (fun y86=>(aK (s8 (y86.1,y86.1.2.2.2.2.1,(y86.1.2.2.2.2.1.length:Int),0,()))
 (fun aqT=>some (aqT,()))
 (fun aqT=>(aK (sZ (aqT.1,aqT.1.2.2.2.2.2.1,(aqT.1.2.2.2.2.2.1.length:Int),0,()))
 (fun asD=>some (asD,()))
 (fun asD=>some ((true,()),())))))))
def Bg:Ent:=(128,none,⟨[Z3],[.bool],je⟩)
def Af:SQ Tryz.prog Bg:=sk (v:=t1 (t1 (t1 (.two (t1 (.one (.loop Et))) (.two (t1 (.one (.loop Es))) (.two (t1 (.one (.loop Er))) .nil)))))) (fn:=Tryz.f128) vn (kC U0 (kC UG (kC UC kN)))
def Sj:Cx:=cX [] [] []
def yY:OKC Tryz.prog Sj af:=okc mixed (av)
def pO(x:Int×Y1×Y1×List Mark×Int×Int×auC):Rnd (Int×Y1×Y1×List Mark×Int×Int×auC) (auC) (Y1×Y1×auC):=
 if decide (x.2.2.2.2.2.1 < x.2.2.2.2.1) then
 if inb x.2.2.2.2.2.1 x.2.2.2.1.length then
 let v69:=(rd (dfl .mark) x.2.2.2.1 x.2.2.2.2.2.1).mf
 let v70:=(rd (dfl .mark) x.2.2.2.1 x.2.2.2.2.2.1).mn
 let v71:=(rd (dfl .mark) x.2.2.2.1 x.2.2.2.2.2.1).mu
 if decide (x.1 < v71) then
 if an (x.2.2.1.2.2.2.2.1.length+([(Mark.mk v69 v70 v71)]:List Mark).length) then
 some (.inl (x.1,x.2.1,(x.2.2.1.1,x.2.2.1.2.1,x.2.2.1.2.2.1,x.2.2.1.2.2.2.1,(x.2.2.1.2.2.2.2.1++([(Mark.mk v69 v70 v71)]:List Mark)),x.2.2.1.2.2.2.2.2),x.2.2.2.1,x.2.2.2.2.1,(w64 (x.2.2.2.2.2.1+1)),()))
 else none
 else
 some (.inl (x.1,x.2.1,x.2.2.1,x.2.2.2.1,x.2.2.2.2.1,(w64 (x.2.2.2.2.2.1+1)),()))
 else none
 else
 some (.inr (.inr (x.2.1,x.2.2.1,())))
def qw:=aV pO
def B9:Loop:=⟨[(1,.int .i64),(4,Z4),(5,Z30),(37,.sl .mark),(38,.int .i64),(39,.int .i64)],[(4,Z4),(5,Z30)],2,[],qw⟩
def Rf:LF Tryz.f199 [] [1,1,1,0,1,0,0] B9:=sq (v:= .nil) yY (b:=pO) kN
def pP(x:Int×Y1×Y1×Y1×List anz×Int×Int×auC):Rnd (Int×Y1×Y1×Y1×List anz×Int×Int×auC) (auC) (Int×Y1×Y1×Y1×auC):=
 if decide (x.2.2.2.2.2.2.1 < x.2.2.2.2.2.1) then
 if inb x.2.2.2.2.2.2.1 x.2.2.2.2.1.length then
 let v47:=(rd (dfl .note) x.2.2.2.2.1 x.2.2.2.2.2.2.1).fr
 let v48:=(rd (dfl .note) x.2.2.2.2.1 x.2.2.2.2.2.2.1).nu
 let v49:=(rd (dfl .note) x.2.2.2.2.1 x.2.2.2.2.2.2.1).to
 let v50:=(rd (dfl .note) x.2.2.2.2.1 x.2.2.2.2.2.2.1).un
 let v51:=(rd (dfl .note) x.2.2.2.2.1 x.2.2.2.2.2.2.1).tx
 if decide (x.1 < v50) then
 if an (x.2.2.2.1.2.2.2.1.length+([(anz.mk v47 v48 v49 v50 v51)]:List anz).length) then
 some (.inl (x.1,x.2.1,x.2.2.1,(x.2.2.2.1.1,x.2.2.2.1.2.1,x.2.2.2.1.2.2.1,(x.2.2.2.1.2.2.2.1++([(anz.mk v47 v48 v49 v50 v51)]:List anz)),x.2.2.2.1.2.2.2.2),x.2.2.2.2.1,x.2.2.2.2.2.1,(w64 (x.2.2.2.2.2.2.1+1)),()))
 else none
 else
 some (.inl (x.1,x.2.1,x.2.2.1,x.2.2.2.1,x.2.2.2.2.1,x.2.2.2.2.2.1,(w64 (x.2.2.2.2.2.2.1+1)),()))
 else none
 else
 some (.inr (.inr (x.1,x.2.1,x.2.2.1,x.2.2.2.1,())))
def qx:=aV pP
def Ca:Loop:=⟨[(1,.int .i64),(2,Z2),(4,Z4),(5,Z30),(19,.sl .note),(20,.int .i64),(21,.int .i64)],[(1,.int .i64),(2,Z2),(4,Z4),(5,Z30)],0,[],qx⟩
def Rz:LF Tryz.f199 [] [1,1,0,1,0,0] Ca:=sq (v:= .nil) yY (b:=pP) kN
def sR(x:Y1×Int×auC):Option ((Y1×auC)×auC):=
 (aK (qx (x.2.1,x.1,(0,0,0,([]:List anz),([]:List Mark),([]:List anz),()),(x.1.1,x.2.1,x.1.2.2.1,([]:List anz),([]:List Mark),x.1.2.2.2.2.2),x.1.2.2.2.1,(x.1.2.2.2.1.length:Int),0,()))
 (fun _=>none)
 (fun y52=>(aK (qw (y52.1,y52.2.2.1,y52.2.2.2.1,y52.2.1.2.2.2.2.1,(y52.2.1.2.2.2.2.1.length:Int),0,()))
 (fun _=>none)
 (fun y72=>some (y72.2,())))))
def GP:Ent:=(199,none,⟨[Z3,.int .i64],[Z3],sR⟩)
def KE:SQ Tryz.prog GP:=sk (v:=t1 (t1 (.two (t1 (.one (.loop Ca))) (.two (t1 (.one (.loop B9))) .nil)))) (fn:=Tryz.f199) yY (kC Rz (kC Rf kN))
def XU:Cx:=cX [GP] [] [(12,15),(24,27)]
def aaX:OKC Tryz.prog XU af:=okc mixed (gC KE (av))
def sO(x:Y1×auB×Int×auC):Option ((Y1×Bool×auC)×auC):=
 let v6:=((decide (x.2.1=(B [116,105,109,101])))&&(decide (x.1.2.1 < x.2.2.1)))
 (if v6 then
 (sR (x.1,x.2.2)).bind fun r7=>
 some ((r7.1.1,true,()),())
 else
 let v8:=((decide (x.2.1=(B [110,101,120,116])))&&(decide (x.1.2.2.1 < x.2.2.1)))
 (if v8 then
 some (((x.1.1,x.1.2.1,x.2.2.1,x.1.2.2.2),true,()),())
 else
 some ((x.1,false,()),())))
def Nb:Ent:=(179,none,⟨[Z3,.str,.int .i64],[Z3,.bool],sO⟩)
def O8:SQ Tryz.prog Nb:=sk (v:= .nil) (fn:=Tryz.f179) aaX kN
def NC:Cx:=cX [ko,pj] [] []
def Qf:OKC Tryz.prog NC af:=okc mixed (gC gG (gC mF (av)))
def dm(x:Y0×auC):Option ((auB×auC)×auC):=
 (jd x).bind fun r2=>
 if !r2.1.1 then
 some ((noB,()),())
 else
 (ch (x.1.1,())).bind fun r3=>
 if decide (r3.1.1.size+(B [32]).size≤4611686018427387904) then
 (ch (x.1.2.1,())).bind fun r4=>
 if decide ((r3.1.1++(B [32])).size+r4.1.1.size≤4611686018427387904) then
 if decide (((r3.1.1++(B [32]))++r4.1.1).size+(B [32]).size≤4611686018427387904) then
 (ch (x.1.2.2.1,())).bind fun r5=>
 if decide ((((r3.1.1++(B [32]))++r4.1.1)++(B [32])).size+r5.1.1.size≤4611686018427387904) then
 if decide (((((r3.1.1++(B [32]))++r4.1.1)++(B [32]))++r5.1.1).size+(B [32]).size≤4611686018427387904) then
 (ch (x.1.2.2.2.1,())).bind fun r6=>
 if decide ((((((r3.1.1++(B [32]))++r4.1.1)++(B [32]))++r5.1.1)++(B [32])).size+r6.1.1.size≤4611686018427387904) then
 if decide (((((((r3.1.1++(B [32]))++r4.1.1)++(B [32]))++r5.1.1)++(B [32]))++r6.1.1).size+(B [32]).size≤4611686018427387904) then
 if decide ((((((((r3.1.1++(B [32]))++r4.1.1)++(B [32]))++r5.1.1)++(B [32]))++r6.1.1)++(B [32])).size+x.1.2.2.2.2.1.size≤4611686018427387904) then
 let v7:=((((((((r3.1.1++(B [32]))++r4.1.1)++(B [32]))++r5.1.1)++(B [32]))++r6.1.1)++(B [32]))++x.1.2.2.2.2.1)
 some ((v7,()),())
 else none
 else none
 else none
 else none
 else none
 else none
 else none
 else none
def ku:Ent:=(73,none,⟨[Z1],[.str],dm⟩)
def iJ:SQ Tryz.prog ku:=sk (v:= .nil) (fn:=Tryz.f73) Qf kN
def PL:Cx:=cX [tp] [] []
def EO:OKC Tryz.prog PL af:=okc mixed (gC qo (av))
def nX(x:List Int×List auB×Int×Int×auC):Rnd (List Int×List auB×Int×Int×auC) (List Int×Bool×auC) (List Int×auC):=
 if decide (x.2.2.2.1 < x.2.2.1) then
 if inb x.2.2.2.1 x.2.1.length then
 let v20:=(rd (dfl .str) x.2.1 x.2.2.2.1)
 (gQ (v20,())).bind fun r21=>
 if !r21.1.2.1 then
 some (.inr (.inl (([]:List Int),false,())))
 else
 if an (x.1.length+([r21.1.1]:List Int).length) then
 some (.inl ((x.1++([r21.1.1]:List Int)),x.2.1,x.2.2.1,(w64 (x.2.2.2.1+1)),()))
 else none
 else none
 else
 some (.inr (.inr (x.1,())))
def oR:=aV nX
def zU:Loop:=⟨[(4,.row 3 .int),(9,.sl .str),(10,.int .i64),(11,.int .i64)],[(4,.row 3 .int)],0,[(2,.row 3 .int),(3,.bool)],oR⟩
def O2:LF Tryz.f182 [] [1,1,0,1,0,0] zU:=sq (v:= .nil) EO (b:=nX) kN
def ik(x:List auB×auC):Option ((List Int×Bool×auC)×auC):=
 (aK (oR (([]:List Int),x.1,(x.1.length:Int),0,()))
 (fun y22=>some (y22,()))
 (fun y22=>some ((y22.1,true,()),())))
def wD:Ent:=(182,none,⟨[.fz .str],[.row 3 .int,.bool],ik⟩)
def wX:SQ Tryz.prog wD:=sk (v:=t1 (t1 (.two (t1 (.one (.loop zU))) .nil))) (fn:=Tryz.f182) EO (kC O2 kN)
def PQ:Cx:=cX [ku,pj,wD,Cn] [] [(43,46)]
def SJ:OKC Tryz.prog PQ af:=okc mixed (gC iJ (gC mF (gC wX (gC Fg (av)))))
def lA(x:auB×auC):Option ((Y0×Bool×auC)×auC):=
 (ub (x.1,(B [32]),5,())).bind fun r1=>
 if !decide ((r1.1.1.length:Int)=5) then
 some (((0,0,0,0,noB,()),false,()),())
 else
 if decide (0≤4)&&decide (4≤(r1.1.1.length:Int)) then
 (ik ((au3 (auK 4) r1.1.1),())).bind fun r2=>
 if !r2.1.2.1 then
 some (((0,0,0,0,noB,()),false,()),())
 else
 if inb 0 r2.1.1.length then
 if inb 1 r2.1.1.length then
 if inb 2 r2.1.1.length then
 if inb 3 r2.1.1.length then
 if inb 4 r1.1.1.length then
 (jd (((rd (dfl .int) r2.1.1 0),(rd (dfl .int) r2.1.1 1),(rd (dfl .int) r2.1.1 2),(rd (dfl .int) r2.1.1 3),(rd (dfl .str) r1.1.1 4),()),())).bind fun r5=>
 if aX (!(!r5.1.1)) ((dm (((rd (dfl .int) r2.1.1 0),(rd (dfl .int) r2.1.1 1),(rd (dfl .int) r2.1.1 2),(rd (dfl .int) r2.1.1 3),(rd (dfl .str) r1.1.1 4),()),())).isSome) then
 if(!r5.1.1)||(!decide (((dm (((rd (dfl .int) r2.1.1 0),(rd (dfl .int) r2.1.1 1),(rd (dfl .int) r2.1.1 2),(rd (dfl .int) r2.1.1 3),(rd (dfl .str) r1.1.1 4),()),())).getD ((noB,()),())).1.1=x.1)) then
 some (((0,0,0,0,noB,()),false,()),())
 else
 some ((((rd (dfl .int) r2.1.1 0),(rd (dfl .int) r2.1.1 1),(rd (dfl .int) r2.1.1 2),(rd (dfl .int) r2.1.1 3),(rd (dfl .str) r1.1.1 4),()),true,()),())
 else none
 else none
 else none
 else none
 else none
 else none
 else none
def EI:Ent:=(180,none,⟨[.str],[Z1,.bool],lA⟩)
def Iu:SQ Tryz.prog EI:=sk (v:= .nil) (fn:=Tryz.f180) SJ kN
def V2:Cx:=cX [] [] [(21,24)]
def JF:OKC Tryz.prog V2 af:=okc mixed (av)
def sw(x:Int×Int×List anz×Int×Int×auC):Rnd (Int×Int×List anz×Int×Int×auC) (Int×auC) (auC):=
 if decide (x.2.2.2.2.1 < x.2.2.2.1) then
 if inb x.2.2.2.2.1 x.2.2.1.length then
 let v27:=(rd (dfl .note) x.2.2.1 x.2.2.2.2.1).fr
 let v28:=(rd (dfl .note) x.2.2.1 x.2.2.2.2.1).nu
 let v29:=(rd (dfl .note) x.2.2.1 x.2.2.2.2.1).to
 let v30:=(rd (dfl .note) x.2.2.1 x.2.2.2.2.1).un
 let v31:=(rd (dfl .note) x.2.2.1 x.2.2.2.2.1).tx
 if(decide (v27=x.1))&&(decide (v28=x.2.1)) then
 some (.inr (.inl x.2.2.2.2))
 else
 some (.inl (x.1,x.2.1,x.2.2.1,x.2.2.2.1,(w64 (x.2.2.2.2.1+1)),()))
 else none
 else
 some (.inr (.inr ()))
def sv:=aV sw
def Eg:Loop:=⟨[(1,.int .i64),(2,.int .i64),(9,.sl .note),(10,.int .i64),(11,.int .i64)],[],0,[(6,.int .i64)],sv⟩
def UT:LF Tryz.f50 [] [1,0,1,0,0] Eg:=sq (v:= .nil) JF (b:=sw) kN
def cJ(x:List anz×Int×Int×auC):Option ((Int×auC)×auC):=
 (aK (sv (x.2.1,x.2.2.1,x.1,(x.1.length:Int),0,()))
 (fun y32=>some (y32,()))
 (fun y32=>some (((-1),()),())))
def jg:Ent:=(50,none,⟨[.fz .note,.int .i64,.int .i64],[.int .i64],cJ⟩)
def fH:SQ Tryz.prog jg:=sk (v:=t1 (.two (t1 (.one (.loop Eg))) .nil)) (fn:=Tryz.f50) JF (kC UT kN)
def V1:Cx:=cX [ph] [] [(11,25)]
def JE:OKC Tryz.prog V1 af:=okc mixed (gC mC (av))
def su(x:List anz×Y0×Int×auC):Rnd (List anz×Y0×Int×auC) (auC) (List anz×Y0×Int×auC):=
 if aX (decide (x.2.2.1 < (x.1.length:Int))) (inb x.2.2.1 x.1.length) then
 if aX (decide (x.2.2.1 < (x.1.length:Int))) (inb x.2.2.1 x.1.length) then
 if aX (decide (x.2.2.1 < (x.1.length:Int))) ((dY ((rd (dfl .note) x.1 x.2.2.1).fr,(rd (dfl .note) x.1 x.2.2.1).nu,x.2.1.1,x.2.1.2.1,())).isSome) then
 if(decide (x.2.2.1 < (x.1.length:Int)))&&(((dY ((rd (dfl .note) x.1 x.2.2.1).fr,(rd (dfl .note) x.1 x.2.2.1).nu,x.2.1.1,x.2.1.2.1,())).getD ((false,()),())).1.1) then
 some (.inl (x.1,x.2.1,(w64 (x.2.2.1+1)),()))
 else
 some (.inr (.inr x))
 else none
 else none
 else none
def ss:=aV su
def Ef:Loop:=⟨[(0,.sl .note),(3,Z0),(5,.int .i64)],[(0,.sl .note),(3,Z0),(5,.int .i64)],0,[],ss⟩
def US:LF Tryz.f202 [] [1,1,0,0,0] Ef:=sq (v:= .nil) JE (b:=su) kN
def jb(x:List anz×Y0×auC):Option ((List anz×auC)×auC):=
 (aK (ss (x.1,x.2.1,0,()))
 (fun _=>none)
 (fun y2=>(if decide (0≤y2.2.2.1)&&decide (y2.2.2.1≤(y2.1.length:Int)) then
 if an (([]:List anz).length+(au3 (auK y2.2.2.1) y2.1).length) then
 if an ((([]:List anz)++(au3 (auK y2.2.2.1) y2.1)).length+([(anz.mk y2.2.1.1 y2.2.1.2.1 y2.2.1.2.2.1 y2.2.1.2.2.2.1 y2.2.1.2.2.2.2.1)]:List anz).length) then
 if decide (0≤y2.2.2.1)&&decide (y2.2.2.1≤(y2.1.length:Int)) then
 if an (((([]:List anz)++(au3 (auK y2.2.2.1) y2.1))++([(anz.mk y2.2.1.1 y2.2.1.2.1 y2.2.1.2.2.1 y2.2.1.2.2.2.1 y2.2.1.2.2.2.2.1)]:List anz)).length+(avp (auK y2.2.2.1) y2.1).length) then
 some (((((([]:List anz)++(au3 (auK y2.2.2.1) y2.1))++([(anz.mk y2.2.1.1 y2.2.1.2.1 y2.2.1.2.2.1 y2.2.1.2.2.2.1 y2.2.1.2.2.2.2.1)]:List anz))++(avp (auK y2.2.2.1) y2.1)),()),())
 else none
 else none
 else none
 else none
 else none)))
def Bc:Ent:=(202,none,⟨[.fz .note,Z1],[.row 46 .note],jb⟩)
def zT:SQ Tryz.prog Bc:=sk (v:=t1 (t1 (.two (.one (.loop Ef)) .nil))) (fn:=Tryz.f202) JE (kC US kN)
def V4:Cx:=cX [ph] [] [(11,25)]
def JG:OKC Tryz.prog V4 af:=okc mixed (gC mC (av))
def sC(x:List Mark×Y2×Int×auC):Rnd (List Mark×Y2×Int×auC) (auC) (List Mark×Y2×Int×auC):=
 if aX (decide (x.2.2.1 < (x.1.length:Int))) (inb x.2.2.1 x.1.length) then
 if aX (decide (x.2.2.1 < (x.1.length:Int))) (inb x.2.2.1 x.1.length) then
 if aX (decide (x.2.2.1 < (x.1.length:Int))) ((dY ((rd (dfl .mark) x.1 x.2.2.1).mf,(rd (dfl .mark) x.1 x.2.2.1).mn,x.2.1.1,x.2.1.2.1,())).isSome) then
 if(decide (x.2.2.1 < (x.1.length:Int)))&&(((dY ((rd (dfl .mark) x.1 x.2.2.1).mf,(rd (dfl .mark) x.1 x.2.2.1).mn,x.2.1.1,x.2.1.2.1,())).getD ((false,()),())).1.1) then
 some (.inl (x.1,x.2.1,(w64 (x.2.2.1+1)),()))
 else
 some (.inr (.inr x))
 else none
 else none
 else none
def sB:=aV sC
def Eh:Loop:=⟨[(0,.sl .mark),(3,Z5),(5,.int .i64)],[(0,.sl .mark),(3,Z5),(5,.int .i64)],0,[],sB⟩
def UU:LF Tryz.f205 [] [1,1,0,0,0] Eh:=sq (v:= .nil) JG (b:=sC) kN
def lR(x:List Mark×Y2×auC):Option ((List Mark×auC)×auC):=
 (aK (sB (x.1,x.2.1,0,()))
 (fun _=>none)
 (fun y2=>(if decide (0≤y2.2.2.1)&&decide (y2.2.2.1≤(y2.1.length:Int)) then
 if an (([]:List Mark).length+(au3 (auK y2.2.2.1) y2.1).length) then
 if an ((([]:List Mark)++(au3 (auK y2.2.2.1) y2.1)).length+([(Mark.mk y2.2.1.1 y2.2.1.2.1 y2.2.1.2.2.1)]:List Mark).length) then
 if decide (0≤y2.2.2.1)&&decide (y2.2.2.1≤(y2.1.length:Int)) then
 if an (((([]:List Mark)++(au3 (auK y2.2.2.1) y2.1))++([(Mark.mk y2.2.1.1 y2.2.1.2.1 y2.2.1.2.2.1)]:List Mark)).length+(avp (auK y2.2.2.1) y2.1).length) then
 some (((((([]:List Mark)++(au3 (auK y2.2.2.1) y2.1))++([(Mark.mk y2.2.1.1 y2.2.1.2.1 y2.2.1.2.2.1)]:List Mark))++(avp (auK y2.2.2.1) y2.1)),()),())
 else none
 else none
 else none
 else none
 else none)))
def Bd:Ent:=(205,none,⟨[.fz .mark,Z6],[.row 59 .mark],lR⟩)
def zV:SQ Tryz.prog Bd:=sk (v:=t1 (t1 (.two (.one (.loop Eh)) .nil))) (fn:=Tryz.f205) JG (kC UU kN)
def We:Cx:=cX [jg,pg,pj,Bc,Bd] [] []
def Yj:OKC Tryz.prog We af:=okc mixed (gC fH (gC mB (gC mF (gC zT (gC zV (av))))))
def pb(x:Y1×Y0×auC):Option ((Y1×Bool×auC)×auC):=
 (jd x.2).bind fun r9=>
 if !r9.1.1 then
 some ((x.1,false,()),())
 else
 if decide (x.2.1.2.2.2.1≤x.1.2.1) then
 some ((x.1,false,()),())
 else
 (cJ (x.1.2.2.2.1,x.2.1.1,x.2.1.2.1,())).bind fun r10=>
 if decide (0≤r10.1.1) then
 some ((x.1,false,()),())
 else
 (cJ (x.1.2.2.2.2.2.1,x.2.1.1,x.2.1.2.1,())).bind fun r11=>
 if decide (0≤r11.1.1) then
 some ((x.1,false,()),())
 else
 (dK (x.1.2.2.2.2.1,x.2.1.1,x.2.1.2.1,())).bind fun r12=>
 if decide (0≤r12.1.1) then
 some ((x.1,false,()),())
 else
 if decide (12 < (w64 ((w64 ((x.1.2.2.2.1.length:Int)+(x.1.2.2.2.2.1.length:Int)))+1))) then
 some ((x.1,false,()),())
 else
 if decide (x.2.1.2.2.1=x.1.1) then
 (jb (x.1.2.2.2.2.2.1,x.2)).bind fun r16=>
 (lR (x.1.2.2.2.2.1,(x.2.1.1,x.2.1.2.1,x.2.1.2.2.2.1,()),())).bind fun r17=>
 some (((x.1.1,x.1.2.1,x.1.2.2.1,x.1.2.2.2.1,r17.1.1,r16.1),true,()),())
 else
 (jb (x.1.2.2.2.1,x.2)).bind fun r18=>
 some (((x.1.1,x.1.2.1,x.1.2.2.1,r18.1.1,x.1.2.2.2.2),true,()),())
def Jr:Ent:=(201,none,⟨[Z3,Z1],[Z3,.bool],pb⟩)
def MS:SQ Tryz.prog Jr:=sk (v:= .nil) (fn:=Tryz.f201) Yj kN
def Wa:Cx:=cX [jg,Jr,Bc] [] [(19,23),(38,42),(59,66)]
def Yf:OKC Tryz.prog Wa af:=okc mixed (gC fH (gC MS (gC zT (av))))
def o9(x:Y1×auB×Y0×auC):Option ((Y1×Bool×auC)×auC):=
 (bH (X:=auB×Y1×Y0×Y1×Bool×auC) (fun j16=>
 if j16.2.2.2.2.1 then
 let v18:=(w64 (j16.2.1.2.2.1+1))
 (pb ((j16.2.1.1,j16.2.1.2.1,v18,j16.2.1.2.2.2),j16.2.2.1,())).bind fun r19=>
 some (r19.1,())
 else
 let v20:=((decide (j16.1=(B [116,97,107,101])))&&(!decide (j16.2.2.1.1=j16.2.1.1)))
 (if v20 then
 (pb (j16.2.1,j16.2.2.1,())).bind fun r21=>
 some (r21.1,())
 else
 (cJ (j16.2.1.2.2.2.1,j16.2.2.1.1,j16.2.2.1.2.1,())).bind fun r22=>
 if aX (!(decide (0≤r22.1.1))) ((cJ (j16.2.1.2.2.2.2.2.1,j16.2.2.1.1,j16.2.2.1.2.1,())).isSome) then
 let v23:=((decide (0≤r22.1.1))||(decide (0≤((cJ (j16.2.1.2.2.2.2.2.1,j16.2.2.1.1,j16.2.2.1.2.1,())).getD ((0,()),())).1.1)))
 (if v23 then
 some ((j16.2.1,false,()),())
 else
 let v24:=(decide (j16.1=(B [104,101,108,100])))
 (if v24 then
 (jb (j16.2.1.2.2.2.1,j16.2.2.1,())).bind fun r25=>
 some (((j16.2.1.1,j16.2.1.2.1,j16.2.1.2.2.1,r25.1.1,j16.2.1.2.2.2.2),true,()),())
 else
 let v26:=(decide (j16.1=(B [105,110,98,111,120])))
 (if v26 then
 (jb (j16.2.1.2.2.2.2.2.1,j16.2.2.1,())).bind fun r27=>
 some (((j16.2.1.1,j16.2.1.2.1,j16.2.1.2.2.1,j16.2.1.2.2.2.1,j16.2.1.2.2.2.2.1,r27.1),true,()),())
 else
 some ((j16.2.1,false,()),()))))
 else none))
 ((if decide (x.2.1=(B [111,119,110])) then
 let v17:=((decide (x.2.2.1.1=x.1.1))&&(decide (x.2.2.1.2.1=x.1.2.2.1)))
 some (.inr (x.2.1,x.1,x.2.2.1,(0,0,0,([]:List anz),([]:List Mark),([]:List anz),()),v17,()))
 else
 some (.inr (x.2.1,x.1,x.2.2.1,(0,0,0,([]:List anz),([]:List Mark),([]:List anz),()),false,())))))
def Jo:Ent:=(181,none,⟨[Z3,.str,Z1],[Z3,.bool],o9⟩)
def MN:SQ Tryz.prog Jo:=sk (v:=t1 (.two (.one (.join [(1,.str),(3,Z2),(5,Z0),(6,Z4),(8,.bool)] .nil .nil)) .nil)) (fn:=Tryz.f181) Yf kN
def Se:Cx:=cX [] [] []
def WE:OKC Tryz.prog Se af:=okc mixed (av)
def kb(x:List anz×Int×auC):Option ((List anz×auC)×auC):=
 if decide (0≤x.2.1)&&decide (x.2.1≤(x.1.length:Int)) then
 if an (([]:List anz).length+(au3 (auK x.2.1) x.1).length) then
 if decide (0≤(w64 (x.2.1+1)))&&decide ((w64 (x.2.1+1))≤(x.1.length:Int)) then
 if an ((([]:List anz)++(au3 (auK x.2.1) x.1)).length+(avp (auK (w64 (x.2.1+1))) x.1).length) then
 some ((((([]:List anz)++(au3 (auK x.2.1) x.1))++(avp (auK (w64 (x.2.1+1))) x.1)),()),())
 else none
 else none
 else none
 else none
def GN:Ent:=(204,none,⟨[.fz .note,.int .i64],[.row 46 .note],kb⟩)
def KA:SQ Tryz.prog GN:=sk (v:= .nil) (fn:=Tryz.f204) WE kN
def Wb:Cx:=cX [jg,pg,GN,Bd] [] [(41,49),(70,78),(90,91)]
def Yg:OKC Tryz.prog Wb af:=okc mixed (gC fH (gC mB (gC KA (gC zV (av)))))
def pa(x:Y1×auB×Y2×auC):Option ((Y1×Bool×auC)×auC):=
 (cJ (x.1.2.2.2.1,x.2.2.1.1,x.2.2.1.2.1,())).bind fun r1=>
 (cJ (x.1.2.2.2.2.2.1,x.2.2.1.1,x.2.2.1.2.1,())).bind fun r2=>
 (dK (x.1.2.2.2.2.1,x.2.2.1.1,x.2.2.1.2.1,())).bind fun r3=>
 (bH (X:=auB×Y1×Y2×Y1×Int×Int×Bool×Bool×auC) (fun j16=>
 if j16.2.2.2.2.2.2.2.1 then
 (kb (j16.2.1.2.2.2.1,j16.2.2.2.2.1,())).bind fun r18=>
 (lR (j16.2.1.2.2.2.2.1,j16.2.2.1,())).bind fun r19=>
 some (((j16.2.1.1,j16.2.1.2.1,j16.2.1.2.2.1,r18.1.1,r19.1.1,j16.2.1.2.2.2.2.2),true,()),())
 else
 (bH (X:=auB×Y1×Y2×Y1×Int×Bool×Bool×auC) (fun j20=>
 if j20.2.2.2.2.2.2.1 then
 (kb (j20.2.1.2.2.2.2.2.1,j20.2.2.2.2.1,())).bind fun r22=>
 some (((j20.2.1.1,j20.2.1.2.1,j20.2.1.2.2.1,j20.2.1.2.2.2.1,j20.2.1.2.2.2.2.1,r22.1),true,()),())
 else
 let v23:=((decide (j20.1=(B [109,97,114,107])))&&(!j20.2.2.2.2.2.1))
 (if v23 then
 (lR (j20.2.1.2.2.2.2.1,j20.2.2.1,())).bind fun r24=>
 some (((j20.2.1.1,j20.2.1.2.1,j20.2.1.2.2.1,j20.2.1.2.2.2.1,r24.1.1,j20.2.1.2.2.2.2.2),true,()),())
 else
 some ((j20.2.1,false,()),())))
 ((if decide (j16.1=(B [101,97,116])) then
 if aX (decide (0≤j16.2.2.2.2.2.1)) (inb j16.2.2.2.2.2.1 j16.2.1.2.2.2.2.2.1.length) then
 let v21:=((decide (0≤j16.2.2.2.2.2.1))&&(decide ((rd (dfl .note) j16.2.1.2.2.2.2.2.1 j16.2.2.2.2.2.1).un=j16.2.2.1.2.2.1)))
 some (.inr (j16.1,j16.2.1,j16.2.2.1,j16.2.2.2.1,j16.2.2.2.2.2.1,j16.2.2.2.2.2.2.1,v21,()))
 else none
 else
 if aX false (inb j16.2.2.2.2.2.1 j16.2.1.2.2.2.2.2.1.length) then
 some (.inr (j16.1,j16.2.1,j16.2.2.1,j16.2.2.2.1,j16.2.2.2.2.2.1,j16.2.2.2.2.2.2.1,false,()))
 else none))))
 ((if decide (x.2.1=(B [108,101,116])) then
 if aX (decide (0≤r1.1.1)) (inb r1.1.1 x.1.2.2.2.1.length) then
 let v17:=((decide (0≤r1.1.1))&&(decide ((rd (dfl .note) x.1.2.2.2.1 r1.1.1).un=x.2.2.1.2.2.1)))
 some (.inr (x.2.1,x.1,x.2.2.1,(0,0,0,([]:List anz),([]:List Mark),([]:List anz),()),r1.1.1,r2.1.1,(decide (0≤r3.1.1)),v17,()))
 else none
 else
 if aX false (inb r1.1.1 x.1.2.2.2.1.length) then
 some (.inr (x.2.1,x.1,x.2.2.1,(0,0,0,([]:List anz),([]:List Mark),([]:List anz),()),r1.1.1,r2.1.1,(decide (0≤r3.1.1)),false,()))
 else none)))
def Jp:Ent:=(184,none,⟨[Z3,.str,Z6],[Z3,.bool],pa⟩)
def MP:SQ Tryz.prog Jp:=sk (v:=t1 (t1 (t1 (.two (.one (.join [(1,.str),(3,Z2),(5,Z5),(6,Z4),(8,.int .i64),(9,.int .i64),(10,.bool),(33,.bool)] .nil (t1 (.join [(1,.str),(3,Z2),(5,Z5),(6,Z4),(9,.int .i64),(10,.bool),(62,.bool)] .nil .nil)))) .nil)))) (fn:=Tryz.f184) Yg kN
def XV:Cx:=cX [tp,I9,Nb,EI,Jo,wD,Ev,Jp] [] [(69,71)]
def aaY:OKC Tryz.prog XV af:=okc mixed (gC qo (gC Lt (gC O8 (gC Iu (gC MN (gC wX (gC H6 (gC MP (av)))))))))
def sQ(x:Y1×auB×auC):Option ((Y1×Bool×auC)×auC):=
 (oY (x.2.1,(B [32]),())).bind fun r1=>
 if !r1.1.2.2.1 then
 some ((x.1,false,()),())
 else
 (bH (X:=Y1×Y1×auB×auB×auB×Bool×auC) (fun j30=>
 if j30.2.2.2.2.2.1 then
 (gQ (j30.2.2.2.1,())).bind fun r33=>
 if r33.1.2.1 then
 (sO (j30.1,j30.2.2.1,r33.1.1,())).bind fun r34=>
 some (r34.1,())
 else
 some ((j30.1,false,()),())
 else
 (bH (X:=Y1×Y1×auB×auB×auB×Bool×auC) (fun j35=>
 if j35.2.2.2.2.2.1 then
 (lA (j35.2.2.2.1,())).bind fun r40=>
 if r40.1.2.1 then
 (o9 (j35.1,j35.2.2.1,r40.1.1,())).bind fun r41=>
 some (r41.1,())
 else
 some ((j35.1,false,()),())
 else
 (bH (X:=Y1×Y1×auB×auB×Bool×auC) (fun j42=>
 if j42.2.2.2.2.1 then
 (pq (j42.2.2.2.1,(B [32]),())).bind fun r46=>
 (ik r46.1).bind fun r47=>
 if r47.1.2.1&&(decide ((r47.1.1.length:Int)=3)) then
 if inb 0 r47.1.1.length then
 if inb 1 r47.1.1.length then
 if inb 2 r47.1.1.length then
 (pa (j42.1,j42.2.2.1,((rd (dfl .int) r47.1.1 0),(rd (dfl .int) r47.1.1 1),(rd (dfl .int) r47.1.1 2),()),())).bind fun r48=>
 some (r48.1,())
 else none
 else none
 else none
 else
 some ((j42.1,false,()),())
 else
 some ((j42.1,false,()),()))
 (let v43:=(decide (j35.2.2.2.2.1=(B [108,101,116])))
 (if v43 then
 some (.inr (j35.1,j35.2.1,j35.2.2.1,j35.2.2.2.1,v43,()))
 else
 let v44:=(decide (j35.2.2.2.2.1=(B [101,97,116])))
 (if v44 then
 some (.inr (j35.1,j35.2.1,j35.2.2.1,j35.2.2.2.1,v44,()))
 else
 let v45:=(decide (j35.2.2.2.2.1=(B [109,97,114,107])))
 some (.inr (j35.1,j35.2.1,j35.2.2.1,j35.2.2.2.1,v45,())))))))
 (let v36:=(decide (j30.2.2.2.2.1=(B [111,119,110])))
 (if v36 then
 some (.inr (j30.1,j30.2.1,j30.2.2.1,j30.2.2.2.1,j30.2.2.2.2.1,v36,()))
 else
 let v37:=(decide (j30.2.2.2.2.1=(B [116,97,107,101])))
 (if v37 then
 some (.inr (j30.1,j30.2.1,j30.2.2.1,j30.2.2.2.1,j30.2.2.2.2.1,v37,()))
 else
 let v38:=(decide (j30.2.2.2.2.1=(B [104,101,108,100])))
 (if v38 then
 some (.inr (j30.1,j30.2.1,j30.2.2.1,j30.2.2.2.1,j30.2.2.2.2.1,v38,()))
 else
 let v39:=(decide (j30.2.2.2.2.1=(B [105,110,98,111,120])))
 some (.inr (j30.1,j30.2.1,j30.2.2.1,j30.2.2.2.1,j30.2.2.2.2.1,v39,()))))))))
 (let v31:=(decide (r1.1.1=(B [116,105,109,101])))
 (if v31 then
 some (.inr (x.1,(0,0,0,([]:List anz),([]:List Mark),([]:List anz),()),r1.1.1,r1.1.2.1,r1.1.1,v31,()))
 else
 let v32:=(decide (r1.1.1=(B [110,101,120,116])))
 some (.inr (x.1,(0,0,0,([]:List anz),([]:List Mark),([]:List anz),()),r1.1.1,r1.1.2.1,r1.1.1,v32,())))))
def Nc:Ent:=(146,none,⟨[Z3,.str],[Z3,.bool],sQ⟩)
def O9:SQ Tryz.prog Nc:=sk (v:=t1 (t1 (t1 (.two (t1 (.one (.join [(2,Z2),(4,Z4),(6,.str),(7,.str),(24,.str),(25,.bool)] .nil (t1 (.join [(2,Z2),(4,Z4),(6,.str),(7,.str),(24,.str),(40,.bool)] .nil (t1 (.join [(2,Z2),(4,Z4),(6,.str),(7,.str),(57,.bool)] .nil .nil))))))) .nil)))) (fn:=Tryz.f146) aaY kN
def IH:Cx:=cX [] [] []
def Le:OKC Tryz.prog IH af:=okc mixed (av)
def lb(x:List anz×auC):Option ((List anz×auC)×auC):=
 if decide ((x.1.length:Int)=0) then
 some ((([]:List anz),()),())
 else
 if decide (0≤(x.1.length:Int))&&decide ((x.1.length:Int)≤4294967296) then
 some (((au3 (au0 (auK (x.1.length:Int)) (dfl .note)).length x.1++avp x.1.length (au0 (auK (x.1.length:Int)) (dfl .note))),()),())
 else none
def yL:Ent:=(185,none,⟨[.fz .note],[.row 46 .note],lb⟩)
def Dp:SQ Tryz.prog yL:=sk (v:= .nil) (fn:=Tryz.f185) Le kN
def II:Cx:=cX [] [] []
def Lf:OKC Tryz.prog II af:=okc mixed (av)
def qu(x:List Mark×auC):Option ((List Mark×auC)×auC):=
 if decide ((x.1.length:Int)=0) then
 some ((([]:List Mark),()),())
 else
 if decide (0≤(x.1.length:Int))&&decide ((x.1.length:Int)≤4294967296) then
 some (((au3 (au0 (auK (x.1.length:Int)) (dfl .mark)).length x.1++avp x.1.length (au0 (auK (x.1.length:Int)) (dfl .mark))),()),())
 else none
def yM:Ent:=(186,none,⟨[.fz .mark],[.row 59 .mark],qu⟩)
def Dq:SQ Tryz.prog yM:=sk (v:= .nil) (fn:=Tryz.f186) Lf kN
def PM:Cx:=cX [yL,yM] [] []
def SG:OKC Tryz.prog PM af:=okc mixed (gC Dp (gC Dq (av)))
def im(x:Y1×auC):Option ((Y1×auC)×auC):=
 (lb (x.1.2.2.2.1,())).bind fun r1=>
 (qu (x.1.2.2.2.2.1,())).bind fun r2=>
 (lb x.1.2.2.2.2.2).bind fun r3=>
 some (((x.1.1,x.1.2.1,x.1.2.2.1,r1.1.1,r2.1.1,r3.1),()),())
def EG:Ent:=(147,none,⟨[Z3],[Z7],im⟩)
def Ir:SQ Tryz.prog EG:=sk (v:= .nil) (fn:=Tryz.f147) SG kN
def Wl:Cx:=cX [Bg,Nc,EG] [] [(22,24)]
def Yl:OKC Tryz.prog Wl af:=okc mixed (gC Af (gC O9 (gC Ir (av))))
def lW(x:Y1×auB×auC):Option ((Y1×Bool×auC)×auC):=
 (je (x.1,())).bind fun r2=>
 if !r2.1.1 then
 some (((0,0,0,([]:List anz),([]:List Mark),([]:List anz),()),false,()),())
 else
 (im (x.1,())).bind fun r3=>
 (sQ (r3.1.1,x.2)).bind fun r4=>
 if aX (!(!r4.1.2.1)) ((je (r4.1.1,())).isSome) then
 if(!r4.1.2.1)||(!(((je (r4.1.1,())).getD ((false,()),())).1.1)) then
 (im (x.1,())).bind fun r6=>
 some ((r6.1.1,false,()),())
 else
 (im (r4.1.1,())).bind fun r7=>
 some ((r7.1.1,true,()),())
 else none
def Bh:Ent:=(107,none,⟨[Z3,.str],[Z7,.bool],lW⟩)
def Ag:SQ Tryz.prog Bh:=sk (v:= .nil) (fn:=Tryz.f107) Yl kN
def NI:Cx:=cX [dL] [] []
def Qj:OKC Tryz.prog NI af:=okc mixed (gC cu (av))
def oe(x:Int×auC):Option ((Y1×auC)×auC):=
 (bJ x).bind fun r2=>
 if !r2.1.1 then
 some (((0,0,0,([]:List anz),([]:List Mark),([]:List anz),()),()),())
 else
 some (((x.1,0,1,([]:List anz),([]:List Mark),([]:List anz),()),()),())
def CB:Ent:=(150,none,⟨[.int .i64],[Z7],oe⟩)
def Gp:SQ Tryz.prog CB:=sk (v:= .nil) (fn:=Tryz.f150) Qj kN
def Wj:Cx:=cX [dL,Bh,CB] [] []
def JK:OKC Tryz.prog Wj af:=okc mixed (gC cu (gC Ag (gC Gp (av))))
def nv(x:Y1×Y1×List auB×Int×Int×auC):Rnd (Y1×Y1×List auB×Int×Int×auC) (Y1×Bool×auC) (Y1×Y1×auC):=
 if decide (x.2.2.2.2.1 < x.2.2.2.1) then
 if inb x.2.2.2.2.1 x.2.2.1.length then
 let v15:=(rd (dfl .str) x.2.2.1 x.2.2.2.2.1)
 (lW (x.2.1,v15,())).bind fun r16=>
 if !r16.1.2.1 then
 some (.inr (.inl ((0,0,0,([]:List anz),([]:List Mark),([]:List anz),()),false,())))
 else
 some (.inl (x.1,r16.1.1,x.2.2.1,x.2.2.2.1,(w64 (x.2.2.2.2.1+1)),()))
 else none
 else
 some (.inr (.inr (x.1,x.2.1,())))
def td:=aV nv
def Eu:Loop:=⟨[(4,Z4),(6,Z4),(17,.sl .str),(18,.int .i64),(19,.int .i64)],[(4,Z4),(6,Z4)],0,[(4,Z4),(5,.bool)],td⟩
def U1:LF Tryz.f113 [] [1,1,1,0,1,0,0] Eu:=sq (v:= .nil) JK (b:=nv) kN
def vh(x:Int×List auB×auC):Option ((Y1×Bool×auC)×auC):=
 (bJ (x.1,())).bind fun r2=>
 if !r2.1.1 then
 some (((0,0,0,([]:List anz),([]:List Mark),([]:List anz),()),false,()),())
 else
 (oe (x.1,())).bind fun r3=>
 (aK (td ((0,0,0,([]:List anz),([]:List Mark),([]:List anz),()),r3.1.1,x.2.1,(x.2.1.length:Int),0,()))
 (fun y17=>some (y17,()))
 (fun y17=>some ((y17.2.1,true,()),())))
def Jt:Ent:=(113,none,⟨[.int .i64,.fz .str],[Z7,.bool],vh⟩)
def MX:SQ Tryz.prog Jt:=sk (v:=t1 (t1 (t1 (.two (t1 (.one (.loop Eu))) .nil)))) (fn:=Tryz.f113) JK (kC U1 kN)
def Sc:Cx:=cX [ot,Jt] [] []
def WD:OKC Tryz.prog Sc af:=okc mixed (gC nq (gC MX (av)))
def dJ(x:Int×auB×auC):Option ((Y1×Bool×auC)×auC):=
 (eV x.2).bind fun r1=>
 (vh (x.1,r1.1.1,())).bind fun r2=>
 some (r2.1,())
def tn:Ent:=(61,none,⟨[.int .i64,.str],[Z7,.bool],dJ⟩)
def qm:SQ Tryz.prog tn:=sk (v:= .nil) (fn:=Tryz.f61) WD kN
def Sk:Cx:=cX [dn,ot] [] [(12,18),(41,44)]
def WH:OKC Tryz.prog Sk af:=okc mixed (gC bK (gC nq (av)))
def fu(x:Y4×auC):Option ((Bool×auC)×auC):=
 if aX (!(decide (2400 < (x.1.1.size:Int)))) ((aO (x.1.2.1,0,(x.1.1.size:Int),())).isSome) then
 if(decide (2400 < (x.1.1.size:Int)))||(!(((aO (x.1.2.1,0,(x.1.1.size:Int),())).getD ((false,()),())).1.1)) then
 some ((false,()),())
 else
 (eV (x.1.1,())).bind fun r1=>
 if decide (0≤x.1.2.1)&&decide (x.1.2.1≤(x.1.1.size:Int)) then
 (eV ((x.1.1.extract (0) (auK x.1.2.1)),())).bind fun r2=>
 let v4:=((decide (r1.1.2.1=(x.1.1.size:Int)))&&(decide (r2.1.2.1=x.1.2.1)))
 some ((v4,()),())
 else none
 else none
def kt:Ent:=(97,none,⟨[Z9],[.bool],fu⟩)
def gS:SQ Tryz.prog kt:=sk (v:= .nil) (fn:=Tryz.f97) WH kN
def V7:Cx:=cX [dL,dn] [] [(54,57)]
def Bj:OKC Tryz.prog V7 af:=okc mixed (gC cu (gC bK (av)))
def sJ(x:Y6×Y5×List anA×Int×Int×List anA×Int×Int×auC):Rnd (Y6×Y5×List anA×Int×Int×List anA×Int×Int×auC) (Bool×auC) (Y6×List anA×Int×Int×auC):=
 if decide (x.2.2.2.2.2.2.2.1 < x.2.2.2.2.2.2.1) then
 if inb x.2.2.2.2.2.2.2.1 x.2.2.2.2.2.1.length then
 let v72:=(rd (dfl .mixed) x.2.2.2.2.2.1 x.2.2.2.2.2.2.2.1).nu
 let v73:=(rd (dfl .mixed) x.2.2.2.2.2.1 x.2.2.2.2.2.2.2.1).da
 if decide (v72=x.2.1.1) then
 some (.inr (.inl (false,())))
 else
 some (.inl (x.1,x.2.1,x.2.2.1,x.2.2.2.1,x.2.2.2.2.1,x.2.2.2.2.2.1,x.2.2.2.2.2.2.1,(w64 (x.2.2.2.2.2.2.2.1+1)),()))
 else none
 else
 some (.inr (.inr (x.1,x.2.2.1,x.2.2.2.1,x.2.2.2.2.1,())))
def sF:=aV sJ
def Ek:Loop:=⟨[(1,Z11),(4,Z31),(42,.sl .mixed),(43,.int .i64),(44,.int .i64),(62,.sl .mixed),(63,.int .i64),(64,.int .i64)],[(1,Z11),(42,.sl .mixed),(43,.int .i64),(44,.int .i64)],2,[(2,.bool)],sF⟩
def UF:LF Tryz.f98 [] [1,1,0,1,0,0,1,1,0,0,1,1,1,0,0] Ek:=sq (v:= .nil) Bj (b:=sJ) kN
def sK(x:Y6×List anA×Int×Int×auC):Rnd (Y6×List anA×Int×Int×auC) (Bool×auC) (auC):=
 if decide (x.2.2.2.1 < x.2.2.1) then
 if inb x.2.2.2.1 x.2.1.length then
 let v63:=(rd (dfl .mixed) x.2.1 x.2.2.2.1).nu
 let v64:=(rd (dfl .mixed) x.2.1 x.2.2.2.1).da
 (aO (v63,0,999,())).bind fun r65=>
 if(!r65.1.1)||(!decide ((v64.size:Int)=4)) then
 some (.inr (.inl (false,())))
 else
 if decide (0≤x.2.2.2.1)&&decide (x.2.2.2.1≤(x.1.2.2.2.2.2.1.length:Int)) then
 (aK (sF (x.1,(v63,v64,()),x.2.1,x.2.2.1,x.2.2.2.1,(au3 (auK x.2.2.2.1) x.1.2.2.2.2.2.1),((au3 (auK x.2.2.2.1) x.1.2.2.2.2.2.1).length:Int),0,()))
 (fun y74=>some (.inr (.inl y74)))
 (fun y74=>some (.inl (y74.1,y74.2.1,y74.2.2.1,(w64 (y74.2.2.2.1+1)),()))))
 else none
 else none
 else
 some (.inr (.inr ()))
def sG:=aV sK
def El:Loop:=⟨[(1,Z11),(42,.sl .mixed),(43,.int .i64),(44,.int .i64)],[],0,[(2,.bool)],sG⟩
def UX:LF Tryz.f98 [] [1,1,0,1,0,0] El:=sq (v:=t1 (t1 (.two (.one (t1 (t1 (t1 (.one (.loop Ek)))))) .nil))) Bj (b:=sK) (kC UF kN)
def vd(x:Y6×auC):Option ((Bool×auC)×auC):=
 (bJ (x.1.1,())).bind fun r11=>
 if !r11.1.1 then
 some ((false,()),())
 else
 (bJ (x.1.2.2.1,())).bind fun r12=>
 if !r12.1.1 then
 some ((false,()),())
 else
 (aO (x.1.2.1,1,99,())).bind fun r13=>
 if !r13.1.1 then
 some ((false,()),())
 else
 (aO (x.1.2.2.2.1,1,999,())).bind fun r14=>
 if !r14.1.1 then
 some ((false,()),())
 else
 (aO (x.1.2.2.2.2.1,1,24,())).bind fun r15=>
 if !r15.1.1 then
 some ((false,()),())
 else
 if decide (14 < (x.1.2.2.2.2.2.1.length:Int)) then
 some ((false,()),())
 else
 (aK (sG (x.1,x.1.2.2.2.2.2.1,(x.1.2.2.2.2.2.1.length:Int),0,()))
 (fun y75=>some (y75,()))
 (fun y75=>some ((true,()),())))
def Jn:Ent:=(98,none,⟨[Z12],[.bool],vd⟩)
def MM:SQ Tryz.prog Jn:=sk (v:=t1 (t1 (.two (t1 (.one (.loop El))) .nil))) (fn:=Tryz.f98) Bj (kC UX kN)
def V8:Cx:=cX [] [] [(21,24)]
def JI:OKC Tryz.prog V8 af:=okc mixed (av)
def nk(x:Int×Int×List anD×Int×Int×auC):Rnd (Int×Int×List anD×Int×Int×auC) (Int×auC) (auC):=
 if decide (x.2.2.2.2.1 < x.2.2.2.1) then
 if inb x.2.2.2.2.1 x.2.2.1.length then
 let v32:=(rd (dfl .half) x.2.2.1 x.2.2.2.2.1).fr
 let v33:=(rd (dfl .half) x.2.2.1 x.2.2.2.2.1).nu
 let v34:=(rd (dfl .half) x.2.2.1 x.2.2.2.2.1).to
 let v35:=(rd (dfl .half) x.2.2.1 x.2.2.2.2.1).un
 let v36:=(rd (dfl .half) x.2.2.1 x.2.2.2.2.1).sz
 let v37:=(rd (dfl .half) x.2.2.1 x.2.2.2.2.1).got
 if(decide (v32=x.1))&&(decide (v33=x.2.1)) then
 some (.inr (.inl x.2.2.2.2))
 else
 some (.inl (x.1,x.2.1,x.2.2.1,x.2.2.2.1,(w64 (x.2.2.2.2.1+1)),()))
 else none
 else
 some (.inr (.inr ()))
def sL:=aV nk
def Em:Loop:=⟨[(1,.int .i64),(2,.int .i64),(9,.sl .half),(10,.int .i64),(11,.int .i64)],[],0,[(6,.int .i64)],sL⟩
def UY:LF Tryz.f99 [] [1,0,1,0,0] Em:=sq (v:= .nil) JI (b:=nk) kN
def lT(x:List anD×Int×Int×auC):Option ((Int×auC)×auC):=
 (aK (sL (x.2.1,x.2.2.1,x.1,(x.1.length:Int),0,()))
 (fun y38=>some (y38,()))
 (fun y38=>some (((-1),()),())))
def Be:Ent:=(99,none,⟨[.fz .half,.int .i64,.int .i64],[.int .i64],lT⟩)
def zX:SQ Tryz.prog Be:=sk (v:=t1 (.two (t1 (.one (.loop Em))) .nil)) (fn:=Tryz.f99) JI (kC UY kN)
def PT:Cx:=cX [dL,tn,kt,Jn,Be] [] [(61,62),(76,84)]
def EP:OKC Tryz.prog PT af:=okc mixed (gC cu (gC qm (gC gS (gC MM (gC zX (av))))))
def n8(x:Y3×List anD×Int×Int×auC):Rnd (Y3×List anD×Int×Int×auC) (Bool×auC) (auC):=
 if decide (x.2.2.2.1 < x.2.2.1) then
 if inb x.2.2.2.1 x.2.1.length then
 let v49:=(rd (dfl .half) x.2.1 x.2.2.2.1).fr
 let v50:=(rd (dfl .half) x.2.1 x.2.2.2.1).nu
 let v51:=(rd (dfl .half) x.2.1 x.2.2.2.1).to
 let v52:=(rd (dfl .half) x.2.1 x.2.2.2.1).un
 let v53:=(rd (dfl .half) x.2.1 x.2.2.2.1).sz
 let v54:=(rd (dfl .half) x.2.1 x.2.2.2.1).got
 (vd ((v49,v50,v51,v52,v53,v54,()),())).bind fun r55=>
 if aX (!(!r55.1.1)) ((lT (x.1.2.2.2.2.1,v49,v50,())).isSome) then
 if(!r55.1.1)||(decide (((lT (x.1.2.2.2.2.1,v49,v50,())).getD ((0,()),())).1.1 < x.2.2.2.1)) then
 some (.inr (.inl (false,())))
 else
 some (.inl (x.1,x.2.1,x.2.2.1,(w64 (x.2.2.2.1+1)),()))
 else none
 else none
 else
 some (.inr (.inr ()))
def jy:=aV n8
def Aa:Loop:=⟨[(1,Z13),(65,.sl .half),(66,.int .i64),(67,.int .i64)],[],0,[(2,.bool)],jy⟩
def O3:LF Tryz.f47 [] [1,1,1,1,1,0,1,0,0] Aa:=sq (v:= .nil) EP (b:=n8) kN
def cF(x:Y3×auC):Option ((Bool×auC)×auC):=
 (bH (X:=Y3×auC) (fun j5=>
 (dJ (j5.1.1,j5.1.2.2.1,())).bind fun r8=>
 if decide (0≤j5.1.2.2.2.1)&&decide (j5.1.2.2.2.1≤(j5.1.2.2.1.size:Int)) then
 (dJ (j5.1.1,(j5.1.2.2.1.extract (0) (auK j5.1.2.2.2.1)),())).bind fun r9=>
 if(!r8.1.2.1)||(!r9.1.2.1) then
 some ((false,()),())
 else
 (aK (jy (j5.1,j5.1.2.2.2.2.1,(j5.1.2.2.2.2.1.length:Int),0,()))
 (fun y56=>some (y56,()))
 (fun y56=>some ((true,()),())))
 else none)
 ((bJ (x.1.1,())).bind fun r6=>
 if !r6.1.1 then
 some (.inl ((false,()),()))
 else
 (fu ((x.1.2.2.1,x.1.2.2.2.1,()),())).bind fun r7=>
 if !r7.1.1 then
 some (.inl ((false,()),()))
 else
 if decide (3 < (x.1.2.2.2.2.1.length:Int)) then
 some (.inl ((false,()),()))
 else
 if !x.1.2.1 then
 if decide (0 < (x.1.2.2.2.2.1.length:Int)) then
 some (.inl ((false,()),()))
 else
 some (.inr x)
 else
 some (.inr x)))
def dM:Ent:=(47,none,⟨[Z8],[.bool],cF⟩)
def cP:SQ Tryz.prog dM:=sk (v:=t1 (.join [(1,Z13)] .nil (t1 (t1 (t1 (.two (t1 (.one (.loop Aa))) .nil)))))) (fn:=Tryz.f47) EP (kC O3 kN)
def NH:Cx:=cX [dM,tn] [] []
def Qi:OKC Tryz.prog NH af:=okc mixed (gC cP (gC qm (av)))
def bd(x:Y3×auC):Option ((Y1×auC)×auC):=
 (cF x).bind fun r2=>
 if !r2.1.1 then
 some (((0,0,0,([]:List anz),([]:List Mark),([]:List anz),()),()),())
 else
 (dJ (x.1.1,x.1.2.2.1,())).bind fun r3=>
 some ((r3.1.1,()),())
def bW:Ent:=(19,none,⟨[Z8],[Z7],bd⟩)
def bE:SQ Tryz.prog bW:=sk (v:= .nil) (fn:=Tryz.f19) Qi kN
def IJ:Cx:=cX [] [] []
def Lg:OKC Tryz.prog IJ af:=okc mixed (av)
def qv(x:List anD×auC):Option ((List anD×auC)×auC):=
 if decide ((x.1.length:Int)=0) then
 some ((([]:List anD),()),())
 else
 if decide (0≤(x.1.length:Int))&&decide ((x.1.length:Int)≤4294967296) then
 some (((au3 (au0 (auK (x.1.length:Int)) (dfl .half)).length x.1++avp x.1.length (au0 (auK (x.1.length:Int)) (dfl .half))),()),())
 else none
def yN:Ent:=(100,none,⟨[.fz .half],[.row 101 .half],qv⟩)
def Dr:SQ Tryz.prog yN:=sk (v:= .nil) (fn:=Tryz.f100) Lg kN
def G1:Cx:=cX [] [] []
def IN:OKC Tryz.prog G1 af:=okc mixed (av)
def oS(x:List anA×auC):Option ((List anA×auC)×auC):=
 if decide ((x.1.length:Int)=0) then
 some ((([]:List anA),()),())
 else
 if decide (0≤(x.1.length:Int))&&decide ((x.1.length:Int)≤4294967296) then
 some (((au3 (au0 (auK (x.1.length:Int)) (dfl .mixed)).length x.1++avp x.1.length (au0 (auK (x.1.length:Int)) (dfl .mixed))),()),())
 else none
def xc:Ent:=(101,none,⟨[.fz .mixed],[.row 120 .mixed],oS⟩)
def B8:SQ Tryz.prog xc:=sk (v:= .nil) (fn:=Tryz.f101) IN kN
def K1:Cx:=cX [yN,xc] [] []
def Aw:OKC Tryz.prog K1 af:=okc mixed (gC Dr (gC B8 (av)))
def la(x:Y3×Y3×Int×Int×auC):Rnd (Y3×Y3×Int×Int×auC) (auC) (Y3×Y3×auC):=
 if decide (x.2.2.2.1 < x.2.2.1) then
 if inb x.2.2.2.1 x.2.1.2.2.2.2.1.length then
 (oS ((rd (dfl .half) x.2.1.2.2.2.2.1 x.2.2.2.1).got,())).bind fun r8=>
 if inb x.2.2.2.1 x.2.1.2.2.2.2.1.length then
 some (.inl (x.1,(x.2.1.1,x.2.1.2.1,x.2.1.2.2.1,x.2.1.2.2.2.1,(ave x.2.1.2.2.2.2.1 (auK x.2.2.2.1) (anD.mk ((rd (dfl .half) x.2.1.2.2.2.2.1 x.2.2.2.1).fr) ((rd (dfl .half) x.2.1.2.2.2.2.1 x.2.2.2.1).nu) ((rd (dfl .half) x.2.1.2.2.2.2.1 x.2.2.2.1).to) ((rd (dfl .half) x.2.1.2.2.2.2.1 x.2.2.2.1).un) ((rd (dfl .half) x.2.1.2.2.2.2.1 x.2.2.2.1).sz) r8.1.1)),()),x.2.2.1,(w64 (x.2.2.2.1+1)),()))
 else none
 else none
 else
 some (.inr (.inr (x.1,x.2.1,())))
def ma:=aV la
def wY:Loop:=⟨[(2,Z14),(3,Z14),(12,.int .i64),(13,.int .i64)],[(2,Z14),(3,Z14)],0,[],ma⟩
def Kw:LF Tryz.f48 [] [1,1,1,0,1,0,0] wY:=sq (v:= .nil) Aw (b:=la) kN
def bR(x:Y3×auC):Option ((Y3×auC)×auC):=
 (qv x.1.2.2.2.2).bind fun r1=>
 (aK (ma ((0,false,noB,0,([]:List anD),()),(x.1.1,x.1.2.1,x.1.2.2.1,x.1.2.2.2.1,r1.1),(r1.1.1.length:Int),0,()))
 (fun _=>none)
 (fun y9=>some (y9.2,())))
def ey:Ent:=(48,none,⟨[Z8],[Z15],bR⟩)
def dE:SQ Tryz.prog ey:=sk (v:=t1 (t1 (t1 (.two (t1 (.one (.loop wY))) .nil)))) (fn:=Tryz.f48) Aw (kC Kw kN)
def XR:Cx:=cX [dn] [] []
def aaU:OKC Tryz.prog XR af:=okc mixed (gC bK (av))
def xo(x:auB×auC):Option ((Bool×auC)×auC):=
 (aO ((x.1.size:Int),1,60,())).bind fun r1=>
 some (r1.1,())
def DG:Ent:=(126,none,⟨[.str],[.bool],xo⟩)
def B2:SQ Tryz.prog DG:=sk (v:= .nil) (fn:=Tryz.f126) aaU kN
def VZ:Cx:=cX [ko] [] []
def Yb:OKC Tryz.prog VZ af:=okc mixed (gC gG (av))
def ja(x:auB×auC):Option ((auB×auC)×auC):=
 (ch ((x.1.size:Int),())).bind fun r1=>
 if decide (r1.1.1.size+(B [58]).size≤4611686018427387904) then
 if decide ((r1.1.1++(B [58])).size+x.1.size≤4611686018427387904) then
 if decide (((r1.1.1++(B [58]))++x.1).size+(B [59]).size≤4611686018427387904) then
 let v2:=(((r1.1.1++(B [58]))++x.1)++(B [59]))
 some ((v2,()),())
 else none
 else none
 else none
def Bb:Ent:=(127,none,⟨[.str],[.str],ja⟩)
def zR:SQ Tryz.prog Bb:=sk (v:= .nil) (fn:=Tryz.f127) Yb kN
def NA:Cx:=cX [kt,DG,Bb] [] [(23,25)]
def CH:OKC Tryz.prog NA af:=okc mixed (gC gS (gC B2 (gC zR (av))))
def fJ(x:Y4×Y4×auB×List auB×Int×Int×auC):Rnd (Y4×Y4×auB×List auB×Int×Int×auC) (Y4×Bool×auC) (Y4×Y4×auB×auC):=
 if decide (x.2.2.2.2.2.1 < x.2.2.2.2.1) then
 if inb x.2.2.2.2.2.1 x.2.2.2.1.length then
 let v25:=(rd (dfl .str) x.2.2.2.1 x.2.2.2.2.2.1)
 (xo (v25,())).bind fun r26=>
 if(!r26.1.1)||(decide (2400 < (x.2.2.1.size:Int))) then
 some (.inr (.inl (x.1,false,())))
 else
 (ja (v25,())).bind fun r27=>
 if decide (x.2.2.1.size+r27.1.1.size≤4611686018427387904) then
 some (.inl (x.1,x.2.1,(x.2.2.1++r27.1.1),x.2.2.2.1,x.2.2.2.2.1,(w64 (x.2.2.2.2.2.1+1)),()))
 else none
 else none
 else
 some (.inr (.inr (x.1,x.2.1,x.2.2.1,())))
def dT:=aV fJ
def yr:Loop:=⟨[(2,Z17),(4,Z17),(6,.str),(13,.sl .str),(14,.int .i64),(15,.int .i64)],[(2,Z17),(4,Z17),(6,.str)],0,[(4,Z17),(5,.bool)],dT⟩
def MD:LF Tryz.f74 [] [1,1,1,0,1,0,0] yr:=sq (v:= .nil) CH (b:=fJ) kN
def gB(x:Y4×List auB×auC):Option ((Y4×Bool×auC)×auC):=
 (fu (x.1,())).bind fun r2=>
 if !r2.1.1 then
 some (((noB,0,()),false,()),())
 else
 (aK (dT (x.1,(noB,0,()),noB,x.2.1,(x.2.1.length:Int),0,()))
 (fun y28=>some (y28,()))
 (fun y28=>(if decide (2400 < (y28.2.2.1.size:Int)) then
 some ((y28.1,false,()),())
 else
 some (((y28.2.2.1,(y28.2.2.1.size:Int),()),true,()),()))))
def uJ:Ent:=(74,none,⟨[Z9,.fz .str],[Z9,.bool],gB⟩)
def vU:SQ Tryz.prog uJ:=sk (v:=t1 (t1 (t1 (.two (t1 (.one (.loop yr))) .nil)))) (fn:=Tryz.f74) CH (kC MD kN)
def Nw:Cx:=cX [ko] [] []
def Qc:OKC Tryz.prog Nw af:=okc mixed (gC gG (av))
def gA(x:auB×Int×Int×Int×auC):Option ((auB×auC)×auC):=
 if decide (x.1.size+(B [32]).size≤4611686018427387904) then
 (ch (x.2.1,())).bind fun r1=>
 if decide ((x.1++(B [32])).size+r1.1.1.size≤4611686018427387904) then
 if decide (((x.1++(B [32]))++r1.1.1).size+(B [32]).size≤4611686018427387904) then
 (ch (x.2.2.1,())).bind fun r2=>
 if decide ((((x.1++(B [32]))++r1.1.1)++(B [32])).size+r2.1.1.size≤4611686018427387904) then
 if decide (((((x.1++(B [32]))++r1.1.1)++(B [32]))++r2.1.1).size+(B [32]).size≤4611686018427387904) then
 (ch x.2.2.2).bind fun r3=>
 if decide ((((((x.1++(B [32]))++r1.1.1)++(B [32]))++r2.1.1)++(B [32])).size+r3.1.1.size≤4611686018427387904) then
 let v4:=((((((x.1++(B [32]))++r1.1.1)++(B [32]))++r2.1.1)++(B [32]))++r3.1.1)
 some ((v4,()),())
 else none
 else none
 else none
 else none
 else none
 else none
def uI:Ent:=(52,none,⟨[.str,.int .i64,.int .i64,.int .i64],[.str],gA⟩)
def vT:SQ Tryz.prog uI:=sk (v:= .nil) (fn:=Tryz.f52) Qc kN
def PU:Cx:=cX [uI,ko,ku,Bg,iQ] [] []
def pV:OKC Tryz.prog PU af:=okc mixed (gC vT (gC gG (gC iJ (gC Af (gC jc (av))))))
def og(x:List auB×List anz×Int×Int×auC):Rnd (List auB×List anz×Int×Int×auC) (auC) (List auB×auC):=
 if decide (x.2.2.2.1 < x.2.2.1) then
 if inb x.2.2.2.1 x.2.1.length then
 let arQ:=(rd (dfl .note) x.2.1 x.2.2.2.1).fr
 let v105:=(rd (dfl .note) x.2.1 x.2.2.2.1).nu
 let atr:=(rd (dfl .note) x.2.1 x.2.2.2.1).to
 let v107:=(rd (dfl .note) x.2.1 x.2.2.2.1).un
 let atq:=(rd (dfl .note) x.2.1 x.2.2.2.1).tx
 (dm ((arQ,v105,atr,v107,atq,()),())).bind fun arZ=>
 if decide ((B [105,110,98,111,120,32]).size+arZ.1.1.size≤4611686018427387904) then
 if an (x.1.length+([((B [105,110,98,111,120,32])++arZ.1.1)]:List auB).length) then
 some (.inl ((x.1++([((B [105,110,98,111,120,32])++arZ.1.1)]:List auB)),x.2.1,x.2.2.1,(w64 (x.2.2.2.1+1)),()))
 else none
 else none
 else none
 else
 some (.inr (.inr (x.1,())))
def jz:=aV og
def Ac:Loop:=⟨[(3,.row 9 .str),(66,.sl .note),(67,.int .i64),(68,.int .i64)],[(3,.row 9 .str)],4,[],jz⟩
def OO:LF Tryz.f75 [] [1,1,1,1,1,1,1,0,1,0,0] Ac:=sq (v:= .nil) pV (b:=og) kN
def oh(x:Y1×List auB×List anz×Int×Int×auC):Rnd (Y1×List auB×List anz×Int×Int×auC) (auC) (Y1×List auB×auC):=
 if decide (x.2.2.2.2.1 < x.2.2.2.1) then
 if inb x.2.2.2.2.1 x.2.2.1.length then
 let v66:=(rd (dfl .note) x.2.2.1 x.2.2.2.2.1).fr
 let v67:=(rd (dfl .note) x.2.2.1 x.2.2.2.2.1).nu
 let v68:=(rd (dfl .note) x.2.2.1 x.2.2.2.2.1).to
 let v69:=(rd (dfl .note) x.2.2.1 x.2.2.2.2.1).un
 let v70:=(rd (dfl .note) x.2.2.1 x.2.2.2.2.1).tx
 (dm ((v66,v67,v68,v69,v70,()),())).bind fun r71=>
 if decide ((B [104,101,108,100,32]).size+r71.1.1.size≤4611686018427387904) then
 if an (x.2.1.length+([((B [104,101,108,100,32])++r71.1.1)]:List auB).length) then
 some (.inl (x.1,(x.2.1++([((B [104,101,108,100,32])++r71.1.1)]:List auB)),x.2.2.1,x.2.2.2.1,(w64 (x.2.2.2.2.1+1)),()))
 else none
 else none
 else none
 else
 some (.inr (.inr (x.1,x.2.1,())))
def jA:=aV oh
def Ad:Loop:=⟨[(1,Z2),(3,.row 9 .str),(52,.sl .note),(53,.int .i64),(54,.int .i64)],[(1,Z2),(3,.row 9 .str)],2,[],jA⟩
def OT:LF Tryz.f75 [] [1,1,1,1,1,1,0,1,0,0] Ad:=sq (v:= .nil) pV (b:=oh) kN
def oo(x:Y1×List auB×List Mark×Int×Int×auC):Rnd (Y1×List auB×List Mark×Int×Int×auC) (auC) (Y1×List auB×auC):=
 if decide (x.2.2.2.2.1 < x.2.2.2.1) then
 if inb x.2.2.2.2.1 x.2.2.1.length then
 let v30:=(rd (dfl .mark) x.2.2.1 x.2.2.2.2.1).mf
 let v31:=(rd (dfl .mark) x.2.2.1 x.2.2.2.2.1).mn
 let v32:=(rd (dfl .mark) x.2.2.1 x.2.2.2.2.1).mu
 (gA ((B [109,97,114,107]),v30,v31,v32,())).bind fun r33=>
 if an (x.2.1.length+([r33.1.1]:List auB).length) then
 some (.inl (x.1,(x.2.1++([r33.1.1]:List auB)),x.2.2.1,x.2.2.2.1,(w64 (x.2.2.2.2.1+1)),()))
 else none
 else none
 else
 some (.inr (.inr (x.1,x.2.1,())))
def jB:=aV oo
def Ae:Loop:=⟨[(1,Z2),(3,.row 9 .str),(34,.sl .mark),(35,.int .i64),(36,.int .i64)],[(1,Z2),(3,.row 9 .str)],0,[],jB⟩
def O4:LF Tryz.f75 [] [1,1,1,1,1,0,1,0,0] Ae:=sq (v:= .nil) pV (b:=oo) kN
def lE(x:Y1×auC):Option ((List auB×auC)×auC):=
 (je x).bind fun r2=>
 if !r2.1.1 then
 some ((([]:List auB),()),())
 else
 (bH (X:=Y1×List auB×auC) (fun j4=>
 (bH (X:=Y1×List auB×auC) (fun j7=>
 (aK (jB (j7.1,j7.2.1,j7.1.2.2.2.2.1,(j7.1.2.2.2.2.1.length:Int),0,()))
 (fun _=>none)
 (fun y34=>(aK (jA (y34.1,y34.2.1,y34.1.2.2.2.1,(y34.1.2.2.2.1.length:Int),0,()))
 (fun _=>none)
 (fun y72=>(aK (jz (y72.2.1,y72.1.2.2.2.2.2.1,(y72.1.2.2.2.2.2.1.length:Int),0,()))
 (fun _=>none)
 (fun arL=>(dS arL).bind fun arY=>
 some (arY.1,()))))))))
 ((if decide (1 < j4.1.2.2.1) then
 (ch (j4.1.2.2.1,())).bind fun r8=>
 if decide ((B [110,101,120,116,32]).size+r8.1.1.size≤4611686018427387904) then
 if an (j4.2.1.length+([((B [110,101,120,116,32])++r8.1.1)]:List auB).length) then
 some (.inr (j4.1,(j4.2.1++([((B [110,101,120,116,32])++r8.1.1)]:List auB)),()))
 else none
 else none
 else
 some (.inr j4)))))
 ((if decide (0 < x.1.2.1) then
 (ch (x.1.2.1,())).bind fun r5=>
 if decide ((B [116,105,109,101,32]).size+r5.1.1.size≤4611686018427387904) then
 if an ([((B [116,105,109,101,32])++r5.1.1)]:List auB).length then
 some (.inr (x.1,([((B [116,105,109,101,32])++r5.1.1)]:List auB),()))
 else none
 else none
 else
 some (.inr (x.1,([]:List auB),())))))
def wF:Ent:=(75,none,⟨[Z3],[.row 9 .str],lE⟩)
def xa:SQ Tryz.prog wF:=sk (v:=t1 (t1 (t1 (.join [(1,Z2),(3,.row 9 .str)] .nil (.join [(1,Z2),(3,.row 9 .str)] .nil (.two (t1 (.one (.loop Ae))) (.two (t1 (.one (.loop Ad))) (.two (t1 (.one (.loop Ac))) .nil)))))))) (fn:=Tryz.f75) pV (kC O4 (kC OT (kC OO kN)))
def PN:Cx:=cX [kt,DG,Bb] [] [(14,21)]
def SH:OKC Tryz.prog PN af:=okc mixed (gC gS (gC B2 (gC zR (av))))
def iq(x:Y4×auB×auC):Option ((Y4×Bool×auC)×auC):=
 (fu (x.1,())).bind fun r2=>
 if !r2.1.1 then
 some (((noB,0,()),false,()),())
 else
 (xo x.2).bind fun r5=>
 if aX (!(!r5.1.1)) ((ja x.2).isSome) then
 if(!r5.1.1)||(decide (2400 < (w64 ((x.1.1.size:Int)+((((ja x.2).getD ((noB,()),())).1.1).size:Int))))) then
 some ((x.1,false,()),())
 else
 (ja x.2).bind fun r6=>
 if decide (x.1.1.size+r6.1.1.size≤4611686018427387904) then
 some ((((x.1.1++r6.1.1),x.1.2),true,()),())
 else none
 else none
def EH:Ent:=(108,none,⟨[Z9,.str],[Z9,.bool],iq⟩)
def It:SQ Tryz.prog EH:=sk (v:= .nil) (fn:=Tryz.f108) SH kN
def aaM:Cx:=cX [tn,uJ,wF,Bh,EH] [] []
def acV:OKC Tryz.prog aaM af:=okc mixed (gC qm (gC vU (gC xa (gC Ag (gC It (av))))))
def kH(x:Y3×auB×auC):Option ((Y3×Bool×auC)×auC):=
 (dJ (x.1.1,x.1.2.2.1,())).bind fun r1=>
 (lW (r1.1.1,x.2)).bind fun r3=>
 if !r3.1.2.1 then
 some ((x.1,false,()),())
 else
 (iq ((x.1.2.2.1,x.1.2.2.2.1,()),x.2)).bind fun r4=>
 (bH (X:=Y3×Y3×Y4×Bool×auC) (fun j8=>
 if !j8.2.2.2.1 then
 some ((j8.1,false,()),())
 else
 some (((j8.1.1,j8.1.2.1,j8.2.2.1.1,j8.2.2.1.2.1,j8.1.2.2.2.2),true,()),()))
 ((if !r4.1.2.1 then
 (lE (r1.1.1,())).bind fun r9=>
 (gB ((x.1.2.2.1,x.1.2.2.2.1,()),r9.1)).bind fun r10=>
 if !r10.1.2.1 then
 some (.inl ((x.1,false,()),()))
 else
 (iq (r10.1.1,x.2)).bind fun r11=>
 some (.inr (x.1,(0,false,noB,0,([]:List anD),()),r11.1))
 else
 some (.inr (x.1,(0,false,noB,0,([]:List anD),()),r4.1)))))
def Ao:Ent:=(51,none,⟨[Z8,.str],[Z8,.bool],kH⟩)
def ww:SQ Tryz.prog Ao:=sk (v:=t1 (t1 (t1 (t1 (.join [(2,Z13),(4,Z14),(10,Z17),(11,.bool)] .nil .nil))))) (fn:=Tryz.f51) acV kN
def Wd:Cx:=cX [] [] []
def Yi:OKC Tryz.prog Wd af:=okc mixed (av)
def ve(x:Int×Y7×auC):Option ((List Frame×auC)×auC):=
 some ((([(Frame.mk x.1 x.2.1.2.2.1 x.2.1.2.1 x.2.1.2.2.2.1 x.2.1.2.2.2.2.1 x.2.1.2.2.2.2.2.1 x.2.1.2.2.2.2.2.2.1 0 0 noB)]:List Frame),()),())
def Jq:Ent:=(102,none,⟨[.int .i64,Z16],[.row 29 .frame],ve⟩)
def MR:SQ Tryz.prog Jq:=sk (v:= .nil) (fn:=Tryz.f102) Yi kN
def K4:Cx:=cX [kt] [] []
def N1:OKC Tryz.prog K4 af:=okc mixed (gC gS (av))
def mE(x:Y4×auC):Option ((Y4×auC)×auC):=
 (fu x).bind fun r2=>
 if !r2.1.1 then
 some (((noB,0,()),()),())
 else
 some (((x.1.1,(x.1.1.size:Int),()),()),())
def Aq:Ent:=(144,none,⟨[Z9],[Z9],mE⟩)
def EZ:SQ Tryz.prog Aq:=sk (v:= .nil) (fn:=Tryz.f144) N1 kN
def V9:Cx:=cX [Aq] [] []
def Ye:OKC Tryz.prog V9 af:=okc mixed (gC EZ (av))
def lU(x:Y3×auC):Option ((Y3×auC)×auC):=
 (mE ((x.1.2.2.1,x.1.2.2.2.1,()),())).bind fun r1=>
 some (((x.1.1,x.1.2.1,r1.1.1.1,r1.1.1.2.1,x.1.2.2.2.2),()),())
def Bf:Ent:=(104,none,⟨[Z8],[Z8],lU⟩)
def zZ:SQ Tryz.prog Bf:=sk (v:= .nil) (fn:=Tryz.f104) Ye kN
def aaN:Cx:=cX [] [(28,28)] []
def QR:OKC Tryz.prog aaN af:=okc mixed (av)
def xp(x:Y5×List anA×List anA×Int×Int×auC):Rnd (Y5×List anA×List anA×Int×Int×auC) (auC) (Y5×List anA×auC):=
 if decide (x.2.2.2.2.1 < x.2.2.2.1) then
 if inb x.2.2.2.2.1 x.2.2.1.length then
 let v20:=(rd (dfl .mixed) x.2.2.1 x.2.2.2.2.1).nu
 let v21:=(rd (dfl .mixed) x.2.2.1 x.2.2.2.2.1).da
 if !decide (v20=x.1.1) then
 if an (x.2.1.length+([(anA.mk v20 v21)]:List anA).length) then
 some (.inl (x.1,(x.2.1++([(anA.mk v20 v21)]:List anA)),x.2.2.1,x.2.2.2.1,(w64 (x.2.2.2.2.1+1)),()))
 else none
 else
 some (.inl (x.1,x.2.1,x.2.2.1,x.2.2.2.1,(w64 (x.2.2.2.2.1+1)),()))
 else none
 else
 some (.inr (.inr (x.1,x.2.1,())))
def pN:=aV xp
def I6:Loop:=⟨[(3,Z31),(5,.row 120 .mixed),(8,.sl .mixed),(9,.int .i64),(10,.int .i64)],[(3,Z31),(5,.row 120 .mixed)],0,[],pN⟩
def aat:LF Tryz.f105 [] [1,1,0,1,0,0] I6:=sq (v:= .nil) QR (b:=xp) kN
def zY(x:List anA×Y5×auC):Option ((List anA×auC)×auC):=
 (aK (pN (x.2.1,([]:List anA),x.1,(x.1.length:Int),0,()))
 (fun _=>none)
 (fun y22=>(if decide (14≤(y22.2.1.length:Int)) then
 if decide (0≤1)&&decide (1≤(y22.2.1.length:Int)) then
 if an ((avp (auK 1) y22.2.1).length+([(anA.mk y22.1.1 y22.1.2.1)]:List anA).length) then
 some ((((avp (auK 1) y22.2.1)++([(anA.mk y22.1.1 y22.1.2.1)]:List anA)),()),())
 else none
 else none
 else
 if an (y22.2.1.length+([(anA.mk y22.1.1 y22.1.2.1)]:List anA).length) then
 some (((y22.2.1++([(anA.mk y22.1.1 y22.1.2.1)]:List anA)),()),())
 else none)))
def QN:Ent:=(105,none,⟨[.fz .mixed,Z10],[.row 120 .mixed],zY⟩)
def RE:SQ Tryz.prog QN:=sk (v:=t1 (t1 (.two (t1 (.one (.loop I6))) .nil))) (fn:=Tryz.f105) QR (kC aat kN)
def XT:Cx:=cX [dn] [] [(8,9)]
def aaW:OKC Tryz.prog XT af:=okc mixed (gC bK (av))
def sy(x:Int×Int×auC):Option ((Bool×auC)×auC):=
 (aO (x.1,1,6,())).bind fun r3=>
 if aX r3.1.1 ((aO (x.2.1,0,999,())).isSome) then
 let v4:=(r3.1.1&&(((aO (x.2.1,0,999,())).getD ((false,()),())).1.1))
 some ((v4,()),())
 else none
def DH:Ent:=(155,none,⟨[.int .i64,.int .i64],[.bool],sy⟩)
def B5:SQ Tryz.prog DH:=sk (v:= .nil) (fn:=Tryz.f155) aaW kN
def PO:Cx:=cX [dn] [] []
def SI:OKC Tryz.prog PO af:=okc mixed (gC bK (av))
def fU(x:Int×auC):Option ((Int×auC)×auC):=
 (aO (x.1,0,65535,())).bind fun r2=>
 if !r2.1.1 then
 some ((0,()),())
 else
 let v3:=(avq (w64 ((w64 (25173 * x.1))+13849)) 65536)
 some ((v3,()),())
def wE:Ent:=(156,none,⟨[.int .i64],[.int .i64],fU⟩)
def wZ:SQ Tryz.prog wE:=sk (v:= .nil) (fn:=Tryz.f156) SI kN
def ND:Cx:=cX [DH,wE] [] []
def uR:OKC Tryz.prog ND af:=okc mixed (gC B5 (gC wZ (av)))
def z6(x:Int×List Int×Int×Int×Int×auC):Rnd (Int×List Int×Int×Int×Int×auC) (Int×auC) (Int×auC):=
 if decide (x.2.2.2.2.1≤x.1) then
 if inb x.2.2.2.2.1 x.2.1.length then
 let v21:=(w64 (x.2.2.2.1+(rd (dfl .int) x.2.1 x.2.2.2.2.1)))
 (if decide (x.2.2.1 < v21) then
 some (.inr (.inl x.2.2.2.2))
 else
 some (.inl (x.1,x.2.1,x.2.2.1,v21,(w64 (x.2.2.2.2.1+1)),())))
 else none
 else
 some (.inr (.inr (x.1,())))
def iK:=aV z6
def yt:Loop:=⟨[(0,.int .i64),(5,.row 3 .int),(8,.int .i64),(9,.int .i64),(10,.int .i64)],[(0,.int .i64)],2,[(4,.int .i64)],iK⟩
def Mw:LF Tryz.f157 [] [1,1,1,1,1,1,1,1,0,1,0,0] yt:=sq (v:= .nil) uR (b:=z6) kN
def z7(x:Int×Int×List Int×Int×Int×auC):Rnd (Int×Int×List Int×Int×Int×auC) (auC) (Int×Int×List Int×Int×auC):=
 if decide (x.2.2.2.2.1≤x.1) then
 if !decide ((w64 (x.2.2.2.2.1 * (w64 (x.2.2.2.2.1 - 1))))=0) then
 if an (x.2.2.1.length+([(w64 (au6 60 (w64 (x.2.2.2.2.1 * (w64 (x.2.2.2.2.1 - 1))))))]:List Int).length) then
 if inb x.2.2.2.2.1 ((x.2.2.1++([(w64 (au6 60 (w64 (x.2.2.2.2.1 * (w64 (x.2.2.2.2.1 - 1))))))]:List Int)).length) then
 let v10:=(w64 (x.2.2.2.1+(rd (dfl .int) (x.2.2.1++([(w64 (au6 60 (w64 (x.2.2.2.2.1 * (w64 (x.2.2.2.2.1 - 1))))))]:List Int)) x.2.2.2.2.1)))
 some (.inl (x.1,x.2.1,(x.2.2.1++([(w64 (au6 60 (w64 (x.2.2.2.2.1 * (w64 (x.2.2.2.2.1 - 1))))))]:List Int)),v10,(w64 (x.2.2.2.2.1+1)),()))
 else none
 else none
 else none
 else
 some (.inr (.inr (x.1,x.2.1,x.2.2.1,x.2.2.2.1,())))
def iL:=aV z7
def yu:Loop:=⟨[(0,.int .i64),(1,.int .i64),(5,.row 3 .int),(6,.int .i64),(7,.int .i64)],[(0,.int .i64),(1,.int .i64),(5,.row 3 .int),(6,.int .i64)],0,[],iL⟩
def ME:LF Tryz.f157 [] [1,1,1,1,1,0,1,0,0] yu:=sq (v:= .nil) uR (b:=z7) kN
def n7(x:Int×Int×auC):Option ((Int×auC)×auC):=
 (sy x).bind fun r2=>
 if !r2.1.1 then
 some ((0,()),())
 else
 if decide (x.2.1 < x.1) then
 some ((1,()),())
 else
 if !decide (x.1=0) then
 if inb 1 (([0,(w64 ((w64 (au6 60 x.1))+10))]:List Int).length) then
 let v3:=(rd (dfl .int) ([0,(w64 ((w64 (au6 60 x.1))+10))]:List Int) 1)
 (aK (iL (x.1,x.2.1,([0,(w64 ((w64 (au6 60 x.1))+10))]:List Int),v3,2,()))
 (fun _=>none)
 (fun y11=>(fU ((w64 ((w64 (31 * y11.2.1))+y11.1)),())).bind fun r12=>
 (fU r12.1).bind fun r13=>
 if !decide (y11.2.2.2.1=0) then
 let v14:=(avq (w64 (au6 r13.1.1 16)) y11.2.2.2.1)
 (aK (iK (y11.1,y11.2.2.1,v14,0,1,()))
 (fun y22=>some (y22,()))
 (fun y22=>some (y22,())))
 else none))
 else none
 else none
def Cz:Ent:=(157,none,⟨[.int .i64,.int .i64],[.int .i64],n7⟩)
def Gm:SQ Tryz.prog Cz:=sk (v:=t1 (t1 (t1 (t1 (t1 (.two (t1 (.one (.loop yu))) (t1 (t1 (.two (t1 (.one (.loop yt))) .nil))))))))) (fn:=Tryz.f157) uR (kC ME (kC Mw kN))
def K3:Cx:=cX [] [] []
def N0:OKC Tryz.prog K3 af:=okc mixed (av)
def sP(x:List Int×auC):Option ((List Int×auC)×auC):=
 if decide ((x.1.length:Int)=0) then
 some ((([]:List Int),()),())
 else
 if decide (0≤(x.1.length:Int))&&decide ((x.1.length:Int)≤4294967296) then
 some (((au3 (au0 (auK (x.1.length:Int)) (dfl .int)).length x.1++avp x.1.length (au0 (auK (x.1.length:Int)) (dfl .int))),()),())
 else none
def Ap:Ent:=(158,none,⟨[.fz .int],[.row 3 .int],sP⟩)
def EY:SQ Tryz.prog Ap:=sk (v:= .nil) (fn:=Tryz.f158) N0 kN
def XW:Cx:=cX [DH,wE,Cz,Ap] [] []
def xy:OKC Tryz.prog XW af:=okc mixed (gC B5 (gC wZ (gC Gm (gC EY (av)))))
def pd(x:Int×List Bool×Int×Int×Int×auC):Rnd (Int×List Bool×Int×Int×Int×auC) (auC) (Int×List Bool×Int×Int×Int×auC):=
 if inb x.2.2.2.2.1 x.2.1.length then
 if rd (dfl .bool) x.2.1 x.2.2.2.2.1 then
 if !decide (x.1=0) then
 let v36:=(avq (w64 (x.2.2.2.2.1+1)) x.1)
 some (.inl (x.1,x.2.1,x.2.2.1,x.2.2.2.1,v36,()))
 else none
 else
 some (.inr (.inr x))
 else none
def n6:=aV pd
def Gk:Loop:=⟨[(0,.int .i64),(5,.abx 167 .bool),(6,.int .i64),(7,.int .i64),(8,.int .i64)],[(0,.int .i64),(5,.abx 167 .bool),(6,.int .i64),(7,.int .i64),(8,.int .i64)],2,[],n6⟩
def Xu:LF Tryz.f122 [] [1,1,1,1,1,0,1,0,0,1,0,0,1,1,0,0,0] Gk:=sq (v:= .nil) xy (b:=pd) kN
def AZ(x:List Int×List Bool×Int×auC):Rnd (List Int×List Bool×Int×auC) (auC) (List Int×auC):=
 if decide (x.2.2.1 < 6) then
 if inb x.2.2.1 x.2.1.length&&inb x.2.2.1 6 then
 let v49:=(rd (dfl .bool) x.2.1 x.2.2.1)
 (if v49 then
 if an (x.1.length+([x.2.2.1]:List Int).length) then
 some (.inl ((x.1++([x.2.2.1]:List Int)),x.2.1,(w64 (x.2.2.1+1)),()))
 else none
 else
 some (.inl (x.1,x.2.1,(w64 (x.2.2.1+1)),())))
 else none
 else
 some (.inr (.inr (x.1,())))
def uA:=aV AZ
def Gj:Loop:=⟨[(9,.row 3 .int),(47,.arr .bool),(48,.int .i64)],[(9,.row 3 .int)],4,[],uA⟩
def Xs:LF Tryz.f122 [] [1,1,1,1,1,1,1,0,1,0,0] Gj:=sq (v:= .nil) xy (b:=AZ) kN
def A0(x:Int×List Bool×Int×Int×auC):Rnd (Int×List Bool×Int×Int×auC) (auC) (List Bool×auC):=
 if decide (0 < x.2.2.2.1) then
 (fU (x.2.2.1,())).bind fun r33=>
 if !decide (x.1=0) then
 let v34:=(avq (w64 (au6 r33.1.1 16)) x.1)
 (aK (n6 (x.1,x.2.1,r33.1.1,x.2.2.2.1,v34,()))
 (fun _=>some (.inr (.inl ())))
 (fun y37=>(if inb y37.2.2.2.2.1 y37.2.1.length then
 some (.inl (y37.1,(ave y37.2.1 (auK y37.2.2.2.2.1) true),y37.2.2.1,(w64 (y37.2.2.2.1 - 1)),()))
 else none)))
 else none
 else
 some (.inr (.inr (x.2.1,())))
def uB:=aV A0
def Gl:Loop:=⟨[(0,.int .i64),(5,.abx 167 .bool),(6,.int .i64),(7,.int .i64)],[(5,.abx 167 .bool)],0,[],uB⟩
def XA:LF Tryz.f122 [] [1,1,1,1,1,0,1,0,0] Gl:=sq (v:=t1 (.two (.one (t1 (t1 (.two (.one (.loop Gk)) .nil)))) .nil)) xy (b:=A0) (kC Xu kN)
def sV(x:Int×Int×auC):Option ((List Int×auC)×auC):=
 (sy x).bind fun r2=>
 if !r2.1.1 then
 some ((([]:List Int),()),())
 else
 if decide (x.2.1 < x.1) then
 some ((([x.2.1]:List Int),()),())
 else
 (fU ((w64 ((w64 (7 * x.2.1))+1)),())).bind fun r3=>
 (n7 x).bind fun r16=>
 (aK (uB (x.1,(au0 6 (dfl .bool)),r3.1.1,r16.1))
 (fun _=>none)
 (fun y38=>(aK (uA (([]:List Int),y38.1,0,()))
 (fun _=>none)
 (fun y50=>(sP y50).bind fun r51=>
 some (r51.1,())))))
def DI:Ent:=(122,none,⟨[.int .i64,.int .i64],[.row 3 .int],sV⟩)
def Ch:SQ Tryz.prog DI:=sk (v:=t1 (t1 (t1 (t1 (t1 (.two (t1 (.one (.loop Gl))) (t1 (.two (t1 (.one (.loop Gj))) .nil)))))))) (fn:=Tryz.f122) xy (kC XA (kC Xs kN))
def XQ:Cx:=cX [] [] []
def NZ:OKC Tryz.prog XQ af:=okc mixed (av)
def I3(x:auB×List Int×Int×Int×auC):Rnd (auB×List Int×Int×Int×auC) (auC) (List Int×auC):=
 if decide (x.2.2.2.1 < x.2.2.1) then
 if inb x.2.2.2.1 x.2.1.length then
 if inb x.2.2.2.1 x.1.size then
 if inb x.2.2.2.1 x.2.1.length then
 let v7:=(vQ .u8 (rd (dfl .u8) x.2.1 x.2.2.2.1) (bt x.1 x.2.2.2.1))
 some (.inl (x.1,(ave x.2.1 (auK x.2.2.2.1) v7),x.2.2.1,(w64 (x.2.2.2.1+1)),()))
 else none
 else none
 else none
 else
 some (.inr (.inr (x.2.1,())))
def uz:=aV I3
def Gf:Loop:=⟨[(1,.str),(5,.an1 5 .u8),(10,.int .i64),(11,.int .i64)],[(5,.an1 5 .u8)],0,[],uz⟩
def Xz:LF Tryz.f123 [] [1,1,0,1,0,0] Gf:=sq (v:= .nil) NZ (b:=I3) kN
def sg(x:auB×auB×auC):Option ((auB×auC)×auC):=
 if an x.1.size then
 (aK (uz (x.2.1,(aL x.1),((aL x.1).length:Int),0,()))
 (fun _=>none)
 (fun y8=>some (((eS y8.1),()),())))
 else none
def DF:Ent:=(123,none,⟨[.str,.str],[.str],sg⟩)
def B1:SQ Tryz.prog DF:=sk (v:=t1 (t1 (.two (t1 (.one (.loop Gf))) .nil))) (fn:=Tryz.f123) NZ (kC Xz kN)
def Sm:Cx:=cX [dn,DI,DF] [] [(31,34)]
def tB:OKC Tryz.prog Sm af:=okc mixed (gC bK (gC Ch (gC B1 (av))))
def lC(x:Int×List anA×List auB×Bool×auB×Int×Int×List anA×Int×Int×List Int×Int×Int×auC):Rnd (Int×List anA×List auB×Bool×auB×Int×Int×List anA×Int×Int×List Int×Int×Int×auC) (auC) (Int×List anA×List auB×Bool×auB×Int×Int×List anA×Int×Int×auC):=
 if decide (x.2.2.2.2.2.2.2.2.2.2.2.2.1 < x.2.2.2.2.2.2.2.2.2.2.2.1) then
 if inb x.2.2.2.2.2.2.2.2.2.2.2.2.1 x.2.2.2.2.2.2.2.2.2.2.1.length then
 let aqU:=(rd (dfl .int) x.2.2.2.2.2.2.2.2.2.2.1 x.2.2.2.2.2.2.2.2.2.2.2.2.1)
 (if inb aqU x.2.2.1.length then
 if decide ((rd (dfl .str) x.2.2.1 aqU)=noB) then
 let atp:=(w64 (x.2.2.2.2.2.2.1+1))
 some (.inl (x.1,x.2.1,x.2.2.1,x.2.2.2.1,x.2.2.2.2.1,aqU,atp,x.2.2.2.2.2.2.2.1,x.2.2.2.2.2.2.2.2.1,x.2.2.2.2.2.2.2.2.2.1,x.2.2.2.2.2.2.2.2.2.2.1,x.2.2.2.2.2.2.2.2.2.2.2.1,(w64 (x.2.2.2.2.2.2.2.2.2.2.2.2.1+1)),()))
 else
 if inb aqU x.2.2.1.length then
 (sg (x.2.2.2.2.1,(rd (dfl .str) x.2.2.1 aqU),())).bind fun atD=>
 some (.inl (x.1,x.2.1,x.2.2.1,x.2.2.2.1,atD.1.1,x.2.2.2.2.2.1,x.2.2.2.2.2.2.1,x.2.2.2.2.2.2.2.1,x.2.2.2.2.2.2.2.2.1,x.2.2.2.2.2.2.2.2.2.1,x.2.2.2.2.2.2.2.2.2.2.1,x.2.2.2.2.2.2.2.2.2.2.2.1,(w64 (x.2.2.2.2.2.2.2.2.2.2.2.2.1+1)),()))
 else none
 else none)
 else none
 else
 some (.inr (.inr (x.1,x.2.1,x.2.2.1,x.2.2.2.1,x.2.2.2.2.1,x.2.2.2.2.2.1,x.2.2.2.2.2.2.1,x.2.2.2.2.2.2.2.1,x.2.2.2.2.2.2.2.2.1,x.2.2.2.2.2.2.2.2.2.1,())))
def ld:=aV lC
def Ce:Loop:=⟨[(0,.int .i64),(1,.sl .mixed),(5,.row 9 .str),(6,.bool),(9,.str),(10,.int .i64),(11,.int .i64),(20,.sl .mixed),(21,.int .i64),(22,.int .i64),(41,.row 3 .int),(42,.int .i64),(43,.int .i64)],[(0,.int .i64),(1,.sl .mixed),(5,.row 9 .str),(6,.bool),(9,.str),(10,.int .i64),(11,.int .i64),(20,.sl .mixed),(21,.int .i64),(22,.int .i64)],4,[],ld⟩
def Ra:LF Tryz.f145 [] [1,1,1,0,1,0,0,1,0,1,1,0,0,1,1,0,0,1,1,1,0,1,0,0] Ce:=sq (v:= .nil) tB (b:=lC) kN
def eJ(x:Int×List anA×List auB×Bool×List anA×Int×Int×auC):Rnd (Int×List anA×List auB×Bool×List anA×Int×Int×auC) (auC) (Int×List anA×List auB×Bool×auC):=
 if decide (x.2.2.2.2.2.2.1 < x.2.2.2.2.2.1) then
 if inb x.2.2.2.2.2.2.1 x.2.2.2.2.1.length then
 let asH:=(rd (dfl .mixed) x.2.2.2.2.1 x.2.2.2.2.2.2.1).nu
 let v124:=(rd (dfl .mixed) x.2.2.2.2.1 x.2.2.2.2.2.2.1).da
 (aO (asH,0,999,())).bind fun atE=>
 if(!atE.1.1)||(!decide ((v124.size:Int)=4)) then
 some (.inl (x.1,x.2.1,x.2.2.1,x.2.2.2.1,x.2.2.2.2.1,x.2.2.2.2.2.1,(w64 (x.2.2.2.2.2.2.1+1)),()))
 else
 (sV (x.1,asH,())).bind fun asR=>
 (aK (ld (x.1,x.2.1,x.2.2.1,x.2.2.2.1,v124,(-1),0,x.2.2.2.2.1,x.2.2.2.2.2.1,x.2.2.2.2.2.2.1,asR.1.1,(asR.1.1.length:Int),0,()))
 (fun _=>some (.inr (.inl ())))
 (fun aoR=>(if decide (aoR.2.2.2.2.2.2.1=1) then
 if inb aoR.2.2.2.2.2.1 aoR.2.2.1.length then
 some (.inl (aoR.1,aoR.2.1,(ave aoR.2.2.1 (auK aoR.2.2.2.2.2.1) aoR.2.2.2.2.1),true,aoR.2.2.2.2.2.2.2.1,aoR.2.2.2.2.2.2.2.2.1,(w64 (aoR.2.2.2.2.2.2.2.2.2.1+1)),()))
 else none
 else
 some (.inl (aoR.1,aoR.2.1,aoR.2.2.1,aoR.2.2.2.1,aoR.2.2.2.2.2.2.2.1,aoR.2.2.2.2.2.2.2.2.1,(w64 (aoR.2.2.2.2.2.2.2.2.2.1+1)),())))))
 else none
 else
 some (.inr (.inr (x.1,x.2.1,x.2.2.1,x.2.2.2.1,())))
def gT:=aV eJ
def Cf:Loop:=⟨[(0,.int .i64),(1,.sl .mixed),(5,.row 9 .str),(6,.bool),(20,.sl .mixed),(21,.int .i64),(22,.int .i64)],[(0,.int .i64),(1,.sl .mixed),(5,.row 9 .str),(6,.bool)],2,[],gT⟩
def Rh:LF Tryz.f145 [] [1,1,1,0,1,0,0,1,0,1,1,0,0] Cf:=sq (v:=t1 (t1 (.two (.one (t1 (t1 (t1 (.two (t1 (.one (.loop Ce))) .nil))))) .nil))) tB (b:=eJ) (kC Ra kN)
def wy(x:Int×List anA×List auB×Bool×auC):Rnd (Int×List anA×List auB×Bool×auC) (auC) (List auB×auC):=
 if x.2.2.2.1 then
 (aK (gT (x.1,x.2.1,x.2.2.1,false,x.2.1,(x.2.1.length:Int),0,()))
 (fun _=>some (.inr (.inl ())))
 (fun atg=>some (.inl atg)))
 else
 some (.inr (.inr (x.2.2.1,())))
def qz:=aV wy
def Cg:Loop:=⟨[(0,.int .i64),(1,.sl .mixed),(5,.row 9 .str),(6,.bool)],[(5,.row 9 .str)],0,[],qz⟩
def RB:LF Tryz.f145 [] [1,1,1,0,1,0,0] Cg:=sq (v:=t1 (.one (t1 (t1 (.one (.loop Cf)))))) tB (b:=wy) (kC Rh kN)
def sU(x:Int×List anA×auC):Option ((List auB×auC)×auC):=
 (aO (x.1,1,6,())).bind fun r2=>
 if !r2.1.1 then
 some ((([]:List auB),()),())
 else
 if decide (0≤x.1)&&decide (x.1≤4294967296) then
 (aK (qz (x.1,x.2.1,(au0 (auK x.1) (dfl .str)),true,()))
 (fun _=>none)
 (fun atf=>some (atf,())))
 else none
def GR:Ent:=(145,none,⟨[.int .i64,.fz .mixed],[.row 9 .str],sU⟩)
def KG:SQ Tryz.prog GR:=sk (v:=t1 (t1 (t1 (.two (t1 (.one (.loop Cg))) .nil)))) (fn:=Tryz.f145) tB (kC RB kN)
def Sl:Cx:=cX [dn,GR] [] []
def yZ:OKC Tryz.prog Sl af:=okc mixed (gC bK (gC KG (av)))
def pR(x:Int×auB×Int×auC):Rnd (Int×auB×Int×auC) (auB×Bool×auC) (Int×auB×auC):=
 if decide (x.2.2.1 < (x.2.1.size:Int)) then
 if inb x.2.2.1 x.2.1.size then
 if !decide ((bt x.2.1 x.2.2.1)=0) then
 some (.inr (.inl (noB,false,())))
 else
 some (.inl (x.1,x.2.1,(w64 (x.2.2.1+1)),()))
 else none
 else
 some (.inr (.inr (x.1,x.2.1,())))
def qy:=aV pR
def Cc:Loop:=⟨[(0,.int .i64),(6,.str),(9,.int .i64)],[(0,.int .i64),(6,.str)],2,[(4,.str),(5,.bool)],qy⟩
def Rg:LF Tryz.f106 [] [1,1,1,1,0,1,0,0] Cc:=sq (v:= .nil) yZ (b:=pR) kN
def lB(x:Int×auB×List auB×Int×Int×auC):Rnd (Int×auB×List auB×Int×Int×auC) (auB×Bool×auC) (Int×auB×auC):=
 if decide (x.2.2.2.2.1 < x.2.2.2.1) then
 if inb x.2.2.2.2.1 x.2.2.1.length then
 let v11:=(rd (dfl .str) x.2.2.1 x.2.2.2.2.1)
 (if decide (v11=noB) then
 some (.inr (.inl (noB,false,())))
 else
 if decide (x.2.1.size+v11.size≤4611686018427387904) then
 some (.inl (x.1,(x.2.1++v11),x.2.2.1,x.2.2.2.1,(w64 (x.2.2.2.2.1+1)),()))
 else none)
 else none
 else
 some (.inr (.inr (x.1,x.2.1,())))
def lc:=aV lB
def Cd:Loop:=⟨[(0,.int .i64),(6,.str),(18,.row 9 .str),(19,.int .i64),(20,.int .i64)],[(0,.int .i64),(6,.str)],0,[(4,.str),(5,.bool)],lc⟩
def RA:LF Tryz.f106 [] [1,1,1,0,1,0,0] Cd:=sq (v:= .nil) yZ (b:=lB) kN
def sS(x:Int×List anA×auC):Option ((auB×Bool×auC)×auC):=
 (aO (x.1,1,24,())).bind fun r2=>
 if !r2.1.1 then
 some ((noB,false,()),())
 else
 (sU ((w64 (au6 (w64 ((w64 (x.1+4)) - 1)) 4)),x.2)).bind fun r7=>
 (aK (lc (x.1,noB,r7.1.1,(r7.1.1.length:Int),0,()))
 (fun y12=>some (y12,()))
 (fun y12=>(aK (qy (y12.1,y12.2.1,y12.1,()))
 (fun y14=>some (y14,()))
 (fun y14=>(if decide (0≤y14.1)&&decide (y14.1≤(y14.2.1.size:Int)) then
 let v15:=(y14.2.1.extract (0) (auK y14.1))
 some ((v15,true,()),())
 else none)))))
def GQ:Ent:=(106,none,⟨[.int .i64,.fz .mixed],[.str,.bool],sS⟩)
def KF:SQ Tryz.prog GQ:=sk (v:=t1 (t1 (t1 (.two (t1 (.one (.loop Cd))) (.two (t1 (.one (.loop Cc))) .nil))))) (fn:=Tryz.f106) yZ (kC RA (kC Rg kN))
def Ny:Cx:=cX [bW,jg,Ao,ku,Be,Jq,pg,Bf,QN,GQ] [(85,85)] [(34,41)]
def Qd:OKC Tryz.prog Ny af:=okc mixed (gC bE (gC fH (gC ww (gC iJ (gC zX (gC MR (gC mB (gC zZ (gC RE (gC KF (av)))))))))))
def kc(x:Y3×Y7×auC):Option ((Y3×List Frame×auC)×auC):=
 (bd (x.1,())).bind fun r1=>
 let v11:=(decide (x.2.1.2.2.2.2.2.2.1≤r1.1.1.2.1))
 (if v11 then
 (ve (3,x.2)).bind fun r12=>
 some ((x.1,r12.1),())
 else
 (cJ (r1.1.1.2.2.2.1,x.2.1.2.2.2.1,x.2.1.2.2.2.2.1,())).bind fun r13=>
 if aX (!(decide (0≤r13.1.1))) ((dK (r1.1.1.2.2.2.2.1,x.2.1.2.2.2.1,x.2.1.2.2.2.2.1,())).isSome) then
 let v14:=((decide (0≤r13.1.1))||(decide (0≤((dK (r1.1.1.2.2.2.2.1,x.2.1.2.2.2.1,x.2.1.2.2.2.2.1,())).getD ((0,()),())).1.1)))
 (if v14 then
 (lU (x.1,())).bind fun r15=>
 (ve (2,x.2)).bind fun r16=>
 some ((r15.1.1,r16.1),())
 else
 let v17:=(decide (x.2.1.2.2.2.1=x.1.1))
 (if v17 then
 some ((x.1,([]:List Frame),()),())
 else
 (lT (x.1.2.2.2.2.1,x.2.1.2.2.2.1,x.2.1.2.2.2.2.1,())).bind fun r18=>
 (bH (X:=Y3×Y7×Y3×Int×auC) (fun j21=>
 if inb j21.2.2.2.1 j21.1.2.2.2.2.1.length then
 if !decide ((rd (dfl .half) j21.1.2.2.2.2.1 j21.2.2.2.1).to=j21.2.1.2.2.2.2.2.1) then
 some ((j21.1,([]:List Frame),()),())
 else
 if !decide ((rd (dfl .half) j21.1.2.2.2.2.1 j21.2.2.2.1).un=j21.2.1.2.2.2.2.2.2.1) then
 some ((j21.1,([]:List Frame),()),())
 else
 if !decide ((rd (dfl .half) j21.1.2.2.2.2.1 j21.2.2.2.1).sz=j21.2.1.2.2.2.2.2.2.2.1) then
 some ((j21.1,([]:List Frame),()),())
 else
 (zY ((rd (dfl .half) j21.1.2.2.2.2.1 j21.2.2.2.1).got,j21.2.1.2.2.2.2.2.2.2.2,())).bind fun r24=>
 (sS ((rd (dfl .half) (ave j21.1.2.2.2.2.1 (auK j21.2.2.2.1) (anD.mk ((rd (dfl .half) j21.1.2.2.2.2.1 j21.2.2.2.1).fr) ((rd (dfl .half) j21.1.2.2.2.2.1 j21.2.2.2.1).nu) ((rd (dfl .half) j21.1.2.2.2.2.1 j21.2.2.2.1).to) ((rd (dfl .half) j21.1.2.2.2.2.1 j21.2.2.2.1).un) ((rd (dfl .half) j21.1.2.2.2.2.1 j21.2.2.2.1).sz) r24.1.1)) j21.2.2.2.1).sz,(rd (dfl .half) (ave j21.1.2.2.2.2.1 (auK j21.2.2.2.1) (anD.mk ((rd (dfl .half) j21.1.2.2.2.2.1 j21.2.2.2.1).fr) ((rd (dfl .half) j21.1.2.2.2.2.1 j21.2.2.2.1).nu) ((rd (dfl .half) j21.1.2.2.2.2.1 j21.2.2.2.1).to) ((rd (dfl .half) j21.1.2.2.2.2.1 j21.2.2.2.1).un) ((rd (dfl .half) j21.1.2.2.2.2.1 j21.2.2.2.1).sz) r24.1.1)) j21.2.2.2.1).got,())).bind fun r25=>
 if !r25.1.2.1 then
 some (((j21.1.1,j21.1.2.1,j21.1.2.2.1,j21.1.2.2.2.1,(ave j21.1.2.2.2.2.1 (auK j21.2.2.2.1) (anD.mk ((rd (dfl .half) j21.1.2.2.2.2.1 j21.2.2.2.1).fr) ((rd (dfl .half) j21.1.2.2.2.2.1 j21.2.2.2.1).nu) ((rd (dfl .half) j21.1.2.2.2.2.1 j21.2.2.2.1).to) ((rd (dfl .half) j21.1.2.2.2.2.1 j21.2.2.2.1).un) ((rd (dfl .half) j21.1.2.2.2.2.1 j21.2.2.2.1).sz) r24.1.1)),()),([]:List Frame),()),())
 else
 if decide (0≤j21.2.2.2.1)&&decide (j21.2.2.2.1≤((ave j21.1.2.2.2.2.1 (auK j21.2.2.2.1) (anD.mk ((rd (dfl .half) j21.1.2.2.2.2.1 j21.2.2.2.1).fr) ((rd (dfl .half) j21.1.2.2.2.2.1 j21.2.2.2.1).nu) ((rd (dfl .half) j21.1.2.2.2.2.1 j21.2.2.2.1).to) ((rd (dfl .half) j21.1.2.2.2.2.1 j21.2.2.2.1).un) ((rd (dfl .half) j21.1.2.2.2.2.1 j21.2.2.2.1).sz) r24.1.1)).length:Int)) then
 if an (([]:List anD).length+(au3 (auK j21.2.2.2.1) (ave j21.1.2.2.2.2.1 (auK j21.2.2.2.1) (anD.mk ((rd (dfl .half) j21.1.2.2.2.2.1 j21.2.2.2.1).fr) ((rd (dfl .half) j21.1.2.2.2.2.1 j21.2.2.2.1).nu) ((rd (dfl .half) j21.1.2.2.2.2.1 j21.2.2.2.1).to) ((rd (dfl .half) j21.1.2.2.2.2.1 j21.2.2.2.1).un) ((rd (dfl .half) j21.1.2.2.2.2.1 j21.2.2.2.1).sz) r24.1.1))).length) then
 if decide (0≤(w64 (j21.2.2.2.1+1)))&&decide ((w64 (j21.2.2.2.1+1))≤((ave j21.1.2.2.2.2.1 (auK j21.2.2.2.1) (anD.mk ((rd (dfl .half) j21.1.2.2.2.2.1 j21.2.2.2.1).fr) ((rd (dfl .half) j21.1.2.2.2.2.1 j21.2.2.2.1).nu) ((rd (dfl .half) j21.1.2.2.2.2.1 j21.2.2.2.1).to) ((rd (dfl .half) j21.1.2.2.2.2.1 j21.2.2.2.1).un) ((rd (dfl .half) j21.1.2.2.2.2.1 j21.2.2.2.1).sz) r24.1.1)).length:Int)) then
 if an ((([]:List anD)++(au3 (auK j21.2.2.2.1) (ave j21.1.2.2.2.2.1 (auK j21.2.2.2.1) (anD.mk ((rd (dfl .half) j21.1.2.2.2.2.1 j21.2.2.2.1).fr) ((rd (dfl .half) j21.1.2.2.2.2.1 j21.2.2.2.1).nu) ((rd (dfl .half) j21.1.2.2.2.2.1 j21.2.2.2.1).to) ((rd (dfl .half) j21.1.2.2.2.2.1 j21.2.2.2.1).un) ((rd (dfl .half) j21.1.2.2.2.2.1 j21.2.2.2.1).sz) r24.1.1)))).length+(avp (auK (w64 (j21.2.2.2.1+1))) (ave j21.1.2.2.2.2.1 (auK j21.2.2.2.1) (anD.mk ((rd (dfl .half) j21.1.2.2.2.2.1 j21.2.2.2.1).fr) ((rd (dfl .half) j21.1.2.2.2.2.1 j21.2.2.2.1).nu) ((rd (dfl .half) j21.1.2.2.2.2.1 j21.2.2.2.1).to) ((rd (dfl .half) j21.1.2.2.2.2.1 j21.2.2.2.1).un) ((rd (dfl .half) j21.1.2.2.2.2.1 j21.2.2.2.1).sz) r24.1.1))).length) then
 (dm ((j21.2.1.2.2.2.1,j21.2.1.2.2.2.2.1,j21.2.1.2.2.2.2.2.1,j21.2.1.2.2.2.2.2.2.1,r25.1.1,()),())).bind fun r26=>
 if decide ((B [116,97,107,101,32]).size+r26.1.1.size≤4611686018427387904) then
 (kH ((j21.1.1,j21.1.2.1,j21.1.2.2.1,j21.1.2.2.2.1,((([]:List anD)++(au3 (auK j21.2.2.2.1) (ave j21.1.2.2.2.2.1 (auK j21.2.2.2.1) (anD.mk ((rd (dfl .half) j21.1.2.2.2.2.1 j21.2.2.2.1).fr) ((rd (dfl .half) j21.1.2.2.2.2.1 j21.2.2.2.1).nu) ((rd (dfl .half) j21.1.2.2.2.2.1 j21.2.2.2.1).to) ((rd (dfl .half) j21.1.2.2.2.2.1 j21.2.2.2.1).un) ((rd (dfl .half) j21.1.2.2.2.2.1 j21.2.2.2.1).sz) r24.1.1))))++(avp (auK (w64 (j21.2.2.2.1+1))) (ave j21.1.2.2.2.2.1 (auK j21.2.2.2.1) (anD.mk ((rd (dfl .half) j21.1.2.2.2.2.1 j21.2.2.2.1).fr) ((rd (dfl .half) j21.1.2.2.2.2.1 j21.2.2.2.1).nu) ((rd (dfl .half) j21.1.2.2.2.2.1 j21.2.2.2.1).to) ((rd (dfl .half) j21.1.2.2.2.2.1 j21.2.2.2.1).un) ((rd (dfl .half) j21.1.2.2.2.2.1 j21.2.2.2.1).sz) r24.1.1)))),()),((B [116,97,107,101,32])++r26.1.1),())).bind fun r27=>
 if !r27.1.2.1 then
 let v29:=((([]:List anD)++(au3 (auK j21.2.2.2.1) (ave j21.1.2.2.2.2.1 (auK j21.2.2.2.1) (anD.mk ((rd (dfl .half) j21.1.2.2.2.2.1 j21.2.2.2.1).fr) ((rd (dfl .half) j21.1.2.2.2.2.1 j21.2.2.2.1).nu) ((rd (dfl .half) j21.1.2.2.2.2.1 j21.2.2.2.1).to) ((rd (dfl .half) j21.1.2.2.2.2.1 j21.2.2.2.1).un) ((rd (dfl .half) j21.1.2.2.2.2.1 j21.2.2.2.1).sz) r24.1.1))))++(avp (auK (w64 (j21.2.2.2.1+1))) (ave j21.1.2.2.2.2.1 (auK j21.2.2.2.1) (anD.mk ((rd (dfl .half) j21.1.2.2.2.2.1 j21.2.2.2.1).fr) ((rd (dfl .half) j21.1.2.2.2.2.1 j21.2.2.2.1).nu) ((rd (dfl .half) j21.1.2.2.2.2.1 j21.2.2.2.1).to) ((rd (dfl .half) j21.1.2.2.2.2.1 j21.2.2.2.1).un) ((rd (dfl .half) j21.1.2.2.2.2.1 j21.2.2.2.1).sz) r24.1.1))))
 some (((j21.1.1,j21.1.2.1,j21.1.2.2.1,j21.1.2.2.2.1,v29,()),([]:List Frame),()),())
 else
 (lU (r27.1.1,())).bind fun r30=>
 (ve (2,j21.2.1,())).bind fun r31=>
 some ((r30.1.1,r31.1),())
 else none
 else none
 else none
 else none
 else none
 else none)
 ((if decide (r18.1.1 < 0) then
 if an (x.1.2.2.2.2.1.length+([(anD.mk x.2.1.2.2.2.1 x.2.1.2.2.2.2.1 x.2.1.2.2.2.2.2.1 x.2.1.2.2.2.2.2.2.1 x.2.1.2.2.2.2.2.2.2.1 ([]:List anA))]:List anD).length) then
 if decide (3 < ((x.1.2.2.2.2.1++([(anD.mk x.2.1.2.2.2.1 x.2.1.2.2.2.2.1 x.2.1.2.2.2.2.2.1 x.2.1.2.2.2.2.2.2.1 x.2.1.2.2.2.2.2.2.2.1 ([]:List anA))]:List anD)).length:Int)) then
 if decide (0≤1)&&decide (1≤((x.1.2.2.2.2.1++([(anD.mk x.2.1.2.2.2.1 x.2.1.2.2.2.2.1 x.2.1.2.2.2.2.2.1 x.2.1.2.2.2.2.2.2.1 x.2.1.2.2.2.2.2.2.2.1 ([]:List anA))]:List anD)).length:Int)) then
 let v22:=(w64 (((avp (auK 1) (x.1.2.2.2.2.1++([(anD.mk x.2.1.2.2.2.1 x.2.1.2.2.2.2.1 x.2.1.2.2.2.2.2.1 x.2.1.2.2.2.2.2.2.1 x.2.1.2.2.2.2.2.2.2.1 ([]:List anA))]:List anD))).length:Int) - 1))
 some (.inr ((x.1.1,x.1.2.1,x.1.2.2.1,x.1.2.2.2.1,(avp (auK 1) (x.1.2.2.2.2.1++([(anD.mk x.2.1.2.2.2.1 x.2.1.2.2.2.2.1 x.2.1.2.2.2.2.2.1 x.2.1.2.2.2.2.2.2.1 x.2.1.2.2.2.2.2.2.2.1 ([]:List anA))]:List anD))),()),x.2.1,(0,false,noB,0,([]:List anD),()),v22,()))
 else none
 else
 let v23:=(w64 (((x.1.2.2.2.2.1++([(anD.mk x.2.1.2.2.2.1 x.2.1.2.2.2.2.1 x.2.1.2.2.2.2.2.1 x.2.1.2.2.2.2.2.2.1 x.2.1.2.2.2.2.2.2.2.1 ([]:List anA))]:List anD)).length:Int) - 1))
 some (.inr ((x.1.1,x.1.2.1,x.1.2.2.1,x.1.2.2.2.1,(x.1.2.2.2.2.1++([(anD.mk x.2.1.2.2.2.1 x.2.1.2.2.2.2.1 x.2.1.2.2.2.2.2.1 x.2.1.2.2.2.2.2.2.1 x.2.1.2.2.2.2.2.2.2.1 ([]:List anA))]:List anD)),()),x.2.1,(0,false,noB,0,([]:List anD),()),v23,()))
 else none
 else
 some (.inr (x.1,x.2.1,(0,false,noB,0,([]:List anD),()),r18.1)))))))
 else none)
def Cw:Ent:=(49,none,⟨[Z15,Z16],[Z8,.fz .frame],kc⟩)
def Gh:SQ Tryz.prog Cw:=sk (v:=t1 (t1 (t1 (t1 (.join [(2,Z14),(3,Z18),(4,Z14),(7,.int .i64)] .nil .nil))))) (fn:=Tryz.f49) Qd kN
def K8:Cx:=cX [yP,bW,dM,ey,Cw,jg,Ao,uI] [] [(70,77)]
def N5:OKC Tryz.prog K8 af:=okc mixed (gC yv (gC bE (gC cP (gC dE (gC Gh (gC fH (gC ww (gC vT (av)))))))))
def bq(x:Y3×Y7×auC):Option ((Y3×List Frame×auC)×auC):=
 (cF (x.1,())).bind fun r2=>
 if !r2.1.1 then
 some (((0,false,noB,0,([]:List anD),()),([]:List Frame),()),())
 else
 (bR (x.1,())).bind fun r3=>
 if !x.1.2.1 then
 some ((r3.1.1,([]:List Frame),()),())
 else
 (kh x.2).bind fun r6=>
 if !r6.1.1 then
 some ((r3.1.1,([]:List Frame),()),())
 else
 if !decide (x.2.1.2.2.1=x.1.1) then
 some ((r3.1.1,([]:List Frame),()),())
 else
 if decide (x.2.1.1=1) then
 (kc (r3.1.1,x.2)).bind fun r14=>
 (bR (r14.1.1,())).bind fun r15=>
 some ((r15.1.1,r14.1.2),())
 else
 if decide (x.2.1.1=2) then
 (bd (x.1,())).bind fun r16=>
 (cJ (r16.1.1.2.2.2.1,x.2.1.2.2.2.1,x.2.1.2.2.2.2.1,())).bind fun r17=>
 (bH (X:=Y7×Y3×Y3×Bool×auC) (fun j18=>
 if j18.2.2.2.1 then
 (gA ((B [108,101,116]),j18.1.2.2.2.1,j18.1.2.2.2.2.1,j18.1.2.2.2.2.2.2.1,())).bind fun r19=>
 (kH (j18.2.2.1,r19.1)).bind fun r20=>
 some ((r20.1.1,([]:List Frame),()),())
 else
 some ((j18.2.2.1,([]:List Frame),()),()))
 ((if decide (0≤r17.1.1) then
 if inb r17.1.1 r16.1.1.2.2.2.1.length then
 if aX (decide ((rd (dfl .note) r16.1.1.2.2.2.1 r17.1.1).to=x.2.1.2.2.2.2.2.1)) (inb r17.1.1 r16.1.1.2.2.2.1.length) then
 some (.inr (x.2.1,(0,false,noB,0,([]:List anD),()),r3.1.1,((decide ((rd (dfl .note) r16.1.1.2.2.2.1 r17.1.1).to=x.2.1.2.2.2.2.2.1))&&(decide ((rd (dfl .note) r16.1.1.2.2.2.1 r17.1.1).un=x.2.1.2.2.2.2.2.2.1))),()))
 else none
 else none
 else
 if aX false (inb r17.1.1 r16.1.1.2.2.2.1.length) then
 some (.inr (x.2.1,(0,false,noB,0,([]:List anD),()),r3.1.1,false,()))
 else none)))
 else
 some ((r3.1.1,([]:List Frame),()),())
def cV:Ent:=(13,none,⟨[Z8,Z16],[Z8,.fz .frame],bq⟩)
def cd:SQ Tryz.prog cV:=sk (v:=t1 (t1 (t1 (t1 (.two (t1 (.one (t1 (t1 (t1 (.two (t1 (t1 (.join [(3,Z18),(4,Z14),(6,Z14),(78,.bool)] .nil .nil))) .nil)))))) .nil))))) (fn:=Tryz.f13) N5 kN
end Go.VS
end
