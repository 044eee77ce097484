/- An evaluator of the program's own code with its soundness, the printed texts of the functions, and plain laws of them (part 17). -/
import Derived.Test.YtimdnaklfelapaaGreatDoorQAP
set_option linter.unusedVariables false
set_option linter.unusedSimpArgs false
set_option linter.defProp false
open Int renaming tdiv→aqU,tmod→arh,toNat→aqy
open List renaming drop→aq9,replicate→aqQ,set→aqZ,take→aqR
noncomputable section
namespace Go.VS
open Go Go.Proofs
set_option linter.unusedVariables false
set_option maxRecDepth 100000
def dZ:SQ Tryz.prog cb:=soX (fn:=Tryz.f130) (l:=5) (g:=9) MG (by kernel_rfl) rfl (by kernel_rfl) ajc ajb
def HE:Cx:=cX [aX,cc,iY,cb] [] []
def KA:OKC Tryz.prog HE af:=okc mixed (gC aL (gC bu (gC fH (gC dZ (au)))))
def gr(x:Y10×aqq):Option ((aqq)×(Y10×aqq)):=
 (ab (x.1.1,4,())).bind fun r1=>
 (cm (r1.2.1,([(B [97]),(B [104,101,108,108,111]),(B [97,32,108,111,110,103,101,114,32,109,101,115,115,97,103,101]),(B [97,98,99,100]),(B [49,50,51,52,53,54,55,56]),(B [106,117,115,116,32,116,119,101,110,116,121,45,102,111,117,114,32,98,121,116,101,115,32,33,33]),(B [109,105,120,101,100,32,98,108,111,99,107,115])]:List aqp),())).bind fun r2=>
 (bB (X:=Y10×Int×aqp×aqq) (fun j4=>
 if inb j4.2.1 j4.1.2.2.1.length then
 (bd (((rd (dfl .ajU) j4.1.2.2.1 j4.2.1).id,(rd (dfl .ajU) j4.1.2.2.1 j4.2.1).up,(rd (dfl .ajU) j4.1.2.2.1 j4.2.1).log,(rd (dfl .ajU) j4.1.2.2.1 j4.2.1).fo,(rd (dfl .ajU) j4.1.2.2.1 j4.2.1).ajS,()),())).bind fun r6=>
 (ab (j4.1.1,4,())).bind fun r7=>
 (ab (r7.2.1,12,())).bind fun r8=>
 (ao ((r8.2.1,j4.1.2),(1,j4.2.1,0,0,0,0,0,r7.1.1,(w64 ((w64 (r6.1.1.2.1+1))+r8.1.1)),j4.2.2),())).bind fun r9=>
 some ((),r9.2)
 else none)
 ((if decide (24 < (r2.1.1.size:Int)) then
 if decide (0≤24)&&decide (24≤(r2.1.1.size:Int)) then
 let v5:=(r2.1.1.extract (0) (aqy 24))
 some (.inr ((r2.2.1,x.1.2),r1.1.1,v5,()))
 else none
 else
 some (.inr ((r2.2.1,x.1.2),r1.1.1,r2.1)))))
def qT:Ent:=(115,none,⟨[Z22],[],gr⟩)
def rh:SQ Tryz.prog qT:=sk (v:=t1 (t1 (.join [(0,Z24),(2,.int .i64),(3,.str)] .nil .nil))) (fn:=Tryz.f115) KA kN
def Fo:Cx:=cX [aX,cc] [] []
def wy:OKC Tryz.prog Fo af:=okc mixed (gC aL (gC bu (au)))
def mz(x:Y10×Y0×Int×Int×aqq):Rnd (Y10×Y0×Int×Int×aqq) (Y10×Int×Y0×Bool×aqq) (Y10×Y0×aqq):=
 if decide (x.2.2.2.1 < 4) then
 if inb x.2.2.1 x.1.2.2.1.length then
 (bd (((rd (dfl .ajU) x.1.2.2.1 x.2.2.1).id,(rd (dfl .ajU) x.1.2.2.1 x.2.2.1).up,(rd (dfl .ajU) x.1.2.2.1 x.2.2.1).log,(rd (dfl .ajU) x.1.2.2.1 x.2.2.1).fo,(rd (dfl .ajU) x.1.2.2.1 x.2.2.1).ajS,()),())).bind fun r61=>
 if decide (0 < (r61.1.1.2.2.2.1.length:Int)) then
 (ab (x.1.1,(r61.1.1.2.2.2.1.length:Int),())).bind fun r62=>
 if inb r62.1.1 r61.1.1.2.2.2.1.length then
 let v63:=(rd (dfl .note) r61.1.1.2.2.2.1 r62.1.1).fr
 let v64:=(rd (dfl .note) r61.1.1.2.2.2.1 r62.1.1).nu
 let v65:=(rd (dfl .note) r61.1.1.2.2.2.1 r62.1.1).to
 let v66:=(rd (dfl .note) r61.1.1.2.2.2.1 r62.1.1).un
 let v67:=(rd (dfl .note) r61.1.1.2.2.2.1 r62.1.1).tx
 some (.inr (.inl ((r62.2.1,x.1.2),x.2.2.1,(v63,v64,v65,v66,v67,()),true,())))
 else none
 else
 let v68:=(arh (w64 (x.2.2.1+1)) 4)
 some (.inl (x.1,x.2.1,v68,(w64 (x.2.2.2.1+1)),()))
 else none
 else
 some (.inr (.inr (x.1,x.2.1,())))
def pa:=aR mz
def sK:Loop:=⟨[(0,Z24),(3,Z0),(5,.int .i64),(6,.int .i64)],[(0,Z24),(3,Z0)],0,[(0,Z24),(2,.int .i64),(3,Z0),(4,.bool)],pa⟩
def E9:LF Tryz.f37 [0] [1,1,0,1,0,0] sK:=sq (v:= .nil) wy (b:=mz) kN
def fG(x:Y10×aqq):Option ((Int×Y0×Bool×aqq)×(Y10×aqq)):=
 (ab (x.1.1,4,())).bind fun r1=>
 (aJ (pa ((r1.2.1,x.1.2),(0,0,0,0,noB,()),r1.1.1,0,()))
 (fun y69=>some (y69.2,(y69.1,())))
 (fun y69=>some ((0,(0,0,0,0,noB,()),false,()),(y69.1,()))))
def oM:Ent:=(37,none,⟨[Z22],[.int .i64,Z1,.bool],fG⟩)
def o9:SQ Tryz.prog oM:=sk (v:=t1 (t1 (.two (t1 (.one (.loop sK))) .nil))) (fn:=Tryz.f37) wy (kC E9 kN)
def DZ:Cx:=cX [aX,cb] [] [(12,18)]
def uD:OKC Tryz.prog DZ af:=okc mixed (gC aL (gC dZ (au)))
def kX(x:Y10×Int×Int×Int×aqq):Rnd (Y10×Int×Int×Int×aqq) (aqq) (Y10×aqq):=
 if(decide (x.2.2.2.1 < x.2.1))&&(decide (0 < (x.1.2.2.2.2.1.length:Int))) then
 (bB (X:=Y10×Int×Int×Int×Y7×aqq) (fun j71=>
 (bB (X:=Y10×Int×Int×Int×Y7×aqq) (fun j79=>
 (bB (X:=Y10×Int×Int×Int×Y7×Bool×aqq) (fun j82=>
 if j82.2.2.2.2.2.1 then
 (ab (j82.1.1,17,())).bind fun r84=>
 (ab (r84.2.1,255,())).bind fun r85=>
 (ao ((r85.2.1,j82.1.2),(j82.2.2.2.2.1.1,j82.2.2.2.2.1.2.1,j82.2.2.2.2.1.2.2.1,j82.2.2.2.2.1.2.2.2.1,j82.2.2.2.2.1.2.2.2.2.1,r84.1.1,(w64 (1+r85.1.1)),j82.2.2.2.2.1.2.2.2.2.2.2.2),())).bind fun r86=>
 some (.inl (r86.2.1,j82.2.1,j82.2.2.1,(w64 (j82.2.2.2.1+1)),()))
 else
 some (.inl (j82.1,j82.2.1,j82.2.2.1,(w64 (j82.2.2.2.1+1)),())))
 ((if decide (j79.2.2.2.2.1.1=6) then
 (ab (j79.1.1,2,())).bind fun r83=>
 some (.inr ((r83.2.1,j79.1.2),j79.2.1,j79.2.2.1,j79.2.2.2.1,j79.2.2.2.2.1,(decide (r83.1.1=0)),()))
 else
 some (.inr (j79.1,j79.2.1,j79.2.2.1,j79.2.2.2.1,j79.2.2.2.2.1,false,()))))))
 ((ao (j71.1,j71.2.2.2.2)).bind fun r80=>
 if !r80.1.1 then
 (ao (r80.2.1,(5,0,0,0,0,0,0,0,0,noB,()),())).bind fun r81=>
 some (.inr (r81.2.1,j71.2))
 else
 some (.inr (r80.2.1,j71.2)))))
 ((bB (X:=Y10×Int×Int×Int×Y7×Bool×aqq) (fun j72=>
 if j72.2.2.2.2.2.1 then
 (ab (j72.1.1,5,())).bind fun r74=>
 if decide (r74.1.1=0) then
 some (.inr ((r74.2.1,j72.1.2),j72.2.1,j72.2.2.1,j72.2.2.2.1,(5,j72.2.2.2.2.1.2),()))
 else
 if decide (r74.1.1=1) then
 some (.inr ((r74.2.1,j72.1.2),j72.2.1,j72.2.2.1,j72.2.2.2.1,(j72.2.2.2.2.1.1,j72.2.2.2.2.1.2.1,j72.2.2.2.2.1.2.2.1,j72.2.2.2.2.1.2.2.2.1,j72.2.2.2.2.1.2.2.2.2.1,j72.2.2.2.2.1.2.2.2.2.2.1,1,j72.2.2.2.2.1.2.2.2.2.2.2.2),()))
 else
 if decide (r74.1.1=2) then
 (ab (r74.2.1,(j72.1.2.2.2.2.1.length:Int),())).bind fun r75=>
 (ab (r75.2.1,17,())).bind fun r76=>
 (ab (r76.2.1,255,())).bind fun r77=>
 some (.inr ((r77.2.1,j72.1.2),j72.2.1,j72.2.2.1,j72.2.2.2.1,(6,j72.2.2.2.2.1.2.1,j72.2.2.2.2.1.2.2.1,j72.2.2.2.2.1.2.2.2.1,r75.1.1,r76.1.1,(w64 (1+r77.1.1)),j72.2.2.2.2.1.2.2.2.2.2.2.2),()))
 else
 (ab (r74.2.1,(j72.1.2.2.2.2.1.length:Int),())).bind fun r78=>
 some (.inr ((r78.2.1,j72.1.2),j72.2.1,j72.2.2.1,j72.2.2.2.1,(j72.2.2.2.2.1.1,j72.2.2.2.2.1.2.1,j72.2.2.2.2.1.2.2.1,j72.2.2.2.2.1.2.2.2.1,r78.1.1,j72.2.2.2.2.1.2.2.2.2.2),()))
 else
 some (.inr (j72.1,j72.2.1,j72.2.2.1,j72.2.2.2.1,j72.2.2.2.2.1,())))
 ((if decide (0 < x.2.2.1) then
 (ab (x.1.1,x.2.2.1,())).bind fun r73=>
 some (.inr ((r73.2.1,x.1.2),x.2.1,x.2.2.1,x.2.2.2.1,(4,0,0,0,0,0,0,0,0,noB,()),(decide (r73.1.1=0)),()))
 else
 some (.inr (x.1,x.2.1,x.2.2.1,x.2.2.2.1,(4,0,0,0,0,0,0,0,0,noB,()),false,())))))))
 else
 some (.inr (.inr (x.1,())))
def oP:=aR kX
def rk:Loop:=⟨[(0,Z24),(1,.int .i64),(2,.int .i64),(6,.int .i64)],[(0,Z24)],0,[],oP⟩
def Dh:LF Tryz.f131 [0] [1,0,0] rk:=sq (v:=t1 (.two (.one (t1 (.join [(0,Z24),(1,.int .i64),(2,.int .i64),(6,.int .i64),(7,Z27)] (.join [(0,Z24),(1,.int .i64),(2,.int .i64),(6,.int .i64),(7,Z27),(33,.bool)] .nil .nil) (.join [(0,Z24),(1,.int .i64),(2,.int .i64),(6,.int .i64),(7,Z27)] .nil (.join [(0,Z24),(1,.int .i64),(2,.int .i64),(6,.int .i64),(7,Z27),(102,.bool)] .nil .nil))))) .nil)) uD (b:=kX) kN
def cf(x:Y10×Int×Int×aqq):Option ((aqq)×(Y10×aqq)):=
 (aJ (oP (x.1,x.2.1,x.2.2.1,0,()))
 (fun _=>none)
 (fun y87=>some ((),y87)))
def iA:Ent:=(131,none,⟨[Z22,.int .i64,.int .i64],[],cf⟩)
def iC:SQ Tryz.prog iA:=sk (v:=t1 (.one (.loop rk))) (fn:=Tryz.f131) uD (kC Dh kN)
def DY:Cx:=cX [aX,oM,cb,iA] [] []
def uC:OKC Tryz.prog DY af:=okc mixed (gC aL (gC o9 (gC dZ (gC iC (au)))))
def kW(x:Y10×Int×Int×Int×Y0×Int×Int×aqq):Rnd (Y10×Int×Int×Int×Y0×Int×Int×aqq) (aqq) (Y10×Int×Int×aqq):=
 if decide (x.2.2.2.2.2.2.1 < x.2.1) then
 (ao (x.1,(3,x.2.2.2.1,x.2.2.2.2.1.1,x.2.2.2.2.1.2.1,0,(w64 (x.2.2.2.2.2.1+x.2.2.2.2.2.2.1)),0,0,0,noB,()),())).bind fun r12=>
 let v13:=(w64 (x.2.2.2.2.2.2.1+1))
 some (.inl (r12.2.1,x.2.1,x.2.2.1,x.2.2.2.1,x.2.2.2.2.1,x.2.2.2.2.2.1,v13,()))
 else
 some (.inr (.inr (x.1,x.2.1,x.2.2.1,())))
def oO:=aR kW
def rj:Loop:=⟨[(0,Z24),(1,.int .i64),(2,.int .i64),(6,.int .i64),(7,Z0),(9,.int .i64),(10,.int .i64)],[(0,Z24),(1,.int .i64),(2,.int .i64)],0,[],oO⟩
def Dg:LF Tryz.f76 [0] [1,1,1,0,1,0,0] rj:=sq (v:= .nil) uC (b:=kW) kN
def cd(x:Y10×Int×Int×aqq):Option ((aqq)×(Y10×aqq)):=
 (fG (x.1,())).bind fun r1=>
 if !r1.1.2.2.1 then
 some ((),r1.2)
 else
 (ab (r1.2.1.1,2,())).bind fun r2=>
 (ab (r2.2.1,40,())).bind fun r3=>
 (aJ (oO ((r3.2.1,r1.2.1.2),x.2.1,x.2.2.1,r1.1.1,r1.1.2.1,(w64 (r2.1.1 * r3.1.1)),0,()))
 (fun _=>none)
 (fun y14=>(ab (y14.1.1,(w64 (y14.2.1+4)),())).bind fun r15=>
 (cf ((r15.2.1,y14.1.2),r15.1.1,y14.2.2)).bind fun r16=>
 some ((),r16.2)))
def iz:Ent:=(76,none,⟨[Z22,.int .i64,.int .i64],[],cd⟩)
def iB:SQ Tryz.prog iz:=sk (v:=t1 (t1 (t1 (.two (t1 (.one (.loop rj))) .nil)))) (fn:=Tryz.f76) uC (kC Dg kN)
def Fp:Cx:=cX [aX,iz,cb,iA] [] [(89,96)]
def fV:OKC Tryz.prog Fp af:=okc mixed (gC aL (gC iB (gC dZ (gC iC (au)))))
def mC(x:Y10×Int×Int×aqq):Rnd (Y10×Int×Int×aqq) (aqq) (Y10×aqq):=
 if decide (0 < x.2.2.1) then
 (ao (x.1,(2,x.2.1,0,0,0,0,0,0,0,noB,()),())).bind fun r55=>
 some (.inl (r55.2.1,x.2.1,(w64 (x.2.2.1 - 1)),()))
 else
 some (.inr (.inr (x.1,())))
def pd:=aR mC
def sO:Loop:=⟨[(0,Z24),(5,.int .i64),(6,.int .i64)],[(0,Z24)],5,[],pd⟩
def E6:LF Tryz.f152 [0] [1,1,1,1,0,1,0,1,1,1,0,1,0,0] sO:=sq (v:= .nil) fV (b:=mC) kN
def mD(x:Y10×Int×Int×Int×aqq):Rnd (Y10×Int×Int×Int×aqq) (aqq) (Y10×Int×aqq):=
 if decide (x.2.2.2.1 < x.2.2.1) then
 (ao (x.1,(4,0,0,0,x.2.2.2.1,0,1,0,0,noB,()),())).bind fun r34=>
 some (.inl (r34.2.1,x.2.1,x.2.2.1,(w64 (x.2.2.2.1+1)),()))
 else
 some (.inr (.inr (x.1,x.2.1,())))
def pe:=aR mD
def sP:Loop:=⟨[(0,Z24),(2,.int .i64),(3,.int .i64),(4,.int .i64)],[(0,Z24),(2,.int .i64)],2,[],pe⟩
def E7:LF Tryz.f152 [0] [1,1,0,1,0,0,1,0,0,1,1,0,0] sP:=sq (v:= .nil) fV (b:=mD) kN
def mB(x:Y10×Int×Int×aqq):Rnd (Y10×Int×Int×aqq) (aqq) (Y10×aqq):=
 if(decide (x.2.2.1 < 12))&&(decide (x.2.1 < (x.1.2.2.2.2.1.length:Int))) then
 (ao (x.1,(4,0,0,0,x.2.1,0,0,0,0,noB,()),())).bind fun r65=>
 some (.inl (r65.2.1,x.2.1,(w64 (x.2.2.1+1)),()))
 else
 some (.inr (.inr (x.1,())))
def pb:=aR mB
def sL:Loop:=⟨[(0,Z24),(7,.int .i64),(8,.int .i64)],[(0,Z24)],7,[],pb⟩
def E5:LF Tryz.f152 [0] [1,1,1,1,1,1,1,0,1,0,0] sL:=sq (v:= .nil) fV (b:=mB) kN
def mE(x:Y10×Int×aqq):Rnd (Y10×Int×aqq) (aqq) (Y10×aqq):=
 (ab (x.1.1,2,())).bind fun r25=>
 if decide (x.2.1 < (w64 (1+r25.1.1))) then
 let v30:=(x.1.2.2.2.2.1.length:Int)
 (aJ (pe ((r25.2.1,x.1.2),x.2.1,v30,0,()))
 (fun _=>some (.inr (.inl ())))
 (fun y35=>some (.inl (y35.1,(w64 (y35.2.1+1)),()))))
 else
 some (.inr (.inr ((r25.2.1,x.1.2),())))
def pf:=aR mE
def sQ:Loop:=⟨[(0,Z24),(2,.int .i64)],[(0,Z24)],0,[],pf⟩
def Fa:LF Tryz.f152 [0] [1,1,0,1,0,0] sQ:=sq (v:=t1 (.two (.one (t1 (t1 (.one (.loop sP))))) .nil)) fV (b:=mE) (kC E7 kN)
def jm(x:Y10×aqq):Option ((aqq)×(Y10×aqq)):=
 (cf (x.1,40,0,())).bind fun r1=>
 (cd (r1.2.1,6,0,())).bind fun r2=>
 (aJ (pf (r2.2.1,0,()))
 (fun _=>none)
 (fun y36=>(ab (y36.1.1,4,())).bind fun r37=>
 (bB (X:=Y10×aqq) (fun j46=>
 let v57:=(j46.1.2.2.2.2.1.length:Int)
 (cd (j46.1,6,0,())).bind fun r58=>
 (aJ (pb (r58.2.1,v57,0,()))
 (fun _=>none)
 (fun y66=>(cf (y66.1,40,0,())).bind fun r67=>
 some ((),r67.2))))
 ((ab (r37.2.1,3,())).bind fun r47=>
 if decide (r47.1.1=0) then
 (ab (r47.2.1,40,())).bind fun r48=>
 (ao ((r48.2.1,y36.1.2),(7,r37.1.1,0,0,0,0,r48.1.1,0,0,noB,()),())).bind fun r49=>
 (ao (r49.2.1,(8,r37.1.1,0,0,0,0,0,0,0,noB,()),())).bind fun r50=>
 some (.inr r50.2)
 else
 if decide (r47.1.1=1) then
 (ab (r47.2.1,9,())).bind fun r51=>
 (aJ (pd ((r51.2.1,y36.1.2),r37.1.1,r51.1))
 (fun _=>none)
 (fun y56=>some (.inr y56)))
 else
 some (.inr ((r47.2.1,y36.1.2),()))))))
def vY:Ent:=(152,none,⟨[Z22],[],jm⟩)
def Al:SQ Tryz.prog vY:=sk (v:=t1 (t1 (.two (t1 (.one (.loop sQ))) (t1 (.join [(0,Z24)] (t1 (.one (t1 (t1 (t1 (.two (t1 (.one (.loop sO))) .nil)))))) (t1 (t1 (.two (t1 (.one (.loop sL))) .nil)))))))) (fn:=Tryz.f152) fV (kC Fa (kC E6 (kC E5 kN)))
def Fm:Cx:=cX [aX,cc,iz,qT,cb,iA,vY] [] []
def wx:OKC Tryz.prog Fm af:=okc mixed (gC aL (gC bu (gC iB (gC rh (gC dZ (gC iC (gC Al (au))))))))
def my(x:Y10×Int×aqq):Rnd (Y10×Int×aqq) (aqq) (Y10×aqq):=
 if decide (x.2.1 < 4) then
 (cd (x.1,7,0,())).bind fun r76=>
 (cf (r76.2.1,20,0,())).bind fun r77=>
 some (.inl (r77.2.1,(w64 (x.2.1+1)),()))
 else
 some (.inr (.inr (x.1,())))
def o8:=aR my
def sJ:Loop:=⟨[(0,Z24),(8,.int .i64)],[(0,Z24)],1,[],o8⟩
def E8:LF Tryz.f116 [0] [1,1,0,1,1,1,1,1,1,1,1,1,1,1,1,1,1,1,1,1,1,1,1,1,0,0] sJ:=sq (v:= .nil) wx (b:=my) kN
def jl(x:Y10×Int×aqq):Option ((aqq)×(Y10×aqq)):=
 (ab (x.1.1,4,())).bind fun r1=>
 (ab (r1.2.1,24,())).bind fun r2=>
 (bB (X:=Y10×Int×Int×Int×Bool×aqq) (fun j3=>
 if j3.2.2.2.2.1 then
 (gr (j3.1,())).bind fun r4=>
 some ((),r4.2)
 else
 (bB (X:=Y10×Int×Int×Int×Bool×aqq) (fun j11=>
 if j11.2.2.2.2.1 then
 (ab (j11.1.1,7,())).bind fun r18=>
 (cd ((r18.2.1,j11.1.2),(w64 (1+r18.1.1)),j11.2.1,())).bind fun r19=>
 some ((),r19.2)
 else
 (bB (X:=Y10×Int×Int×Int×Bool×aqq) (fun j22=>
 if j22.2.2.2.2.1 then
 (ab (j22.1.1,20,())).bind fun r25=>
 (cf ((r25.2.1,j22.1.2),(w64 (1+r25.1.1)),j22.2.1,())).bind fun r26=>
 some ((),r26.2)
 else
 (bB (X:=Y10×Int×Int×Bool×aqq) (fun j29=>
 if j29.2.2.2.1 then
 (ao (j29.1,(2,j29.2.1,0,0,0,0,0,0,0,noB,()),())).bind fun r32=>
 some ((),r32.2)
 else
 let v33:=(decide (j29.2.2.1=13))
 (if v33 then
 (ab (j29.1.1,50,())).bind fun r34=>
 (ao ((r34.2.1,j29.1.2),(7,j29.2.1,0,0,0,0,r34.1.1,0,0,noB,()),())).bind fun r35=>
 some ((),r35.2)
 else
 (bB (X:=Y10×Int×Int×Bool×aqq) (fun j38=>
 if j38.2.2.2.1 then
 (ao (j38.1,(8,j38.2.1,0,0,0,0,0,0,0,noB,()),())).bind fun r41=>
 some ((),r41.2)
 else
 let v42:=(decide (j38.2.2.1=16))
 (if v42 then
 (ab (j38.1.1,2,())).bind fun r43=>
 (ab (r43.2.1,3,())).bind fun r44=>
 (ao ((r44.2.1,j38.1.2),((w64 (9+r43.1.1)),r44.1.1,0,0,0,0,0,0,0,noB,()),())).bind fun r45=>
 some ((),r45.2)
 else
 (bB (X:=Y10×Int×Int×Bool×aqq) (fun j48=>
 if j48.2.2.2.1 then
 if inb j48.2.1 j48.1.2.2.1.length then
 (bd (((rd (dfl .ajU) j48.1.2.2.1 j48.2.1).id,(rd (dfl .ajU) j48.1.2.2.1 j48.2.1).up,(rd (dfl .ajU) j48.1.2.2.1 j48.2.1).log,(rd (dfl .ajU) j48.1.2.2.1 j48.2.1).fo,(rd (dfl .ajU) j48.1.2.2.1 j48.2.1).ajS,()),())).bind fun r51=>
 if decide (0 < (r51.1.1.2.2.2.2.2.1.length:Int)) then
 (ab (j48.1.1,(r51.1.1.2.2.2.2.2.1.length:Int),())).bind fun r52=>
 if inb r52.1.1 r51.1.1.2.2.2.2.2.1.length then
 let v53:=(rd (dfl .note) r51.1.1.2.2.2.2.2.1 r52.1.1).fr
 let v54:=(rd (dfl .note) r51.1.1.2.2.2.2.2.1 r52.1.1).nu
 let v55:=(rd (dfl .note) r51.1.1.2.2.2.2.2.1 r52.1.1).to
 let v56:=(rd (dfl .note) r51.1.1.2.2.2.2.2.1 r52.1.1).un
 let v57:=(rd (dfl .note) r51.1.1.2.2.2.2.2.1 r52.1.1).tx
 (ao ((r52.2.1,j48.1.2),(11,j48.2.1,v53,v54,0,0,0,0,0,noB,()),())).bind fun r58=>
 some ((),r58.2)
 else none
 else
 some ((),(j48.1,()))
 else none
 else
 let v59:=(decide (j48.2.2.1=19))
 (if v59 then
 (ab (j48.1.1,2,())).bind fun r60=>
 (ao ((r60.2.1,j48.1.2),((w64 (12+r60.1.1)),j48.2.1,0,0,0,0,0,0,0,noB,()),())).bind fun r61=>
 some ((),r61.2)
 else
 (bB (X:=Y10×Bool×aqq) (fun j65=>
 if j65.2.1 then
 (jm (j65.1,())).bind fun r69=>
 some ((),r69.2)
 else
 (aJ (o8 (j65.1,0,()))
 (fun _=>none)
 (fun y78=>some ((),y78))))
 (let v66:=(decide (j48.2.2.1=20))
 (if v66 then
 some (.inr (j48.1,v66,()))
 else
 let v67:=(decide (j48.2.2.1=21))
 (if v67 then
 some (.inr (j48.1,v67,()))
 else
 let v68:=(decide (j48.2.2.1=22))
 some (.inr (j48.1,v68,()))))))))
 (let v49:=(decide (j38.2.2.1=17))
 (if v49 then
 some (.inr (j38.1,j38.2.1,j38.2.2.1,v49,()))
 else
 let v50:=(decide (j38.2.2.1=18))
 some (.inr (j38.1,j38.2.1,j38.2.2.1,v50,())))))))
 (let v39:=(decide (j29.2.2.1=14))
 (if v39 then
 some (.inr (j29.1,j29.2.1,j29.2.2.1,v39,()))
 else
 let v40:=(decide (j29.2.2.1=15))
 some (.inr (j29.1,j29.2.1,j29.2.2.1,v40,())))))))
 (let v30:=(decide (j22.2.2.2.1=11))
 (if v30 then
 some (.inr (j22.1,j22.2.2.1,j22.2.2.2.1,v30,()))
 else
 let v31:=(decide (j22.2.2.2.1=12))
 some (.inr (j22.1,j22.2.2.1,j22.2.2.2.1,v31,()))))))
 (let v23:=(decide (j11.2.2.2.1=9))
 (if v23 then
 some (.inr (j11.1,j11.2.1,j11.2.2.1,j11.2.2.2.1,v23,()))
 else
 let v24:=(decide (j11.2.2.2.1=10))
 some (.inr (j11.1,j11.2.1,j11.2.2.1,j11.2.2.2.1,v24,()))))))
 (let v12:=(decide (j3.2.2.2.1=3))
 (if v12 then
 some (.inr (j3.1,j3.2.1,j3.2.2.1,j3.2.2.2.1,v12,()))
 else
 let v13:=(decide (j3.2.2.2.1=4))
 (if v13 then
 some (.inr (j3.1,j3.2.1,j3.2.2.1,j3.2.2.2.1,v13,()))
 else
 let v14:=(decide (j3.2.2.2.1=5))
 (if v14 then
 some (.inr (j3.1,j3.2.1,j3.2.2.1,j3.2.2.2.1,v14,()))
 else
 let v15:=(decide (j3.2.2.2.1=6))
 (if v15 then
 some (.inr (j3.1,j3.2.1,j3.2.2.1,j3.2.2.2.1,v15,()))
 else
 let v16:=(decide (j3.2.2.2.1=7))
 (if v16 then
 some (.inr (j3.1,j3.2.1,j3.2.2.1,j3.2.2.2.1,v16,()))
 else
 let v17:=(decide (j3.2.2.2.1=8))
 some (.inr (j3.1,j3.2.1,j3.2.2.1,j3.2.2.2.1,v17,()))))))))))
 ((if decide (r2.1.1=0) then
 some (.inr ((r2.2.1,x.1.2),x.2.1,r1.1.1,r2.1.1,(decide (r2.1.1=0)),()))
 else
 if decide (r2.1.1=1) then
 some (.inr ((r2.2.1,x.1.2),x.2.1,r1.1.1,r2.1.1,(decide (r2.1.1=1)),()))
 else
 some (.inr ((r2.2.1,x.1.2),x.2.1,r1.1.1,r2.1.1,(decide (r2.1.1=2)),())))))
def vX:Ent:=(116,none,⟨[Z22,.int .i64],[],jl⟩)
def Ak:SQ Tryz.prog vX:=sk (v:=t1 (t1 (.one (.join [(0,Z24),(1,.int .i64),(4,.int .i64),(18,.int .i64),(27,.bool)] .nil (t1 (.join [(0,Z24),(1,.int .i64),(4,.int .i64),(18,.int .i64),(33,.bool)] .nil (t1 (.join [(0,Z24),(1,.int .i64),(4,.int .i64),(18,.int .i64),(49,.bool)] .nil (t1 (.join [(0,Z24),(4,.int .i64),(18,.int .i64),(61,.bool)] .nil (t1 (t1 (t1 (.join [(0,Z24),(4,.int .i64),(18,.int .i64),(79,.bool)] .nil (t1 (t1 (t1 (.join [(0,Z24),(4,.int .i64),(18,.int .i64),(102,.bool)] .nil (t1 (t1 (t1 (.join [(0,Z24),(153,.bool)] .nil (t1 (t1 (.one (.loop sJ)))))))))))))))))))))))))) (fn:=Tryz.f116) wx (kC E8 kN)
def Ou:Cx:=cX [aX,xF,qT,vX] [] []
def D3:OKC Tryz.prog Ou af:=okc mixed (gC aL (gC B7 (gC rh (gC Ak (au)))))
def tA(x:Y8×Y11×Int×Int×aqq):Rnd (Y8×Y11×Int×Int×aqq) (aqq) (Y8×Y11×aqq):=
 if decide (0 < x.2.2.2.1) then
 (jl ((x.1,x.2.1.2),x.2.2.1,())).bind fun r13=>
 some (.inl (r13.2.1.1,((),r13.2.1.2),x.2.2.1,(w64 (x.2.2.2.1 - 1)),()))
 else
 some (.inr (.inr (x.1,((),x.2.1.2),())))
def vf:=aR tA
def yJ:Loop:=⟨[(0,Z23),(5,Z28),(6,.int .i64),(7,.int .i64)],[(0,Z23),(5,Z28)],0,[],vf⟩
def N1:LF Tryz.f62 [0] [1,1,1,1,0,1,0,0] yJ:=sq (v:= .nil) D3 (b:=tA) kN
def kY(x:Y8×Int×aqq):Option ((Y11×aqq)×(Y8×aqq)):=
 (kG ()).bind fun r1=>
 (ab (x.1,5,())).bind fun r2=>
 if inb r2.1.1 (([0,0,3,6,12]:List Int).length) then
 let v3:=(rd (dfl .int) ([0,0,3,6,12]:List Int) r2.1.1)
 (gr ((r2.2.1,r1.1.1.1,r1.1.1.2.1,r1.1.1.2.2.1,r1.1.1.2.2.2.1,r1.1.1.2.2.2.2.1,r1.1.1.2.2.2.2.2.1,([]:List Event),()),())).bind fun r4=>
 (ab (r4.2.1.1,x.2)).bind fun r9=>
 (aJ (vf (r9.2.1,((),r4.2.1.2),v3,r9.1))
 (fun _=>none)
 (fun y14=>some ((((),y14.2.1.2),()),(y14.1,()))))
 else none
def vZ:Ent:=(62,none,⟨[Z19,.int .i64],[Z28],kY⟩)
def ve:SQ Tryz.prog vZ:=sk (v:=t1 (t1 (t1 (t1 (.two (t1 (.one (.loop yJ))) .nil))))) (fn:=Tryz.f62) D3 (kC N1 kN)
def Sb:Cx:=cX [] [] []
def Gn:OKC Tryz.prog Sb af:=okc mixed (au)
def vg(x:aqp×Int×aqp×aqq):Rnd (aqp×Int×aqp×aqq) (aqq) (aqp×aqq):=
 if decide (0 < x.2.1) then
 (bB (X:=aqp×Int×aqp×aqq) (fun j6=>
 if decide (j6.1.size+j6.1.size≤4611686018427387904) then
 let v7:=(w64 (aqU j6.2.1 2))
 some (.inl ((j6.1++j6.1),v7,j6.2.2))
 else none)
 ((if decide ((arh x.2.1 2)=1) then
 if decide (x.2.2.1.size+x.1.size≤4611686018427387904) then
 some (.inr (x.1,x.2.1,(x.2.2.1++x.1),()))
 else none
 else
 some (.inr x))))
 else
 some (.inr (.inr x.2.2))
def wQ:=aR vg
def Bc:Loop:=⟨[(0,.str),(1,.int .i64),(5,.str)],[(5,.str)],0,[],wQ⟩
def Ra:LF Tryz.f133 [] [1,1,0,0,0] Bc:=sq (v:=t1 (.one (.join [(0,.str),(1,.int .i64),(5,.str)] .nil .nil))) Gn (b:=vg) kN
def ff(x:aqp×Int×aqq):Option ((aqp×aqq)×aqq):=
 (aJ (wQ (x.1,x.2.1,noB,()))
 (fun _=>none)
 (fun y8=>some (y8,())))
def sB:Ent:=(133,none,⟨[.str,.int .i64],[.str],ff⟩)
def pg:SQ Tryz.prog sB:=sk (v:=t1 (t1 (.two (.one (.loop Bc)) .nil))) (fn:=Tryz.f133) Gn (kC Ra kN)
def Oo:Cx:=cX [aX,iY,sB] [] []
def D2:OKC Tryz.prog Oo af:=okc mixed (gC aL (gC fH (gC pg (au))))
def tz(x:Y8×List Int×Int×aqq):Rnd (Y8×List Int×Int×aqq) (aqq) (Y8×List Int×aqq):=
 if decide (0 < x.2.2.1) then
 (ab (x.1,256,())).bind fun r21=>
 if al (x.2.1.length+([(w8 r21.1.1)]:List Int).length) then
 some (.inl (r21.2.1,(x.2.1++([(w8 r21.1.1)]:List Int)),(w64 (x.2.2.1 - 1)),()))
 else none
 else
 some (.inr (.inr (x.1,x.2.1,())))
def vd:=aR tz
def yI:Loop:=⟨[(0,Z23),(3,.row 5 .u8),(4,.int .i64)],[(0,Z23),(3,.row 5 .u8)],1,[],vd⟩
def N0:LF Tryz.f136 [0] [1,0,1,0,1,1,1,0,1,0,1,0,0] yI:=sq (v:= .nil) D2 (b:=tz) kN
def o5(x:Y8×aqq):Option ((aqp×aqq)×(Y8×aqq)):=
 (ab (x.1,8,())).bind fun r13=>
 if decide (r13.1.1=0) then
 (ff ((B [120]),24,())).bind fun r14=>
 (ff ((B [121]),25,())).bind fun r15=>
 (cm (r13.2.1,([noB,r14.1.1,r15.1.1,(B [0,1]),(B [97,10])]:List aqp),())).bind fun r16=>
 some (r16.1,r16.2)
 else
 if decide (r13.1.1=1) then
 (ab (r13.2.1,20,())).bind fun r17=>
 (aJ (vd (r17.2.1,([]:List Int),(w64 (1+r17.1.1)),()))
 (fun _=>none)
 (fun y22=>some (((dR y22.2.1),()),(y22.1,()))))
 else
 (cm (r13.2.1,([(B [97]),(B [97,98,99,100]),(B [104,101,108,108,111]),(B [49,50,51,52,53,54,55,56]),(B [97,32,108,111,110,103,101,114,32,109,101,115,115,97,103,101]),(B [106,117,115,116,32,116,119,101,110,116,121,45,102,111,117,114,32,98,121,116,101,115,32,33]),(B [109,105,120,101,100,32,98,108,111,99,107,115]),(B [102,111,117,114,32,119,111,114,100,115,32,111,102,32,97,32,116,101,120,116])]:List aqp),())).bind fun r23=>
 some (r23.1,r23.2)
def DB:Ent:=(136,none,⟨[Z19],[.str],o5⟩)
def GP:SQ Tryz.prog DB:=sk (v:=t1 (.two (t1 (.one (t1 (t1 (t1 (.two (t1 (.two (t1 (.one (.loop yI))) .nil)) .nil)))))) .nil)) (fn:=Tryz.f136) D2 (kC N0 kN)
def Oq:Cx:=cX [aX,iY,DB] [] []
def S1:OKC Tryz.prog Oq af:=okc mixed (gC aL (gC fH (gC GP (au))))
def o6(x:Y8×aqq):Option ((Y0×aqq)×(Y8×aqq)):=
 (ab (x.1,4,())).bind fun r1=>
 (ab (r1.2.1,5,())).bind fun r2=>
 (ab (r2.2.1,4,())).bind fun r3=>
 (ab (r3.2.1,30,())).bind fun r4=>
 (cm (r4.2.1,([(B [97]),(B [104,101,108,108,111]),(B [97,32,108,111,110,103,101,114,32,109,101,115,115,97,103,101]),(B [32,120,32]),(B [106,117,115,116,32,116,119,101,110,116,121,45,102,111,117,114,32,98,121,116,101,115,32,33])]:List aqp),())).bind fun r5=>
 (ab (r5.2.1,16,())).bind fun r16=>
 if decide (r16.1.1=0) then
 (ab (r16.2.1,2,())).bind fun r17=>
 if inb r17.1.1 (([(-1),4]:List Int).length) then
 let v18:=(rd (dfl .int) ([(-1),4]:List Int) r17.1.1)
 some (((v18,(w64 (1+r2.1.1)),r3.1.1,(w64 (1+r4.1.1)),r5.1),()),r17.2)
 else none
 else
 if decide (r16.1.1=1) then
 (ab (r16.2.1,3,())).bind fun r19=>
 if inb r19.1.1 (([0,99,100]:List Int).length) then
 let v20:=(rd (dfl .int) ([0,99,100]:List Int) r19.1.1)
 some (((r1.1.1,v20,r3.1.1,(w64 (1+r4.1.1)),r5.1),()),r19.2)
 else none
 else
 if decide (r16.1.1=2) then
 (ab (r16.2.1,3,())).bind fun r21=>
 if inb r21.1.1 (([0,999,1000]:List Int).length) then
 let v22:=(rd (dfl .int) ([0,999,1000]:List Int) r21.1.1)
 some (((r1.1.1,(w64 (1+r2.1.1)),r3.1.1,v22,r5.1),()),r21.2)
 else none
 else
 if decide (r16.1.1=3) then
 (o5 r16.2).bind fun r23=>
 some (((r1.1.1,(w64 (1+r2.1.1)),r3.1.1,(w64 (1+r4.1.1)),r23.1),()),r23.2)
 else
 if decide (r16.1.1=4) then
 (ab (r16.2.1,2,())).bind fun r24=>
 if inb r24.1.1 (([(-1),4]:List Int).length) then
 let v25:=(rd (dfl .int) ([(-1),4]:List Int) r24.1.1)
 some (((r1.1.1,(w64 (1+r2.1.1)),v25,(w64 (1+r4.1.1)),r5.1),()),r24.2)
 else none
 else
 some (((r1.1.1,(w64 (1+r2.1.1)),r3.1.1,(w64 (1+r4.1.1)),r5.1),()),r16.2)
def DC:Ent:=(81,none,⟨[Z19],[Z1],o6⟩)
def GQ:SQ Tryz.prog DC:=sk (v:= .nil) (fn:=Tryz.f81) S1 kN
def R9:Cx:=cX [aX,nV,DC,iY,fC,fc,sB] [] []
def Ux:OKC Tryz.prog R9 af:=okc mixed (gC aL (gC mF (gC GQ (gC fH (gC ee (gC dd (gC pg (au))))))))
def mS(x:Y8×aqq):Option ((aqp×aqq)×(Y8×aqq)):=
 (ab (x.1,8,())).bind fun r18=>
 if decide (r18.1.1=0) then
 (ab (r18.2.1,30,())).bind fun r19=>
 (aC r19.1).bind fun r20=>
 if decide ((B [116,105,109,101,32]).size+r20.1.1.size≤4611686018427387904) then
 let v21:=((B [116,105,109,101,32])++r20.1.1)
 some ((v21,()),r19.2)
 else none
 else
 if decide (r18.1.1=1) then
 (ab (r18.2.1,4,())).bind fun r22=>
 (ab (r22.2.1,3,())).bind fun r23=>
 (ab (r23.2.1,30,())).bind fun r24=>
 (dH (r22.1.1,(w64 (1+r23.1.1)),(w64 (1+r24.1.1)),())).bind fun r25=>
 if decide ((B [108,101,116,32]).size+r25.1.1.size≤4611686018427387904) then
 let v26:=((B [108,101,116,32])++r25.1.1)
 some ((v26,()),r24.2)
 else none
 else
 if decide (r18.1.1=2) then
 (ab (r18.2.1,4,())).bind fun r27=>
 (ab (r27.2.1,3,())).bind fun r28=>
 (ab (r28.2.1,30,())).bind fun r29=>
 (dH (r27.1.1,(w64 (1+r28.1.1)),(w64 (1+r29.1.1)),())).bind fun r30=>
 if decide ((B [101,97,116,32]).size+r30.1.1.size≤4611686018427387904) then
 let v31:=((B [101,97,116,32])++r30.1.1)
 some ((v31,()),r29.2)
 else none
 else
 if decide (r18.1.1=3) then
 (ff ((B [122]),60,())).bind fun r32=>
 (ff ((B [122]),61,())).bind fun r33=>
 (cm (r18.2.1,([noB,(B [119,104,97,116]),(B [116,105,109,101]),(B [116,105,109,101,32,48]),(B [116,105,109,101,32,48,49]),(B [110,101,120,116,32,51]),(B [110,101,120,116,32,49]),(B [109,97,114,107,32,48,32,49,32,53]),(B [109,97,114,107,32,48,32,49]),(B [109,97,114,107,32,48,32,49,32,53,32]),(B [104,101,108,100,32,48,32,49,32,50,32,57,32,120]),(B [105,110,98,111,120,32,48,32,49,32,50,32,57,32,120]),r32.1.1,r33.1.1]:List aqp),())).bind fun r34=>
 some (r34.1,r34.2)
 else
 (cm (r18.2.1,([(B [111,119,110,32]),(B [116,97,107,101,32]),(B [116,97,107,101,32]),(B [104,101,108,100,32]),(B [105,110,98,111,120,32])]:List aqp),())).bind fun r35=>
 (o6 r35.2).bind fun r36=>
 (bN r36.1).bind fun r37=>
 if decide (r35.1.1.size+r37.1.1.size≤4611686018427387904) then
 some (((r35.1.1++r37.1.1),()),r36.2)
 else none
def yn:Ent:=(79,none,⟨[Z19],[.str],mS⟩)
def wP:SQ Tryz.prog yn:=sk (v:= .nil) (fn:=Tryz.f79) Ux kN
def Ot:Cx:=cX [aX,iY] [] []
def S2:OKC Tryz.prog Ot af:=okc mixed (gC aL (gC fH (au)))
def o7(x:Y8×aqp×aqq):Option ((aqp×aqq)×(Y8×aqq)):=
 if decide ((x.2.1.size:Int)=0) then
 some (x.2,(x.1,()))
 else
 (ab (x.1,2,())).bind fun r3=>
 if decide (r3.1.1=0) then
 some (x.2,r3.2)
 else
 (ab (r3.2.1,(x.2.1.size:Int),())).bind fun r4=>
 (ab (r4.2.1,5,())).bind fun r11=>
 if decide (r11.1.1=0) then
 if decide (0≤r4.1.1)&&decide (r4.1.1≤(x.2.1.size:Int)) then
 if decide (0≤(w64 (r4.1.1+1)))&&decide ((w64 (r4.1.1+1))≤(x.2.1.size:Int)) then
 if decide ((x.2.1.extract (0) (aqy r4.1.1)).size+(x.2.1.extract (aqy (w64 (r4.1.1+1))) (x.2.1.size)).size≤4611686018427387904) then
 let v12:=((x.2.1.extract (0) (aqy r4.1.1))++(x.2.1.extract (aqy (w64 (r4.1.1+1))) (x.2.1.size)))
 some ((v12,()),r11.2)
 else none
 else none
 else none
 else
 if decide (r11.1.1=1) then
 if decide (0≤r4.1.1)&&decide (r4.1.1≤(x.2.1.size:Int)) then
 (cm (r11.2.1,([(B [32]),(B [48]),(B [45]),(B [49]),(B [120]),(B [58]),(B [59])]:List aqp),())).bind fun r13=>
 if decide ((x.2.1.extract (0) (aqy r4.1.1)).size+r13.1.1.size≤4611686018427387904) then
 if decide (0≤r4.1.1)&&decide (r4.1.1≤(x.2.1.size:Int)) then
 if decide (((x.2.1.extract (0) (aqy r4.1.1))++r13.1.1).size+(x.2.1.extract (aqy r4.1.1) (x.2.1.size)).size≤4611686018427387904) then
 let v14:=(((x.2.1.extract (0) (aqy r4.1.1))++r13.1.1)++(x.2.1.extract (aqy r4.1.1) (x.2.1.size)))
 some ((v14,()),r13.2)
 else none
 else none
 else none
 else none
 else
 if decide (r11.1.1=2) then
 if decide (0≤r4.1.1)&&decide (r4.1.1≤(x.2.1.size:Int)) then
 (cm (r11.2.1,([(B [57]),(B [45]),(B [59]),(B [32]),(B [10])]:List aqp),())).bind fun r15=>
 if decide ((x.2.1.extract (0) (aqy r4.1.1)).size+r15.1.1.size≤4611686018427387904) then
 if decide (0≤(w64 (r4.1.1+1)))&&decide ((w64 (r4.1.1+1))≤(x.2.1.size:Int)) then
 if decide (((x.2.1.extract (0) (aqy r4.1.1))++r15.1.1).size+(x.2.1.extract (aqy (w64 (r4.1.1+1))) (x.2.1.size)).size≤4611686018427387904) then
 let v16:=(((x.2.1.extract (0) (aqy r4.1.1))++r15.1.1)++(x.2.1.extract (aqy (w64 (r4.1.1+1))) (x.2.1.size)))
 some ((v16,()),r15.2)
 else none
 else none
 else none
 else none
 else
 if decide (r11.1.1=3) then
 if decide (x.2.1.size+x.2.1.size≤4611686018427387904) then
 some (((x.2.1++x.2.1),()),r11.2)
 else none
 else
 if decide (0≤r4.1.1)&&decide (r4.1.1≤(x.2.1.size:Int)) then
 let v17:=(x.2.1.extract (0) (aqy r4.1.1))
 some ((v17,()),r11.2)
 else none
def DD:Ent:=(132,none,⟨[Z19,.str],[.str],o7⟩)
def GR:SQ Tryz.prog DD:=sk (v:= .nil) (fn:=Tryz.f132) S2 kN
def Ma:Cx:=cX [aX,nf,yn,gL,tQ,DD,sB] [] []
def tZ:OKC Tryz.prog Ma af:=okc mixed (gC aL (gC kE (gC wP (gC fW (gC ui (gC GR (gC pg (au))))))))
def ru(x:Y8×Y4×Y4×Int×aqq):Rnd (Y8×Y4×Y4×Int×aqq) (aqq) (Y8×Y4×Y4×aqq):=
 (ab (x.1,3,())).bind fun r57=>
 if decide (x.2.2.2.1 < (w64 (38+r57.1.1))) then
 (ab (r57.2.1,3,())).bind fun r61=>
 (ff ((B [102]),(w64 (58+r61.1.1)),())).bind fun r62=>
 (cP r62.1).bind fun r63=>
 if decide (x.2.2.1.1.size+r63.1.1.size≤4611686018427387904) then
 some (.inl (r61.2.1,x.2.1,((x.2.2.1.1++r63.1.1),x.2.2.1.2),(w64 (x.2.2.2.1+1)),()))
 else none
 else
 some (.inr (.inr (r57.2.1,x.2.1,x.2.2.1,())))
def ub:=aR ru
def wN:Loop:=⟨[(0,Z23),(2,Z17),(3,Z17),(5,.int .i64)],[(0,Z23),(2,Z17),(3,Z17)],3,[],ub⟩
def Ly:LF Tryz.f77 [0] [1,1,1,0,1,0,1,1,1,1,1,0,1,0,0] wN:=sq (v:= .nil) tZ (b:=ru) kN
def rv(x:Y8×Y4×Y4×Int×aqq):Rnd (Y8×Y4×Y4×Int×aqq) (aqq) (Y8×Y4×Y4×aqq):=
 if decide (0 < x.2.2.2.1) then
 (mS (x.1,())).bind fun r24=>
 (dI (x.2.2.1,r24.1)).bind fun r25=>
 (ab (r24.2.1,3,())).bind fun r26=>
 if decide (r26.1.1=0) then
 (cK (r25.1.1,())).bind fun r27=>
 some (.inl (r26.2.1,x.2.1,r27.1.1,(w64 (x.2.2.2.1 - 1)),()))
 else
 some (.inl (r26.2.1,x.2.1,r25.1.1,(w64 (x.2.2.2.1 - 1)),()))
 else
 some (.inr (.inr (x.1,x.2.1,x.2.2.1,())))
def ue:=aR rv
def wO:Loop:=⟨[(0,Z23),(2,Z17),(3,Z17),(4,.int .i64)],[(0,Z23),(2,Z17),(3,Z17)],0,[],ue⟩
def LC:LF Tryz.f77 [0] [1,1,0,1,0,0] wO:=sq (v:= .nil) tZ (b:=rv) kN
def nr(x:Y8×aqq):Option ((Y4×aqq)×(Y8×aqq)):=
 (ab (x.1,9,())).bind fun r11=>
 (aJ (ue (r11.2.1,(noB,0,()),(noB,0,()),r11.1))
 (fun _=>none)
 (fun y28=>(ab (y28.1,14,())).bind fun r43=>
 if decide (r43.1.1=0) then
 (o7 (r43.2.1,y28.2.2.1.1,())).bind fun r44=>
 some (((r44.1.1,y28.2.2.1.2),()),r44.2)
 else
 if decide (r43.1.1=1) then
 (ab (r43.2.1,(w64 ((y28.2.2.1.1.size:Int)+1)),())).bind fun r45=>
 (ab (r45.2.1,3,())).bind fun r46=>
 if inb r46.1.1 (([(-1),(w64 ((y28.2.2.1.1.size:Int)+1)),r45.1.1]:List Int).length) then
 let v47:=(rd (dfl .int) ([(-1),(w64 ((y28.2.2.1.1.size:Int)+1)),r45.1.1]:List Int) r46.1.1)
 some (((y28.2.2.1.1,v47,()),()),r46.2)
 else none
 else
 if decide (r43.1.1=2) then
 (aJ (ub (r43.2.1,y28.2.1,y28.2.2.1,0,()))
 (fun _=>none)
 (fun y64=>some (y64.2.2,(y64.1,()))))
 else
 some (y28.2.2,r43.2)))
def BN:Ent:=(77,none,⟨[Z19],[Z9],nr⟩)
def EU:SQ Tryz.prog BN:=sk (v:=t1 (t1 (.two (t1 (.one (.loop wO))) (.two (t1 (.one (t1 (t1 (t1 (t1 (t1 (.two (t1 (.one (.loop wN))) .nil)))))))) .nil)))) (fn:=Tryz.f77) tZ (kC LC (kC Ly kN))
def J2:Cx:=cX [aX,dC,vZ,iz,BN,nf,yn] [] []
def MF:OKC Tryz.prog J2 af:=okc mixed (gC aL (gC cn (gC ve (gC iB (gC EU (gC kE (gC wP (au))))))))
def lJ(x:Y8×aqq):Option ((Y9×Y3×aqq)×(Y8×aqq)):=
 (kY (x.1,12,())).bind fun r1=>
 (bB (X:=Y8×Y9×Y3×Y11×aqq) (fun j4=>
 (ab (j4.1,4,())).bind fun r7=>
 if inb r7.1.1 j4.2.2.2.1.2.2.1.length then
 (aZ (((rd (dfl .ajU) j4.2.2.2.1.2.2.1 r7.1.1).id,(rd (dfl .ajU) j4.2.2.2.1.2.2.1 r7.1.1).up,(rd (dfl .ajU) j4.2.2.2.1.2.2.1 r7.1.1).log,(rd (dfl .ajU) j4.2.2.2.1.2.2.1 r7.1.1).fo,(rd (dfl .ajU) j4.2.2.2.1.2.2.1 r7.1.1).ajS,()),())).bind fun r8=>
 (ab (r7.2.1,20,())).bind fun r23=>
 if decide (r23.1.1=0) then
 (ab (r23.2.1,3,())).bind fun r24=>
 if inb r24.1.1 (([(-1),4,(arh (w64 (r8.1.1.1+1)) 4)]:List Int).length) then
 let v25:=(rd (dfl .int) ([(-1),4,(arh (w64 (r8.1.1.1+1)) 4)]:List Int) r24.1.1)
 some (((j4.2.2.2.1.2.1,j4.2.2.2.1.2.2.1,j4.2.2.2.1.2.2.2.1,j4.2.2.2.1.2.2.2.2.1,j4.2.2.2.1.2.2.2.2.2.1,j4.2.2.2.1.2.2.2.2.2.2.1,()),(v25,r8.1.1.2),()),r24.2)
 else none
 else
 if decide (r23.1.1=1) then
 (nr r23.2).bind fun r26=>
 some (((j4.2.2.2.1.2.1,j4.2.2.2.1.2.2.1,j4.2.2.2.1.2.2.2.1,j4.2.2.2.1.2.2.2.2.1,j4.2.2.2.1.2.2.2.2.2.1,j4.2.2.2.1.2.2.2.2.2.2.1,()),(r8.1.1.1,r8.1.1.2.1,r26.1.1.1,r26.1.1.2.1,r8.1.1.2.2.2.2),()),r26.2)
 else
 if decide (r23.1.1=2) then
 (ab (r23.2.1,4,())).bind fun r27=>
 if inb r27.1.1 (([(-1),0,(r8.1.1.2.2.1.size:Int),(w64 ((r8.1.1.2.2.1.size:Int)+1))]:List Int).length) then
 let v28:=(rd (dfl .int) ([(-1),0,(r8.1.1.2.2.1.size:Int),(w64 ((r8.1.1.2.2.1.size:Int)+1))]:List Int) r27.1.1)
 some (((j4.2.2.2.1.2.1,j4.2.2.2.1.2.2.1,j4.2.2.2.1.2.2.2.1,j4.2.2.2.1.2.2.2.2.1,j4.2.2.2.1.2.2.2.2.2.1,j4.2.2.2.1.2.2.2.2.2.2.1,()),(r8.1.1.1,r8.1.1.2.1,r8.1.1.2.2.1,v28,r8.1.1.2.2.2.2),()),r27.2)
 else none
 else
 if decide (r23.1.1=3) then
 (ab (r23.2.1,5,())).bind fun r29=>
 (ab (r29.2.1,3,())).bind fun r30=>
 (ab (r30.2.1,4,())).bind fun r31=>
 (ab (r31.2.1,26,())).bind fun r32=>
 (ab (r32.2.1,9,())).bind fun r33=>
 if al (r8.1.1.2.2.2.2.1.length+([(ajY.mk r29.1.1 (w64 (1+r30.1.1)) r31.1.1 9 r32.1.1 ([(ajV.mk r33.1.1 (B [97,98,99,100]))]:List ajV))]:List ajY).length) then
 some (((j4.2.2.2.1.2.1,j4.2.2.2.1.2.2.1,j4.2.2.2.1.2.2.2.1,j4.2.2.2.1.2.2.2.2.1,j4.2.2.2.1.2.2.2.2.2.1,j4.2.2.2.1.2.2.2.2.2.2.1,()),(r8.1.1.1,r8.1.1.2.1,r8.1.1.2.2.1,r8.1.1.2.2.2.1,(r8.1.1.2.2.2.2.1++([(ajY.mk r29.1.1 (w64 (1+r30.1.1)) r31.1.1 9 r32.1.1 ([(ajV.mk r33.1.1 (B [97,98,99,100]))]:List ajV))]:List ajY)),()),()),r33.2)
 else none
 else
 if decide (r23.1.1=4) then
 some (((j4.2.2.2.1.2.1,j4.2.2.2.1.2.2.1,j4.2.2.2.1.2.2.2.1,j4.2.2.2.1.2.2.2.2.1,j4.2.2.2.1.2.2.2.2.2.1,j4.2.2.2.1.2.2.2.2.2.2.1,()),(r8.1.1.1,(!r8.1.1.2.1),r8.1.1.2.2),()),r23.2)
 else
 if decide (r23.1.1=5) then
 (mS r23.2).bind fun r34=>
 (cP r34.1).bind fun r35=>
 if decide (r8.1.1.2.2.1.size+r35.1.1.size≤4611686018427387904) then
 let v36:=(r8.1.1.2.2.1++r35.1.1)
 some (((j4.2.2.2.1.2.1,j4.2.2.2.1.2.2.1,j4.2.2.2.1.2.2.2.1,j4.2.2.2.1.2.2.2.2.1,j4.2.2.2.1.2.2.2.2.2.1,j4.2.2.2.1.2.2.2.2.2.2.1,()),(r8.1.1.1,r8.1.1.2.1,v36,r8.1.1.2.2.2),()),r34.2)
 else none
 else
 some (((j4.2.2.2.1.2.1,j4.2.2.2.1.2.2.1,j4.2.2.2.1.2.2.2.1,j4.2.2.2.1.2.2.2.2.1,j4.2.2.2.1.2.2.2.2.2.1,j4.2.2.2.1.2.2.2.2.2.2.1,()),r8.1),r23.2)
 else none)
 ((ab (r1.2.1,2,())).bind fun r5=>
 if decide (r5.1.1=0) then
 (cd ((r5.2.1,r1.1.1.2),7,0,())).bind fun r6=>
 some (.inr (r6.2.1.1,(0,([]:List ajR),([]:List Bool),([]:List ajW),([]:List ajT),([]:List ajT),()),(0,false,noB,0,([]:List ajY),()),((),r6.2.1.2),()))
 else
 some (.inr (r5.2.1,(0,([]:List ajR),([]:List Bool),([]:List ajW),([]:List ajT),([]:List ajT),()),(0,false,noB,0,([]:List ajY),()),((),r1.1.1.2),()))))
def zL:Ent:=(34,none,⟨[Z19],[Z21,Z15],lJ⟩)
def Cv:SQ Tryz.prog zL:=sk (v:=t1 (t1 (.join [(0,Z23),(2,Z20),(3,Z14),(4,Z28)] .nil .nil))) (fn:=Tryz.f34) MF kN
def aaP:Cx:=cX [] [] [(11,13)]
def adQ:OKC Tryz.prog aaP af:=okc mixed (au)
def aK(x:Int×Int×Int×aqq):Option ((Bool×aqq)×aqq):=
 let v2:=((decide (x.2.1≤x.1))&&(decide (x.1≤x.2.2.1)))
 some ((v2,()),())
def cD:Ent:=(60,none,⟨[.int .i64,.int .i64,.int .i64],[.bool],aK⟩)
def bk:SQ Tryz.prog cD:=sk (v:= .nil) (fn:=Tryz.f60) adQ kN
def SF:Cx:=cX [cD] [] []
def UL:OKC Tryz.prog SF af:=okc mixed (gC bk (au))
def bj(x:Int×aqq):Option ((Bool×aqq)×aqq):=
 (aK (x.1,0,3,())).bind fun r1=>
 some (r1.1,())
def cV:Ent:=(59,none,⟨[.int .i64],[.bool],bj⟩)
def bU:SQ Tryz.prog cV:=sk (v:= .nil) (fn:=Tryz.f59) UL kN
def My:Cx:=cX [cV] [] []
def Pg:OKC Tryz.prog My af:=okc mixed (gC bU (au))
def bK(x:Int×Int×aqq):Option ((Int×aqq)×aqq):=
 (bB (X:=Int×Int×Bool×aqq) (fun j6=>
 if j6.2.2.1 then
 some (((-1),()),())
 else
 if decide (j6.1 < j6.2.1) then
 some (((w64 (j6.1+1)),()),())
 else
 some (((w64 (j6.1 - 1)),()),()))
 ((bj (x.1,())).bind fun r7=>
 if !r7.1.1 then
 some (.inr (x.1,x.2.1,true,()))
 else
 (bj x.2).bind fun r8=>
 if !r8.1.1 then
 some (.inr (x.1,x.2.1,true,()))
 else
 some (.inr (x.1,x.2.1,(decide (x.1=x.2.1)),()))))
def tX:Ent:=(21,none,⟨[.int .i64,.int .i64],[.int .i64],bK⟩)
def uz:SQ Tryz.prog tX:=sk (v:=t1 (.two (.one (.join [(0,.int .i64),(1,.int .i64),(5,.bool)] .nil .nil)) .nil)) (fn:=Tryz.f21) Pg kN
def OY:Cx:=cX [tX,cV,cD] [] [(56,63),(82,89)]
def Tg:OKC Tryz.prog OY af:=okc mixed (gC uz (gC bU (gC bk (au))))
def qR(x:Y7×aqq):Option ((Bool×aqq)×aqq):=
 (bj (x.1.2.1,())).bind fun r13=>
 if !r13.1.1 then
 some ((false,()),())
 else
 (bj (x.1.2.2.1,())).bind fun r14=>
 if !r14.1.1 then
 some ((false,()),())
 else
 (bj (x.1.2.2.2.1,())).bind fun r15=>
 if !r15.1.1 then
 some ((false,()),())
 else
 (bj (x.1.2.2.2.2.2.1,())).bind fun r16=>
 if !r16.1.1 then
 some ((false,()),())
 else
 (aK (x.1.2.2.2.2.1,1,99,())).bind fun r17=>
 if !r17.1.1 then
 some ((false,()),())
 else
 (aK (x.1.2.2.2.2.2.2.1,1,999,())).bind fun r18=>
 if !r18.1.1 then
 some ((false,()),())
 else
 if decide (x.1.1=1) then
 (aK (x.1.2.2.2.2.2.2.2.1,1,24,())).bind fun r28=>
 if r28.1.1 then
 (aK (x.1.2.2.2.2.2.2.2.2.1,0,999,())).bind fun r29=>
 if r29.1.1 then
 if bg (decide ((x.1.2.2.2.2.2.2.2.2.2.1.size:Int)=4)) ((bK (x.1.2.1,x.1.2.2.2.2.2.1,())).isSome) then
 let v30:=((decide ((x.1.2.2.2.2.2.2.2.2.2.1.size:Int)=4))&&(decide (x.1.2.2.1=((bK (x.1.2.1,x.1.2.2.2.2.2.1,())).getD ((0,()),())).1.1)))
 some ((v30,()),())
 else none
 else
 if bg false ((bK (x.1.2.1,x.1.2.2.2.2.2.1,())).isSome) then
 some ((false,()),())
 else none
 else
 if bg false ((bK (x.1.2.1,x.1.2.2.2.2.2.1,())).isSome) then
 some ((false,()),())
 else none
 else
 (bB (X:=Y7×Bool×aqq) (fun j31=>
 if j31.2.1 then
 if decide (j31.1.2.2.2.2.2.2.2.1=0) then
 if decide (j31.1.2.2.2.2.2.2.2.2.1=0) then
 if bg (decide (j31.1.2.2.2.2.2.2.2.2.2.1=noB)) ((bK (j31.1.2.2.1,j31.1.2.2.2.2.2.1,())).isSome) then
 let v32:=((decide (j31.1.2.2.2.2.2.2.2.2.2.1=noB))&&(decide (j31.1.2.1=((bK (j31.1.2.2.1,j31.1.2.2.2.2.2.1,())).getD ((0,()),())).1.1)))
 some ((v32,()),())
 else none
 else
 if bg false ((bK (j31.1.2.2.1,j31.1.2.2.2.2.2.1,())).isSome) then
 some ((false,()),())
 else none
 else
 if bg false ((bK (j31.1.2.2.1,j31.1.2.2.2.2.2.1,())).isSome) then
 some ((false,()),())
 else none
 else
 some ((false,()),()))
 ((if decide (x.1.1=2) then
 some (.inr (x.1,(decide (x.1.1=2)),()))
 else
 some (.inr (x.1,(decide (x.1.1=3)),())))))
def DW:Ent:=(18,none,⟨[Z16],[.bool],qR⟩)
def Hy:SQ Tryz.prog DW:=sk (v:=t1 (t1 (.two (t1 (.one (t1 (t1 (.join [(1,Z18),(65,.bool)] .nil .nil))))) .nil))) (fn:=Tryz.f18) Tg kN
def Cp:Cx:=cX [] [] []
def Ee:OKC Tryz.prog Cp af:=okc mixed (au)
def dh(x:List aqp×aqq):Option ((List aqp×aqq)×aqq):=
 if decide ((x.1.length:Int)=0) then
 some ((([]:List aqp),()),())
 else
 if decide (0≤(x.1.length:Int))&&decide ((x.1.length:Int)≤4294967296) then
 some (((aqR (aqQ (aqy (x.1.length:Int)) (dfl .str)).length x.1++aq9 x.1.length (aqQ (aqy (x.1.length:Int)) (dfl .str))),()),())
 else none
def gN:Ent:=(129,none,⟨[.fz .str],[.row 9 .str],dh⟩)
def gX:SQ Tryz.prog gN:=sk (v:= .nil) (fn:=Tryz.f129) Ee kN
def OQ:Cx:=cX [cD] [] [(11,18)]
def Ec:OKC Tryz.prog OQ af:=okc mixed (gC bk (au))
def nO(x:aqp×Int×Int×aqq):Rnd (aqp×Int×Int×aqq) (Int×Bool×aqq) (Int×aqq):=
 if decide (x.2.2.1 < (x.1.size:Int)) then
 if inb x.2.2.1 x.1.size then
 (aK ((w64 (bt x.1 x.2.2.1)),48,57,())).bind fun r18=>
 if !r18.1.1 then
 some (.inr (.inl (0,false,())))
 else
 if inb x.2.2.1 x.1.size then
 let v19:=(w64 ((w64 (10 * x.2.1))+(w64 (w8 ((bt x.1 x.2.2.1) - 48)))))
 some (.inl (x.1,v19,(w64 (x.2.2.1+1)),()))
 else none
 else none
 else
 some (.inr (.inr (x.2.1,())))
def oC:=aR nO
def zo:Loop:=⟨[(0,.str),(4,.int .i64),(5,.int .i64)],[(4,.int .i64)],0,[(2,.int .i64),(3,.bool)],oC⟩
def Od:LF Tryz.f149 [] [1,1,1,0,1,0,0] zo:=sq (v:= .nil) Ec (b:=nO) kN
def fQ(x:aqp×aqq):Option ((Int×Bool×aqq)×aqq):=
 (aK ((x.1.size:Int),1,5,())).bind fun r3=>
 if bg (!(!r3.1.1)) (inb 0 x.1.size) then
 if(!r3.1.1)||((decide ((bt x.1 0)=48))&&(decide (1 < (x.1.size:Int)))) then
 some ((0,false,()),())
 else
 (aJ (oC (x.1,0,0,()))
 (fun y20=>some (y20,()))
 (fun y20=>some ((y20.1,true,()),())))
 else none
def qW:Ent:=(149,none,⟨[.str],[.int .i64,.bool],fQ⟩)
def oB:SQ Tryz.prog qW:=sk (v:=t1 (t1 (t1 (.two (t1 (.one (.loop zo))) .nil)))) (fn:=Tryz.f149) Ec (kC Od kN)
def Kk:Cx:=cX [cD,gN,qW] [] [(26,29),(38,41)]
def rT:OKC Tryz.prog Kk af:=okc mixed (gC bk (gC gX (gC oB (au))))
def kL(x:aqp×List aqp×Int×Int×aqq):Rnd (aqp×List aqp×Int×Int×aqq) (aqq) (aqp×List aqp×Int×Int×aqq):=
 if decide (x.2.2.2.1 < (x.1.size:Int)) then
 if bg (decide (x.2.2.2.1 < (w64 (x.2.2.1+3)))) (inb x.2.2.2.1 x.1.size) then
 if(decide (x.2.2.2.1 < (w64 (x.2.2.1+3))))&&(!decide ((bt x.1 x.2.2.2.1)=58)) then
 some (.inl (x.1,x.2.1,x.2.2.1,(w64 (x.2.2.2.1+1)),()))
 else
 some (.inr (.inr x))
 else none
 else
 if bg false (inb x.2.2.2.1 x.1.size) then
 some (.inr (.inr x))
 else none
def lx:=aR kL
def vO:Loop:=⟨[(0,.str),(4,.row 9 .str),(5,.int .i64),(6,.int .i64)],[(0,.str),(4,.row 9 .str),(5,.int .i64),(6,.int .i64)],2,[],lx⟩
def Jk:LF Tryz.f112 [] [1,1,1,0,0,0,1,0,1,0,0,0] vO:=sq (v:= .nil) rT (b:=kL) kN
def eJ(x:aqp×List aqp×Int×aqq):Rnd (aqp×List aqp×Int×aqq) (aqq) (List aqp×Int×aqq):=
 if decide (x.2.2.1 < (x.1.size:Int)) then
 (aJ (lx (x.1,x.2.1,x.2.2.1,x.2.2))
 (fun _=>some (.inr (.inl ())))
 (fun y31=>(if bg (!(decide ((y31.1.size:Int)≤y31.2.2.2.1))) (inb y31.2.2.2.1 y31.1.size) then
 if(decide ((y31.1.size:Int)≤y31.2.2.2.1))||(!decide ((bt y31.1 y31.2.2.2.1)=58)) then
 some (.inr (.inr (y31.2.1,y31.2.2.1,())))
 else
 if(decide (0≤y31.2.2.2.1)&&decide (y31.2.2.2.1≤(y31.1.size:Int)))&&(decide (0≤y31.2.2.1)&&decide (y31.2.2.1≤y31.2.2.2.1)) then
 (fQ ((y31.1.extract (aqy y31.2.2.1) (aqy y31.2.2.2.1)),())).bind fun r32=>
 let v33:=(w64 ((w64 (y31.2.2.2.1+1))+r32.1.1))
 (if !r32.1.2.1 then
 some (.inr (.inr (y31.2.1,y31.2.2.1,())))
 else
 (aK (r32.1.1,1,60,())).bind fun r36=>
 if !r36.1.1 then
 some (.inr (.inr (y31.2.1,y31.2.2.1,())))
 else
 if decide ((y31.1.size:Int)≤v33) then
 some (.inr (.inr (y31.2.1,y31.2.2.1,())))
 else
 if inb v33 y31.1.size then
 if !decide ((bt y31.1 v33)=59) then
 some (.inr (.inr (y31.2.1,y31.2.2.1,())))
 else
 if(decide (0≤v33)&&decide (v33≤(y31.1.size:Int)))&&(decide (0≤(w64 (y31.2.2.2.1+1)))&&decide ((w64 (y31.2.2.2.1+1))≤v33)) then
 if al (y31.2.1.length+([(y31.1.extract (aqy (w64 (y31.2.2.2.1+1))) (aqy v33))]:List aqp).length) then
 some (.inl (y31.1,(y31.2.1++([(y31.1.extract (aqy (w64 (y31.2.2.2.1+1))) (aqy v33))]:List aqp)),(w64 (v33+1)),()))
 else none
 else none
 else none)
 else none
 else none)))
 else
 some (.inr (.inr x.2))
def ly:=aR eJ
def vP:Loop:=⟨[(0,.str),(4,.row 9 .str),(5,.int .i64)],[(4,.row 9 .str),(5,.int .i64)],0,[],ly⟩
def Jq:LF Tryz.f112 [] [1,1,1,0,0,0] vP:=sq (v:=t1 (.one (t1 (.two (.one (.loop vO)) .nil)))) rT (b:=eJ) (kC Jk kN)
def dT(x:aqp×aqq):Option ((List aqp×Int×aqq)×aqq):=
 (aJ (ly (x.1,([]:List aqp),0,()))
 (fun _=>none)
 (fun y37=>(dh (y37.1,())).bind fun r38=>
 some ((r38.1.1,y37.2),())))
def mm:Ent:=(112,none,⟨[.str],[.row 9 .str,.int .i64],dT⟩)
def lv:SQ Tryz.prog mm:=sk (v:=t1 (t1 (t1 (.two (.one (.loop vP)) .nil)))) (fn:=Tryz.f112) rT (kC Jq kN)
def SE:Cx:=cX [] [] [(21,24)]
def GA:OKC Tryz.prog SE af:=okc mixed (au)
def qu(x:Int×Int×List Mark×Int×Int×aqq):Rnd (Int×Int×List Mark×Int×Int×aqq) (Int×aqq) (aqq):=
 if decide (x.2.2.2.2.1 < x.2.2.2.1) then
 if inb x.2.2.2.2.1 x.2.2.1.length then
 let v17:=(rd (dfl .mark) x.2.2.1 x.2.2.2.2.1).mf
 let v18:=(rd (dfl .mark) x.2.2.1 x.2.2.2.2.1).mn
 let v19:=(rd (dfl .mark) x.2.2.1 x.2.2.2.2.1).mu
 if(decide (v17=x.1))&&(decide (v18=x.2.1)) then
 some (.inr (.inl x.2.2.2.2))
 else
 some (.inl (x.1,x.2.1,x.2.2.1,x.2.2.2.1,(w64 (x.2.2.2.2.1+1)),()))
 else none
 else
 some (.inr (.inr ()))
def qt:=aR qu
def BA:Loop:=⟨[(1,.int .i64),(2,.int .i64),(9,.sl .mark),(10,.int .i64),(11,.int .i64)],[],0,[(6,.int .i64)],qt⟩
def Rq:LF Tryz.f103 [] [1,0,1,0,0] BA:=sq (v:= .nil) GA (b:=qu) kN
def cU(x:List Mark×Int×Int×aqq):Option ((Int×aqq)×aqq):=
 (aJ (qt (x.2.1,x.2.2.1,x.1,(x.1.length:Int),0,()))
 (fun y20=>some (y20,()))
 (fun y20=>some (((-1),()),())))
def ng:Ent:=(103,none,⟨[.fz .mark,.int .i64,.int .i64],[.int .i64],cU⟩)
def kJ:SQ Tryz.prog ng:=sk (v:=t1 (.two (t1 (.one (.loop BA))) .nil)) (fn:=Tryz.f103) GA (kC Rq kN)
def Sx:Cx:=cX [cD] [] []
def Gw:OKC Tryz.prog Sx af:=okc mixed (gC bk (au))
def qe(x:aqp×Int×aqq):Rnd (aqp×Int×aqq) (Bool×aqq) (aqp×aqq):=
 if decide (x.2.1 < (x.1.size:Int)) then
 if inb x.2.1 x.1.size then
 (aK ((w64 (bt x.1 x.2.1)),32,126,())).bind fun r7=>
 if !r7.1.1 then
 some (.inr (.inl (false,())))
 else
 some (.inl (x.1,(w64 (x.2.1+1)),()))
 else none
 else
 some (.inr (.inr (x.1,())))
def qd:=aR qe
def Bw:Loop:=⟨[(0,.str),(3,.int .i64)],[(0,.str)],0,[(2,.bool)],qd⟩
def Rl:LF Tryz.f160 [] [1,0,1,0,0] Bw:=sq (v:= .nil) Gw (b:=qe) kN
def fl(x:aqp×aqq):Option ((Bool×aqq)×aqq):=
 (aJ (qd (x.1,0,()))
 (fun y8=>some (y8,()))
 (fun y8=>(aK ((y8.1.size:Int),1,24,())).bind fun r9=>
 some (r9.1,())))
def Gd:Ent:=(160,none,⟨[.str],[.bool],fl⟩)
def Jx:SQ Tryz.prog Gd:=sk (v:=t1 (.two (t1 (.one (.loop Bw))) .nil)) (fn:=Tryz.f160) Gw (kC Rl kN)
def SO:Cx:=cX [cV,cD,Gd] [] [(22,24)]
def US:OKC Tryz.prog SO af:=okc mixed (gC bU (gC bk (gC Jx (au))))
def gY(x:Y0×aqq):Option ((Bool×aqq)×aqq):=
 (bj (x.1.1,())).bind fun r6=>
 if r6.1.1 then
 (bj (x.1.2.2.1,())).bind fun r7=>
 if r7.1.1 then
 (aK (x.1.2.1,1,99,())).bind fun r8=>
 if r8.1.1 then
 (aK (x.1.2.2.2.1,1,999,())).bind fun r9=>
 if bg r9.1.1 ((fl x.1.2.2.2.2).isSome) then
 let v10:=(r9.1.1&&(((fl x.1.2.2.2.2).getD ((false,()),())).1.1))
 some ((v10,()),())
 else none
 else
 if bg false ((fl x.1.2.2.2.2).isSome) then
 some ((false,()),())
 else none
 else
 if bg false ((fl x.1.2.2.2.2).isSome) then
 some ((false,()),())
 else none
 else
 if bg false ((fl x.1.2.2.2.2).isSome) then
 some ((false,()),())
 else none
def ni:Ent:=(125,none,⟨[Z1],[.bool],gY⟩)
def kO:SQ Tryz.prog ni:=sk (v:= .nil) (fn:=Tryz.f125) US kN
def SL:Cx:=cX [] [] [(13,20)]
def UP:OKC Tryz.prog SL af:=okc mixed (au)
def dt(x:Int×Int×Int×Int×aqq):Option ((Bool×aqq)×aqq):=
 let v2:=((decide (x.1 < x.2.2.1))||((decide (x.1=x.2.2.1))&&(decide (x.2.1 < x.2.2.2.1))))
 some ((v2,()),())
def nh:Ent:=(192,none,⟨[.int .i64,.int .i64,.int .i64,.int .i64],[.bool],dt⟩)
def kK:SQ Tryz.prog nh:=sk (v:= .nil) (fn:=Tryz.f192) UP kN
def OO:Cx:=cX [ni,nh] [] [(16,37)]
def Eb:OKC Tryz.prog OO af:=okc mixed (gC kO (gC kK (au)))
def nN(x:List ajT×List ajT×Int×Int×aqq):Rnd (List ajT×List ajT×Int×Int×aqq) (Bool×aqq) (aqq):=
 if decide (x.2.2.2.1 < x.2.2.1) then
 if inb x.2.2.2.1 x.2.1.length then
 let v35:=(rd (dfl .note) x.2.1 x.2.2.2.1).fr
 let v36:=(rd (dfl .note) x.2.1 x.2.2.2.1).nu
 let v37:=(rd (dfl .note) x.2.1 x.2.2.2.1).to
 let v38:=(rd (dfl .note) x.2.1 x.2.2.2.1).un
 let v39:=(rd (dfl .note) x.2.1 x.2.2.2.1).tx
 (gY ((v35,v36,v37,v38,v39,()),())).bind fun r40=>
 if bg ((!(!r40.1.1))&&(decide (0 < x.2.2.2.1))) (inb (w64 (x.2.2.2.1 - 1)) x.1.length) then
 if bg ((!(!r40.1.1))&&(decide (0 < x.2.2.2.1))) (inb (w64 (x.2.2.2.1 - 1)) x.1.length) then
 if bg ((!(!r40.1.1))&&(decide (0 < x.2.2.2.1))) ((dt ((rd (dfl .note) x.1 (w64 (x.2.2.2.1 - 1))).fr,(rd (dfl .note) x.1 (w64 (x.2.2.2.1 - 1))).nu,v35,v36,())).isSome) then
 if(!r40.1.1)||((decide (0 < x.2.2.2.1))&&(!(((dt ((rd (dfl .note) x.1 (w64 (x.2.2.2.1 - 1))).fr,(rd (dfl .note) x.1 (w64 (x.2.2.2.1 - 1))).nu,v35,v36,())).getD ((false,()),())).1.1))) then
 some (.inr (.inl (false,())))
 else
 some (.inl (x.1,x.2.1,x.2.2.1,(w64 (x.2.2.2.1+1)),()))
 else none
 else none
 else none
 else none
 else
 some (.inr (.inr ()))
def oA:=aR nN
def zm:Loop:=⟨[(0,.sl .note),(5,.sl .note),(6,.int .i64),(7,.int .i64)],[],0,[(2,.bool)],oA⟩
def Oc:LF Tryz.f161 [] [1,0,1,0,0] zm:=sq (v:= .nil) Eb (b:=nN) kN
def lp(x:List ajT×aqq):Option ((Bool×aqq)×aqq):=
 (aJ (oA (x.1,x.1,(x.1.length:Int),0,()))
 (fun y41=>some (y41,()))
 (fun y41=>some ((true,()),())))
def DO:Ent:=(161,none,⟨[.fz .note],[.bool],lp⟩)
def Hm:SQ Tryz.prog DO:=sk (v:=t1 (.two (t1 (.one (.loop zm))) .nil)) (fn:=Tryz.f161) Eb (kC Oc kN)
def SC:Cx:=cX [cV,cD] [] [(12,14)]
def UK:OKC Tryz.prog SC af:=okc mixed (gC bU (gC bk (au)))
def ss(x:Y2×aqq):Option ((Bool×aqq)×aqq):=
 (bj (x.1.1,())).bind fun r4=>
 if r4.1.1 then
 (aK (x.1.2.1,1,99,())).bind fun r5=>
 if bg r5.1.1 ((aK (x.1.2.2.1,1,999,())).isSome) then
 let v6:=(r5.1.1&&(((aK (x.1.2.2.1,1,999,())).getD ((false,()),())).1.1))
 some ((v6,()),())
 else none
 else
 if bg false ((aK (x.1.2.2.1,1,999,())).isSome) then
 some ((false,()),())
 else none
def Ge:Ent:=(193,none,⟨[Z6],[.bool],ss⟩)
def Jz:SQ Tryz.prog Ge:=sk (v:= .nil) (fn:=Tryz.f193) UK kN
def OR:Cx:=cX [nh,Ge] [] [(16,37)]
def Ed:OKC Tryz.prog OR af:=okc mixed (gC kK (gC Jz (au)))
def nP(x:List Mark×List Mark×Int×Int×aqq):Rnd (List Mark×List Mark×Int×Int×aqq) (Bool×aqq) (aqq):=
 if decide (x.2.2.2.1 < x.2.2.1) then
 if inb x.2.2.2.1 x.2.1.length then
 let v25:=(rd (dfl .mark) x.2.1 x.2.2.2.1).mf
 let v26:=(rd (dfl .mark) x.2.1 x.2.2.2.1).mn
 let v27:=(rd (dfl .mark) x.2.1 x.2.2.2.1).mu
 (ss ((v25,v26,v27,()),())).bind fun r28=>
 if bg ((!(!r28.1.1))&&(decide (0 < x.2.2.2.1))) (inb (w64 (x.2.2.2.1 - 1)) x.1.length) then
 if bg ((!(!r28.1.1))&&(decide (0 < x.2.2.2.1))) (inb (w64 (x.2.2.2.1 - 1)) x.1.length) then
 if bg ((!(!r28.1.1))&&(decide (0 < x.2.2.2.1))) ((dt ((rd (dfl .mark) x.1 (w64 (x.2.2.2.1 - 1))).mf,(rd (dfl .mark) x.1 (w64 (x.2.2.2.1 - 1))).mn,v25,v26,())).isSome) then
 if(!r28.1.1)||((decide (0 < x.2.2.2.1))&&(!(((dt ((rd (dfl .mark) x.1 (w64 (x.2.2.2.1 - 1))).mf,(rd (dfl .mark) x.1 (w64 (x.2.2.2.1 - 1))).mn,v25,v26,())).getD ((false,()),())).1.1))) then
 some (.inr (.inl (false,())))
 else
 some (.inl (x.1,x.2.1,x.2.2.1,(w64 (x.2.2.2.1+1)),()))
 else none
 else none
 else none
 else none
 else
 some (.inr (.inr ()))
def oD:=aR nP
def zq:Loop:=⟨[(0,.sl .mark),(5,.sl .mark),(6,.int .i64),(7,.int .i64)],[],0,[(2,.bool)],oD⟩
def Oe:LF Tryz.f162 [] [1,0,1,0,0] zq:=sq (v:= .nil) Ed (b:=nP) kN
def qn(x:List Mark×aqq):Option ((Bool×aqq)×aqq):=
 (aJ (oD (x.1,x.1,(x.1.length:Int),0,()))
 (fun y29=>some (y29,()))
 (fun y29=>some ((true,()),())))
def DQ:Ent:=(162,none,⟨[.fz .mark],[.bool],qn⟩)
def Ho:SQ Tryz.prog DQ:=sk (v:=t1 (.two (t1 (.one (.loop zq))) .nil)) (fn:=Tryz.f162) Ed (kC Oe kN)
def Ur:Cx:=cX [cD] [] [(10,23)]
def Xg:OKC Tryz.prog Ur af:=okc mixed (gC bk (au))
def qg(x:Int×Y0×aqq):Option ((Bool×aqq)×aqq):=
 if bg (!decide (x.1=x.2.1.2.2.1)) ((aK (x.1,x.2.1.1,x.2.1.2.2.1,())).isSome) then
 if bg ((!decide (x.1=x.2.1.2.2.1))&&(!(((aK (x.1,x.2.1.1,x.2.1.2.2.1,())).getD ((false,()),())).1.1))) ((aK (x.1,x.2.1.2.2.1,x.2.1.1,())).isSome) then
 let v2:=((!decide (x.1=x.2.1.2.2.1))&&((((aK (x.1,x.2.1.1,x.2.1.2.2.1,())).getD ((false,()),())).1.1)||(((aK (x.1,x.2.1.2.2.1,x.2.1.1,())).getD ((false,()),())).1.1)))
 some ((v2,()),())
 else none
 else none
def JY:Ent:=(163,none,⟨[.int .i64,Z1],[.bool],qg⟩)
def LP:SQ Tryz.prog JY:=sk (v:= .nil) (fn:=Tryz.f163) Xg kN
def SR:Cx:=cX [cV,cD,ng,DO,DQ,JY] [] [(123,127)]
def sF:OKC Tryz.prog SR af:=okc mixed (gC bU (gC bk (gC kJ (gC Hm (gC Ho (gC LP (au)))))))
def qN(x:Y1×List ajT×Int×Int×aqq):Rnd (Y1×List ajT×Int×Int×aqq) (Bool×aqq) (aqq):=
 if decide (x.2.2.2.1 < x.2.2.1) then
 if inb x.2.2.2.1 x.2.1.length then
 let anV:=(rd (dfl .note) x.2.1 x.2.2.2.1).fr
 let anU:=(rd (dfl .note) x.2.1 x.2.2.2.1).nu
 let aoH:=(rd (dfl .note) x.2.1 x.2.2.2.1).to
 let v152:=(rd (dfl .note) x.2.1 x.2.2.2.1).un
 let ap8:=(rd (dfl .note) x.2.1 x.2.2.2.1).tx
 (if decide (anV=x.1.1) then
 if decide (x.1.2.2.1≤anU) then
 some (.inr (.inl (false,())))
 else
 if !decide (aoH=x.1.1) then
 some (.inr (.inl (false,())))
 else
 if decide (x.1.2.1 < v152) then
 (cU (x.1.2.2.2.2.1,anV,anU,())).bind fun apn=>
 if decide (apn.1.1 < 0) then
 some (.inr (.inl (false,())))
 else
 some (.inl (x.1,x.2.1,x.2.2.1,(w64 (x.2.2.2.1+1)),()))
 else
 some (.inl (x.1,x.2.1,x.2.2.1,(w64 (x.2.2.2.1+1)),()))
 else
 if !decide (aoH=x.1.1) then
 some (.inr (.inl (false,())))
 else
 if decide (x.1.2.1 < v152) then
 (cU (x.1.2.2.2.2.1,anV,anU,())).bind fun apm=>
 if decide (apm.1.1 < 0) then
 some (.inr (.inl (false,())))
 else
 some (.inl (x.1,x.2.1,x.2.2.1,(w64 (x.2.2.2.1+1)),()))
 else
 some (.inl (x.1,x.2.1,x.2.2.1,(w64 (x.2.2.2.1+1)),())))
 else none
 else
 some (.inr (.inr ()))
def qK:=aR qN
def BI:Loop:=⟨[(1,Z2),(131,.sl .note),(132,.int .i64),(133,.int .i64)],[],4,[(2,.bool)],qK⟩
def Q5:LF Tryz.f128 [] [1,1,1,1,1,0,1,0,0] BI:=sq (v:= .nil) sF (b:=qN) kN
def qO(x:Y1×List Mark×Int×Int×aqq):Rnd (Y1×List Mark×Int×Int×aqq) (Bool×aqq) (Y1×aqq):=
 if decide (x.2.2.2.1 < x.2.2.1) then
 if inb x.2.2.2.1 x.2.1.length then
 let anY:=(rd (dfl .mark) x.2.1 x.2.2.2.1).mf
 let anX:=(rd (dfl .mark) x.2.1 x.2.2.2.1).mn
 let v105:=(rd (dfl .mark) x.2.1 x.2.2.2.1).mu
 if decide (anY=x.1.1) then
 if(decide (x.1.2.2.1≤anX))||(decide (v105≤x.1.2.1)) then
 some (.inr (.inl (false,())))
 else
 some (.inl (x.1,x.2.1,x.2.2.1,(w64 (x.2.2.2.1+1)),()))
 else
 if decide (v105≤x.1.2.1) then
 some (.inr (.inl (false,())))
 else
 some (.inl (x.1,x.2.1,x.2.2.1,(w64 (x.2.2.2.1+1)),()))
 else none
 else
 some (.inr (.inr (x.1,())))
def qL:=aR qO
def BJ:Loop:=⟨[(1,Z2),(104,.sl .mark),(105,.int .i64),(106,.int .i64)],[(1,Z2)],2,[(2,.bool)],qL⟩
def Q9:LF Tryz.f128 [] [1,1,1,1,0,1,0,0] BJ:=sq (v:= .nil) sF (b:=qO) kN
def qP(x:Y1×List ajT×Int×Int×aqq):Rnd (Y1×List ajT×Int×Int×aqq) (Bool×aqq) (Y1×aqq):=
 if decide (x.2.2.2.1 < x.2.2.1) then
 if inb x.2.2.2.1 x.2.1.length then
 let v77:=(rd (dfl .note) x.2.1 x.2.2.2.1).fr
 let v78:=(rd (dfl .note) x.2.1 x.2.2.2.1).nu
 let v79:=(rd (dfl .note) x.2.1 x.2.2.2.1).to
 let v80:=(rd (dfl .note) x.2.1 x.2.2.2.1).un
 let v81:=(rd (dfl .note) x.2.1 x.2.2.2.1).tx
 if decide (v77=x.1.1) then
 if decide (x.1.2.2.1≤v78) then
 some (.inr (.inl (false,())))
 else
 if decide (v80≤x.1.2.1) then
 some (.inr (.inl (false,())))
 else
 (qg (x.1.1,(v77,v78,v79,v80,v81,()),())).bind fun r82=>
 if !r82.1.1 then
 some (.inr (.inl (false,())))
 else
 (cU (x.1.2.2.2.2.1,v77,v78,())).bind fun r83=>
 if decide (0≤r83.1.1) then
 some (.inr (.inl (false,())))
 else
 some (.inl (x.1,x.2.1,x.2.2.1,(w64 (x.2.2.2.1+1)),()))
 else
 if decide (v80≤x.1.2.1) then
 some (.inr (.inl (false,())))
 else
 (qg (x.1.1,(v77,v78,v79,v80,v81,()),())).bind fun r84=>
 if !r84.1.1 then
 some (.inr (.inl (false,())))
 else
 (cU (x.1.2.2.2.2.1,v77,v78,())).bind fun r85=>
 if decide (0≤r85.1.1) then
 some (.inr (.inl (false,())))
 else
 some (.inl (x.1,x.2.1,x.2.2.1,(w64 (x.2.2.2.1+1)),()))
 else none
 else
 some (.inr (.inr (x.1,())))
def qM:=aR qP
def BK:Loop:=⟨[(1,Z2),(60,.sl .note),(61,.int .i64),(62,.int .i64)],[(1,Z2)],0,[(2,.bool)],qM⟩
def Ru:LF Tryz.f128 [] [1,1,1,0,1,0,0] BK:=sq (v:= .nil) sF (b:=qP) kN
def gZ(x:Y1×aqq):Option ((Bool×aqq)×aqq):=
 (bj (x.1.1,())).bind fun r7=>
 if !r7.1.1 then
 some ((false,()),())
 else
 (aK (x.1.2.1,0,999,())).bind fun r8=>
 if !r8.1.1 then
 some ((false,()),())
 else
 (aK (x.1.2.2.1,1,100,())).bind fun r9=>
 if !r9.1.1 then
 some ((false,()),())
 else
 if decide (6 < (x.1.2.2.2.1.length:Int)) then
 some ((false,()),())
 else
 if decide (12 < (x.1.2.2.2.2.1.length:Int)) then
 some ((false,()),())
 else
 if decide (6 < (x.1.2.2.2.2.2.1.length:Int)) then
 some ((false,()),())
 else
 (lp (x.1.2.2.2.1,())).bind fun r16=>
 if !r16.1.1 then
 some ((false,()),())
 else
 (qn (x.1.2.2.2.2.1,())).bind fun r17=>
 if !r17.1.1 then
 some ((false,()),())
 else
 (lp x.1.2.2.2.2.2).bind fun r18=>
 if !r18.1.1 then
 some ((false,()),())
 else
 (aJ (qM (x.1,x.1.2.2.2.1,(x.1.2.2.2.1.length:Int),0,()))
 (fun y86=>some (y86,()))
 (fun y86=>(aJ (qL (y86.1,y86.1.2.2.2.2.1,(y86.1.2.2.2.2.1.length:Int),0,()))
 (fun am2=>some (am2,()))
 (fun am2=>(aJ (qK (am2.1,am2.1.2.2.2.2.2.1,(am2.1.2.2.2.2.2.1.length:Int),0,()))
 (fun aoF=>some (aoF,()))
 (fun aoF=>some ((true,()),())))))))
def yz:Ent:=(128,none,⟨[Z3],[.bool],gZ⟩)
def xz:SQ Tryz.prog yz:=sk (v:=t1 (t1 (t1 (.two (t1 (.one (.loop BK))) (.two (t1 (.one (.loop BJ))) (.two (t1 (.one (.loop BI))) .nil)))))) (fn:=Tryz.f128) sF (kC Ru (kC Q9 (kC Q5 kN)))
def OT:Cx:=cX [] [] []
def wC:OKC Tryz.prog OT af:=okc mixed (au)
def nR(x:Int×Y1×Y1×List Mark×Int×Int×aqq):Rnd (Int×Y1×Y1×List Mark×Int×Int×aqq) (aqq) (Y1×Y1×aqq):=
 if decide (x.2.2.2.2.2.1 < x.2.2.2.2.1) then
 if inb x.2.2.2.2.2.1 x.2.2.2.1.length then
 let v69:=(rd (dfl .mark) x.2.2.2.1 x.2.2.2.2.2.1).mf
 let v70:=(rd (dfl .mark) x.2.2.2.1 x.2.2.2.2.2.1).mn
 let v71:=(rd (dfl .mark) x.2.2.2.1 x.2.2.2.2.2.1).mu
 if decide (x.1 < v71) then
 if al (x.2.2.1.2.2.2.2.1.length+([(Mark.mk v69 v70 v71)]:List Mark).length) then
 some (.inl (x.1,x.2.1,(x.2.2.1.1,x.2.2.1.2.1,x.2.2.1.2.2.1,x.2.2.1.2.2.2.1,(x.2.2.1.2.2.2.2.1++([(Mark.mk v69 v70 v71)]:List Mark)),x.2.2.1.2.2.2.2.2),x.2.2.2.1,x.2.2.2.2.1,(w64 (x.2.2.2.2.2.1+1)),()))
 else none
 else
 some (.inl (x.1,x.2.1,x.2.2.1,x.2.2.2.1,x.2.2.2.2.1,(w64 (x.2.2.2.2.2.1+1)),()))
 else none
 else
 some (.inr (.inr (x.2.1,x.2.2.1,())))
def oG:=aR nR
def zu:Loop:=⟨[(1,.int .i64),(4,Z4),(5,Z30),(37,.sl .mark),(38,.int .i64),(39,.int .i64)],[(4,Z4),(5,Z30)],2,[],oG⟩
def NX:LF Tryz.f199 [] [1,1,1,0,1,0,0] zu:=sq (v:= .nil) wC (b:=nR) kN
def nS(x:Int×Y1×Y1×Y1×List ajT×Int×Int×aqq):Rnd (Int×Y1×Y1×Y1×List ajT×Int×Int×aqq) (aqq) (Int×Y1×Y1×Y1×aqq):=
 if decide (x.2.2.2.2.2.2.1 < x.2.2.2.2.2.1) then
 if inb x.2.2.2.2.2.2.1 x.2.2.2.2.1.length then
 let v47:=(rd (dfl .note) x.2.2.2.2.1 x.2.2.2.2.2.2.1).fr
 let v48:=(rd (dfl .note) x.2.2.2.2.1 x.2.2.2.2.2.2.1).nu
 let v49:=(rd (dfl .note) x.2.2.2.2.1 x.2.2.2.2.2.2.1).to
 let v50:=(rd (dfl .note) x.2.2.2.2.1 x.2.2.2.2.2.2.1).un
 let v51:=(rd (dfl .note) x.2.2.2.2.1 x.2.2.2.2.2.2.1).tx
 if decide (x.1 < v50) then
 if al (x.2.2.2.1.2.2.2.1.length+([(ajT.mk v47 v48 v49 v50 v51)]:List ajT).length) then
 some (.inl (x.1,x.2.1,x.2.2.1,(x.2.2.2.1.1,x.2.2.2.1.2.1,x.2.2.2.1.2.2.1,(x.2.2.2.1.2.2.2.1++([(ajT.mk v47 v48 v49 v50 v51)]:List ajT)),x.2.2.2.1.2.2.2.2),x.2.2.2.2.1,x.2.2.2.2.2.1,(w64 (x.2.2.2.2.2.2.1+1)),()))
 else none
 else
 some (.inl (x.1,x.2.1,x.2.2.1,x.2.2.2.1,x.2.2.2.2.1,x.2.2.2.2.2.1,(w64 (x.2.2.2.2.2.2.1+1)),()))
 else none
 else
 some (.inr (.inr (x.1,x.2.1,x.2.2.1,x.2.2.2.1,())))
def oH:=aR nS
def zv:Loop:=⟨[(1,.int .i64),(2,Z2),(4,Z4),(5,Z30),(19,.sl .note),(20,.int .i64),(21,.int .i64)],[(1,.int .i64),(2,Z2),(4,Z4),(5,Z30)],0,[],oH⟩
def Of:LF Tryz.f199 [] [1,1,0,1,0,0] zv:=sq (v:= .nil) wC (b:=nS) kN
def qD(x:Y1×Int×aqq):Option ((Y1×aqq)×aqq):=
 (aJ (oH (x.2.1,x.1,(0,0,0,([]:List ajT),([]:List Mark),([]:List ajT),()),(x.1.1,x.2.1,x.1.2.2.1,([]:List ajT),([]:List Mark),x.1.2.2.2.2.2),x.1.2.2.2.1,(x.1.2.2.2.1.length:Int),0,()))
 (fun _=>none)
 (fun y52=>(aJ (oG (y52.1,y52.2.2.1,y52.2.2.2.1,y52.2.1.2.2.2.2.1,(y52.2.1.2.2.2.2.1.length:Int),0,()))
 (fun _=>none)
 (fun y72=>some (y72.2,())))))
def DS:Ent:=(199,none,⟨[Z3,.int .i64],[Z3],qD⟩)
def Hu:SQ Tryz.prog DS:=sk (v:=t1 (t1 (.two (t1 (.one (.loop zv))) (.two (t1 (.one (.loop zu))) .nil)))) (fn:=Tryz.f199) wC (kC Of (kC NX kN))
def Ut:Cx:=cX [DS] [] [(12,15),(24,27)]
def Xi:OKC Tryz.prog Ut af:=okc mixed (gC Hu (au))
def qA(x:Y1×aqp×Int×aqq):Option ((Y1×Bool×aqq)×aqq):=
 let v6:=((decide (x.2.1=(B [116,105,109,101])))&&(decide (x.1.2.1 < x.2.2.1)))
 (if v6 then
 (qD (x.1,x.2.2)).bind fun r7=>
 some ((r7.1.1,true,()),())
 else
 let v8:=((decide (x.2.1=(B [110,101,120,116])))&&(decide (x.1.2.2.1 < x.2.2.1)))
 (if v8 then
 some (((x.1.1,x.1.2.1,x.2.2.1,x.1.2.2.2),true,()),())
 else
 some ((x.1,false,()),())))
def JZ:Ent:=(179,none,⟨[Z3,.str,.int .i64],[Z3,.bool],qA⟩)
def LR:SQ Tryz.prog JZ:=sk (v:= .nil) (fn:=Tryz.f179) Xi kN
def Kn:Cx:=cX [iX,ni] [] []
def MU:OKC Tryz.prog Kn af:=okc mixed (gC fF (gC kO (au)))
def dj(x:Y0×aqq):Option ((aqp×aqq)×aqq):=
 (gY x).bind fun r2=>
 if !r2.1.1 then
 some ((noB,()),())
 else
 (bM (x.1.1,())).bind fun r3=>
 if decide (r3.1.1.size+(B [32]).size≤4611686018427387904) then
 (bM (x.1.2.1,())).bind fun r4=>
 if decide ((r3.1.1++(B [32])).size+r4.1.1.size≤4611686018427387904) then
 if decide (((r3.1.1++(B [32]))++r4.1.1).size+(B [32]).size≤4611686018427387904) then
 (bM (x.1.2.2.1,())).bind fun r5=>
 if decide ((((r3.1.1++(B [32]))++r4.1.1)++(B [32])).size+r5.1.1.size≤4611686018427387904) then
 if decide (((((r3.1.1++(B [32]))++r4.1.1)++(B [32]))++r5.1.1).size+(B [32]).size≤4611686018427387904) then
 (bM (x.1.2.2.2.1,())).bind fun r6=>
 if decide ((((((r3.1.1++(B [32]))++r4.1.1)++(B [32]))++r5.1.1)++(B [32])).size+r6.1.1.size≤4611686018427387904) then
 if decide (((((((r3.1.1++(B [32]))++r4.1.1)++(B [32]))++r5.1.1)++(B [32]))++r6.1.1).size+(B [32]).size≤4611686018427387904) then
 if decide ((((((((r3.1.1++(B [32]))++r4.1.1)++(B [32]))++r5.1.1)++(B [32]))++r6.1.1)++(B [32])).size+x.1.2.2.2.2.1.size≤4611686018427387904) then
 let v7:=((((((((r3.1.1++(B [32]))++r4.1.1)++(B [32]))++r5.1.1)++(B [32]))++r6.1.1)++(B [32]))++x.1.2.2.2.2.1)
 some ((v7,()),())
 else none
 else none
 else none
 else none
 else none
 else none
 else none
 else none
def mq:Ent:=(73,none,⟨[Z1],[.str],dj⟩)
def lA:SQ Tryz.prog mq:=sk (v:= .nil) (fn:=Tryz.f73) MU kN
def Mt:Cx:=cX [qW] [] []
def B3:OKC Tryz.prog Mt af:=okc mixed (gC oB (au))
def l7(x:List Int×List aqp×Int×Int×aqq):Rnd (List Int×List aqp×Int×Int×aqq) (List Int×Bool×aqq) (List Int×aqq):=
 if decide (x.2.2.2.1 < x.2.2.1) then
 if inb x.2.2.2.1 x.2.1.length then
 let v20:=(rd (dfl .str) x.2.1 x.2.2.2.1)
 (fQ (v20,())).bind fun r21=>
 if !r21.1.2.1 then
 some (.inr (.inl (([]:List Int),false,())))
 else
 if al (x.1.length+([r21.1.1]:List Int).length) then
 some (.inl ((x.1++([r21.1.1]:List Int)),x.2.1,x.2.2.1,(w64 (x.2.2.2.1+1)),()))
 else none
 else none
 else
 some (.inr (.inr (x.1,())))
def mN:=aR l7
def xl:Loop:=⟨[(4,.row 3 .int),(9,.sl .str),(10,.int .i64),(11,.int .i64)],[(4,.row 3 .int)],0,[(2,.row 3 .int),(3,.bool)],mN⟩
def LL:LF Tryz.f182 [] [1,1,0,1,0,0] xl:=sq (v:= .nil) B3 (b:=l7) kN
def gj(x:List aqp×aqq):Option ((List Int×Bool×aqq)×aqq):=
 (aJ (mN (([]:List Int),x.1,(x.1.length:Int),0,()))
 (fun y22=>some (y22,()))
 (fun y22=>some ((y22.1,true,()),())))
def tV:Ent:=(182,none,⟨[.fz .str],[.row 3 .int,.bool],gj⟩)
def uw:SQ Tryz.prog tV:=sk (v:=t1 (t1 (.two (t1 (.one (.loop xl))) .nil))) (fn:=Tryz.f182) B3 (kC LL kN)
def Mx:Cx:=cX [mq,ni,tV,zJ] [] [(43,46)]
def Pf:OKC Tryz.prog Mx af:=okc mixed (gC lA (gC kO (gC uw (gC Cs (au)))))
def jM(x:aqp×aqq):Option ((Y0×Bool×aqq)×aqq):=
 (rq (x.1,(B [32]),5,())).bind fun r1=>
 if !decide ((r1.1.1.length:Int)=5) then
 some (((0,0,0,0,noB,()),false,()),())
 else
 if decide (0≤4)&&decide (4≤(r1.1.1.length:Int)) then
 (gj ((aqR (aqy 4) r1.1.1),())).bind fun r2=>
 if !r2.1.2.1 then
 some (((0,0,0,0,noB,()),false,()),())
 else
 if inb 0 r2.1.1.length then
 if inb 1 r2.1.1.length then
 if inb 2 r2.1.1.length then
 if inb 3 r2.1.1.length then
 if inb 4 r1.1.1.length then
 (gY (((rd (dfl .int) r2.1.1 0),(rd (dfl .int) r2.1.1 1),(rd (dfl .int) r2.1.1 2),(rd (dfl .int) r2.1.1 3),(rd (dfl .str) r1.1.1 4),()),())).bind fun r5=>
 if bg (!(!r5.1.1)) ((dj (((rd (dfl .int) r2.1.1 0),(rd (dfl .int) r2.1.1 1),(rd (dfl .int) r2.1.1 2),(rd (dfl .int) r2.1.1 3),(rd (dfl .str) r1.1.1 4),()),())).isSome) then
 if(!r5.1.1)||(!decide (((dj (((rd (dfl .int) r2.1.1 0),(rd (dfl .int) r2.1.1 1),(rd (dfl .int) r2.1.1 2),(rd (dfl .int) r2.1.1 3),(rd (dfl .str) r1.1.1 4),()),())).getD ((noB,()),())).1.1=x.1)) then
 some (((0,0,0,0,noB,()),false,()),())
 else
 some ((((rd (dfl .int) r2.1.1 0),(rd (dfl .int) r2.1.1 1),(rd (dfl .int) r2.1.1 2),(rd (dfl .int) r2.1.1 3),(rd (dfl .str) r1.1.1 4),()),true,()),())
 else none
 else none
 else none
 else none
 else none
 else none
 else none
def BX:Ent:=(180,none,⟨[.str],[Z1,.bool],jM⟩)
def Fg:SQ Tryz.prog BX:=sk (v:= .nil) (fn:=Tryz.f180) Pf kN
def SB:Cx:=cX [] [] [(21,24)]
def Gy:OKC Tryz.prog SB af:=okc mixed (au)
def qk(x:Int×Int×List ajT×Int×Int×aqq):Rnd (Int×Int×List ajT×Int×Int×aqq) (Int×aqq) (aqq):=
 if decide (x.2.2.2.2.1 < x.2.2.2.1) then
 if inb x.2.2.2.2.1 x.2.2.1.length then
 let v27:=(rd (dfl .note) x.2.2.1 x.2.2.2.2.1).fr
 let v28:=(rd (dfl .note) x.2.2.1 x.2.2.2.2.1).nu
 let v29:=(rd (dfl .note) x.2.2.1 x.2.2.2.2.1).to
 let v30:=(rd (dfl .note) x.2.2.1 x.2.2.2.2.1).un
 let v31:=(rd (dfl .note) x.2.2.1 x.2.2.2.2.1).tx
 if(decide (v27=x.1))&&(decide (v28=x.2.1)) then
 some (.inr (.inl x.2.2.2.2))
 else
 some (.inl (x.1,x.2.1,x.2.2.1,x.2.2.2.1,(w64 (x.2.2.2.2.1+1)),()))
 else none
 else
 some (.inr (.inr ()))
def qj:=aR qk
def By:Loop:=⟨[(1,.int .i64),(2,.int .i64),(9,.sl .note),(10,.int .i64),(11,.int .i64)],[],0,[(6,.int .i64)],qj⟩
def Ro:LF Tryz.f50 [] [1,0,1,0,0] By:=sq (v:= .nil) Gy (b:=qk) kN
def ca(x:List ajT×Int×Int×aqq):Option ((Int×aqq)×aqq):=
 (aJ (qj (x.2.1,x.2.2.1,x.1,(x.1.length:Int),0,()))
 (fun y32=>some (y32,()))
 (fun y32=>some (((-1),()),())))
def ia:Ent:=(50,none,⟨[.fz .note,.int .i64,.int .i64],[.int .i64],ca⟩)
def eG:SQ Tryz.prog ia:=sk (v:=t1 (.two (t1 (.one (.loop By))) .nil)) (fn:=Tryz.f50) Gy (kC Ro kN)
def SA:Cx:=cX [nh] [] [(11,25)]
def Gx:OKC Tryz.prog SA af:=okc mixed (gC kK (au))
def qi(x:List ajT×Y0×Int×aqq):Rnd (List ajT×Y0×Int×aqq) (aqq) (List ajT×Y0×Int×aqq):=
 if bg (decide (x.2.2.1 < (x.1.length:Int))) (inb x.2.2.1 x.1.length) then
 if bg (decide (x.2.2.1 < (x.1.length:Int))) (inb x.2.2.1 x.1.length) then
 if bg (decide (x.2.2.1 < (x.1.length:Int))) ((dt ((rd (dfl .note) x.1 x.2.2.1).fr,(rd (dfl .note) x.1 x.2.2.1).nu,x.2.1.1,x.2.1.2.1,())).isSome) then
 if(decide (x.2.2.1 < (x.1.length:Int)))&&(((dt ((rd (dfl .note) x.1 x.2.2.1).fr,(rd (dfl .note) x.1 x.2.2.1).nu,x.2.1.1,x.2.1.2.1,())).getD ((false,()),())).1.1) then
 some (.inl (x.1,x.2.1,(w64 (x.2.2.1+1)),()))
 else
 some (.inr (.inr x))
 else none
 else none
 else none
def qh:=aR qi
def Bx:Loop:=⟨[(0,.sl .note),(3,Z0),(5,.int .i64)],[(0,.sl .note),(3,Z0),(5,.int .i64)],0,[],qh⟩
def Rm:LF Tryz.f202 [] [1,1,0,0,0] Bx:=sq (v:= .nil) Gx (b:=qi) kN
def gW(x:List ajT×Y0×aqq):Option ((List ajT×aqq)×aqq):=
 (aJ (qh (x.1,x.2.1,0,()))
 (fun _=>none)
 (fun y2=>(if decide (0≤y2.2.2.1)&&decide (y2.2.2.1≤(y2.1.length:Int)) then
 if al (([]:List ajT).length+(aqR (aqy y2.2.2.1) y2.1).length) then
 if al ((([]:List ajT)++(aqR (aqy y2.2.2.1) y2.1)).length+([(ajT.mk y2.2.1.1 y2.2.1.2.1 y2.2.1.2.2.1 y2.2.1.2.2.2.1 y2.2.1.2.2.2.2.1)]:List ajT).length) then
 if decide (0≤y2.2.2.1)&&decide (y2.2.2.1≤(y2.1.length:Int)) then
 if al (((([]:List ajT)++(aqR (aqy y2.2.2.1) y2.1))++([(ajT.mk y2.2.1.1 y2.2.1.2.1 y2.2.1.2.2.1 y2.2.1.2.2.2.1 y2.2.1.2.2.2.2.1)]:List ajT)).length+(aq9 (aqy y2.2.2.1) y2.1).length) then
 some (((((([]:List ajT)++(aqR (aqy y2.2.2.1) y2.1))++([(ajT.mk y2.2.1.1 y2.2.1.2.1 y2.2.1.2.2.1 y2.2.1.2.2.2.1 y2.2.1.2.2.2.2.1)]:List ajT))++(aq9 (aqy y2.2.2.1) y2.1)),()),())
 else none
 else none
 else none
 else none
 else none)))
def yv:Ent:=(202,none,⟨[.fz .note,Z1],[.row 46 .note],gW⟩)
def xk:SQ Tryz.prog yv:=sk (v:=t1 (t1 (.two (.one (.loop Bx)) .nil))) (fn:=Tryz.f202) Gx (kC Rm kN)
def SD:Cx:=cX [nh] [] [(11,25)]
def Gz:OKC Tryz.prog SD af:=okc mixed (gC kK (au))
def qp(x:List Mark×Y2×Int×aqq):Rnd (List Mark×Y2×Int×aqq) (aqq) (List Mark×Y2×Int×aqq):=
 if bg (decide (x.2.2.1 < (x.1.length:Int))) (inb x.2.2.1 x.1.length) then
 if bg (decide (x.2.2.1 < (x.1.length:Int))) (inb x.2.2.1 x.1.length) then
 if bg (decide (x.2.2.1 < (x.1.length:Int))) ((dt ((rd (dfl .mark) x.1 x.2.2.1).mf,(rd (dfl .mark) x.1 x.2.2.1).mn,x.2.1.1,x.2.1.2.1,())).isSome) then
 if(decide (x.2.2.1 < (x.1.length:Int)))&&(((dt ((rd (dfl .mark) x.1 x.2.2.1).mf,(rd (dfl .mark) x.1 x.2.2.1).mn,x.2.1.1,x.2.1.2.1,())).getD ((false,()),())).1.1) then
 some (.inl (x.1,x.2.1,(w64 (x.2.2.1+1)),()))
 else
 some (.inr (.inr x))
 else none
 else none
 else none
def qo:=aR qp
def Bz:Loop:=⟨[(0,.sl .mark),(3,Z5),(5,.int .i64)],[(0,.sl .mark),(3,Z5),(5,.int .i64)],0,[],qo⟩
def Rp:LF Tryz.f205 [] [1,1,0,0,0] Bz:=sq (v:= .nil) Gz (b:=qp) kN
def jY(x:List Mark×Y2×aqq):Option ((List Mark×aqq)×aqq):=
 (aJ (qo (x.1,x.2.1,0,()))
 (fun _=>none)
 (fun y2=>(if decide (0≤y2.2.2.1)&&decide (y2.2.2.1≤(y2.1.length:Int)) then
 if al (([]:List Mark).length+(aqR (aqy y2.2.2.1) y2.1).length) then
 if al ((([]:List Mark)++(aqR (aqy y2.2.2.1) y2.1)).length+([(Mark.mk y2.2.1.1 y2.2.1.2.1 y2.2.1.2.2.1)]:List Mark).length) then
 if decide (0≤y2.2.2.1)&&decide (y2.2.2.1≤(y2.1.length:Int)) then
 if al (((([]:List Mark)++(aqR (aqy y2.2.2.1) y2.1))++([(Mark.mk y2.2.1.1 y2.2.1.2.1 y2.2.1.2.2.1)]:List Mark)).length+(aq9 (aqy y2.2.2.1) y2.1).length) then
 some (((((([]:List Mark)++(aqR (aqy y2.2.2.1) y2.1))++([(Mark.mk y2.2.1.1 y2.2.1.2.1 y2.2.1.2.2.1)]:List Mark))++(aq9 (aqy y2.2.2.1) y2.1)),()),())
 else none
 else none
 else none
 else none
 else none)))
def yw:Ent:=(205,none,⟨[.fz .mark,Z6],[.row 59 .mark],jY⟩)
def xm:SQ Tryz.prog yw:=sk (v:=t1 (t1 (.two (.one (.loop Bz)) .nil))) (fn:=Tryz.f205) Gz (kC Rp kN)
def SN:Cx:=cX [ia,ng,ni,yv,yw] [] []
def UR:OKC Tryz.prog SN af:=okc mixed (gC eG (gC kJ (gC kO (gC xk (gC xm (au))))))
def mZ(x:Y1×Y0×aqq):Option ((Y1×Bool×aqq)×aqq):=
 (gY x.2).bind fun r9=>
 if !r9.1.1 then
 some ((x.1,false,()),())
 else
 if decide (x.2.1.2.2.2.1≤x.1.2.1) then
 some ((x.1,false,()),())
 else
 (ca (x.1.2.2.2.1,x.2.1.1,x.2.1.2.1,())).bind fun r10=>
 if decide (0≤r10.1.1) then
 some ((x.1,false,()),())
 else
 (ca (x.1.2.2.2.2.2.1,x.2.1.1,x.2.1.2.1,())).bind fun r11=>
 if decide (0≤r11.1.1) then
 some ((x.1,false,()),())
 else
 (cU (x.1.2.2.2.2.1,x.2.1.1,x.2.1.2.1,())).bind fun r12=>
 if decide (0≤r12.1.1) then
 some ((x.1,false,()),())
 else
 if decide (12 < (w64 ((w64 ((x.1.2.2.2.1.length:Int)+(x.1.2.2.2.2.1.length:Int)))+1))) then
 some ((x.1,false,()),())
 else
 if decide (x.2.1.2.2.1=x.1.1) then
 (gW (x.1.2.2.2.2.2.1,x.2)).bind fun r16=>
 (jY (x.1.2.2.2.2.1,(x.2.1.1,x.2.1.2.1,x.2.1.2.2.2.1,()),())).bind fun r17=>
 some (((x.1.1,x.1.2.1,x.1.2.2.1,x.1.2.2.2.1,r17.1.1,r16.1),true,()),())
 else
 (gW (x.1.2.2.2.1,x.2)).bind fun r18=>
 some (((x.1.1,x.1.2.1,x.1.2.2.1,r18.1.1,x.1.2.2.2.2),true,()),())
def Gj:Ent:=(201,none,⟨[Z3,Z1],[Z3,.bool],mZ⟩)
def JF:SQ Tryz.prog Gj:=sk (v:= .nil) (fn:=Tryz.f201) UR kN
def SJ:Cx:=cX [ia,Gj,yv] [] [(19,23),(38,42),(59,66)]
def UN:OKC Tryz.prog SJ af:=okc mixed (gC eG (gC JF (gC xk (au))))
def mX(x:Y1×aqp×Y0×aqq):Option ((Y1×Bool×aqq)×aqq):=
 (bB (X:=aqp×Y1×Y0×Y1×Bool×aqq) (fun j16=>
 if j16.2.2.2.2.1 then
 let v18:=(w64 (j16.2.1.2.2.1+1))
 (mZ ((j16.2.1.1,j16.2.1.2.1,v18,j16.2.1.2.2.2),j16.2.2.1,())).bind fun r19=>
 some (r19.1,())
 else
 let v20:=((decide (j16.1=(B [116,97,107,101])))&&(!decide (j16.2.2.1.1=j16.2.1.1)))
 (if v20 then
 (mZ (j16.2.1,j16.2.2.1,())).bind fun r21=>
 some (r21.1,())
 else
 (ca (j16.2.1.2.2.2.1,j16.2.2.1.1,j16.2.2.1.2.1,())).bind fun r22=>
 if bg (!(decide (0≤r22.1.1))) ((ca (j16.2.1.2.2.2.2.2.1,j16.2.2.1.1,j16.2.2.1.2.1,())).isSome) then
 let v23:=((decide (0≤r22.1.1))||(decide (0≤((ca (j16.2.1.2.2.2.2.2.1,j16.2.2.1.1,j16.2.2.1.2.1,())).getD ((0,()),())).1.1)))
 (if v23 then
 some ((j16.2.1,false,()),())
 else
 let v24:=(decide (j16.1=(B [104,101,108,100])))
 (if v24 then
 (gW (j16.2.1.2.2.2.1,j16.2.2.1,())).bind fun r25=>
 some (((j16.2.1.1,j16.2.1.2.1,j16.2.1.2.2.1,r25.1.1,j16.2.1.2.2.2.2),true,()),())
 else
 let v26:=(decide (j16.1=(B [105,110,98,111,120])))
 (if v26 then
 (gW (j16.2.1.2.2.2.2.2.1,j16.2.2.1,())).bind fun r27=>
 some (((j16.2.1.1,j16.2.1.2.1,j16.2.1.2.2.1,j16.2.1.2.2.2.1,j16.2.1.2.2.2.2.1,r27.1),true,()),())
 else
 some ((j16.2.1,false,()),()))))
 else none))
 ((if decide (x.2.1=(B [111,119,110])) then
 let v17:=((decide (x.2.2.1.1=x.1.1))&&(decide (x.2.2.1.2.1=x.1.2.2.1)))
 some (.inr (x.2.1,x.1,x.2.2.1,(0,0,0,([]:List ajT),([]:List Mark),([]:List ajT),()),v17,()))
 else
 some (.inr (x.2.1,x.1,x.2.2.1,(0,0,0,([]:List ajT),([]:List Mark),([]:List ajT),()),false,())))))
def Gg:Ent:=(181,none,⟨[Z3,.str,Z1],[Z3,.bool],mX⟩)
def JB:SQ Tryz.prog Gg:=sk (v:=t1 (.two (.one (.join [(1,.str),(3,Z2),(5,Z0),(6,Z4),(8,.bool)] .nil .nil)) .nil)) (fn:=Tryz.f181) UN kN
def OP:Cx:=cX [] [] []
def Td:OKC Tryz.prog OP af:=okc mixed (au)
def iS(x:List ajT×Int×aqq):Option ((List ajT×aqq)×aqq):=
 if decide (0≤x.2.1)&&decide (x.2.1≤(x.1.length:Int)) then
 if al (([]:List ajT).length+(aqR (aqy x.2.1) x.1).length) then
 if decide (0≤(w64 (x.2.1+1)))&&decide ((w64 (x.2.1+1))≤(x.1.length:Int)) then
 if al ((([]:List ajT)++(aqR (aqy x.2.1) x.1)).length+(aq9 (aqy (w64 (x.2.1+1))) x.1).length) then
 some ((((([]:List ajT)++(aqR (aqy x.2.1) x.1))++(aq9 (aqy (w64 (x.2.1+1))) x.1)),()),())
 else none
 else none
 else none
 else none
def DP:Ent:=(204,none,⟨[.fz .note,.int .i64],[.row 46 .note],iS⟩)
def Hn:SQ Tryz.prog DP:=sk (v:= .nil) (fn:=Tryz.f204) Td kN
def SK:Cx:=cX [ia,ng,DP,yw] [] [(41,49),(70,78),(90,91)]
def UO:OKC Tryz.prog SK af:=okc mixed (gC eG (gC kJ (gC Hn (gC xm (au)))))
def mY(x:Y1×aqp×Y2×aqq):Option ((Y1×Bool×aqq)×aqq):=
 (ca (x.1.2.2.2.1,x.2.2.1.1,x.2.2.1.2.1,())).bind fun r1=>
 (ca (x.1.2.2.2.2.2.1,x.2.2.1.1,x.2.2.1.2.1,())).bind fun r2=>
 (cU (x.1.2.2.2.2.1,x.2.2.1.1,x.2.2.1.2.1,())).bind fun r3=>
 (bB (X:=aqp×Y1×Y2×Y1×Int×Int×Bool×Bool×aqq) (fun j16=>
 if j16.2.2.2.2.2.2.2.1 then
 (iS (j16.2.1.2.2.2.1,j16.2.2.2.2.1,())).bind fun r18=>
 (jY (j16.2.1.2.2.2.2.1,j16.2.2.1,())).bind fun r19=>
 some (((j16.2.1.1,j16.2.1.2.1,j16.2.1.2.2.1,r18.1.1,r19.1.1,j16.2.1.2.2.2.2.2),true,()),())
 else
 (bB (X:=aqp×Y1×Y2×Y1×Int×Bool×Bool×aqq) (fun j20=>
 if j20.2.2.2.2.2.2.1 then
 (iS (j20.2.1.2.2.2.2.2.1,j20.2.2.2.2.1,())).bind fun r22=>
 some (((j20.2.1.1,j20.2.1.2.1,j20.2.1.2.2.1,j20.2.1.2.2.2.1,j20.2.1.2.2.2.2.1,r22.1),true,()),())
 else
 let v23:=((decide (j20.1=(B [109,97,114,107])))&&(!j20.2.2.2.2.2.1))
 (if v23 then
 (jY (j20.2.1.2.2.2.2.1,j20.2.2.1,())).bind fun r24=>
 some (((j20.2.1.1,j20.2.1.2.1,j20.2.1.2.2.1,j20.2.1.2.2.2.1,r24.1.1,j20.2.1.2.2.2.2.2),true,()),())
 else
 some ((j20.2.1,false,()),())))
 ((if decide (j16.1=(B [101,97,116])) then
 if bg (decide (0≤j16.2.2.2.2.2.1)) (inb j16.2.2.2.2.2.1 j16.2.1.2.2.2.2.2.1.length) then
 let v21:=((decide (0≤j16.2.2.2.2.2.1))&&(decide ((rd (dfl .note) j16.2.1.2.2.2.2.2.1 j16.2.2.2.2.2.1).un=j16.2.2.1.2.2.1)))
 some (.inr (j16.1,j16.2.1,j16.2.2.1,j16.2.2.2.1,j16.2.2.2.2.2.1,j16.2.2.2.2.2.2.1,v21,()))
 else none
 else
 if bg false (inb j16.2.2.2.2.2.1 j16.2.1.2.2.2.2.2.1.length) then
 some (.inr (j16.1,j16.2.1,j16.2.2.1,j16.2.2.2.1,j16.2.2.2.2.2.1,j16.2.2.2.2.2.2.1,false,()))
 else none))))
 ((if decide (x.2.1=(B [108,101,116])) then
 if bg (decide (0≤r1.1.1)) (inb r1.1.1 x.1.2.2.2.1.length) then
 let v17:=((decide (0≤r1.1.1))&&(decide ((rd (dfl .note) x.1.2.2.2.1 r1.1.1).un=x.2.2.1.2.2.1)))
 some (.inr (x.2.1,x.1,x.2.2.1,(0,0,0,([]:List ajT),([]:List Mark),([]:List ajT),()),r1.1.1,r2.1.1,(decide (0≤r3.1.1)),v17,()))
 else none
 else
 if bg false (inb r1.1.1 x.1.2.2.2.1.length) then
 some (.inr (x.2.1,x.1,x.2.2.1,(0,0,0,([]:List ajT),([]:List Mark),([]:List ajT),()),r1.1.1,r2.1.1,(decide (0≤r3.1.1)),false,()))
 else none)))
def Gh:Ent:=(184,none,⟨[Z3,.str,Z6],[Z3,.bool],mY⟩)
def JC:SQ Tryz.prog Gh:=sk (v:=t1 (t1 (t1 (.two (.one (.join [(1,.str),(3,Z2),(5,Z5),(6,Z4),(8,.int .i64),(9,.int .i64),(10,.bool),(33,.bool)] .nil (t1 (.join [(1,.str),(3,Z2),(5,Z5),(6,Z4),(9,.int .i64),(10,.bool),(62,.bool)] .nil .nil)))) .nil)))) (fn:=Tryz.f184) UO kN
def Uu:Cx:=cX [qW,FZ,JZ,BX,Gg,tV,BM,Gh] [] [(69,71)]
def Xj:OKC Tryz.prog Uu af:=okc mixed (gC oB (gC Ii (gC LR (gC Fg (gC JB (gC uw (gC ET (gC JC (au)))))))))
def qC(x:Y1×aqp×aqq):Option ((Y1×Bool×aqq)×aqq):=
 (mR (x.2.1,(B [32]),())).bind fun r1=>
 if !r1.1.2.2.1 then
 some ((x.1,false,()),())
 else
 (bB (X:=Y1×Y1×aqp×aqp×aqp×Bool×aqq) (fun j30=>
 if j30.2.2.2.2.2.1 then
 (fQ (j30.2.2.2.1,())).bind fun r33=>
 if r33.1.2.1 then
 (qA (j30.1,j30.2.2.1,r33.1.1,())).bind fun r34=>
 some (r34.1,())
 else
 some ((j30.1,false,()),())
 else
 (bB (X:=Y1×Y1×aqp×aqp×aqp×Bool×aqq) (fun j35=>
 if j35.2.2.2.2.2.1 then
 (jM (j35.2.2.2.1,())).bind fun r40=>
 if r40.1.2.1 then
 (mX (j35.1,j35.2.2.1,r40.1.1,())).bind fun r41=>
 some (r41.1,())
 else
 some ((j35.1,false,()),())
 else
 (bB (X:=Y1×Y1×aqp×aqp×Bool×aqq) (fun j42=>
 if j42.2.2.2.2.1 then
 (nq (j42.2.2.2.1,(B [32]),())).bind fun r46=>
 (gj r46.1).bind fun r47=>
 if r47.1.2.1&&(decide ((r47.1.1.length:Int)=3)) then
 if inb 0 r47.1.1.length then
 if inb 1 r47.1.1.length then
 if inb 2 r47.1.1.length then
 (mY (j42.1,j42.2.2.1,((rd (dfl .int) r47.1.1 0),(rd (dfl .int) r47.1.1 1),(rd (dfl .int) r47.1.1 2),()),())).bind fun r48=>
 some (r48.1,())
 else none
 else none
 else none
 else
 some ((j42.1,false,()),())
 else
 some ((j42.1,false,()),()))
 (let v43:=(decide (j35.2.2.2.2.1=(B [108,101,116])))
 (if v43 then
 some (.inr (j35.1,j35.2.1,j35.2.2.1,j35.2.2.2.1,v43,()))
 else
 let v44:=(decide (j35.2.2.2.2.1=(B [101,97,116])))
 (if v44 then
 some (.inr (j35.1,j35.2.1,j35.2.2.1,j35.2.2.2.1,v44,()))
 else
 let v45:=(decide (j35.2.2.2.2.1=(B [109,97,114,107])))
 some (.inr (j35.1,j35.2.1,j35.2.2.1,j35.2.2.2.1,v45,())))))))
 (let v36:=(decide (j30.2.2.2.2.1=(B [111,119,110])))
 (if v36 then
 some (.inr (j30.1,j30.2.1,j30.2.2.1,j30.2.2.2.1,j30.2.2.2.2.1,v36,()))
 else
 let v37:=(decide (j30.2.2.2.2.1=(B [116,97,107,101])))
 (if v37 then
 some (.inr (j30.1,j30.2.1,j30.2.2.1,j30.2.2.2.1,j30.2.2.2.2.1,v37,()))
 else
 let v38:=(decide (j30.2.2.2.2.1=(B [104,101,108,100])))
 (if v38 then
 some (.inr (j30.1,j30.2.1,j30.2.2.1,j30.2.2.2.1,j30.2.2.2.2.1,v38,()))
 else
 let v39:=(decide (j30.2.2.2.2.1=(B [105,110,98,111,120])))
 some (.inr (j30.1,j30.2.1,j30.2.2.1,j30.2.2.2.1,j30.2.2.2.2.1,v39,()))))))))
 (let v31:=(decide (r1.1.1=(B [116,105,109,101])))
 (if v31 then
 some (.inr (x.1,(0,0,0,([]:List ajT),([]:List Mark),([]:List ajT),()),r1.1.1,r1.1.2.1,r1.1.1,v31,()))
 else
 let v32:=(decide (r1.1.1=(B [110,101,120,116])))
 some (.inr (x.1,(0,0,0,([]:List ajT),([]:List Mark),([]:List ajT),()),r1.1.1,r1.1.2.1,r1.1.1,v32,())))))
def J0:Ent:=(146,none,⟨[Z3,.str],[Z3,.bool],qC⟩)
def LS:SQ Tryz.prog J0:=sk (v:=t1 (t1 (t1 (.two (t1 (.one (.join [(2,Z2),(4,Z4),(6,.str),(7,.str),(24,.str),(25,.bool)] .nil (t1 (.join [(2,Z2),(4,Z4),(6,.str),(7,.str),(24,.str),(40,.bool)] .nil (t1 (.join [(2,Z2),(4,Z4),(6,.str),(7,.str),(57,.bool)] .nil .nil))))))) .nil)))) (fn:=Tryz.f146) Xj kN
def Fu:Cx:=cX [] [] []
def HY:OKC Tryz.prog Fu af:=okc mixed (au)
def jA(x:List ajT×aqq):Option ((List ajT×aqq)×aqq):=
 if decide ((x.1.length:Int)=0) then
 some ((([]:List ajT),()),())
 else
 if decide (0≤(x.1.length:Int))&&decide ((x.1.length:Int)≤4294967296) then
 some (((aqR (aqQ (aqy (x.1.length:Int)) (dfl .note)).length x.1++aq9 x.1.length (aqQ (aqy (x.1.length:Int)) (dfl .note))),()),())
 else none
def wj:Ent:=(185,none,⟨[.fz .note],[.row 46 .note],jA⟩)
def AL:SQ Tryz.prog wj:=sk (v:= .nil) (fn:=Tryz.f185) HY kN
def Fv:Cx:=cX [] [] []
def HZ:OKC Tryz.prog Fv af:=okc mixed (au)
def oE(x:List Mark×aqq):Option ((List Mark×aqq)×aqq):=
 if decide ((x.1.length:Int)=0) then
 some ((([]:List Mark),()),())
 else
 if decide (0≤(x.1.length:Int))&&decide ((x.1.length:Int)≤4294967296) then
 some (((aqR (aqQ (aqy (x.1.length:Int)) (dfl .mark)).length x.1++aq9 x.1.length (aqQ (aqy (x.1.length:Int)) (dfl .mark))),()),())
 else none
def wm:Ent:=(186,none,⟨[.fz .mark],[.row 59 .mark],oE⟩)
def AM:SQ Tryz.prog wm:=sk (v:= .nil) (fn:=Tryz.f186) HZ kN
def Mu:Cx:=cX [wj,wm] [] []
def Pc:OKC Tryz.prog Mu af:=okc mixed (gC AL (gC AM (au)))
def gk(x:Y1×aqq):Option ((Y1×aqq)×aqq):=
 (jA (x.1.2.2.2.1,())).bind fun r1=>
 (oE (x.1.2.2.2.2.1,())).bind fun r2=>
 (jA x.1.2.2.2.2.2).bind fun r3=>
 some (((x.1.1,x.1.2.1,x.1.2.2.1,r1.1.1,r2.1.1,r3.1),()),())
def BV:Ent:=(147,none,⟨[Z3],[Z7],gk⟩)
def Fc:SQ Tryz.prog BV:=sk (v:= .nil) (fn:=Tryz.f147) Pc kN
def SU:Cx:=cX [yz,J0,BV] [] [(22,24)]
def UT:OKC Tryz.prog SU af:=okc mixed (gC xz (gC LS (gC Fc (au))))
def kb(x:Y1×aqp×aqq):Option ((Y1×Bool×aqq)×aqq):=
 (gZ (x.1,())).bind fun r2=>
 if !r2.1.1 then
 some (((0,0,0,([]:List ajT),([]:List Mark),([]:List ajT),()),false,()),())
 else
 (gk (x.1,())).bind fun r3=>
 (qC (r3.1.1,x.2)).bind fun r4=>
 if bg (!(!r4.1.2.1)) ((gZ (r4.1.1,())).isSome) then
 if(!r4.1.2.1)||(!(((gZ (r4.1.1,())).getD ((false,()),())).1.1)) then
 (gk (x.1,())).bind fun r6=>
 some ((r6.1.1,false,()),())
 else
 (gk (r4.1.1,())).bind fun r7=>
 some ((r7.1.1,true,()),())
 else none
def yA:Ent:=(107,none,⟨[Z3,.str],[Z7,.bool],kb⟩)
def xB:SQ Tryz.prog yA:=sk (v:= .nil) (fn:=Tryz.f107) UT kN
def Ks:Cx:=cX [cV] [] []
def MX:OKC Tryz.prog Ks af:=okc mixed (gC bU (au))
def mg(x:Int×aqq):Option ((Y1×aqq)×aqq):=
 (bj x).bind fun r2=>
 if !r2.1.1 then
 some (((0,0,0,([]:List ajT),([]:List Mark),([]:List ajT),()),()),())
 else
 some (((x.1,0,1,([]:List ajT),([]:List Mark),([]:List ajT),()),()),())
def z6:Ent:=(150,none,⟨[.int .i64],[Z7],mg⟩)
def Du:SQ Tryz.prog z6:=sk (v:= .nil) (fn:=Tryz.f150) MX kN
def SS:Cx:=cX [cV,yA,z6] [] []
def GD:OKC Tryz.prog SS af:=okc mixed (gC bU (gC xB (gC Du (au))))
def lB(x:Y1×Y1×List aqp×Int×Int×aqq):Rnd (Y1×Y1×List aqp×Int×Int×aqq) (Y1×Bool×aqq) (Y1×Y1×aqq):=
 if decide (x.2.2.2.2.1 < x.2.2.2.1) then
 if inb x.2.2.2.2.1 x.2.2.1.length then
 let v15:=(rd (dfl .str) x.2.2.1 x.2.2.2.2.1)
 (kb (x.2.1,v15,())).bind fun r16=>
 if !r16.1.2.1 then
 some (.inr (.inl ((0,0,0,([]:List ajT),([]:List Mark),([]:List ajT),()),false,())))
 else
 some (.inl (x.1,r16.1.1,x.2.2.1,x.2.2.2.1,(w64 (x.2.2.2.2.1+1)),()))
 else none
 else
 some (.inr (.inr (x.1,x.2.1,())))
def qQ:=aR lB
def BL:Loop:=⟨[(4,Z4),(6,Z4),(17,.sl .str),(18,.int .i64),(19,.int .i64)],[(4,Z4),(6,Z4)],0,[(4,Z4),(5,.bool)],qQ⟩
def Rv:LF Tryz.f113 [] [1,1,1,0,1,0,0] BL:=sq (v:= .nil) GD (b:=lB) kN
def sy(x:Int×List aqp×aqq):Option ((Y1×Bool×aqq)×aqq):=
 (bj (x.1,())).bind fun r2=>
 if !r2.1.1 then
 some (((0,0,0,([]:List ajT),([]:List Mark),([]:List ajT),()),false,()),())
 else
 (mg (x.1,())).bind fun r3=>
 (aJ (qQ ((0,0,0,([]:List ajT),([]:List Mark),([]:List ajT),()),r3.1.1,x.2.1,(x.2.1.length:Int),0,()))
 (fun y17=>some (y17,()))
 (fun y17=>some ((y17.2.1,true,()),())))
def Gl:Ent:=(113,none,⟨[.int .i64,.fz .str],[Z7,.bool],sy⟩)
def JM:SQ Tryz.prog Gl:=sk (v:=t1 (t1 (t1 (.two (t1 (.one (.loop BL))) .nil)))) (fn:=Tryz.f113) GD (kC Rv kN)
def ON:Cx:=cX [mm,Gl] [] []
def Tc:OKC Tryz.prog ON af:=okc mixed (gC lv (gC JM (au)))
def cT(x:Int×aqp×aqq):Option ((Y1×Bool×aqq)×aqq):=
 (dT x.2).bind fun r1=>
 (sy (x.1,r1.1.1,())).bind fun r2=>
 some (r2.1,())
def qV:Ent:=(61,none,⟨[.int .i64,.str],[Z7,.bool],cT⟩)
def oz:SQ Tryz.prog qV:=sk (v:= .nil) (fn:=Tryz.f61) Tc kN
def OU:Cx:=cX [cD,mm] [] [(12,18),(41,44)]
def Tf:OKC Tryz.prog OU af:=okc mixed (gC bk (gC lv (au)))
def et(x:Y4×aqq):Option ((Bool×aqq)×aqq):=
 if bg (!(decide (2400 < (x.1.1.size:Int)))) ((aK (x.1.2.1,0,(x.1.1.size:Int),())).isSome) then
 if(decide (2400 < (x.1.1.size:Int)))||(!(((aK (x.1.2.1,0,(x.1.1.size:Int),())).getD ((false,()),())).1.1)) then
 some ((false,()),())
 else
 (dT (x.1.1,())).bind fun r1=>
 if decide (0≤x.1.2.1)&&decide (x.1.2.1≤(x.1.1.size:Int)) then
 (dT ((x.1.1.extract (0) (aqy x.1.2.1)),())).bind fun r2=>
 let v4:=((decide (r1.1.2.1=(x.1.1.size:Int)))&&(decide (r2.1.2.1=x.1.2.1)))
 some ((v4,()),())
 else none
 else none
def jb:Ent:=(97,none,⟨[Z9],[.bool],et⟩)
def fR:SQ Tryz.prog jb:=sk (v:= .nil) (fn:=Tryz.f97) Tf kN
def SG:Cx:=cX [cV,cD] [] [(54,57)]
def yC:OKC Tryz.prog SG af:=okc mixed (gC bU (gC bk (au)))
def qx(x:Y6×Y5×List ajV×Int×Int×List ajV×Int×Int×aqq):Rnd (Y6×Y5×List ajV×Int×Int×List ajV×Int×Int×aqq) (Bool×aqq) (Y6×List ajV×Int×Int×aqq):=
 if decide (x.2.2.2.2.2.2.2.1 < x.2.2.2.2.2.2.1) then
 if inb x.2.2.2.2.2.2.2.1 x.2.2.2.2.2.1.length then
 let v72:=(rd (dfl .mixed) x.2.2.2.2.2.1 x.2.2.2.2.2.2.2.1).nu
 let v73:=(rd (dfl .mixed) x.2.2.2.2.2.1 x.2.2.2.2.2.2.2.1).da
 if decide (v72=x.2.1.1) then
 some (.inr (.inl (false,())))
 else
 some (.inl (x.1,x.2.1,x.2.2.1,x.2.2.2.1,x.2.2.2.2.1,x.2.2.2.2.2.1,x.2.2.2.2.2.2.1,(w64 (x.2.2.2.2.2.2.2.1+1)),()))
 else none
 else
 some (.inr (.inr (x.1,x.2.2.1,x.2.2.2.1,x.2.2.2.2.1,())))
def qv:=aR qx
def BC:Loop:=⟨[(1,Z11),(4,Z31),(42,.sl .mixed),(43,.int .i64),(44,.int .i64),(62,.sl .mixed),(63,.int .i64),(64,.int .i64)],[(1,Z11),(42,.sl .mixed),(43,.int .i64),(44,.int .i64)],2,[(2,.bool)],qv⟩
def Q8:LF Tryz.f98 [] [1,1,0,1,0,0,1,1,0,0,1,1,1,0,0] BC:=sq (v:= .nil) yC (b:=qx) kN
def qy(x:Y6×List ajV×Int×Int×aqq):Rnd (Y6×List ajV×Int×Int×aqq) (Bool×aqq) (aqq):=
 if decide (x.2.2.2.1 < x.2.2.1) then
 if inb x.2.2.2.1 x.2.1.length then
 let v63:=(rd (dfl .mixed) x.2.1 x.2.2.2.1).nu
 let v64:=(rd (dfl .mixed) x.2.1 x.2.2.2.1).da
 (aK (v63,0,999,())).bind fun r65=>
 if(!r65.1.1)||(!decide ((v64.size:Int)=4)) then
 some (.inr (.inl (false,())))
 else
 if decide (0≤x.2.2.2.1)&&decide (x.2.2.2.1≤(x.1.2.2.2.2.2.1.length:Int)) then
 (aJ (qv (x.1,(v63,v64,()),x.2.1,x.2.2.1,x.2.2.2.1,(aqR (aqy x.2.2.2.1) x.1.2.2.2.2.2.1),((aqR (aqy x.2.2.2.1) x.1.2.2.2.2.2.1).length:Int),0,()))
 (fun y74=>some (.inr (.inl y74)))
 (fun y74=>some (.inl (y74.1,y74.2.1,y74.2.2.1,(w64 (y74.2.2.2.1+1)),()))))
 else none
 else none
 else
 some (.inr (.inr ()))
def qw:=aR qy
def BD:Loop:=⟨[(1,Z11),(42,.sl .mixed),(43,.int .i64),(44,.int .i64)],[],0,[(2,.bool)],qw⟩
def Rr:LF Tryz.f98 [] [1,1,0,1,0,0] BD:=sq (v:=t1 (t1 (.two (.one (t1 (t1 (t1 (.one (.loop BC)))))) .nil))) yC (b:=qy) (kC Q8 kN)
def su(x:Y6×aqq):Option ((Bool×aqq)×aqq):=
 (bj (x.1.1,())).bind fun r11=>
 if !r11.1.1 then
 some ((false,()),())
 else
 (bj (x.1.2.2.1,())).bind fun r12=>
 if !r12.1.1 then
 some ((false,()),())
 else
 (aK (x.1.2.1,1,99,())).bind fun r13=>
 if !r13.1.1 then
 some ((false,()),())
 else
 (aK (x.1.2.2.2.1,1,999,())).bind fun r14=>
 if !r14.1.1 then
 some ((false,()),())
 else
 (aK (x.1.2.2.2.2.1,1,24,())).bind fun r15=>
 if !r15.1.1 then
 some ((false,()),())
 else
 if decide (14 < (x.1.2.2.2.2.2.1.length:Int)) then
 some ((false,()),())
 else
 (aJ (qw (x.1,x.1.2.2.2.2.2.1,(x.1.2.2.2.2.2.1.length:Int),0,()))
 (fun y75=>some (y75,()))
 (fun y75=>some ((true,()),())))
def Gf:Ent:=(98,none,⟨[Z12],[.bool],su⟩)
def JA:SQ Tryz.prog Gf:=sk (v:=t1 (t1 (.two (t1 (.one (.loop BD))) .nil))) (fn:=Tryz.f98) yC (kC Rr kN)
def SH:Cx:=cX [] [] [(21,24)]
def GB:OKC Tryz.prog SH af:=okc mixed (au)
def lr(x:Int×Int×List ajY×Int×Int×aqq):Rnd (Int×Int×List ajY×Int×Int×aqq) (Int×aqq) (aqq):=
 if decide (x.2.2.2.2.1 < x.2.2.2.1) then
 if inb x.2.2.2.2.1 x.2.2.1.length then
 let v32:=(rd (dfl .half) x.2.2.1 x.2.2.2.2.1).fr
 let v33:=(rd (dfl .half) x.2.2.1 x.2.2.2.2.1).nu
 let v34:=(rd (dfl .half) x.2.2.1 x.2.2.2.2.1).to
 let v35:=(rd (dfl .half) x.2.2.1 x.2.2.2.2.1).un
 let v36:=(rd (dfl .half) x.2.2.1 x.2.2.2.2.1).sz
 let v37:=(rd (dfl .half) x.2.2.1 x.2.2.2.2.1).got
 if(decide (v32=x.1))&&(decide (v33=x.2.1)) then
 some (.inr (.inl x.2.2.2.2))
 else
 some (.inl (x.1,x.2.1,x.2.2.1,x.2.2.2.1,(w64 (x.2.2.2.2.1+1)),()))
 else none
 else
 some (.inr (.inr ()))
def qz:=aR lr
def BE:Loop:=⟨[(1,.int .i64),(2,.int .i64),(9,.sl .half),(10,.int .i64),(11,.int .i64)],[],0,[(6,.int .i64)],qz⟩
def Rs:LF Tryz.f99 [] [1,0,1,0,0] BE:=sq (v:= .nil) GB (b:=lr) kN
def j0(x:List ajY×Int×Int×aqq):Option ((Int×aqq)×aqq):=
 (aJ (qz (x.2.1,x.2.2.1,x.1,(x.1.length:Int),0,()))
 (fun y38=>some (y38,()))
 (fun y38=>some (((-1),()),())))
def yx:Ent:=(99,none,⟨[.fz .half,.int .i64,.int .i64],[.int .i64],j0⟩)
def xo:SQ Tryz.prog yx:=sk (v:=t1 (.two (t1 (.one (.loop BE))) .nil)) (fn:=Tryz.f99) GB (kC Rs kN)
def Mz:Cx:=cX [cV,qV,jb,Gf,yx] [] [(61,62),(76,84)]
def B4:OKC Tryz.prog Mz af:=okc mixed (gC bU (gC oz (gC fR (gC JA (gC xo (au))))))
def me(x:Y3×List ajY×Int×Int×aqq):Rnd (Y3×List ajY×Int×Int×aqq) (Bool×aqq) (aqq):=
 if decide (x.2.2.2.1 < x.2.2.1) then
 if inb x.2.2.2.1 x.2.1.length then
 let v49:=(rd (dfl .half) x.2.1 x.2.2.2.1).fr
 let v50:=(rd (dfl .half) x.2.1 x.2.2.2.1).nu
 let v51:=(rd (dfl .half) x.2.1 x.2.2.2.1).to
 let v52:=(rd (dfl .half) x.2.1 x.2.2.2.1).un
 let v53:=(rd (dfl .half) x.2.1 x.2.2.2.1).sz
 let v54:=(rd (dfl .half) x.2.1 x.2.2.2.1).got
 (su ((v49,v50,v51,v52,v53,v54,()),())).bind fun r55=>
 if bg (!(!r55.1.1)) ((j0 (x.1.2.2.2.2.1,v49,v50,())).isSome) then
 if(!r55.1.1)||(decide (((j0 (x.1.2.2.2.2.1,v49,v50,())).getD ((0,()),())).1.1 < x.2.2.2.1)) then
 some (.inr (.inl (false,())))
 else
 some (.inl (x.1,x.2.1,x.2.2.1,(w64 (x.2.2.2.1+1)),()))
 else none
 else none
 else
 some (.inr (.inr ()))
def iu:=aR me
def xu:Loop:=⟨[(1,Z13),(65,.sl .half),(66,.int .i64),(67,.int .i64)],[],0,[(2,.bool)],iu⟩
def LM:LF Tryz.f47 [] [1,1,1,1,1,0,1,0,0] xu:=sq (v:= .nil) B4 (b:=me) kN
def cZ(x:Y3×aqq):Option ((Bool×aqq)×aqq):=
 (bB (X:=Y3×aqq) (fun j5=>
 (cT (j5.1.1,j5.1.2.2.1,())).bind fun r8=>
 if decide (0≤j5.1.2.2.2.1)&&decide (j5.1.2.2.2.1≤(j5.1.2.2.1.size:Int)) then
 (cT (j5.1.1,(j5.1.2.2.1.extract (0) (aqy j5.1.2.2.2.1)),())).bind fun r9=>
 if(!r8.1.2.1)||(!r9.1.2.1) then
 some ((false,()),())
 else
 (aJ (iu (j5.1,j5.1.2.2.2.2.1,(j5.1.2.2.2.2.1.length:Int),0,()))
 (fun y56=>some (y56,()))
 (fun y56=>some ((true,()),())))
 else none)
 ((bj (x.1.1,())).bind fun r6=>
 if !r6.1.1 then
 some (.inl ((false,()),()))
 else
 (et ((x.1.2.2.1,x.1.2.2.2.1,()),())).bind fun r7=>
 if !r7.1.1 then
 some (.inl ((false,()),()))
 else
 if decide (3 < (x.1.2.2.2.2.1.length:Int)) then
 some (.inl ((false,()),()))
 else
 if !x.1.2.1 then
 if decide (0 < (x.1.2.2.2.2.1.length:Int)) then
 some (.inl ((false,()),()))
 else
 some (.inr x)
 else
 some (.inr x)))
def eZ:Ent:=(47,none,⟨[Z8],[.bool],cZ⟩)
def dG:SQ Tryz.prog eZ:=sk (v:=t1 (.join [(1,Z13)] .nil (t1 (t1 (t1 (.two (t1 (.one (.loop xu))) .nil)))))) (fn:=Tryz.f47) B4 (kC LM kN)
def Kr:Cx:=cX [eZ,qV] [] []
def MW:OKC Tryz.prog Kr af:=okc mixed (gC dG (gC oz (au)))
def bP(x:Y3×aqq):Option ((Y1×aqq)×aqq):=
 (cZ x).bind fun r2=>
 if !r2.1.1 then
 some (((0,0,0,([]:List ajT),([]:List Mark),([]:List ajT),()),()),())
 else
 (cT (x.1.1,x.1.2.2.1,())).bind fun r3=>
 some ((r3.1.1,()),())
def dU:Ent:=(19,none,⟨[Z8],[Z7],bP⟩)
def dk:SQ Tryz.prog dU:=sk (v:= .nil) (fn:=Tryz.f19) MW kN
def Fw:Cx:=cX [] [] []
def H4:OKC Tryz.prog Fw af:=okc mixed (au)
def oF(x:List ajY×aqq):Option ((List ajY×aqq)×aqq):=
 if decide ((x.1.length:Int)=0) then
 some ((([]:List ajY),()),())
 else
 if decide (0≤(x.1.length:Int))&&decide ((x.1.length:Int)≤4294967296) then
 some (((aqR (aqQ (aqy (x.1.length:Int)) (dfl .half)).length x.1++aq9 x.1.length (aqQ (aqy (x.1.length:Int)) (dfl .half))),()),())
 else none
def wq:Ent:=(100,none,⟨[.fz .half],[.row 101 .half],oF⟩)
def AN:SQ Tryz.prog wq:=sk (v:= .nil) (fn:=Tryz.f100) H4 kN
def D0:Cx:=cX [] [] []
def Fz:OKC Tryz.prog D0 af:=okc mixed (au)
def mO(x:List ajV×aqq):Option ((List ajV×aqq)×aqq):=
 if decide ((x.1.length:Int)=0) then
 some ((([]:List ajV),()),())
 else
 if decide (0≤(x.1.length:Int))&&decide ((x.1.length:Int)≤4294967296) then
 some (((aqR (aqQ (aqy (x.1.length:Int)) (dfl .mixed)).length x.1++aq9 x.1.length (aqQ (aqy (x.1.length:Int)) (dfl .mixed))),()),())
 else none
def uB:Ent:=(101,none,⟨[.fz .mixed],[.row 120 .mixed],mO⟩)
def zt:SQ Tryz.prog uB:=sk (v:= .nil) (fn:=Tryz.f101) Fz kN
def HO:Cx:=cX [wq,uB] [] []
def xV:OKC Tryz.prog HO af:=okc mixed (gC AN (gC zt (au)))
def jz(x:Y3×Y3×Int×Int×aqq):Rnd (Y3×Y3×Int×Int×aqq) (aqq) (Y3×Y3×aqq):=
 if decide (x.2.2.2.1 < x.2.2.1) then
 if inb x.2.2.2.1 x.2.1.2.2.2.2.1.length then
 (mO ((rd (dfl .half) x.2.1.2.2.2.2.1 x.2.2.2.1).got,())).bind fun r8=>
 if inb x.2.2.2.1 x.2.1.2.2.2.2.1.length then
 some (.inl (x.1,(x.2.1.1,x.2.1.2.1,x.2.1.2.2.1,x.2.1.2.2.2.1,(aqZ x.2.1.2.2.2.2.1 (aqy x.2.2.2.1) (ajY.mk ((rd (dfl .half) x.2.1.2.2.2.2.1 x.2.2.2.1).fr) ((rd (dfl .half) x.2.1.2.2.2.2.1 x.2.2.2.1).nu) ((rd (dfl .half) x.2.1.2.2.2.2.1 x.2.2.2.1).to) ((rd (dfl .half) x.2.1.2.2.2.2.1 x.2.2.2.1).un) ((rd (dfl .half) x.2.1.2.2.2.2.1 x.2.2.2.1).sz) r8.1.1)),()),x.2.2.1,(w64 (x.2.2.2.1+1)),()))
 else none
 else none
 else
 some (.inr (.inr (x.1,x.2.1,())))
def kq:=aR jz
def ux:Loop:=⟨[(2,Z14),(3,Z14),(12,.int .i64),(13,.int .i64)],[(2,Z14),(3,Z14)],0,[],kq⟩
def Hk:LF Tryz.f48 [] [1,1,1,0,1,0,0] ux:=sq (v:= .nil) xV (b:=jz) kN
def bT(x:Y3×aqq):Option ((Y3×aqq)×aqq):=
 (oF x.1.2.2.2.2).bind fun r1=>
 (aJ (kq ((0,false,noB,0,([]:List ajY),()),(x.1.1,x.1.2.1,x.1.2.2.1,x.1.2.2.2.1,r1.1),(r1.1.1.length:Int),0,()))
 (fun _=>none)
 (fun y9=>some (y9.2,())))
def gM:Ent:=(48,none,⟨[Z8],[Z15],bT⟩)
def fX:SQ Tryz.prog gM:=sk (v:=t1 (t1 (t1 (.two (t1 (.one (.loop ux))) .nil)))) (fn:=Tryz.f48) xV (kC Hk kN)
def Uq:Cx:=cX [cD] [] []
def Xf:OKC Tryz.prog Uq af:=okc mixed (gC bk (au))
def uN(x:aqp×aqq):Option ((Bool×aqq)×aqq):=
 (aK ((x.1.size:Int),1,60,())).bind fun r1=>
 some (r1.1,())
def A0:Ent:=(126,none,⟨[.str],[.bool],uN⟩)
def zk:SQ Tryz.prog A0:=sk (v:= .nil) (fn:=Tryz.f126) Xf kN
def Sy:Cx:=cX [iX] [] []
def UJ:OKC Tryz.prog Sy af:=okc mixed (gC fF (au))
def gV(x:aqp×aqq):Option ((aqp×aqq)×aqq):=
 (bM ((x.1.size:Int),())).bind fun r1=>
 if decide (r1.1.1.size+(B [58]).size≤4611686018427387904) then
 if decide ((r1.1.1++(B [58])).size+x.1.size≤4611686018427387904) then
 if decide (((r1.1.1++(B [58]))++x.1).size+(B [59]).size≤4611686018427387904) then
 let v2:=(((r1.1.1++(B [58]))++x.1)++(B [59]))
 some ((v2,()),())
 else none
 else none
 else none
def yu:Ent:=(127,none,⟨[.str],[.str],gV⟩)
def xj:SQ Tryz.prog yu:=sk (v:= .nil) (fn:=Tryz.f127) UJ kN
def Kl:Cx:=cX [jb,A0,yu] [] [(23,25)]
def Ac:OKC Tryz.prog Kl af:=okc mixed (gC fR (gC zk (gC xj (au))))
def eK(x:Y4×Y4×aqp×List aqp×Int×Int×aqq):Rnd (Y4×Y4×aqp×List aqp×Int×Int×aqq) (Y4×Bool×aqq) (Y4×Y4×aqp×aqq):=
 if decide (x.2.2.2.2.2.1 < x.2.2.2.2.1) then
 if inb x.2.2.2.2.2.1 x.2.2.2.1.length then
 let v25:=(rd (dfl .str) x.2.2.2.1 x.2.2.2.2.2.1)
 (uN (v25,())).bind fun r26=>
 if(!r26.1.1)||(decide (2400 < (x.2.2.1.size:Int))) then
 some (.inr (.inl (x.1,false,())))
 else
 (gV (v25,())).bind fun r27=>
 if decide (x.2.2.1.size+r27.1.1.size≤4611686018427387904) then
 some (.inl (x.1,x.2.1,(x.2.2.1++r27.1.1),x.2.2.2.1,x.2.2.2.2.1,(w64 (x.2.2.2.2.2.1+1)),()))
 else none
 else none
 else
 some (.inr (.inr (x.1,x.2.1,x.2.2.1,())))
def di:=aR eK
def vQ:Loop:=⟨[(2,Z17),(4,Z17),(6,.str),(13,.sl .str),(14,.int .i64),(15,.int .i64)],[(2,Z17),(4,Z17),(6,.str)],0,[(4,Z17),(5,.bool)],di⟩
def Jr:LF Tryz.f74 [] [1,1,1,0,1,0,0] vQ:=sq (v:= .nil) Ac (b:=eK) kN
def iU(x:Y4×List aqp×aqq):Option ((Y4×Bool×aqq)×aqq):=
 (et (x.1,())).bind fun r2=>
 if !r2.1.1 then
 some (((noB,0,()),false,()),())
 else
 (aJ (di (x.1,(noB,0,()),noB,x.2.1,(x.2.1.length:Int),0,()))
 (fun y28=>some (y28,()))
 (fun y28=>(if decide (2400 < (y28.2.2.1.size:Int)) then
 some ((y28.1,false,()),())
 else
 some (((y28.2.2.1,(y28.2.2.1.size:Int),()),true,()),()))))
def zW:Ent:=(74,none,⟨[Z9,.fz .str],[Z9,.bool],iU⟩)
def Dm:SQ Tryz.prog zW:=sk (v:=t1 (t1 (t1 (.two (t1 (.one (.loop vQ))) .nil)))) (fn:=Tryz.f74) Ac (kC Jr kN)
def Kh:Cx:=cX [iX] [] []
def MR:OKC Tryz.prog Kh af:=okc mixed (gC fF (au))
def fA(x:aqp×Int×Int×Int×aqq):Option ((aqp×aqq)×aqq):=
 if decide (x.1.size+(B [32]).size≤4611686018427387904) then
 (bM (x.2.1,())).bind fun r1=>
 if decide ((x.1++(B [32])).size+r1.1.1.size≤4611686018427387904) then
 if decide (((x.1++(B [32]))++r1.1.1).size+(B [32]).size≤4611686018427387904) then
 (bM (x.2.2.1,())).bind fun r2=>
 if decide ((((x.1++(B [32]))++r1.1.1)++(B [32])).size+r2.1.1.size≤4611686018427387904) then
 if decide (((((x.1++(B [32]))++r1.1.1)++(B [32]))++r2.1.1).size+(B [32]).size≤4611686018427387904) then
 (bM x.2.2.2).bind fun r3=>
 if decide ((((((x.1++(B [32]))++r1.1.1)++(B [32]))++r2.1.1)++(B [32])).size+r3.1.1.size≤4611686018427387904) then
 let v4:=((((((x.1++(B [32]))++r1.1.1)++(B [32]))++r2.1.1)++(B [32]))++r3.1.1)
 some ((v4,()),())
 else none
 else none
 else none
 else none
 else none
 else none
def rO:Ent:=(52,none,⟨[.str,.int .i64,.int .i64,.int .i64],[.str],fA⟩)
def tj:SQ Tryz.prog rO:=sk (v:= .nil) (fn:=Tryz.f52) MR kN
def MA:Cx:=cX [rO,iX,mq,yz,gN] [] []
def nX:OKC Tryz.prog MA af:=okc mixed (gC tj (gC fF (gC lA (gC xz (gC gX (au))))))
def mh(x:List aqp×List ajT×Int×Int×aqq):Rnd (List aqp×List ajT×Int×Int×aqq) (aqq) (List aqp×aqq):=
 if decide (x.2.2.2.1 < x.2.2.1) then
 if inb x.2.2.2.1 x.2.1.length then
 let anX:=(rd (dfl .note) x.2.1 x.2.2.2.1).fr
 let v105:=(rd (dfl .note) x.2.1 x.2.2.2.1).nu
 let aph:=(rd (dfl .note) x.2.1 x.2.2.2.1).to
 let v107:=(rd (dfl .note) x.2.1 x.2.2.2.1).un
 let apg:=(rd (dfl .note) x.2.1 x.2.2.2.1).tx
 (dj ((anX,v105,aph,v107,apg,()),())).bind fun an4=>
 if decide ((B [105,110,98,111,120,32]).size+an4.1.1.size≤4611686018427387904) then
 if al (x.1.length+([((B [105,110,98,111,120,32])++an4.1.1)]:List aqp).length) then
 some (.inl ((x.1++([((B [105,110,98,111,120,32])++an4.1.1)]:List aqp)),x.2.1,x.2.2.1,(w64 (x.2.2.2.1+1)),()))
 else none
 else none
 else none
 else
 some (.inr (.inr (x.1,())))
def iv:=aR mh
def xv:Loop:=⟨[(3,.row 9 .str),(66,.sl .note),(67,.int .i64),(68,.int .i64)],[(3,.row 9 .str)],4,[],iv⟩
def Lx:LF Tryz.f75 [] [1,1,1,1,1,1,1,0,1,0,0] xv:=sq (v:= .nil) nX (b:=mh) kN
def mi(x:Y1×List aqp×List ajT×Int×Int×aqq):Rnd (Y1×List aqp×List ajT×Int×Int×aqq) (aqq) (Y1×List aqp×aqq):=
 if decide (x.2.2.2.2.1 < x.2.2.2.1) then
 if inb x.2.2.2.2.1 x.2.2.1.length then
 let v66:=(rd (dfl .note) x.2.2.1 x.2.2.2.2.1).fr
 let v67:=(rd (dfl .note) x.2.2.1 x.2.2.2.2.1).nu
 let v68:=(rd (dfl .note) x.2.2.1 x.2.2.2.2.1).to
 let v69:=(rd (dfl .note) x.2.2.1 x.2.2.2.2.1).un
 let v70:=(rd (dfl .note) x.2.2.1 x.2.2.2.2.1).tx
 (dj ((v66,v67,v68,v69,v70,()),())).bind fun r71=>
 if decide ((B [104,101,108,100,32]).size+r71.1.1.size≤4611686018427387904) then
 if al (x.2.1.length+([((B [104,101,108,100,32])++r71.1.1)]:List aqp).length) then
 some (.inl (x.1,(x.2.1++([((B [104,101,108,100,32])++r71.1.1)]:List aqp)),x.2.2.1,x.2.2.2.1,(w64 (x.2.2.2.2.1+1)),()))
 else none
 else none
 else none
 else
 some (.inr (.inr (x.1,x.2.1,())))
def iw:=aR mi
def xw:Loop:=⟨[(1,Z2),(3,.row 9 .str),(52,.sl .note),(53,.int .i64),(54,.int .i64)],[(1,Z2),(3,.row 9 .str)],2,[],iw⟩
def LB:LF Tryz.f75 [] [1,1,1,1,1,1,0,1,0,0] xw:=sq (v:= .nil) nX (b:=mi) kN
def mj(x:Y1×List aqp×List Mark×Int×Int×aqq):Rnd (Y1×List aqp×List Mark×Int×Int×aqq) (aqq) (Y1×List aqp×aqq):=
 if decide (x.2.2.2.2.1 < x.2.2.2.1) then
 if inb x.2.2.2.2.1 x.2.2.1.length then
 let v30:=(rd (dfl .mark) x.2.2.1 x.2.2.2.2.1).mf
 let v31:=(rd (dfl .mark) x.2.2.1 x.2.2.2.2.1).mn
 let v32:=(rd (dfl .mark) x.2.2.1 x.2.2.2.2.1).mu
 (fA ((B [109,97,114,107]),v30,v31,v32,())).bind fun r33=>
 if al (x.2.1.length+([r33.1.1]:List aqp).length) then
 some (.inl (x.1,(x.2.1++([r33.1.1]:List aqp)),x.2.2.1,x.2.2.2.1,(w64 (x.2.2.2.2.1+1)),()))
 else none
 else none
 else
 some (.inr (.inr (x.1,x.2.1,())))
def iy:=aR mj
def xy:Loop:=⟨[(1,Z2),(3,.row 9 .str),(34,.sl .mark),(35,.int .i64),(36,.int .i64)],[(1,Z2),(3,.row 9 .str)],0,[],iy⟩
def LN:LF Tryz.f75 [] [1,1,1,1,1,0,1,0,0] xy:=sq (v:= .nil) nX (b:=mj) kN
def nU(x:Y1×aqq):Option ((List aqp×aqq)×aqq):=
 (gZ x).bind fun r2=>
 if !r2.1.1 then
 some ((([]:List aqp),()),())
 else
 (bB (X:=Y1×List aqp×aqq) (fun j4=>
 (bB (X:=Y1×List aqp×aqq) (fun j7=>
 (aJ (iy (j7.1,j7.2.1,j7.1.2.2.2.2.1,(j7.1.2.2.2.2.1.length:Int),0,()))
 (fun _=>none)
 (fun y34=>(aJ (iw (y34.1,y34.2.1,y34.1.2.2.2.1,(y34.1.2.2.2.1.length:Int),0,()))
 (fun _=>none)
 (fun y72=>(aJ (iv (y72.2.1,y72.1.2.2.2.2.2.1,(y72.1.2.2.2.2.2.1.length:Int),0,()))
 (fun _=>none)
 (fun anS=>(dh anS).bind fun an3=>
 some (an3.1,()))))))))
 ((if decide (1 < j4.1.2.2.1) then
 (bM (j4.1.2.2.1,())).bind fun r8=>
 if decide ((B [110,101,120,116,32]).size+r8.1.1.size≤4611686018427387904) then
 if al (j4.2.1.length+([((B [110,101,120,116,32])++r8.1.1)]:List aqp).length) then
 some (.inr (j4.1,(j4.2.1++([((B [110,101,120,116,32])++r8.1.1)]:List aqp)),()))
 else none
 else none
 else
 some (.inr j4)))))
 ((if decide (0 < x.1.2.1) then
 (bM (x.1.2.1,())).bind fun r5=>
 if decide ((B [116,105,109,101,32]).size+r5.1.1.size≤4611686018427387904) then
 if al ([((B [116,105,109,101,32])++r5.1.1)]:List aqp).length then
 some (.inr (x.1,([((B [116,105,109,101,32])++r5.1.1)]:List aqp),()))
 else none
 else none
 else
 some (.inr (x.1,([]:List aqp),())))))
def BY:Ent:=(75,none,⟨[Z3],[.row 9 .str],nU⟩)
def Fh:SQ Tryz.prog BY:=sk (v:=t1 (t1 (t1 (.join [(1,Z2),(3,.row 9 .str)] .nil (.join [(1,Z2),(3,.row 9 .str)] .nil (.two (t1 (.one (.loop xy))) (.two (t1 (.one (.loop xw))) (.two (t1 (.one (.loop xv))) .nil)))))))) (fn:=Tryz.f75) nX (kC LN (kC LB (kC Lx kN)))
def Mv:Cx:=cX [jb,A0,yu] [] [(14,21)]
def Pd:OKC Tryz.prog Mv af:=okc mixed (gC fR (gC zk (gC xj (au))))
def gn(x:Y4×aqp×aqq):Option ((Y4×Bool×aqq)×aqq):=
 (et (x.1,())).bind fun r2=>
 if !r2.1.1 then
 some (((noB,0,()),false,()),())
 else
 (uN x.2).bind fun r5=>
 if bg (!(!r5.1.1)) ((gV x.2).isSome) then
 if(!r5.1.1)||(decide (2400 < (w64 ((x.1.1.size:Int)+((((gV x.2).getD ((noB,()),())).1.1).size:Int))))) then
 some ((x.1,false,()),())
 else
 (gV x.2).bind fun r6=>
 if decide (x.1.1.size+r6.1.1.size≤4611686018427387904) then
 some ((((x.1.1++r6.1.1),x.1.2),true,()),())
 else none
 else none
def BW:Ent:=(108,none,⟨[Z9,.str],[Z9,.bool],gn⟩)
def Ff:SQ Tryz.prog BW:=sk (v:= .nil) (fn:=Tryz.f108) Pd kN
def W7:Cx:=cX [qV,zW,BY,yA,BW] [] []
def Zj:OKC Tryz.prog W7 af:=okc mixed (gC oz (gC Dm (gC Fh (gC xB (gC Ff (au))))))
def jk(x:Y3×aqp×aqq):Option ((Y3×Bool×aqq)×aqq):=
 (cT (x.1.1,x.1.2.2.1,())).bind fun r1=>
 (kb (r1.1.1,x.2)).bind fun r3=>
 if !r3.1.2.1 then
 some ((x.1,false,()),())
 else
 (gn ((x.1.2.2.1,x.1.2.2.2.1,()),x.2)).bind fun r4=>
 (bB (X:=Y3×Y3×Y4×Bool×aqq) (fun j8=>
 if !j8.2.2.2.1 then
 some ((j8.1,false,()),())
 else
 some (((j8.1.1,j8.1.2.1,j8.2.2.1.1,j8.2.2.1.2.1,j8.1.2.2.2.2),true,()),()))
 ((if !r4.1.2.1 then
 (nU (r1.1.1,())).bind fun r9=>
 (iU ((x.1.2.2.1,x.1.2.2.2.1,()),r9.1)).bind fun r10=>
 if !r10.1.2.1 then
 some (.inl ((x.1,false,()),()))
 else
 (gn (r10.1.1,x.2)).bind fun r11=>
 some (.inr (x.1,(0,false,noB,0,([]:List ajY),()),r11.1))
 else
 some (.inr (x.1,(0,false,noB,0,([]:List ajY),()),r4.1)))))
def xL:Ent:=(51,none,⟨[Z8,.str],[Z8,.bool],jk⟩)
def tL:SQ Tryz.prog xL:=sk (v:=t1 (t1 (t1 (t1 (.join [(2,Z13),(4,Z14),(10,Z17),(11,.bool)] .nil .nil))))) (fn:=Tryz.f51) Zj kN
def SM:Cx:=cX [] [] []
def UQ:OKC Tryz.prog SM af:=okc mixed (au)
def sv(x:Int×Y7×aqq):Option ((List Frame×aqq)×aqq):=
 some ((([(Frame.mk x.1 x.2.1.2.2.1 x.2.1.2.1 x.2.1.2.2.2.1 x.2.1.2.2.2.2.1 x.2.1.2.2.2.2.2.1 x.2.1.2.2.2.2.2.2.1 0 0 noB)]:List Frame),()),())
def Gi:Ent:=(102,none,⟨[.int .i64,Z16],[.row 29 .frame],sv⟩)
def JE:SQ Tryz.prog Gi:=sk (v:= .nil) (fn:=Tryz.f102) UQ kN
def HQ:Cx:=cX [jb] [] []
def KN:OKC Tryz.prog HQ af:=okc mixed (gC fR (au))
def kM(x:Y4×aqq):Option ((Y4×aqq)×aqq):=
 (et x).bind fun r2=>
 if !r2.1.1 then
 some (((noB,0,()),()),())
 else
 some (((x.1.1,(x.1.1.size:Int),()),()),())
def xN:Ent:=(144,none,⟨[Z9],[Z9],kM⟩)
def Cg:SQ Tryz.prog xN:=sk (v:= .nil) (fn:=Tryz.f144) KN kN
def SI:Cx:=cX [xN] [] []
def UM:OKC Tryz.prog SI af:=okc mixed (gC Cg (au))
def j9(x:Y3×aqq):Option ((Y3×aqq)×aqq):=
 (kM ((x.1.2.2.1,x.1.2.2.2.1,()),())).bind fun r1=>
 some (((x.1.1,x.1.2.1,r1.1.1.1,r1.1.1.2.1,x.1.2.2.2.2),()),())
def yy:Ent:=(104,none,⟨[Z8],[Z8],j9⟩)
def xq:SQ Tryz.prog yy:=sk (v:= .nil) (fn:=Tryz.f104) UM kN
def W8:Cx:=cX [] [(28,28)] []
def Nz:OKC Tryz.prog W8 af:=okc mixed (au)
def uO(x:Y5×List ajV×List ajV×Int×Int×aqq):Rnd (Y5×List ajV×List ajV×Int×Int×aqq) (aqq) (Y5×List ajV×aqq):=
 if decide (x.2.2.2.2.1 < x.2.2.2.1) then
 if inb x.2.2.2.2.1 x.2.2.1.length then
 let v20:=(rd (dfl .mixed) x.2.2.1 x.2.2.2.2.1).nu
 let v21:=(rd (dfl .mixed) x.2.2.1 x.2.2.2.2.1).da
 if !decide (v20=x.1.1) then
 if al (x.2.1.length+([(ajV.mk v20 v21)]:List ajV).length) then
 some (.inl (x.1,(x.2.1++([(ajV.mk v20 v21)]:List ajV)),x.2.2.1,x.2.2.2.1,(w64 (x.2.2.2.2.1+1)),()))
 else none
 else
 some (.inl (x.1,x.2.1,x.2.2.1,x.2.2.2.1,(w64 (x.2.2.2.2.1+1)),()))
 else none
 else
 some (.inr (.inr (x.1,x.2.1,())))
def nQ:=aR uO
def FW:Loop:=⟨[(3,Z31),(5,.row 120 .mixed),(8,.sl .mixed),(9,.int .i64),(10,.int .i64)],[(3,Z31),(5,.row 120 .mixed)],0,[],nQ⟩
def WO:LF Tryz.f105 [] [1,1,0,1,0,0] FW:=sq (v:= .nil) Nz (b:=uO) kN
def xp(x:List ajV×Y5×aqq):Option ((List ajV×aqq)×aqq):=
 (aJ (nQ (x.2.1,([]:List ajV),x.1,(x.1.length:Int),0,()))
 (fun _=>none)
 (fun y22=>(if decide (14≤(y22.2.1.length:Int)) then
 if decide (0≤1)&&decide (1≤(y22.2.1.length:Int)) then
 if al ((aq9 (aqy 1) y22.2.1).length+([(ajV.mk y22.1.1 y22.1.2.1)]:List ajV).length) then
 some ((((aq9 (aqy 1) y22.2.1)++([(ajV.mk y22.1.1 y22.1.2.1)]:List ajV)),()),())
 else none
 else none
 else
 if al (y22.2.1.length+([(ajV.mk y22.1.1 y22.1.2.1)]:List ajV).length) then
 some (((y22.2.1++([(ajV.mk y22.1.1 y22.1.2.1)]:List ajV)),()),())
 else none)))
def Nu:Ent:=(105,none,⟨[.fz .mixed,Z10],[.row 120 .mixed],xp⟩)
def Oj:SQ Tryz.prog Nu:=sk (v:=t1 (t1 (.two (t1 (.one (.loop FW))) .nil))) (fn:=Tryz.f105) Nz (kC WO kN)
def Us:Cx:=cX [cD] [] [(8,9)]
def Xh:OKC Tryz.prog Us af:=okc mixed (gC bk (au))
def qm(x:Int×Int×aqq):Option ((Bool×aqq)×aqq):=
 (aK (x.1,1,6,())).bind fun r3=>
 if bg r3.1.1 ((aK (x.2.1,0,999,())).isSome) then
 let v4:=(r3.1.1&&(((aK (x.2.1,0,999,())).getD ((false,()),())).1.1))
 some ((v4,()),())
 else none
def A1:Ent:=(155,none,⟨[.int .i64,.int .i64],[.bool],qm⟩)
def zp:SQ Tryz.prog A1:=sk (v:= .nil) (fn:=Tryz.f155) Xh kN
def Mw:Cx:=cX [cD] [] []
def Pe:OKC Tryz.prog Mw af:=okc mixed (gC bk (au))
def eX(x:Int×aqq):Option ((Int×aqq)×aqq):=
 (aK (x.1,0,65535,())).bind fun r2=>
 if !r2.1.1 then
 some ((0,()),())
 else
 let v3:=(arh (w64 ((w64 (25173 * x.1))+13849)) 65536)
 some ((v3,()),())
def tW:Ent:=(156,none,⟨[.int .i64],[.int .i64],eX⟩)
def uy:SQ Tryz.prog tW:=sk (v:= .nil) (fn:=Tryz.f156) Pe kN
def Ko:Cx:=cX [A1,tW] [] []
def rU:OKC Tryz.prog Ko af:=okc mixed (gC zp (gC uy (au)))
def xr(x:Int×List Int×Int×Int×Int×aqq):Rnd (Int×List Int×Int×Int×Int×aqq) (Int×aqq) (Int×aqq):=
 if decide (x.2.2.2.2.1≤x.1) then
 if inb x.2.2.2.2.1 x.2.1.length then
 let v21:=(w64 (x.2.2.2.1+(rd (dfl .int) x.2.1 x.2.2.2.2.1)))
 (if decide (x.2.2.1 < v21) then
 some (.inr (.inl x.2.2.2.2))
 else
 some (.inl (x.1,x.2.1,x.2.2.1,v21,(w64 (x.2.2.2.2.1+1)),())))
 else none
 else
 some (.inr (.inr (x.1,())))
def gI:=aR xr
def vR:Loop:=⟨[(0,.int .i64),(5,.row 3 .int),(8,.int .i64),(9,.int .i64),(10,.int .i64)],[(0,.int .i64)],2,[(4,.int .i64)],gI⟩
def Jl:LF Tryz.f157 [] [1,1,1,1,1,1,1,1,0,1,0,0] vR:=sq (v:= .nil) rU (b:=xr) kN
def xt(x:Int×Int×List Int×Int×Int×aqq):Rnd (Int×Int×List Int×Int×Int×aqq) (aqq) (Int×Int×List Int×Int×aqq):=
 if decide (x.2.2.2.2.1≤x.1) then
 if !decide ((w64 (x.2.2.2.2.1 * (w64 (x.2.2.2.2.1 - 1))))=0) then
 if al (x.2.2.1.length+([(w64 (aqU 60 (w64 (x.2.2.2.2.1 * (w64 (x.2.2.2.2.1 - 1))))))]:List Int).length) then
 if inb x.2.2.2.2.1 ((x.2.2.1++([(w64 (aqU 60 (w64 (x.2.2.2.2.1 * (w64 (x.2.2.2.2.1 - 1))))))]:List Int)).length) then
 let v10:=(w64 (x.2.2.2.1+(rd (dfl .int) (x.2.2.1++([(w64 (aqU 60 (w64 (x.2.2.2.2.1 * (w64 (x.2.2.2.2.1 - 1))))))]:List Int)) x.2.2.2.2.1)))
 some (.inl (x.1,x.2.1,(x.2.2.1++([(w64 (aqU 60 (w64 (x.2.2.2.2.1 * (w64 (x.2.2.2.2.1 - 1))))))]:List Int)),v10,(w64 (x.2.2.2.2.1+1)),()))
 else none
 else none
 else none
 else
 some (.inr (.inr (x.1,x.2.1,x.2.2.1,x.2.2.2.1,())))
def gJ:=aR xt
def vS:Loop:=⟨[(0,.int .i64),(1,.int .i64),(5,.row 3 .int),(6,.int .i64),(7,.int .i64)],[(0,.int .i64),(1,.int .i64),(5,.row 3 .int),(6,.int .i64)],0,[],gJ⟩
def Js:LF Tryz.f157 [] [1,1,1,1,1,0,1,0,0] vS:=sq (v:= .nil) rU (b:=xt) kN
def mc(x:Int×Int×aqq):Option ((Int×aqq)×aqq):=
 (qm x).bind fun r2=>
 if !r2.1.1 then
 some ((0,()),())
 else
 if decide (x.2.1 < x.1) then
 some ((1,()),())
 else
 if !decide (x.1=0) then
 if inb 1 (([0,(w64 ((w64 (aqU 60 x.1))+10))]:List Int).length) then
 let v3:=(rd (dfl .int) ([0,(w64 ((w64 (aqU 60 x.1))+10))]:List Int) 1)
 (aJ (gJ (x.1,x.2.1,([0,(w64 ((w64 (aqU 60 x.1))+10))]:List Int),v3,2,()))
 (fun _=>none)
 (fun y11=>(eX ((w64 ((w64 (31 * y11.2.1))+y11.1)),())).bind fun r12=>
 (eX r12.1).bind fun r13=>
 if !decide (y11.2.2.2.1=0) then
 let v14:=(arh (w64 (aqU r13.1.1 16)) y11.2.2.2.1)
 (aJ (gI (y11.1,y11.2.2.1,v14,0,1,()))
 (fun y22=>some (y22,()))
 (fun y22=>some (y22,())))
 else none))
 else none
 else none
def zY:Ent:=(157,none,⟨[.int .i64,.int .i64],[.int .i64],mc⟩)
def Ds:SQ Tryz.prog zY:=sk (v:=t1 (t1 (t1 (t1 (t1 (.two (t1 (.one (.loop vS))) (t1 (t1 (.two (t1 (.one (.loop vR))) .nil))))))))) (fn:=Tryz.f157) rU (kC Js (kC Jl kN))
def HP:Cx:=cX [] [] []
def KM:OKC Tryz.prog HP af:=okc mixed (au)
def qB(x:List Int×aqq):Option ((List Int×aqq)×aqq):=
 if decide ((x.1.length:Int)=0) then
 some ((([]:List Int),()),())
 else
 if decide (0≤(x.1.length:Int))&&decide ((x.1.length:Int)≤4294967296) then
 some (((aqR (aqQ (aqy (x.1.length:Int)) (dfl .int)).length x.1++aq9 x.1.length (aqQ (aqy (x.1.length:Int)) (dfl .int))),()),())
 else none
def xM:Ent:=(158,none,⟨[.fz .int],[.row 3 .int],qB⟩)
def Cf:SQ Tryz.prog xM:=sk (v:= .nil) (fn:=Tryz.f158) KM kN
def Uv:Cx:=cX [A1,tW,zY,xM] [] []
def uW:OKC Tryz.prog Uv af:=okc mixed (gC zp (gC uy (gC Ds (gC Cf (au)))))
def nb(x:Int×List Bool×Int×Int×Int×aqq):Rnd (Int×List Bool×Int×Int×Int×aqq) (aqq) (Int×List Bool×Int×Int×Int×aqq):=
 if inb x.2.2.2.2.1 x.2.1.length then
 if rd (dfl .bool) x.2.1 x.2.2.2.2.1 then
 if !decide (x.1=0) then
 let v36:=(arh (w64 (x.2.2.2.2.1+1)) x.1)
 some (.inl (x.1,x.2.1,x.2.2.1,x.2.2.2.1,v36,()))
 else none
 else
 some (.inr (.inr x))
 else none
def mb:=aR nb
def Dq:Loop:=⟨[(0,.int .i64),(5,.abx 167 .bool),(6,.int .i64),(7,.int .i64),(8,.int .i64)],[(0,.int .i64),(5,.abx 167 .bool),(6,.int .i64),(7,.int .i64),(8,.int .i64)],2,[],mb⟩
def T3:LF Tryz.f122 [] [1,1,1,1,1,0,1,0,0,1,0,0,1,1,0,0,0] Dq:=sq (v:= .nil) uW (b:=nb) kN
def yj(x:List Int×List Bool×Int×aqq):Rnd (List Int×List Bool×Int×aqq) (aqq) (List Int×aqq):=
 if decide (x.2.2.1 < 6) then
 if inb x.2.2.1 x.2.1.length&&inb x.2.2.1 6 then
 let v49:=(rd (dfl .bool) x.2.1 x.2.2.1)
 (if v49 then
 if al (x.1.length+([x.2.2.1]:List Int).length) then
 some (.inl ((x.1++([x.2.2.1]:List Int)),x.2.1,(w64 (x.2.2.1+1)),()))
 else none
 else
 some (.inl (x.1,x.2.1,(w64 (x.2.2.1+1)),())))
 else none
 else
 some (.inr (.inr (x.1,())))
def rI:=aR yj
def Dp:Loop:=⟨[(9,.row 3 .int),(47,.arr .bool),(48,.int .i64)],[(9,.row 3 .int)],4,[],rI⟩
def TY:LF Tryz.f122 [] [1,1,1,1,1,1,1,0,1,0,0] Dp:=sq (v:= .nil) uW (b:=yj) kN
def yk(x:Int×List Bool×Int×Int×aqq):Rnd (Int×List Bool×Int×Int×aqq) (aqq) (List Bool×aqq):=
 if decide (0 < x.2.2.2.1) then
 (eX (x.2.2.1,())).bind fun r33=>
 if !decide (x.1=0) then
 let v34:=(arh (w64 (aqU r33.1.1 16)) x.1)
 (aJ (mb (x.1,x.2.1,r33.1.1,x.2.2.2.1,v34,()))
 (fun _=>some (.inr (.inl ())))
 (fun y37=>(if inb y37.2.2.2.2.1 y37.2.1.length then
 some (.inl (y37.1,(aqZ y37.2.1 (aqy y37.2.2.2.2.1) true),y37.2.2.1,(w64 (y37.2.2.2.1 - 1)),()))
 else none)))
 else none
 else
 some (.inr (.inr (x.2.1,())))
def rJ:=aR yk
def Dr:Loop:=⟨[(0,.int .i64),(5,.abx 167 .bool),(6,.int .i64),(7,.int .i64)],[(5,.abx 167 .bool)],0,[],rJ⟩
def T9:LF Tryz.f122 [] [1,1,1,1,1,0,1,0,0] Dr:=sq (v:=t1 (.two (.one (t1 (t1 (.two (.one (.loop Dq)) .nil)))) .nil)) uW (b:=yk) (kC T3 kN)
def qG(x:Int×Int×aqq):Option ((List Int×aqq)×aqq):=
 (qm x).bind fun r2=>
 if !r2.1.1 then
 some ((([]:List Int),()),())
 else
 if decide (x.2.1 < x.1) then
 some ((([x.2.1]:List Int),()),())
 else
 (eX ((w64 ((w64 (7 * x.2.1))+1)),())).bind fun r3=>
 (mc x).bind fun r16=>
 (aJ (rJ (x.1,(aqQ 6 (dfl .bool)),r3.1.1,r16.1))
 (fun _=>none)
 (fun y38=>(aJ (rI (([]:List Int),y38.1,0,()))
 (fun _=>none)
 (fun y50=>(qB y50).bind fun r51=>
 some (r51.1,())))))
def A2:Ent:=(122,none,⟨[.int .i64,.int .i64],[.row 3 .int],qG⟩)
def zB:SQ Tryz.prog A2:=sk (v:=t1 (t1 (t1 (t1 (t1 (.two (t1 (.one (.loop Dr))) (t1 (.two (t1 (.one (.loop Dp))) .nil)))))))) (fn:=Tryz.f122) uW (kC T9 (kC TY kN))
def Up:Cx:=cX [] [] []
def KK:OKC Tryz.prog Up af:=okc mixed (au)
def FT(x:aqp×List Int×Int×Int×aqq):Rnd (aqp×List Int×Int×Int×aqq) (aqq) (List Int×aqq):=
 if decide (x.2.2.2.1 < x.2.2.1) then
 if inb x.2.2.2.1 x.2.1.length then
 if inb x.2.2.2.1 x.1.size then
 if inb x.2.2.2.1 x.2.1.length then
 let v7:=(te .u8 (rd (dfl .u8) x.2.1 x.2.2.2.1) (bt x.1 x.2.2.2.1))
 some (.inl (x.1,(aqZ x.2.1 (aqy x.2.2.2.1) v7),x.2.2.1,(w64 (x.2.2.2.1+1)),()))
 else none
 else none
 else none
 else
 some (.inr (.inr (x.2.1,())))
def rH:=aR FT
def Di:Loop:=⟨[(1,.str),(5,.akl 5 .u8),(10,.int .i64),(11,.int .i64)],[(5,.akl 5 .u8)],0,[],rH⟩
def T8:LF Tryz.f123 [] [1,1,0,1,0,0] Di:=sq (v:= .nil) KK (b:=FT) kN
def qc(x:aqp×aqp×aqq):Option ((aqp×aqq)×aqq):=
 if al x.1.size then
 (aJ (rH (x.2.1,(aH x.1),((aH x.1).length:Int),0,()))
 (fun _=>none)
 (fun y8=>some (((dR y8.1),()),())))
 else none
def AZ:Ent:=(123,none,⟨[.str,.str],[.str],qc⟩)
def zj:SQ Tryz.prog AZ:=sk (v:=t1 (t1 (.two (t1 (.one (.loop Di))) .nil))) (fn:=Tryz.f123) KK (kC T8 kN)
def OW:Cx:=cX [cD,A2,AZ] [] [(31,34)]
def q6:OKC Tryz.prog OW af:=okc mixed (gC bk (gC zB (gC zj (au))))
def jO(x:Int×List ajV×List aqp×Bool×aqp×Int×Int×List ajV×Int×Int×List Int×Int×Int×aqq):Rnd (Int×List ajV×List aqp×Bool×aqp×Int×Int×List ajV×Int×Int×List Int×Int×Int×aqq) (aqq) (Int×List ajV×List aqp×Bool×aqp×Int×Int×List ajV×Int×Int×aqq):=
 if decide (x.2.2.2.2.2.2.2.2.2.2.2.2.1 < x.2.2.2.2.2.2.2.2.2.2.2.1) then
 if inb x.2.2.2.2.2.2.2.2.2.2.2.2.1 x.2.2.2.2.2.2.2.2.2.2.1.length then
 let am3:=(rd (dfl .int) x.2.2.2.2.2.2.2.2.2.2.1 x.2.2.2.2.2.2.2.2.2.2.2.2.1)
 (if inb am3 x.2.2.1.length then
 if decide ((rd (dfl .str) x.2.2.1 am3)=noB) then
 let apf:=(w64 (x.2.2.2.2.2.2.1+1))
 some (.inl (x.1,x.2.1,x.2.2.1,x.2.2.2.1,x.2.2.2.2.1,am3,apf,x.2.2.2.2.2.2.2.1,x.2.2.2.2.2.2.2.2.1,x.2.2.2.2.2.2.2.2.2.1,x.2.2.2.2.2.2.2.2.2.2.1,x.2.2.2.2.2.2.2.2.2.2.2.1,(w64 (x.2.2.2.2.2.2.2.2.2.2.2.2.1+1)),()))
 else
 if inb am3 x.2.2.1.length then
 (qc (x.2.2.2.2.1,(rd (dfl .str) x.2.2.1 am3),())).bind fun apr=>
 some (.inl (x.1,x.2.1,x.2.2.1,x.2.2.2.1,apr.1.1,x.2.2.2.2.2.1,x.2.2.2.2.2.2.1,x.2.2.2.2.2.2.2.1,x.2.2.2.2.2.2.2.2.1,x.2.2.2.2.2.2.2.2.2.1,x.2.2.2.2.2.2.2.2.2.2.1,x.2.2.2.2.2.2.2.2.2.2.2.1,(w64 (x.2.2.2.2.2.2.2.2.2.2.2.2.1+1)),()))
 else none
 else none)
 else none
 else
 some (.inr (.inr (x.1,x.2.1,x.2.2.1,x.2.2.2.1,x.2.2.2.2.1,x.2.2.2.2.2.1,x.2.2.2.2.2.2.1,x.2.2.2.2.2.2.2.1,x.2.2.2.2.2.2.2.2.1,x.2.2.2.2.2.2.2.2.2.1,())))
def jC:=aR jO
def zy:Loop:=⟨[(0,.int .i64),(1,.sl .mixed),(5,.row 9 .str),(6,.bool),(9,.str),(10,.int .i64),(11,.int .i64),(20,.sl .mixed),(21,.int .i64),(22,.int .i64),(41,.row 3 .int),(42,.int .i64),(43,.int .i64)],[(0,.int .i64),(1,.sl .mixed),(5,.row 9 .str),(6,.bool),(9,.str),(10,.int .i64),(11,.int .i64),(20,.sl .mixed),(21,.int .i64),(22,.int .i64)],4,[],jC⟩
def NS:LF Tryz.f145 [] [1,1,1,0,1,0,0,1,0,1,1,0,0,1,1,0,0,1,1,1,0,1,0,0] zy:=sq (v:= .nil) q6 (b:=jO) kN
def dK(x:Int×List ajV×List aqp×Bool×List ajV×Int×Int×aqq):Rnd (Int×List ajV×List aqp×Bool×List ajV×Int×Int×aqq) (aqq) (Int×List ajV×List aqp×Bool×aqq):=
 if decide (x.2.2.2.2.2.2.1 < x.2.2.2.2.2.1) then
 if inb x.2.2.2.2.2.2.1 x.2.2.2.2.1.length then
 let aoI:=(rd (dfl .mixed) x.2.2.2.2.1 x.2.2.2.2.2.2.1).nu
 let v124:=(rd (dfl .mixed) x.2.2.2.2.1 x.2.2.2.2.2.2.1).da
 (aK (aoI,0,999,())).bind fun aps=>
 if(!aps.1.1)||(!decide ((v124.size:Int)=4)) then
 some (.inl (x.1,x.2.1,x.2.2.1,x.2.2.2.1,x.2.2.2.2.1,x.2.2.2.2.2.1,(w64 (x.2.2.2.2.2.2.1+1)),()))
 else
 (qG (x.1,aoI,())).bind fun aoM=>
 (aJ (jC (x.1,x.2.1,x.2.2.1,x.2.2.2.1,v124,(-1),0,x.2.2.2.2.1,x.2.2.2.2.2.1,x.2.2.2.2.2.2.1,aoM.1.1,(aoM.1.1.length:Int),0,()))
 (fun _=>some (.inr (.inl ())))
 (fun ak3=>(if decide (ak3.2.2.2.2.2.2.1=1) then
 if inb ak3.2.2.2.2.2.1 ak3.2.2.1.length then
 some (.inl (ak3.1,ak3.2.1,(aqZ ak3.2.2.1 (aqy ak3.2.2.2.2.2.1) ak3.2.2.2.2.1),true,ak3.2.2.2.2.2.2.2.1,ak3.2.2.2.2.2.2.2.2.1,(w64 (ak3.2.2.2.2.2.2.2.2.2.1+1)),()))
 else none
 else
 some (.inl (ak3.1,ak3.2.1,ak3.2.2.1,ak3.2.2.2.1,ak3.2.2.2.2.2.2.2.1,ak3.2.2.2.2.2.2.2.2.1,(w64 (ak3.2.2.2.2.2.2.2.2.2.1+1)),())))))
 else none
 else
 some (.inr (.inr (x.1,x.2.1,x.2.2.1,x.2.2.2.1,())))
def fS:=aR dK
def zz:Loop:=⟨[(0,.int .i64),(1,.sl .mixed),(5,.row 9 .str),(6,.bool),(20,.sl .mixed),(21,.int .i64),(22,.int .i64)],[(0,.int .i64),(1,.sl .mixed),(5,.row 9 .str),(6,.bool)],2,[],fS⟩
def NZ:LF Tryz.f145 [] [1,1,1,0,1,0,0,1,0,1,1,0,0] zz:=sq (v:=t1 (t1 (.two (.one (t1 (t1 (t1 (.two (t1 (.one (.loop zy))) .nil))))) .nil))) q6 (b:=dK) (kC NS kN)
def tO(x:Int×List ajV×List aqp×Bool×aqq):Rnd (Int×List ajV×List aqp×Bool×aqq) (aqq) (List aqp×aqq):=
 if x.2.2.2.1 then
 (aJ (fS (x.1,x.2.1,x.2.2.1,false,x.2.1,(x.2.1.length:Int),0,()))
 (fun _=>some (.inr (.inl ())))
 (fun apc=>some (.inl apc)))
 else
 some (.inr (.inr (x.2.2.1,())))
def oJ:=aR tO
def zA:Loop:=⟨[(0,.int .i64),(1,.sl .mixed),(5,.row 9 .str),(6,.bool)],[(5,.row 9 .str)],0,[],oJ⟩
def Oh:LF Tryz.f145 [] [1,1,1,0,1,0,0] zA:=sq (v:=t1 (.one (t1 (t1 (.one (.loop zz)))))) q6 (b:=tO) (kC NZ kN)
def qF(x:Int×List ajV×aqq):Option ((List aqp×aqq)×aqq):=
 (aK (x.1,1,6,())).bind fun r2=>
 if !r2.1.1 then
 some ((([]:List aqp),()),())
 else
 if decide (0≤x.1)&&decide (x.1≤4294967296) then
 (aJ (oJ (x.1,x.2.1,(aqQ (aqy x.1) (dfl .str)),true,()))
 (fun _=>none)
 (fun apb=>some (apb,())))
 else none
def DU:Ent:=(145,none,⟨[.int .i64,.fz .mixed],[.row 9 .str],qF⟩)
def Hw:SQ Tryz.prog DU:=sk (v:=t1 (t1 (t1 (.two (t1 (.one (.loop zA))) .nil)))) (fn:=Tryz.f145) q6 (kC Oh kN)
def OV:Cx:=cX [cD,DU] [] []
def wD:OKC Tryz.prog OV af:=okc mixed (gC bk (gC Hw (au)))
def nT(x:Int×aqp×Int×aqq):Rnd (Int×aqp×Int×aqq) (aqp×Bool×aqq) (Int×aqp×aqq):=
 if decide (x.2.2.1 < (x.2.1.size:Int)) then
 if inb x.2.2.1 x.2.1.size then
 if !decide ((bt x.2.1 x.2.2.1)=0) then
 some (.inr (.inl (noB,false,())))
 else
 some (.inl (x.1,x.2.1,(w64 (x.2.2.1+1)),()))
 else none
 else
 some (.inr (.inr (x.1,x.2.1,())))
def oI:=aR nT
def zw:Loop:=⟨[(0,.int .i64),(6,.str),(9,.int .i64)],[(0,.int .i64),(6,.str)],2,[(4,.str),(5,.bool)],oI⟩
def NY:LF Tryz.f106 [] [1,1,1,1,0,1,0,0] zw:=sq (v:= .nil) wD (b:=nT) kN
def jN(x:Int×aqp×List aqp×Int×Int×aqq):Rnd (Int×aqp×List aqp×Int×Int×aqq) (aqp×Bool×aqq) (Int×aqp×aqq):=
 if decide (x.2.2.2.2.1 < x.2.2.2.1) then
 if inb x.2.2.2.2.1 x.2.2.1.length then
 let v11:=(rd (dfl .str) x.2.2.1 x.2.2.2.2.1)
 (if decide (v11=noB) then
 some (.inr (.inl (noB,false,())))
 else
 if decide (x.2.1.size+v11.size≤4611686018427387904) then
 some (.inl (x.1,(x.2.1++v11),x.2.2.1,x.2.2.2.1,(w64 (x.2.2.2.2.1+1)),()))
 else none)
 else none
 else
 some (.inr (.inr (x.1,x.2.1,())))
def jB:=aR jN
def zx:Loop:=⟨[(0,.int .i64),(6,.str),(18,.row 9 .str),(19,.int .i64),(20,.int .i64)],[(0,.int .i64),(6,.str)],0,[(4,.str),(5,.bool)],jB⟩
def Og:LF Tryz.f106 [] [1,1,1,0,1,0,0] zx:=sq (v:= .nil) wD (b:=jN) kN
def qE(x:Int×List ajV×aqq):Option ((aqp×Bool×aqq)×aqq):=
 (aK (x.1,1,24,())).bind fun r2=>
 if !r2.1.1 then
 some ((noB,false,()),())
 else
 (qF ((w64 (aqU (w64 ((w64 (x.1+4)) - 1)) 4)),x.2)).bind fun r7=>
 (aJ (jB (x.1,noB,r7.1.1,(r7.1.1.length:Int),0,()))
 (fun y12=>some (y12,()))
 (fun y12=>(aJ (oI (y12.1,y12.2.1,y12.1,()))
 (fun y14=>some (y14,()))
 (fun y14=>(if decide (0≤y14.1)&&decide (y14.1≤(y14.2.1.size:Int)) then
 let v15:=(y14.2.1.extract (0) (aqy y14.1))
 some ((v15,true,()),())
 else none)))))
def DT:Ent:=(106,none,⟨[.int .i64,.fz .mixed],[.str,.bool],qE⟩)
def Hv:SQ Tryz.prog DT:=sk (v:=t1 (t1 (t1 (.two (t1 (.one (.loop zx))) (.two (t1 (.one (.loop zw))) .nil))))) (fn:=Tryz.f106) wD (kC Og (kC NY kN))
def Kj:Cx:=cX [dU,ia,xL,mq,yx,Gi,ng,yy,Nu,DT] [(85,85)] [(34,41)]
def MS:OKC Tryz.prog Kj af:=okc mixed (gC dk (gC eG (gC tL (gC lA (gC xo (gC JE (gC kJ (gC xq (gC Oj (gC Hv (au)))))))))))
def iT(x:Y3×Y7×aqq):Option ((Y3×List Frame×aqq)×aqq):=
 (bP (x.1,())).bind fun r1=>
 let v11:=(decide (x.2.1.2.2.2.2.2.2.1≤r1.1.1.2.1))
 (if v11 then
 (sv (3,x.2)).bind fun r12=>
 some ((x.1,r12.1),())
 else
 (ca (r1.1.1.2.2.2.1,x.2.1.2.2.2.1,x.2.1.2.2.2.2.1,())).bind fun r13=>
 if bg (!(decide (0≤r13.1.1))) ((cU (r1.1.1.2.2.2.2.1,x.2.1.2.2.2.1,x.2.1.2.2.2.2.1,())).isSome) then
 let v14:=((decide (0≤r13.1.1))||(decide (0≤((cU (r1.1.1.2.2.2.2.1,x.2.1.2.2.2.1,x.2.1.2.2.2.2.1,())).getD ((0,()),())).1.1)))
 (if v14 then
 (j9 (x.1,())).bind fun r15=>
 (sv (2,x.2)).bind fun r16=>
 some ((r15.1.1,r16.1),())
 else
 let v17:=(decide (x.2.1.2.2.2.1=x.1.1))
 (if v17 then
 some ((x.1,([]:List Frame),()),())
 else
 (j0 (x.1.2.2.2.2.1,x.2.1.2.2.2.1,x.2.1.2.2.2.2.1,())).bind fun r18=>
 (bB (X:=Y3×Y7×Y3×Int×aqq) (fun j21=>
 if inb j21.2.2.2.1 j21.1.2.2.2.2.1.length then
 if !decide ((rd (dfl .half) j21.1.2.2.2.2.1 j21.2.2.2.1).to=j21.2.1.2.2.2.2.2.1) then
 some ((j21.1,([]:List Frame),()),())
 else
 if !decide ((rd (dfl .half) j21.1.2.2.2.2.1 j21.2.2.2.1).un=j21.2.1.2.2.2.2.2.2.1) then
 some ((j21.1,([]:List Frame),()),())
 else
 if !decide ((rd (dfl .half) j21.1.2.2.2.2.1 j21.2.2.2.1).sz=j21.2.1.2.2.2.2.2.2.2.1) then
 some ((j21.1,([]:List Frame),()),())
 else
 (xp ((rd (dfl .half) j21.1.2.2.2.2.1 j21.2.2.2.1).got,j21.2.1.2.2.2.2.2.2.2.2,())).bind fun r24=>
 (qE ((rd (dfl .half) (aqZ j21.1.2.2.2.2.1 (aqy j21.2.2.2.1) (ajY.mk ((rd (dfl .half) j21.1.2.2.2.2.1 j21.2.2.2.1).fr) ((rd (dfl .half) j21.1.2.2.2.2.1 j21.2.2.2.1).nu) ((rd (dfl .half) j21.1.2.2.2.2.1 j21.2.2.2.1).to) ((rd (dfl .half) j21.1.2.2.2.2.1 j21.2.2.2.1).un) ((rd (dfl .half) j21.1.2.2.2.2.1 j21.2.2.2.1).sz) r24.1.1)) j21.2.2.2.1).sz,(rd (dfl .half) (aqZ j21.1.2.2.2.2.1 (aqy j21.2.2.2.1) (ajY.mk ((rd (dfl .half) j21.1.2.2.2.2.1 j21.2.2.2.1).fr) ((rd (dfl .half) j21.1.2.2.2.2.1 j21.2.2.2.1).nu) ((rd (dfl .half) j21.1.2.2.2.2.1 j21.2.2.2.1).to) ((rd (dfl .half) j21.1.2.2.2.2.1 j21.2.2.2.1).un) ((rd (dfl .half) j21.1.2.2.2.2.1 j21.2.2.2.1).sz) r24.1.1)) j21.2.2.2.1).got,())).bind fun r25=>
 if !r25.1.2.1 then
 some (((j21.1.1,j21.1.2.1,j21.1.2.2.1,j21.1.2.2.2.1,(aqZ j21.1.2.2.2.2.1 (aqy j21.2.2.2.1) (ajY.mk ((rd (dfl .half) j21.1.2.2.2.2.1 j21.2.2.2.1).fr) ((rd (dfl .half) j21.1.2.2.2.2.1 j21.2.2.2.1).nu) ((rd (dfl .half) j21.1.2.2.2.2.1 j21.2.2.2.1).to) ((rd (dfl .half) j21.1.2.2.2.2.1 j21.2.2.2.1).un) ((rd (dfl .half) j21.1.2.2.2.2.1 j21.2.2.2.1).sz) r24.1.1)),()),([]:List Frame),()),())
 else
 if decide (0≤j21.2.2.2.1)&&decide (j21.2.2.2.1≤((aqZ j21.1.2.2.2.2.1 (aqy j21.2.2.2.1) (ajY.mk ((rd (dfl .half) j21.1.2.2.2.2.1 j21.2.2.2.1).fr) ((rd (dfl .half) j21.1.2.2.2.2.1 j21.2.2.2.1).nu) ((rd (dfl .half) j21.1.2.2.2.2.1 j21.2.2.2.1).to) ((rd (dfl .half) j21.1.2.2.2.2.1 j21.2.2.2.1).un) ((rd (dfl .half) j21.1.2.2.2.2.1 j21.2.2.2.1).sz) r24.1.1)).length:Int)) then
 if al (([]:List ajY).length+(aqR (aqy j21.2.2.2.1) (aqZ j21.1.2.2.2.2.1 (aqy j21.2.2.2.1) (ajY.mk ((rd (dfl .half) j21.1.2.2.2.2.1 j21.2.2.2.1).fr) ((rd (dfl .half) j21.1.2.2.2.2.1 j21.2.2.2.1).nu) ((rd (dfl .half) j21.1.2.2.2.2.1 j21.2.2.2.1).to) ((rd (dfl .half) j21.1.2.2.2.2.1 j21.2.2.2.1).un) ((rd (dfl .half) j21.1.2.2.2.2.1 j21.2.2.2.1).sz) r24.1.1))).length) then
 if decide (0≤(w64 (j21.2.2.2.1+1)))&&decide ((w64 (j21.2.2.2.1+1))≤((aqZ j21.1.2.2.2.2.1 (aqy j21.2.2.2.1) (ajY.mk ((rd (dfl .half) j21.1.2.2.2.2.1 j21.2.2.2.1).fr) ((rd (dfl .half) j21.1.2.2.2.2.1 j21.2.2.2.1).nu) ((rd (dfl .half) j21.1.2.2.2.2.1 j21.2.2.2.1).to) ((rd (dfl .half) j21.1.2.2.2.2.1 j21.2.2.2.1).un) ((rd (dfl .half) j21.1.2.2.2.2.1 j21.2.2.2.1).sz) r24.1.1)).length:Int)) then
 if al ((([]:List ajY)++(aqR (aqy j21.2.2.2.1) (aqZ j21.1.2.2.2.2.1 (aqy j21.2.2.2.1) (ajY.mk ((rd (dfl .half) j21.1.2.2.2.2.1 j21.2.2.2.1).fr) ((rd (dfl .half) j21.1.2.2.2.2.1 j21.2.2.2.1).nu) ((rd (dfl .half) j21.1.2.2.2.2.1 j21.2.2.2.1).to) ((rd (dfl .half) j21.1.2.2.2.2.1 j21.2.2.2.1).un) ((rd (dfl .half) j21.1.2.2.2.2.1 j21.2.2.2.1).sz) r24.1.1)))).length+(aq9 (aqy (w64 (j21.2.2.2.1+1))) (aqZ j21.1.2.2.2.2.1 (aqy j21.2.2.2.1) (ajY.mk ((rd (dfl .half) j21.1.2.2.2.2.1 j21.2.2.2.1).fr) ((rd (dfl .half) j21.1.2.2.2.2.1 j21.2.2.2.1).nu) ((rd (dfl .half) j21.1.2.2.2.2.1 j21.2.2.2.1).to) ((rd (dfl .half) j21.1.2.2.2.2.1 j21.2.2.2.1).un) ((rd (dfl .half) j21.1.2.2.2.2.1 j21.2.2.2.1).sz) r24.1.1))).length) then
 (dj ((j21.2.1.2.2.2.1,j21.2.1.2.2.2.2.1,j21.2.1.2.2.2.2.2.1,j21.2.1.2.2.2.2.2.2.1,r25.1.1,()),())).bind fun r26=>
 if decide ((B [116,97,107,101,32]).size+r26.1.1.size≤4611686018427387904) then
 (jk ((j21.1.1,j21.1.2.1,j21.1.2.2.1,j21.1.2.2.2.1,((([]:List ajY)++(aqR (aqy j21.2.2.2.1) (aqZ j21.1.2.2.2.2.1 (aqy j21.2.2.2.1) (ajY.mk ((rd (dfl .half) j21.1.2.2.2.2.1 j21.2.2.2.1).fr) ((rd (dfl .half) j21.1.2.2.2.2.1 j21.2.2.2.1).nu) ((rd (dfl .half) j21.1.2.2.2.2.1 j21.2.2.2.1).to) ((rd (dfl .half) j21.1.2.2.2.2.1 j21.2.2.2.1).un) ((rd (dfl .half) j21.1.2.2.2.2.1 j21.2.2.2.1).sz) r24.1.1))))++(aq9 (aqy (w64 (j21.2.2.2.1+1))) (aqZ j21.1.2.2.2.2.1 (aqy j21.2.2.2.1) (ajY.mk ((rd (dfl .half) j21.1.2.2.2.2.1 j21.2.2.2.1).fr) ((rd (dfl .half) j21.1.2.2.2.2.1 j21.2.2.2.1).nu) ((rd (dfl .half) j21.1.2.2.2.2.1 j21.2.2.2.1).to) ((rd (dfl .half) j21.1.2.2.2.2.1 j21.2.2.2.1).un) ((rd (dfl .half) j21.1.2.2.2.2.1 j21.2.2.2.1).sz) r24.1.1)))),()),((B [116,97,107,101,32])++r26.1.1),())).bind fun r27=>
 if !r27.1.2.1 then
 let v29:=((([]:List ajY)++(aqR (aqy j21.2.2.2.1) (aqZ j21.1.2.2.2.2.1 (aqy j21.2.2.2.1) (ajY.mk ((rd (dfl .half) j21.1.2.2.2.2.1 j21.2.2.2.1).fr) ((rd (dfl .half) j21.1.2.2.2.2.1 j21.2.2.2.1).nu) ((rd (dfl .half) j21.1.2.2.2.2.1 j21.2.2.2.1).to) ((rd (dfl .half) j21.1.2.2.2.2.1 j21.2.2.2.1).un) ((rd (dfl .half) j21.1.2.2.2.2.1 j21.2.2.2.1).sz) r24.1.1))))++(aq9 (aqy (w64 (j21.2.2.2.1+1))) (aqZ j21.1.2.2.2.2.1 (aqy j21.2.2.2.1) (ajY.mk ((rd (dfl .half) j21.1.2.2.2.2.1 j21.2.2.2.1).fr) ((rd (dfl .half) j21.1.2.2.2.2.1 j21.2.2.2.1).nu) ((rd (dfl .half) j21.1.2.2.2.2.1 j21.2.2.2.1).to) ((rd (dfl .half) j21.1.2.2.2.2.1 j21.2.2.2.1).un) ((rd (dfl .half) j21.1.2.2.2.2.1 j21.2.2.2.1).sz) r24.1.1))))
 some (((j21.1.1,j21.1.2.1,j21.1.2.2.1,j21.1.2.2.2.1,v29,()),([]:List Frame),()),())
 else
 (j9 (r27.1.1,())).bind fun r30=>
 (sv (2,j21.2.1,())).bind fun r31=>
 some ((r30.1.1,r31.1),())
 else none
 else none
 else none
 else none
 else none
 else none)
 ((if decide (r18.1.1 < 0) then
 if al (x.1.2.2.2.2.1.length+([(ajY.mk x.2.1.2.2.2.1 x.2.1.2.2.2.2.1 x.2.1.2.2.2.2.2.1 x.2.1.2.2.2.2.2.2.1 x.2.1.2.2.2.2.2.2.2.1 ([]:List ajV))]:List ajY).length) then
 if decide (3 < ((x.1.2.2.2.2.1++([(ajY.mk x.2.1.2.2.2.1 x.2.1.2.2.2.2.1 x.2.1.2.2.2.2.2.1 x.2.1.2.2.2.2.2.2.1 x.2.1.2.2.2.2.2.2.2.1 ([]:List ajV))]:List ajY)).length:Int)) then
 if decide (0≤1)&&decide (1≤((x.1.2.2.2.2.1++([(ajY.mk x.2.1.2.2.2.1 x.2.1.2.2.2.2.1 x.2.1.2.2.2.2.2.1 x.2.1.2.2.2.2.2.2.1 x.2.1.2.2.2.2.2.2.2.1 ([]:List ajV))]:List ajY)).length:Int)) then
 let v22:=(w64 (((aq9 (aqy 1) (x.1.2.2.2.2.1++([(ajY.mk x.2.1.2.2.2.1 x.2.1.2.2.2.2.1 x.2.1.2.2.2.2.2.1 x.2.1.2.2.2.2.2.2.1 x.2.1.2.2.2.2.2.2.2.1 ([]:List ajV))]:List ajY))).length:Int) - 1))
 some (.inr ((x.1.1,x.1.2.1,x.1.2.2.1,x.1.2.2.2.1,(aq9 (aqy 1) (x.1.2.2.2.2.1++([(ajY.mk x.2.1.2.2.2.1 x.2.1.2.2.2.2.1 x.2.1.2.2.2.2.2.1 x.2.1.2.2.2.2.2.2.1 x.2.1.2.2.2.2.2.2.2.1 ([]:List ajV))]:List ajY))),()),x.2.1,(0,false,noB,0,([]:List ajY),()),v22,()))
 else none
 else
 let v23:=(w64 (((x.1.2.2.2.2.1++([(ajY.mk x.2.1.2.2.2.1 x.2.1.2.2.2.2.1 x.2.1.2.2.2.2.2.1 x.2.1.2.2.2.2.2.2.1 x.2.1.2.2.2.2.2.2.2.1 ([]:List ajV))]:List ajY)).length:Int) - 1))
 some (.inr ((x.1.1,x.1.2.1,x.1.2.2.1,x.1.2.2.2.1,(x.1.2.2.2.2.1++([(ajY.mk x.2.1.2.2.2.1 x.2.1.2.2.2.2.1 x.2.1.2.2.2.2.2.1 x.2.1.2.2.2.2.2.2.1 x.2.1.2.2.2.2.2.2.2.1 ([]:List ajV))]:List ajY)),()),x.2.1,(0,false,noB,0,([]:List ajY),()),v23,()))
 else none
 else
 some (.inr (x.1,x.2.1,(0,false,noB,0,([]:List ajY),()),r18.1)))))))
 else none)
def zV:Ent:=(49,none,⟨[Z15,Z16],[Z8,.fz .frame],iT⟩)
def Dl:SQ Tryz.prog zV:=sk (v:=t1 (t1 (t1 (t1 (.join [(2,Z14),(3,Z18),(4,Z14),(7,.int .i64)] .nil .nil))))) (fn:=Tryz.f49) MS kN
def HT:Cx:=cX [DW,dU,eZ,gM,zV,ia,xL,rO] [] [(70,77)]
def KQ:OKC Tryz.prog HT af:=okc mixed (gC Hy (gC dk (gC dG (gC fX (gC Dl (gC eG (gC tL (gC tj (au)))))))))
def kQ(x:Y3×Y7×aqq):Option ((Y3×List Frame×aqq)×aqq):=
 (cZ (x.1,())).bind fun r2=>
 if !r2.1.1 then
 some (((0,false,noB,0,([]:List ajY),()),([]:List Frame),()),())
 else
 (bT (x.1,())).bind fun r3=>
 if !x.1.2.1 then
 some ((r3.1.1,([]:List Frame),()),())
 else
 (qR x.2).bind fun r6=>
 if !r6.1.1 then
 some ((r3.1.1,([]:List Frame),()),())
 else
 if !decide (x.2.1.2.2.1=x.1.1) then
 some ((r3.1.1,([]:List Frame),()),())
 else
 if decide (x.2.1.1=1) then
 (iT (r3.1.1,x.2)).bind fun r14=>
 (bT (r14.1.1,())).bind fun r15=>
 some ((r15.1.1,r14.1.2),())
 else
 if decide (x.2.1.1=2) then
 (bP (x.1,())).bind fun r16=>
 (ca (r16.1.1.2.2.2.1,x.2.1.2.2.2.1,x.2.1.2.2.2.2.1,())).bind fun r17=>
 (bB (X:=Y7×Y3×Y3×Bool×aqq) (fun j18=>
 if j18.2.2.2.1 then
 (fA ((B [108,101,116]),j18.1.2.2.2.1,j18.1.2.2.2.2.1,j18.1.2.2.2.2.2.2.1,())).bind fun r19=>
 (jk (j18.2.2.1,r19.1)).bind fun r20=>
 some ((r20.1.1,([]:List Frame),()),())
 else
 some ((j18.2.2.1,([]:List Frame),()),()))
 ((if decide (0≤r17.1.1) then
 if inb r17.1.1 r16.1.1.2.2.2.1.length then
 if bg (decide ((rd (dfl .note) r16.1.1.2.2.2.1 r17.1.1).to=x.2.1.2.2.2.2.2.1)) (inb r17.1.1 r16.1.1.2.2.2.1.length) then
 some (.inr (x.2.1,(0,false,noB,0,([]:List ajY),()),r3.1.1,((decide ((rd (dfl .note) r16.1.1.2.2.2.1 r17.1.1).to=x.2.1.2.2.2.2.2.1))&&(decide ((rd (dfl .note) r16.1.1.2.2.2.1 r17.1.1).un=x.2.1.2.2.2.2.2.2.1))),()))
 else none
 else none
 else
 if bg false (inb r17.1.1 r16.1.1.2.2.2.1.length) then
 some (.inr (x.2.1,(0,false,noB,0,([]:List ajY),()),r3.1.1,false,()))
 else none)))
 else
 some ((r3.1.1,([]:List Frame),()),())
def xQ:Ent:=(13,none,⟨[Z8,Z16],[Z8,.fz .frame],kQ⟩)
def Cj:SQ Tryz.prog xQ:=sk (v:=t1 (t1 (t1 (t1 (.two (t1 (.one (t1 (t1 (t1 (.two (t1 (t1 (.join [(3,Z18),(4,Z14),(6,Z14),(78,.bool)] .nil .nil))) .nil)))))) .nil))))) (fn:=Tryz.f13) KQ kN
def Uo:Cx:=cX [] [] []
def KJ:OKC Tryz.prog Uo af:=okc mixed (au)
def yf(x:List ajT×Y0×Int×aqq):Rnd (List ajT×Y0×Int×aqq) (Bool×aqq) (aqq):=
 if decide (x.2.2.1 < (x.1.length:Int)) then
 if inb x.2.2.1 x.1.length then
 if af2 ((rd (dfl .note) x.1 x.2.2.1).fr) ((rd (dfl .note) x.1 x.2.2.1).nu) ((rd (dfl .note) x.1 x.2.2.1).to) ((rd (dfl .note) x.1 x.2.2.1).un) ((rd (dfl .note) x.1 x.2.2.1).tx) x.2.1.1 x.2.1.2.1 x.2.1.2.2.1 x.2.1.2.2.2.1 x.2.1.2.2.2.2.1 then
 some (.inr (.inl (true,())))
 else
 some (.inl (x.1,x.2.1,(w64 (x.2.2.1+1)),()))
 else none
 else
 some (.inr (.inr ()))
def zg:=aR yf
def Dd:Loop:=⟨[(0,.sl .note),(3,Z0),(5,.int .i64)],[],0,[(4,.bool)],zg⟩
def T7:LF Tryz.f20 [] [1,0,1,0,0] Dd:=sq (v:= .nil) KJ (b:=yf) kN
def cC(x:List ajT×Y0×aqq):Option ((Bool×aqq)×aqq):=
 (aJ (zg (x.1,x.2.1,0,()))
 (fun y2=>some (y2,()))
 (fun y2=>some ((false,()),())))
def JX:Ent:=(20,none,⟨[.fz .note,Z1],[.bool],cC⟩)
def Ls:SQ Tryz.prog JX:=sk (v:=t1 (.two (t1 (.one (.loop Dd))) .nil)) (fn:=Tryz.f20) KJ (kC T7 kN)
def Cn:Cx:=cX [F1,zL,aX,oM,vZ] [] []
def Ea:OKC Tryz.prog Cn af:=okc mixed (gC Im (gC Cv (gC aL (gC o9 (gC ve (au))))))
def eg(x:List Int×aqq):Option ((Y3×Int×Int×Int×aqq)×aqq):=
 (rW x).bind fun r1=>
 (kY (r1.1.1,10,())).bind fun r2=>
 (fG ((r2.2.1,r2.1.1.2),())).bind fun r3=>
 (bB (X:=Y3×Y8×Y11×Int×Y0×Bool×aqq) (fun j18=>
 if j18.2.2.2.2.2.1 then
 if inb j18.2.2.2.1 j18.2.2.1.2.2.1.length then
 (ab (j18.2.1,8,())).bind fun r20=>
 (ab (r20.2.1,2,())).bind fun r21=>
 (ab (r21.2.1,1002,())).bind fun r22=>
 (ab (r22.2.1,9,())).bind fun r23=>
 let v24:=(rd (dfl .ajU) j18.2.2.1.2.2.1 j18.2.2.2.1).id
 let v25:=(rd (dfl .ajU) j18.2.2.1.2.2.1 j18.2.2.2.1).up
 let v26:=(rd (dfl .ajU) j18.2.2.1.2.2.1 j18.2.2.2.1).log
 let v27:=(rd (dfl .ajU) j18.2.2.1.2.2.1 j18.2.2.2.1).fo
 let v28:=(rd (dfl .ajU) j18.2.2.1.2.2.1 j18.2.2.2.1).ajS
 let v29:=(w64 (j18.2.2.2.2.1.2.1+(w64 (aqU r20.1.1 7))))
 let v30:=(w64 ((w64 ((w64 (r21.1.1 * r22.1.1))+r23.1.1)) - 1))
 some (((v24,v25,v26,v27,v28,()),j18.2.2.2.2.1.1,v29,v30,()),())
 else none
 else
 (lJ (j18.2.1,())).bind fun r31=>
 (ab (r31.2.1,4,())).bind fun r32=>
 (ab (r32.2.1,3,())).bind fun r33=>
 (ab (r33.2.1,9,())).bind fun r34=>
 some ((r31.1.2.1,r32.1.1,(w64 (1+r33.1.1)),r34.1),()))
 ((if r3.1.2.2.1 then
 (ab (r3.2.1.1,8,())).bind fun r19=>
 some (.inr ((0,false,noB,0,([]:List ajY),()),r19.2.1,((),r3.2.1.2),r3.1.1,r3.1.2.1,(decide (0 < r19.1.1)),()))
 else
 some (.inr ((0,false,noB,0,([]:List ajY),()),r3.2.1.1,((),r3.2.1.2),r3.1.1,r3.1.2.1,false,())))))
def tn:Ent:=(22,none,⟨[.fz .u8],[Z8,.int .i64,.int .i64,.int .i64],eg⟩)
def x7:SQ Tryz.prog tn:=sk (v:=t1 (t1 (t1 (t1 (.two (.join [(2,Z14),(6,Z23),(7,Z32),(8,.int .i64),(9,Z0),(28,.bool)] .nil .nil) .nil))))) (fn:=Tryz.f22) Ea kN
def SP:Cx:=cX [cD,gN] [] []
def GC:OKC Tryz.prog SP af:=okc mixed (gC bk (gC gX (au)))
def qJ(x:aqp×List aqp×Int×aqq):Rnd (aqp×List aqp×Int×aqq) (aqq) (List aqp×aqq):=
 if decide (x.2.2.1 < (x.1.size:Int)) then
 if decide (0≤4)&&decide (4≤4294967296) then
 if decide (0≤x.2.2.1)&&decide (x.2.2.1≤(x.1.size:Int)) then
 if al (x.2.1.length+([(dR (aqR (aqQ (aqy 4) (dfl .u8)).length (aH (x.1.extract (aqy x.2.2.1) (x.1.size)))++aq9 (aH (x.1.extract (aqy x.2.2.1) (x.1.size))).length (aqQ (aqy 4) (dfl .u8))))]:List aqp).length) then
 some (.inl (x.1,(x.2.1++([(dR (aqR (aqQ (aqy 4) (dfl .u8)).length (aH (x.1.extract (aqy x.2.2.1) (x.1.size)))++aq9 (aH (x.1.extract (aqy x.2.2.1) (x.1.size))).length (aqQ (aqy 4) (dfl .u8))))]:List aqp)),(w64 (x.2.2.1+4)),()))
 else none
 else none
 else none
 else
 some (.inr (.inr (x.2.1,())))
def qI:=aR qJ
def BH:Loop:=⟨[(0,.str),(3,.row 9 .str),(4,.int .i64)],[(3,.row 9 .str)],0,[],qI⟩
def Rt:LF Tryz.f121 [] [1,1,1,0,1,0,0] BH:=sq (v:= .nil) GC (b:=qJ) kN
def sx(x:aqp×aqq):Option ((List aqp×aqq)×aqq):=
 (aK ((x.1.size:Int),1,24,())).bind fun r2=>
 if !r2.1.1 then
 some ((([]:List aqp),()),())
 else
 (aJ (qI (x.1,([]:List aqp),0,()))
 (fun _=>none)
 (fun y4=>(dh y4).bind fun r5=>
 some (r5.1,())))
def Gk:Ent:=(121,none,⟨[.str],[.row 9 .str],sx⟩)
def JH:SQ Tryz.prog Gk:=sk (v:=t1 (t1 (t1 (.two (t1 (.one (.loop BH))) .nil)))) (fn:=Tryz.f121) GC (kC Rt kN)
def OX:Cx:=cX [Gk,A2,AZ] [] []
def Ef:OKC Tryz.prog OX af:=okc mixed (gC JH (gC zB (gC zj (au))))
def jP(x:List aqp×aqp×List Int×Int×Int×aqq):Rnd (List aqp×aqp×List Int×Int×Int×aqq) (aqq) (aqp×aqq):=
 if decide (x.2.2.2.2.1 < x.2.2.2.1) then
 if inb x.2.2.2.2.1 x.2.2.1.length then
 let v15:=(rd (dfl .int) x.2.2.1 x.2.2.2.2.1)
 (if decide (x.2.2.2.2.1=0) then
 if inb v15 x.1.length then
 some (.inl (x.1,(rd (dfl .str) x.1 v15),x.2.2.1,x.2.2.2.1,(w64 (x.2.2.2.2.1+1)),()))
 else none
 else
 if inb v15 x.1.length then
 (qc (x.2.1,(rd (dfl .str) x.1 v15),())).bind fun r16=>
 some (.inl (x.1,r16.1.1,x.2.2.1,x.2.2.2.1,(w64 (x.2.2.2.2.1+1)),()))
 else none)
 else none
 else
 some (.inr (.inr (x.2.1,())))
def fT:=aR jP
def zC:Loop:=⟨[(5,.row 9 .str),(6,.str),(14,.row 3 .int),(15,.int .i64),(16,.int .i64)],[(6,.str)],0,[],fT⟩
def Oi:LF Tryz.f65 [] [1,1,1,0,1,0,0] zC:=sq (v:= .nil) Ef (b:=jP) kN
def qH(x:aqp×Int×aqq):Option ((aqp×aqq)×aqq):=
 (sx (x.1,())).bind fun r1=>
 (qG ((r1.1.1.length:Int),x.2)).bind fun r8=>
 (aJ (fT (r1.1.1,noB,r8.1.1,(r8.1.1.length:Int),0,()))
 (fun _=>none)
 (fun y17=>some (y17,())))
def DV:Ent:=(65,none,⟨[.str,.int .i64],[.str],qH⟩)
def Hx:SQ Tryz.prog DV:=sk (v:=t1 (t1 (t1 (.two (t1 (.one (.loop zC))) .nil)))) (fn:=Tryz.f65) Ef (kC Oi kN)
def Kq:Cx:=cX [dU,tX,eZ,ia,cD,DV] [] []
def MV:OKC Tryz.prog Kq af:=okc mixed (gC dk (gC uz (gC dG (gC eG (gC bk (gC Hx (au)))))))
def iV(x:Y3×Int×Int×Int×aqq):Option ((Y7×Bool×aqq)×aqq):=
 (cZ (x.1,())).bind fun r5=>
 if !r5.1.1 then
 some (((0,0,0,0,0,0,0,0,0,noB,()),false,()),())
 else
 if !x.1.2.1 then
 some (((0,0,0,0,0,0,0,0,0,noB,()),false,()),())
 else
 (aK (x.2.2.2.1,0,999,())).bind fun r6=>
 if !r6.1.1 then
 some (((0,0,0,0,0,0,0,0,0,noB,()),false,()),())
 else
 (bP (x.1,())).bind fun r7=>
 (ca (r7.1.1.2.2.2.1,x.2.1,x.2.2.1,())).bind fun r8=>
 if decide (r8.1.1 < 0) then
 some (((0,0,0,0,0,0,0,0,0,noB,()),false,()),())
 else
 if inb r8.1.1 r7.1.1.2.2.2.1.length then
 let v9:=(rd (dfl .note) r7.1.1.2.2.2.1 r8.1.1).fr
 let v10:=(rd (dfl .note) r7.1.1.2.2.2.1 r8.1.1).nu
 let v11:=(rd (dfl .note) r7.1.1.2.2.2.1 r8.1.1).to
 let v12:=(rd (dfl .note) r7.1.1.2.2.2.1 r8.1.1).un
 let v13:=(rd (dfl .note) r7.1.1.2.2.2.1 r8.1.1).tx
 (bK (x.1.1,v11,())).bind fun r14=>
 (qH (v13,x.2.2.2)).bind fun r15=>
 some (((1,x.1.1,r14.1.1,v9,v10,v11,v12,(v13.size:Int),x.2.2.2.1,r15.1),true,()),())
 else none
def zZ:Ent:=(24,none,⟨[Z8,.int .i64,.int .i64,.int .i64],[Z16,.bool],iV⟩)
def Dt:SQ Tryz.prog zZ:=sk (v:= .nil) (fn:=Tryz.f24) MV kN
def Fy:Cx:=cX [cV] [] []
def H5:OKC Tryz.prog Fy af:=okc mixed (gC bU (au))
def jD(x:Int×aqq):Option ((Y3×aqq)×aqq):=
 (bj x).bind fun r2=>
 if !r2.1.1 then
 some (((0,false,noB,0,([]:List ajY),()),()),())
 else
 some (((x.1,true,noB,0,([]:List ajY),()),()),())
def wu:Ent:=(25,none,⟨[.int .i64],[Z15],jD⟩)
def AP:SQ Tryz.prog wu:=sk (v:= .nil) (fn:=Tryz.f25) H5 kN
def OS:Cx:=cX [gM,xL,yy] [] []
def Te:OKC Tryz.prog OS af:=okc mixed (gC fX (gC tL (gC xq (au))))
def lq(x:Y3×aqp×aqq):Option ((Y3×Bool×aqq)×aqq):=
 (jk x).bind fun r1=>
 if !r1.1.2.1 then
 (bT (x.1,())).bind fun r3=>
 some ((r3.1.1,false,()),())
 else
 (j9 (r1.1.1,())).bind fun r4=>
 (bT r4.1).bind fun r5=>
 some ((r5.1.1,true,()),())
def DR:Ent:=(66,none,⟨[Z8,.str],[Z15,.bool],lq⟩)
def Hq:SQ Tryz.prog DR:=sk (v:= .nil) (fn:=Tryz.f66) Te kN
def HR:Cx:=cX [dU,eZ,gM,DR,iX] [] []
def KO:OKC Tryz.prog HR af:=okc mixed (gC dk (gC dG (gC fX (gC Hq (gC fF (au))))))
def kP(x:Y3×aqq):Option ((Y3×Bool×aqq)×aqq):=
 (cZ x).bind fun r2=>
 if !r2.1.1 then
 some (((0,false,noB,0,([]:List ajY),()),false,()),())
 else
 if !x.1.2.1 then
 (bT x).bind fun r4=>
 some ((r4.1.1,false,()),())
 else
 (bP x).bind fun r5=>
 (bM ((w64 (r5.1.1.2.1+1)),())).bind fun r6=>
 if decide ((B [116,105,109,101,32]).size+r6.1.1.size≤4611686018427387904) then
 (lq (x.1,((B [116,105,109,101,32])++r6.1.1),())).bind fun r7=>
 some (r7.1,())
 else none
def xO:Ent:=(26,none,⟨[Z8],[Z15,.bool],kP⟩)
def Ch:SQ Tryz.prog xO:=sk (v:= .nil) (fn:=Tryz.f26) KO kN
def Km:Cx:=cX [jb,mm] [] []
def MT:OKC Tryz.prog Km af:=okc mixed (gC fR (gC lv (au)))
def l9(x:Y4×Int×aqq):Option ((Y4×aqq)×aqq):=
 (et (x.1,())).bind fun r2=>
 if !r2.1.1 then
 some (((noB,0,()),()),())
 else
 if decide (0≤(w64 (x.1.2.1+(if 0 < (if(w64 ((x.1.1.size:Int) - x.1.2.1)) < x.2.1 then(w64 ((x.1.1.size:Int) - x.1.2.1)) else x.2.1) then(if(w64 ((x.1.1.size:Int) - x.1.2.1)) < x.2.1 then(w64 ((x.1.1.size:Int) - x.1.2.1)) else x.2.1) else 0))))&&decide ((w64 (x.1.2.1+(if 0 < (if(w64 ((x.1.1.size:Int) - x.1.2.1)) < x.2.1 then(w64 ((x.1.1.size:Int) - x.1.2.1)) else x.2.1) then(if(w64 ((x.1.1.size:Int) - x.1.2.1)) < x.2.1 then(w64 ((x.1.1.size:Int) - x.1.2.1)) else x.2.1) else 0)))≤(x.1.1.size:Int)) then
 let v3:=(x.1.1.extract (0) (aqy (w64 (x.1.2.1+(if 0 < (if(w64 ((x.1.1.size:Int) - x.1.2.1)) < x.2.1 then(w64 ((x.1.1.size:Int) - x.1.2.1)) else x.2.1) then(if(w64 ((x.1.1.size:Int) - x.1.2.1)) < x.2.1 then(w64 ((x.1.1.size:Int) - x.1.2.1)) else x.2.1) else 0)))))
 (dT (v3,())).bind fun r4=>
 if decide (0≤r4.1.2.1)&&decide (r4.1.2.1≤(v3.size:Int)) then
 let v5:=(v3.extract (0) (aqy r4.1.2.1))
 some (((v5,r4.1.2),()),())
 else none
 else none
def zX:Ent:=(72,none,⟨[Z9,.int .i64],[Z9],l9⟩)
def Dn:SQ Tryz.prog zX:=sk (v:= .nil) (fn:=Tryz.f72) MT kN
def HU:Cx:=cX [eZ,zX] [] []
def KR:OKC Tryz.prog HU af:=okc mixed (gC dG (gC Dn (au)))
def kR(x:Y3×Int×aqq):Option ((Y3×aqq)×aqq):=
 (cZ (x.1,())).bind fun r2=>
 if !r2.1.1 then
 some (((0,false,noB,0,([]:List ajY),()),()),())
 else
 (l9 ((x.1.2.2.1,x.1.2.2.2.1,()),x.2)).bind fun r3=>
 some (((x.1.1,false,r3.1.1.1,r3.1.1.2.1,([]:List ajY),()),()),())
def xR:Ent:=(30,none,⟨[Z8,.int .i64],[Z15],kR⟩)
def Ck:SQ Tryz.prog xR:=sk (v:= .nil) (fn:=Tryz.f30) KR kN
def HS:Cx:=cX [eZ,gM] [] []
def KP:OKC Tryz.prog HS af:=okc mixed (gC dG (gC fX (au)))
def gK(x:Y3×aqq):Option ((Y3×aqq)×aqq):=
 (cZ x).bind fun r2=>
 if !r2.1.1 then
 some (((0,false,noB,0,([]:List ajY),()),()),())
 else
 (bT x).bind fun r3=>
 some (((r3.1.1.1,true,r3.1.1.2.2),()),())
def xP:Ent:=(68,none,⟨[Z8],[Z15],gK⟩)
def Ci:SQ Tryz.prog xP:=sk (v:= .nil) (fn:=Tryz.f68) KP kN
def Sw:Cx:=cX [dU,xR,xP] [] []
def UI:OKC Tryz.prog Sw af:=okc mixed (gC dk (gC Ck (gC Ci (au))))
def sn(x:Y3×aqq):Option ((Y1×aqq)×aqq):=
 (kR (x.1,0,())).bind fun r1=>
 (gK r1.1).bind fun r2=>
 (bP r2.1).bind fun r3=>
 some (r3.1,())
def Gc:Ent:=(27,none,⟨[Z8],[Z7],sn⟩)
def Jh:SQ Tryz.prog Gc:=sk (v:= .nil) (fn:=Tryz.f27) UI kN
def Co:Cx:=cX [xQ,dU,JX,tn,rM,zZ,wu,xO,Gc] [] [(26,28),(69,71),(147,156),(166,167)]
def lF:OKC Tryz.prog Co af:=okc mixed (gC Cj (gC dk (gC Ls (gC x7 (gC sS (gC Dt (gC AP (gC Ch (gC Jh (au))))))))))
def km(x:Y3×Int×Int×List Frame×Y1×Int×Int×aqq):Rnd (Y3×Int×Int×List Frame×Y1×Int×Int×aqq) (aqq) (List Frame×Int×aqq):=
 (bP (x.1,())).bind fun r83=>
 if decide (x.2.2.2.2.2.2.1 < (r83.1.1.2.2.2.1.length:Int)) then
 (bP (x.1,())).bind fun r91=>
 if inb x.2.2.2.2.2.2.1 r91.1.1.2.2.2.1.length then
 let v92:=(rd (dfl .note) r91.1.1.2.2.2.1 x.2.2.2.2.2.2.1).fr
 let v93:=(rd (dfl .note) r91.1.1.2.2.2.1 x.2.2.2.2.2.2.1).nu
 let v94:=(rd (dfl .note) r91.1.1.2.2.2.1 x.2.2.2.2.2.2.1).to
 let v95:=(rd (dfl .note) r91.1.1.2.2.2.1 x.2.2.2.2.2.2.1).un
 let v96:=(rd (dfl .note) r91.1.1.2.2.2.1 x.2.2.2.2.2.2.1).tx
 if decide (v92=x.2.1) then
 if bg (decide (v93=x.2.2.1)) ((cC (x.2.2.2.2.1.2.2.2.1,(v92,v93,v94,v95,v96,()),())).isSome) then
 if bg ((decide (v93=x.2.2.1))&&(!(((cC (x.2.2.2.2.1.2.2.2.1,(v92,v93,v94,v95,v96,()),())).getD ((false,()),())).1.1))) ((cC (x.2.2.2.2.1.2.2.2.2.2.1,(v92,v93,v94,v95,v96,()),())).isSome) then
 if(decide (v93=x.2.2.1))&&((((cC (x.2.2.2.2.1.2.2.2.1,(v92,v93,v94,v95,v96,()),())).getD ((false,()),())).1.1)||(((cC (x.2.2.2.2.1.2.2.2.2.2.1,(v92,v93,v94,v95,v96,()),())).getD ((false,()),())).1.1)) then
 let v97:=(w64 (x.2.2.2.2.2.1+1))
 let v98:=(w64 (x.2.2.2.2.2.2.1+1))
 some (.inl (x.1,x.2.1,x.2.2.1,x.2.2.2.1,x.2.2.2.2.1,v97,v98,()))
 else
 let v99:=(w64 (x.2.2.2.2.2.2.1+1))
 some (.inl (x.1,x.2.1,x.2.2.1,x.2.2.2.1,x.2.2.2.2.1,x.2.2.2.2.2.1,v99,()))
 else none
 else none
 else
 if bg false ((cC (x.2.2.2.2.1.2.2.2.1,(v92,v93,v94,v95,v96,()),())).isSome) then
 if bg (false&&(!(((cC (x.2.2.2.2.1.2.2.2.1,(v92,v93,v94,v95,v96,()),())).getD ((false,()),())).1.1))) ((cC (x.2.2.2.2.1.2.2.2.2.2.1,(v92,v93,v94,v95,v96,()),())).isSome) then
 let api:=(w64 (x.2.2.2.2.2.2.1+1))
 some (.inl (x.1,x.2.1,x.2.2.1,x.2.2.2.1,x.2.2.2.2.1,x.2.2.2.2.2.1,api,()))
 else none
 else none
 else none
 else
 some (.inr (.inr (x.2.2.2.1,x.2.2.2.2.2.1,())))
def gU:=aR km
def qa:Loop:=⟨[(5,Z13),(6,.int .i64),(7,.int .i64),(14,.sl .frame),(18,Z4),(19,.int .i64),(20,.int .i64)],[(14,.sl .frame),(19,.int .i64)],2,[],gU⟩
def Cd:LF Tryz.f7 [] [1,1,1,1,1,1,1,1,1,1,1,1,1,1,0,1,0,0] qa:=sq (v:= .nil) lF (b:=km) kN
def ko(x:Y3×Int×Int×Y7×Y3×List Frame×Int×aqq):Rnd (Y3×Int×Int×Y7×Y3×List Frame×Int×aqq) (aqq) (Y3×Int×Int×Y7×Y3×List Frame×aqq):=
 if decide ((w64 (x.2.2.2.2.2.2.1 * 4)) < x.2.2.2.1.2.2.2.2.2.2.2.1) then
 (iV (x.1,x.2.1,x.2.2.1,x.2.2.2.2.2.2)).bind fun r36=>
 (kQ (x.2.2.2.2.1,r36.1.1,())).bind fun r37=>
 let v38:=(w64 (x.2.2.2.2.2.2.1+1))
 some (.inl (x.1,x.2.1,x.2.2.1,x.2.2.2.1,r37.1.1,r37.1.2.1,v38,()))
 else
 some (.inr (.inr (x.1,x.2.1,x.2.2.1,x.2.2.2.1,x.2.2.2.2.1,x.2.2.2.2.2.1,())))
def dX:=aR ko
def qb:Loop:=⟨[(5,Z13),(6,.int .i64),(7,.int .i64),(11,Z18),(13,Z33),(14,.fz .frame),(15,.int .i64)],[(5,Z13),(6,.int .i64),(7,.int .i64),(11,Z18),(13,Z13),(14,.sl .frame)],0,[],dX⟩
def Ce:LF Tryz.f7 [] [1,1,1,1,1,1,1,1,1,0,1,0,0] qb:=sq (v:= .nil) lF (b:=ko) kN
def eh(x:List Int×List Int×aqq):Option ((Bool×aqq)×aqq):=
 if(decide (1048576 < (x.1.length:Int)))||(decide (1048576 < (x.2.1.length:Int))) then
 some ((true,()),())
 else
 (eg (x.1,())).bind fun r1=>
 (ft r1.1).bind fun r2=>
 (iV r1.1).bind fun r3=>
 (bB (X:=List Int×Y3×Int×Int×Y7×Bool×Y7×Bool×Bool×aqq) (fun j7=>
 if j7.2.2.2.2.2.2.2.2.1 then
 let v8:=((decide (j7.2.2.2.2.2.2.2.1=j7.2.2.2.2.2.1))&&(ahG j7.2.2.2.2.2.2.1.1 j7.2.2.2.2.2.2.1.2.1 j7.2.2.2.2.2.2.1.2.2.1 j7.2.2.2.2.2.2.1.2.2.2.1 j7.2.2.2.2.2.2.1.2.2.2.2.1 j7.2.2.2.2.2.2.1.2.2.2.2.2.1 j7.2.2.2.2.2.2.1.2.2.2.2.2.2.1 j7.2.2.2.2.2.2.1.2.2.2.2.2.2.2.1 j7.2.2.2.2.2.2.1.2.2.2.2.2.2.2.2.1 j7.2.2.2.2.2.2.1.2.2.2.2.2.2.2.2.2.1 j7.2.2.2.2.1.1 j7.2.2.2.2.1.2.1 j7.2.2.2.2.1.2.2.1 j7.2.2.2.2.1.2.2.2.1 j7.2.2.2.2.1.2.2.2.2.1 j7.2.2.2.2.1.2.2.2.2.2.1 j7.2.2.2.2.1.2.2.2.2.2.2.1 j7.2.2.2.2.1.2.2.2.2.2.2.2.1 j7.2.2.2.2.1.2.2.2.2.2.2.2.2.1 j7.2.2.2.2.1.2.2.2.2.2.2.2.2.2.1))
 some ((v8,()),())
 else
 (jD (j7.2.2.2.2.2.2.1.2.2.1,())).bind fun r9=>
 (bB (X:=Y3×Int×Int×Y7×Y3×aqq) (fun j11=>
 (aJ (dX (j11.1,j11.2.1,j11.2.2.1,j11.2.2.2.1,j11.2.2.2.2.1,([]:List Frame),0,()))
 (fun _=>none)
 (fun y39=>(if !decide ((y39.2.2.2.2.2.1.length:Int)=1) then
 some ((false,()),())
 else
 (sn (y39.2.2.2.2.1,())).bind fun r40=>
 if decide (y39.2.2.2.1.2.2.2.2.2.2.1≤r40.1.1.2.1) then
 if inb 0 y39.2.2.2.2.2.1.length then
 let v42:=(decide ((rd (dfl .frame) y39.2.2.2.2.2.1 0).ki=3))
 some ((v42,()),())
 else none
 else
 (aJ (gU (y39.1,y39.2.1,y39.2.2.1,y39.2.2.2.2.2.1,r40.1.1,0,0,()))
 (fun _=>none)
 (fun anT=>(if inb 0 anT.1.length then
 let anY:=((decide ((rd (dfl .frame) anT.1 0).ki=2))&&(decide (anT.2.1=1)))
 some ((anY,()),())
 else none)))))))
 ((if decide ((arh (j7.1.length:Int) 3)=0) then
 (kP r9.1).bind fun r12=>
 some (.inr (j7.2.1,j7.2.2.1,j7.2.2.2.1,j7.2.2.2.2.2.2.1,r12.1.1,()))
 else
 some (.inr (j7.2.1,j7.2.2.1,j7.2.2.2.1,j7.2.2.2.2.2.2.1,r9.1))))))
 ((if !decide (r3.1.2.1=r2.1.2.1) then
 some (.inr (x.2.1,r1.1.1,r1.1.2.1,r1.1.2.2.1,r2.1.1,r2.1.2.1,r3.1.1,r3.1.2.1,true,()))
 else
 if !(ahG r3.1.1.1 r3.1.1.2.1 r3.1.1.2.2.1 r3.1.1.2.2.2.1 r3.1.1.2.2.2.2.1 r3.1.1.2.2.2.2.2.1 r3.1.1.2.2.2.2.2.2.1 r3.1.1.2.2.2.2.2.2.2.1 r3.1.1.2.2.2.2.2.2.2.2.1 r3.1.1.2.2.2.2.2.2.2.2.2.1 r2.1.1.1 r2.1.1.2.1 r2.1.1.2.2.1 r2.1.1.2.2.2.1 r2.1.1.2.2.2.2.1 r2.1.1.2.2.2.2.2.1 r2.1.1.2.2.2.2.2.2.1 r2.1.1.2.2.2.2.2.2.2.1 r2.1.1.2.2.2.2.2.2.2.2.1 r2.1.1.2.2.2.2.2.2.2.2.2.1) then
 some (.inr (x.2.1,r1.1.1,r1.1.2.1,r1.1.2.2.1,r2.1.1,r2.1.2.1,r3.1.1,r3.1.2.1,true,()))
 else
 some (.inr (x.2.1,r1.1.1,r1.1.2.1,r1.1.2.2.1,r2.1.1,r2.1.2.1,r3.1.1,r3.1.2.1,(!r3.1.2.1),())))))
def DN:Ent:=(7,none,⟨[.fz .u8,.fz .u8],[.bool],eh⟩)
def yg:SQ Tryz.prog DN:=sk (v:=t1 (t1 (t1 (t1 (t1 (.two (.join [(1,.sl .u8),(5,Z13),(6,.int .i64),(7,.int .i64),(9,Z18),(10,.bool),(11,Z18),(12,.bool),(64,.bool)] .nil .nil) (t1 (.join [(5,Z13),(6,.int .i64),(7,.int .i64),(11,Z18),(13,Z14)] .nil (t1 (.two (t1 (.one (.loop qb))) (t1 (t1 (t1 (t1 (.two (t1 (.one (.loop qa))) .nil))))))))))))))) (fn:=Tryz.f7) lF (kC Ce (kC Cd kN))
end Go.VS
end
