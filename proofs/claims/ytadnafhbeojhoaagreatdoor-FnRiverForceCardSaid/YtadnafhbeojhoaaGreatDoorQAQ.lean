/- Part 17. -/
import Derived.Test.YtadnafhbeojhoaaGreatDoorQAP
open Bool renaming false->A3,true->A1
open Decidable renaming decide->A0
open Int renaming tdiv->B0,tmod->BC,toNat->AM
open List renaming drop->Bs,replicate->BW,set->Bq,take->BU
open Option renaming none->U,some->I
set_option linter.all false
noncomputable section
namespace Go.VS
open Go Go.Proofs
set_option linter.unusedVariables false
set_option maxRecDepth 100000
def Q5:SQ Tryz.prog KP:=soX (fn:=Tryz.f20) (l:=5) (g:=9) ajr (by kernel_rfl) rfl (by kernel_rfl) aot agI
def aoE:Cx:=cX [GH] [] []
def axf:OKC Tryz.prog aoE AF:=okc mixed<|gC Gp<|AL
def KX(x:Y0×List A4×A2):Option ((A4×A2)×(Y0×A2)):=(At (x.1,(x.2.1.length:Int),())).bind λa=>if inb a.1.1 x.2.1.length then let b:=(rd (dfl .str) x.2.1 a.1.1);I ((b,()),a.2) else U
def QJ:Ent:=(76,U,⟨[Z0,.fz .str],[.str],KX⟩)
def V3:SQ Tryz.prog QJ:=sk (v:= .nil) (fn:=Tryz.f76) axf kN
def aoy:Cx:=cX [GH,KP,Gb,QJ] [] []
def al9:OKC Tryz.prog aoy AF:=okc mixed<|gC Gp<|gC Q5<|gC H7<|gC V3<|AL
def SZ(x:Y10×A2):Option ((A2)×(Y10×A2)):=(At (x.1.1,4,())).bind λc=>(KX (c.2.1,([(B [97]),(B [104,101,108,108,111]),(B [97,32,108,111,110,103,101,114,32,109,101,115,115,97,103,101]),(B [97,98,99,100]),(B [49,50,51,52,53,54,55,56]),(B [106,117,115,116,32,116,119,101,110,116,121,45,102,111,117,114,32,98,121,116,101,115,32,33,33]),(B [109,105,120,101,100,32,98,108,111,99,107,115])]:List A4),())).bind λb=>(BF (X:=Y10×Int×A4×A2) (λa=>if inb a.2.1 a.1.2.2.1.length then(Ey (((rd (dfl .AN) a.1.2.2.1 a.2.1).id,(rd (dfl .AN) a.1.2.2.1 a.2.1).up,(rd (dfl .AN) a.1.2.2.1 a.2.1).log,(rd (dfl .AN) a.1.2.2.1 a.2.1).fo,(rd (dfl .AN) a.1.2.2.1 a.2.1).AE,()),())).bind λf=>(At (a.1.1,4,())).bind λd=>(At (d.2.1,12,())).bind λe=>(FI ((e.2.1,a.1.2),(1,a.2.1,0,0,0,0,0,d.1.1,(w64<|(w64<|f.1.1.2.1+1)+e.1.1),a.2.2),())).bind λg=>I ((),g.2) else U)<|(if A0 (24<(b.1.1.size:Int)) then if A0 (0<=24)&&A0 (24<=(b.1.1.size:Int)) then let h:=(b.1.1.extract (0)<|AM 24);I (.inr ((b.2.1,x.1.2),c.1.1,h,())) else U else I (.inr ((b.2.1,x.1.2),c.1.1,b.1))))
def pQ:Ent:=(42,U,⟨[Z22],[],SZ⟩)
def aa7:SQ Tryz.prog pQ:=sk (v:=t1<|t1<|.join [(0,Z24),(2,.int .i64),(3,.str)] .nil .nil) (fn:=Tryz.f42) al9 kN
def alh:Cx:=cX [GH,Gb] [] []
def aEC:OKC Tryz.prog alh AF:=okc mixed<|gC Gp<|gC H7<|AL
def qf(x:Y10×Y5×Int×Int×A2):Rnd (Y10×Y5×Int×Int×A2) (Y10×Int×Y5×Bool×A2) (Y10×Y5×A2):=if A0 (x.2.2.2.1<4) then if inb x.2.2.1 x.1.2.2.1.length then(Ey (((rd (dfl .AN) x.1.2.2.1 x.2.2.1).id,(rd (dfl .AN) x.1.2.2.1 x.2.2.1).up,(rd (dfl .AN) x.1.2.2.1 x.2.2.1).log,(rd (dfl .AN) x.1.2.2.1 x.2.2.1).fo,(rd (dfl .AN) x.1.2.2.1 x.2.2.1).AE,()),())).bind λa=>if A0 (0<(a.1.1.2.2.2.1.length:Int)) then(At (x.1.1,(a.1.1.2.2.2.1.length:Int),())).bind λb=>if inb b.1.1 a.1.1.2.2.2.1.length then let c:=(rd (dfl .note) a.1.1.2.2.2.1 b.1.1).fr;let d:=(rd (dfl .note) a.1.1.2.2.2.1 b.1.1).nu;let e:=(rd (dfl .note) a.1.1.2.2.2.1 b.1.1).to;let f:=(rd (dfl .note) a.1.1.2.2.2.1 b.1.1).un;let g:=(rd (dfl .note) a.1.1.2.2.2.1 b.1.1).tx;I (.inr<|.inl ((b.2.1,x.1.2),x.2.2.1,(c,d,e,f,g,()),A1,())) else U else let h:=(BC (w64<|x.2.2.1+1) 4);I (.inl (x.1,x.2.1,h,(w64<|x.2.2.2.1+1),())) else U else I (.inr<|.inr (x.1,x.2.1,()))
def aCN:=AW qf
def aAP:Loop:=⟨[(0,Z24),(3,Z7),(5,.int .i64),(6,.int .i64)],[(0,Z24),(3,Z7)],0,[(0,Z24),(2,.int .i64),(3,Z7),(4,.bool)],aCN⟩
def akh:LF Tryz.f19 [0] [1,1,0,1,0,0] aAP:=sq (v:= .nil) aEC (b:=qf) kN
def V6(x:Y10×A2):Option ((Int×Y5×Bool×A2)×(Y10×A2)):=(At (x.1.1,4,())).bind λb=>(AO (aCN ((b.2.1,x.1.2),(0,0,0,0,noB,()),b.1.1,0,())) (λa=>I (a.2,(a.1,()))) λa=>I ((0,(0,0,0,0,noB,()),A3,()),(a.1,())))
def kW:Ent:=(19,U,⟨[Z22],[.int .i64,Z8,.bool],V6⟩)
def yJ:SQ Tryz.prog kW:=sk (v:=t1<|t1<|.two (t1<|.one<|.loop aAP) .nil) (fn:=Tryz.f19) aEC<|kC akh kN
def aww:Cx:=cX [GH,Gb] [] []
def zi:OKC Tryz.prog aww AF:=okc mixed<|gC Gp<|gC H7<|AL
def mO(x:Y10×Y5×Int×Int×A2):Rnd (Y10×Y5×Int×Int×A2) (Y10×Int×Y5×Bool×A2) (Y10×Y5×A2):=if A0 (x.2.2.2.1<4) then if inb x.2.2.1 x.1.2.2.1.length then(Ey (((rd (dfl .AN) x.1.2.2.1 x.2.2.1).id,(rd (dfl .AN) x.1.2.2.1 x.2.2.1).up,(rd (dfl .AN) x.1.2.2.1 x.2.2.1).log,(rd (dfl .AN) x.1.2.2.1 x.2.2.1).fo,(rd (dfl .AN) x.1.2.2.1 x.2.2.1).AE,()),())).bind λa=>if A0 (0<(a.1.1.2.2.2.1.length:Int)) then(At (x.1.1,(a.1.1.2.2.2.1.length:Int),())).bind λb=>if inb b.1.1 a.1.1.2.2.2.1.length then let c:=(rd (dfl .note) a.1.1.2.2.2.1 b.1.1).fr;let d:=(rd (dfl .note) a.1.1.2.2.2.1 b.1.1).nu;let e:=(rd (dfl .note) a.1.1.2.2.2.1 b.1.1).to;let f:=(rd (dfl .note) a.1.1.2.2.2.1 b.1.1).un;let g:=(rd (dfl .note) a.1.1.2.2.2.1 b.1.1).tx;I (.inr<|.inl ((b.2.1,x.1.2),x.2.2.1,(c,d,e,f,g,()),A1,())) else U else let h:=(BC (w64<|x.2.2.1+1) 4);I (.inl (x.1,x.2.1,h,(w64<|x.2.2.2.1+1),())) else U else I (.inr<|.inr (x.1,x.2.1,()))
def vZ:=AW mO
def aAK:Loop:=⟨[(0,Z25),(3,Z7),(5,.int .i64),(6,.int .i64)],[(0,Z25),(3,Z7)],0,[(0,Z25),(2,.int .i64),(3,Z7),(4,.bool)],vZ⟩
def apS:LF Tryz.f19 [0] [1,1,0,1,0,0] aAK:=sq (v:= .nil) zi (b:=mO) kN
def fE(x:Y10×A2):Option ((Int×Y5×Bool×A2)×(Y10×A2)):=(At (x.1.1,4,())).bind λb=>(AO (vZ ((b.2.1,x.1.2),(0,0,0,0,noB,()),b.1.1,0,())) (λa=>I (a.2,(a.1,()))) λa=>I ((0,(0,0,0,0,noB,()),A3,()),(a.1,())))
def sn:Ent:=(19,U,⟨[Z26],[.int .i64,Z8,.bool],fE⟩)
def agq:SQ Tryz.prog sn:=sk (v:=t1<|t1<|.two (t1<|.one<|.loop aAK) .nil) (fn:=Tryz.f19) zi<|kC apS kN
def aet:Cx:=cX [GH,KP] [] [(12,18)]
def xK:OKC Tryz.prog aet AF:=okc mixed<|gC Gp<|gC Q5<|AL
def mj(x:Y10×Int×Int×Int×A2):Rnd (Y10×Int×Int×Int×A2) (A2) (Y10×A2):=if(A0<|x.2.2.2.1<x.2.1)&&(A0<|0<(x.1.2.2.2.2.1.length:Int)) then(BF (X:=Y10×Int×Int×Int×Y3×A2) (λe=>(BF (X:=Y10×Int×Int×Int×Y3×A2) (λc=>(BF (X:=Y10×Int×Int×Int×Y3×Bool×A2) (λb=>if b.2.2.2.2.2.1 then(At (b.1.1,17,())).bind λg=>(At (g.2.1,255,())).bind λh=>(FI ((h.2.1,b.1.2),(b.2.2.2.2.1.1,b.2.2.2.2.1.2.1,b.2.2.2.2.1.2.2.1,b.2.2.2.2.1.2.2.2.1,b.2.2.2.2.1.2.2.2.2.1,g.1.1,(w64<|1+h.1.1),b.2.2.2.2.1.2.2.2.2.2.2.2),())).bind λo=>I (.inl (o.2.1,b.2.1,b.2.2.1,(w64<|b.2.2.2.1+1),())) else I (.inl (b.1,b.2.1,b.2.2.1,(w64<|b.2.2.2.1+1),())))<|(if A0 (c.2.2.2.2.1.1=6) then(At (c.1.1,2,())).bind λi=>I (.inr ((i.2.1,c.1.2),c.2.1,c.2.2.1,c.2.2.2.1,c.2.2.2.2.1,(A0<|i.1.1=0),())) else I (.inr (c.1,c.2.1,c.2.2.1,c.2.2.2.1,c.2.2.2.2.1,A3,())))))<|(FI (e.1,e.2.2.2.2)).bind λf=>if !f.1.1 then(FI (f.2.1,(5,0,0,0,0,0,0,0,0,noB,()),())).bind λp=>I (.inr (p.2.1,e.2)) else I (.inr (f.2.1,e.2))))<|(BF (X:=Y10×Int×Int×Int×Y3×Bool×A2) (λa=>if a.2.2.2.2.2.1 then(At (a.1.1,5,())).bind λd=>if A0 (d.1.1=0) then I (.inr ((d.2.1,a.1.2),a.2.1,a.2.2.1,a.2.2.2.1,(5,a.2.2.2.2.1.2),())) else if A0 (d.1.1=1) then I (.inr ((d.2.1,a.1.2),a.2.1,a.2.2.1,a.2.2.2.1,(a.2.2.2.2.1.1,a.2.2.2.2.1.2.1,a.2.2.2.2.1.2.2.1,a.2.2.2.2.1.2.2.2.1,a.2.2.2.2.1.2.2.2.2.1,a.2.2.2.2.1.2.2.2.2.2.1,1,a.2.2.2.2.1.2.2.2.2.2.2.2),())) else if A0 (d.1.1=2) then(At (d.2.1,(a.1.2.2.2.2.1.length:Int),())).bind λj=>(At (j.2.1,17,())).bind λk=>(At (k.2.1,255,())).bind λl=>I (.inr ((l.2.1,a.1.2),a.2.1,a.2.2.1,a.2.2.2.1,(6,a.2.2.2.2.1.2.1,a.2.2.2.2.1.2.2.1,a.2.2.2.2.1.2.2.2.1,j.1.1,k.1.1,(w64<|1+l.1.1),a.2.2.2.2.1.2.2.2.2.2.2.2),())) else(At (d.2.1,(a.1.2.2.2.2.1.length:Int),())).bind λm=>I (.inr ((m.2.1,a.1.2),a.2.1,a.2.2.1,a.2.2.2.1,(a.2.2.2.2.1.1,a.2.2.2.2.1.2.1,a.2.2.2.2.1.2.2.1,a.2.2.2.2.1.2.2.2.1,m.1.1,a.2.2.2.2.1.2.2.2.2.2),())) else I (.inr (a.1,a.2.1,a.2.2.1,a.2.2.2.1,a.2.2.2.2.1,())))<|(if A0 (0<x.2.2.1) then(At (x.1.1,x.2.2.1,())).bind λn=>I (.inr ((n.2.1,x.1.2),x.2.1,x.2.2.1,x.2.2.2.1,(4,0,0,0,0,0,0,0,0,noB,()),(A0<|n.1.1=0),())) else I (.inr (x.1,x.2.1,x.2.2.1,x.2.2.2.1,(4,0,0,0,0,0,0,0,0,noB,()),A3,()))))) else I (.inr<|.inr (x.1,()))
def wN:=AW mj
def abt:Loop:=⟨[(0,Z24),(1,.int .i64),(2,.int .i64),(6,.int .i64)],[(0,Z24)],0,[],wN⟩
def amM:LF Tryz.f78 [0] [1,0,0] abt:=sq (v:=t1<|.two (.one<|t1<|.join [(0,Z24),(1,.int .i64),(2,.int .i64),(6,.int .i64),(7,Z27)] (.join [(0,Z24),(1,.int .i64),(2,.int .i64),(6,.int .i64),(7,Z27),(33,.bool)] .nil .nil)<|.join [(0,Z24),(1,.int .i64),(2,.int .i64),(6,.int .i64),(7,Z27)] .nil<|.join [(0,Z24),(1,.int .i64),(2,.int .i64),(6,.int .i64),(7,Z27),(102,.bool)] .nil .nil) .nil) xK (b:=mj) kN
def NE(x:Y10×Int×Int×A2):Option ((A2)×(Y10×A2)):=(AO (wN (x.1,x.2.1,x.2.2.1,0,())) (λ_=>U) λa=>I ((),a))
def fT:Ent:=(78,U,⟨[Z22,.int .i64,.int .i64],[],NE⟩)
def oO:SQ Tryz.prog fT:=sk (v:=t1<|.one<|.loop abt) (fn:=Tryz.f78) xK<|kC amM kN
def awy:Cx:=cX [GH,kW,KP,fT] [] []
def wI:OKC Tryz.prog awy AF:=okc mixed<|gC Gp<|gC yJ<|gC Q5<|gC oO<|AL
def sJ(x:Y10×Int×Int×Int×Y5×Int×Int×A2):Rnd (Y10×Int×Int×Int×Y5×Int×Int×A2) (A2) (Y10×Int×Int×A2):=if A0 (x.2.2.2.2.2.2.1<x.2.1) then(FI (x.1,(3,x.2.2.2.1,x.2.2.2.2.1.1,x.2.2.2.2.1.2.1,0,(w64<|x.2.2.2.2.2.1+x.2.2.2.2.2.2.1),0,0,0,noB,()),())).bind λa=>let b:=(w64<|x.2.2.2.2.2.2.1+1);I (.inl (a.2.1,x.2.1,x.2.2.1,x.2.2.2.1,x.2.2.2.2.1,x.2.2.2.2.2.1,b,())) else I (.inr<|.inr (x.1,x.2.1,x.2.2.1,()))
def xJ:=AW sJ
def aFn:Loop:=⟨[(0,Z24),(1,.int .i64),(2,.int .i64),(6,.int .i64),(7,Z7),(9,.int .i64),(10,.int .i64)],[(0,Z24),(1,.int .i64),(2,.int .i64)],0,[],xJ⟩
def amn:LF Tryz.f77 [0] [1,1,1,0,1,0,0] aFn:=sq (v:= .nil) wI (b:=sJ) kN
def N3(x:Y10×Int×Int×A2):Option ((A2)×(Y10×A2)):=(V6 (x.1,())).bind λa=>if !a.1.2.2.1 then I ((),a.2) else(At (a.2.1.1,2,())).bind λc=>(At (c.2.1,40,())).bind λd=>(AO (xJ ((d.2.1,a.2.1.2),x.2.1,x.2.2.1,a.1.1,a.1.2.1,(w64<|c.1.1 * d.1.1),0,())) (λ_=>U) λb=>(At (b.1.1,(w64<|b.2.1+4),())).bind λe=>(NE ((e.2.1,b.1.2),e.1.1,b.2.2)).bind λf=>I ((),f.2))
def cd:Ent:=(77,U,⟨[Z22,.int .i64,.int .i64],[],N3⟩)
def pI:SQ Tryz.prog cd:=sk (v:=t1<|t1<|t1<|.two (t1<|.one<|.loop aFn) .nil) (fn:=Tryz.f77) wI<|kC amn kN
def aiA:Cx:=cX [GH,KP,cd,fT] [] [(89,96)]
def TB:OKC Tryz.prog aiA AF:=okc mixed<|gC Gp<|gC Q5<|gC pI<|gC oO<|AL
def oV(x:Y10×Int×Int×A2):Rnd (Y10×Int×Int×A2) (A2) (Y10×A2):=if A0 (0<x.2.2.1) then(FI (x.1,(2,x.2.1,0,0,0,0,0,0,0,noB,()),())).bind λa=>I (.inl (a.2.1,x.2.1,(w64<|x.2.2.1 - 1),())) else I (.inr<|.inr (x.1,()))
def aDp:=AW oV
def aCc:Loop:=⟨[(0,Z24),(5,.int .i64),(6,.int .i64)],[(0,Z24)],5,[],aDp⟩
def azT:LF Tryz.f79 [0] [1,1,1,1,0,1,0,1,1,1,0,1,0,0] aCc:=sq (v:= .nil) TB (b:=oV) kN
def pT(x:Y10×Int×Int×Int×A2):Rnd (Y10×Int×Int×Int×A2) (A2) (Y10×Int×A2):=if A0 (x.2.2.2.1<x.2.2.1) then(FI (x.1,(4,0,0,0,x.2.2.2.1,0,1,0,0,noB,()),())).bind λa=>I (.inl (a.2.1,x.2.1,x.2.2.1,(w64<|x.2.2.2.1+1),())) else I (.inr<|.inr (x.1,x.2.1,()))
def uK:=AW pT
def aBO:Loop:=⟨[(0,Z24),(2,.int .i64),(3,.int .i64),(4,.int .i64)],[(0,Z24),(2,.int .i64)],2,[],uK⟩
def ao4:LF Tryz.f79 [0] [1,1,0,1,0,0,1,0,0,1,1,0,0] aBO:=sq (v:= .nil) TB (b:=pT) kN
def gn(x:Y10×Int×Int×A2):Rnd (Y10×Int×Int×A2) (A2) (Y10×A2):=if(A0<|x.2.2.1<12)&&(A0<|x.2.1<(x.1.2.2.2.2.1.length:Int)) then(FI (x.1,(4,0,0,0,x.2.1,0,0,0,0,noB,()),())).bind λa=>I (.inl (a.2.1,x.2.1,(w64<|x.2.2.1+1),())) else I (.inr<|.inr (x.1,()))
def uI:=AW gn
def vd:Loop:=⟨[(0,Z24),(7,.int .i64),(8,.int .i64)],[(0,Z24)],7,[],uI⟩
def akE:LF Tryz.f79 [0] [1,1,1,1,1,1,1,0,1,0,0] vd:=sq (v:= .nil) TB (b:=gn) kN
def lI(x:Y10×Int×A2):Rnd (Y10×Int×A2) (A2) (Y10×A2):=(At (x.1.1,2,())).bind λa=>if A0 (x.2.1<(w64<|1+a.1.1)) then let c:=(x.1.2.2.2.2.1.length:Int);(AO (uK ((a.2.1,x.1.2),x.2.1,c,0,())) (λ_=>I<|.inr<|.inl ()) λb=>I<|.inl (b.1,(w64<|b.2.1+1),())) else I (.inr<|.inr ((a.2.1,x.1.2),()))
def aAW:=AW lI
def aap:Loop:=⟨[(0,Z24),(2,.int .i64)],[(0,Z24)],0,[],aAW⟩
def anb:LF Tryz.f79 [0] [1,1,0,1,0,0] aap:=sq (v:=t1<|.two (.one<|t1<|t1<|.one<|.loop aBO) .nil) TB (b:=lI)<|kC ao4 kN
def XU(x:Y10×A2):Option ((A2)×(Y10×A2)):=(NE (x.1,40,0,())).bind λg=>(N3 (g.2.1,6,0,())).bind λh=>(AO (aAW (h.2.1,0,())) (λ_=>U) λb=>(At (b.1.1,4,())).bind λc=>(BF (X:=Y10×A2) (λd=>let i:=(d.1.2.2.2.2.1.length:Int);(N3 (d.1,6,0,())).bind λj=>(AO (uI (j.2.1,i,0,())) (λ_=>U) λk=>(NE (k.1,40,0,())).bind λl=>I ((),l.2)))<|(At (c.2.1,3,())).bind λa=>if A0 (a.1.1=0) then(At (a.2.1,40,())).bind λe=>(FI ((e.2.1,b.1.2),(7,c.1.1,0,0,0,0,e.1.1,0,0,noB,()),())).bind λm=>(FI (m.2.1,(8,c.1.1,0,0,0,0,0,0,0,noB,()),())).bind λn=>I (.inr n.2) else if A0 (a.1.1=1) then(At (a.2.1,9,())).bind λf=>(AO (aDp ((f.2.1,b.1.2),c.1.1,f.1)) (λ_=>U) λo=>I<|.inr o) else I (.inr ((a.2.1,b.1.2),()))))
def yd:Ent:=(79,U,⟨[Z22],[],XU⟩)
def aeS:SQ Tryz.prog yd:=sk (v:=t1<|t1<|.two (t1<|.one<|.loop aap)<|t1<|.join [(0,Z24)] (t1<|.one<|t1<|t1<|t1<|.two (t1<|.one<|.loop aCc) .nil)<|t1<|t1<|.two (t1<|.one<|.loop vd) .nil) (fn:=Tryz.f79) TB<|kC anb<|kC azT<|kC akE kN
def akq:Cx:=cX [GH,KP,pQ,Gb,cd,fT,yd] [] []
def aAb:OKC Tryz.prog akq AF:=okc mixed<|gC Gp<|gC Q5<|gC aa7<|gC H7<|gC pI<|gC oO<|gC aeS<|AL
def jh(x:Y10×Int×A2):Rnd (Y10×Int×A2) (A2) (Y10×A2):=if A0 (x.2.1<4) then(N3 (x.1,7,0,())).bind λa=>(NE (a.2.1,20,0,())).bind λb=>I (.inl (b.2.1,(w64<|x.2.1+1),())) else I (.inr<|.inr (x.1,()))
def aB8:=AW jh
def tj:Loop:=⟨[(0,Z24),(8,.int .i64)],[(0,Z24)],1,[],aB8⟩
def aiw:LF Tryz.f43 [0] [1,1,0,1,1,1,1,1,1,1,1,1,1,1,1,1,1,1,1,1,1,1,1,1,0,0] tj:=sq (v:= .nil) aAb (b:=jh) kN
def Yw(x:Y10×Int×A2):Option ((A2)×(Y10×A2)):=(At (x.1.1,4,())).bind λj=>(At (j.2.1,24,())).bind λg=>(BF (X:=Y10×Int×Int×Int×Bool×A2) (λa=>if a.2.2.2.2.1 then(SZ (a.1,())).bind λD=>I ((),D.2) else(BF (X:=Y10×Int×Int×Int×Bool×A2) (λd=>if d.2.2.2.2.1 then(At (d.1.1,7,())).bind λl=>(N3 ((l.2.1,d.1.2),(w64<|1+l.1.1),d.2.1,())).bind λE=>I ((),E.2) else(BF (X:=Y10×Int×Int×Int×Bool×A2) (λf=>if f.2.2.2.2.1 then(At (f.1.1,20,())).bind λm=>(NE ((m.2.1,f.1.2),(w64<|1+m.1.1),f.2.1,())).bind λF=>I ((),F.2) else(BF (X:=Y10×Int×Int×Bool×A2) (λc=>if c.2.2.2.1 then(FI (c.1,(2,c.2.1,0,0,0,0,0,0,0,noB,()),())).bind λG=>I ((),G.2) else let H:=(A0<|c.2.2.1=13);(if H then(At (c.1.1,50,())).bind λn=>(FI ((n.2.1,c.1.2),(7,c.2.1,0,0,0,0,n.1.1,0,0,noB,()),())).bind λJ=>I ((),J.2) else(BF (X:=Y10×Int×Int×Bool×A2) (λe=>if e.2.2.2.1 then(FI (e.1,(8,e.2.1,0,0,0,0,0,0,0,noB,()),())).bind λK=>I ((),K.2) else let L:=(A0<|e.2.2.1=16);(if L then(At (e.1.1,2,())).bind λo=>(At (o.2.1,3,())).bind λp=>(FI ((p.2.1,e.1.2),((w64<|9+o.1.1),p.1.1,0,0,0,0,0,0,0,noB,()),())).bind λM=>I ((),M.2) else(BF (X:=Y10×Int×Int×Bool×A2) (λb=>if b.2.2.2.1 then if inb b.2.1 b.1.2.2.1.length then(Ey (((rd (dfl .AN) b.1.2.2.1 b.2.1).id,(rd (dfl .AN) b.1.2.2.1 b.2.1).up,(rd (dfl .AN) b.1.2.2.1 b.2.1).log,(rd (dfl .AN) b.1.2.2.1 b.2.1).fo,(rd (dfl .AN) b.1.2.2.1 b.2.1).AE,()),())).bind λh=>if A0 (0<(h.1.1.2.2.2.2.2.1.length:Int)) then(At (b.1.1,(h.1.1.2.2.2.2.2.1.length:Int),())).bind λi=>if inb i.1.1 h.1.1.2.2.2.2.2.1.length then let N:=(rd (dfl .note) h.1.1.2.2.2.2.2.1 i.1.1).fr;let O:=(rd (dfl .note) h.1.1.2.2.2.2.2.1 i.1.1).nu;let v55:=(rd (dfl .note) h.1.1.2.2.2.2.2.1 i.1.1).to;let v56:=(rd (dfl .note) h.1.1.2.2.2.2.2.1 i.1.1).un;let v57:=(rd (dfl .note) h.1.1.2.2.2.2.2.1 i.1.1).tx;(FI ((i.2.1,b.1.2),(11,b.2.1,N,O,0,0,0,0,0,noB,()),())).bind λP=>I ((),P.2) else U else I ((),(b.1,())) else U else let Q:=(A0<|b.2.2.1=19);(if Q then(At (b.1.1,2,())).bind λq=>(FI ((q.2.1,b.1.2),((w64<|12+q.1.1),b.2.1,0,0,0,0,0,0,0,noB,()),())).bind λR=>I ((),R.2) else(BF (X:=Y10×Bool×A2) (λk=>if k.2.1 then(XU (k.1,())).bind λS=>I ((),S.2) else(AO (aB8 (k.1,0,())) (λ_=>U) λT=>I ((),T))) (let r:=(A0<|b.2.2.1=20);(if r then I (.inr (b.1,r,())) else let s:=(A0<|b.2.2.1=21);(if s then I (.inr (b.1,s,())) else let V:=(A0<|b.2.2.1=22);I (.inr (b.1,V,())))))))) (let t:=(A0<|e.2.2.1=17);(if t then I (.inr (e.1,e.2.1,e.2.2.1,t,())) else let W:=(A0<|e.2.2.1=18);I (.inr (e.1,e.2.1,e.2.2.1,W,()))))))) (let u:=(A0<|c.2.2.1=14);(if u then I (.inr (c.1,c.2.1,c.2.2.1,u,())) else let Y:=(A0<|c.2.2.1=15);I (.inr (c.1,c.2.1,c.2.2.1,Y,()))))))) (let v:=(A0<|f.2.2.2.1=11);(if v then I (.inr (f.1,f.2.2.1,f.2.2.2.1,v,())) else let Z:=(A0<|f.2.2.2.1=12);I (.inr (f.1,f.2.2.1,f.2.2.2.1,Z,())))))) (let w:=(A0<|d.2.2.2.1=9);(if w then I (.inr (d.1,d.2.1,d.2.2.1,d.2.2.2.1,w,())) else let v24:=(A0<|d.2.2.2.1=10);I (.inr (d.1,d.2.1,d.2.2.1,d.2.2.2.1,v24,())))))) (let y:=(A0<|a.2.2.2.1=3);(if y then I (.inr (a.1,a.2.1,a.2.2.1,a.2.2.2.1,y,())) else let z:=(A0<|a.2.2.2.1=4);(if z then I (.inr (a.1,a.2.1,a.2.2.1,a.2.2.2.1,z,())) else let A:=(A0<|a.2.2.2.1=5);(if A then I (.inr (a.1,a.2.1,a.2.2.1,a.2.2.2.1,A,())) else let B:=(A0<|a.2.2.2.1=6);(if B then I (.inr (a.1,a.2.1,a.2.2.1,a.2.2.2.1,B,())) else let C:=(A0<|a.2.2.2.1=7);(if C then I (.inr (a.1,a.2.1,a.2.2.1,a.2.2.2.1,C,())) else let v17:=(A0<|a.2.2.2.1=8);I (.inr (a.1,a.2.1,a.2.2.1,a.2.2.2.1,v17,()))))))))))<|(if A0 (g.1.1=0) then I (.inr ((g.2.1,x.1.2),x.2.1,j.1.1,g.1.1,(A0<|g.1.1=0),())) else if A0 (g.1.1=1) then I (.inr ((g.2.1,x.1.2),x.2.1,j.1.1,g.1.1,(A0<|g.1.1=1),())) else I (.inr ((g.2.1,x.1.2),x.2.1,j.1.1,g.1.1,(A0<|g.1.1=2),()))))
def aBP:Ent:=(43,U,⟨[Z22,.int .i64],[],Yw⟩)
def alD:SQ Tryz.prog aBP:=sk (v:=t1<|t1<|.one<|.join [(0,Z24),(1,.int .i64),(4,.int .i64),(18,.int .i64),(27,.bool)] .nil<|t1<|.join [(0,Z24),(1,.int .i64),(4,.int .i64),(18,.int .i64),(33,.bool)] .nil<|t1<|.join [(0,Z24),(1,.int .i64),(4,.int .i64),(18,.int .i64),(49,.bool)] .nil<|t1<|.join [(0,Z24),(4,.int .i64),(18,.int .i64),(61,.bool)] .nil<|t1<|t1<|t1<|.join [(0,Z24),(4,.int .i64),(18,.int .i64),(79,.bool)] .nil<|t1<|t1<|t1<|.join [(0,Z24),(4,.int .i64),(18,.int .i64),(102,.bool)] .nil<|t1<|t1<|t1<|.join [(0,Z24),(153,.bool)] .nil<|t1<|t1<|.one<|.loop tj) (fn:=Tryz.f43) aAb<|kC aiw kN
def aqs:Cx:=cX [GH,acr,pQ,aBP] [] []
def xz:OKC Tryz.prog aqs AF:=okc mixed<|gC Gp<|gC aiK<|gC aa7<|gC alD<|AL
def nS(x:Y0×Y11×Int×Int×A2):Rnd (Y0×Y11×Int×Int×A2) (A2) (Y0×Y11×A2):=if A0 (0<x.2.2.2.1) then(Yw ((x.1,x.2.1.2),x.2.2.1,())).bind λa=>I (.inl (a.2.1.1,((),a.2.1.2),x.2.2.1,(w64<|x.2.2.2.1 - 1),())) else I (.inr<|.inr (x.1,((),x.2.1.2),()))
def aFl:=AW nS
def aA3:Loop:=⟨[(0,Z23),(5,Z28),(6,.int .i64),(7,.int .i64)],[(0,Z23),(5,Z28)],0,[],aFl⟩
def ak5:LF Tryz.f17 [0] [1,1,1,1,0,1,0,0] aA3:=sq (v:= .nil) xz (b:=nS) kN
def RR(x:Y0×Int×A2):Option ((Y11×A2)×(Y0×A2)):=(eh ()).bind λa=>(At (x.1,5,())).bind λb=>if inb b.1.1 (([0,0,3,6,12]:List Int).length) then let f:=(rd (dfl .int) ([0,0,3,6,12]:List Int) b.1.1);(SZ ((b.2.1,a.1.1.1,a.1.1.2.1,a.1.1.2.2.1,a.1.1.2.2.2.1,a.1.1.2.2.2.2.1,a.1.1.2.2.2.2.2.1,([]:List Event),()),())).bind λc=>(At (c.2.1.1,x.2)).bind λd=>(AO (aFl (d.2.1,((),c.2.1.2),f,d.1)) (λ_=>U) λe=>I ((((),e.2.1.2),()),(e.1,()))) else U
def ld:Ent:=(17,U,⟨[Z0,.int .i64],[Z28],RR⟩)
def xq:SQ Tryz.prog ld:=sk (v:=t1<|t1<|t1<|t1<|.two (t1<|.one<|.loop aA3) .nil) (fn:=Tryz.f17) xz<|kC ak5 kN
def auO:Cx:=cX [La] [] []
def uP:OKC Tryz.prog auO AF:=okc mixed<|gC MK<|AL
def Wu(x:Y2×Y2×Y2×Int×A2):Rnd (Y2×Y2×Y2×Int×A2) (A2) (Y2×Y2×A2):=if A0 (x.2.2.2.1<(x.1.2.1.length:Int)) then if inb x.2.2.2.1 x.1.2.1.length then(G7 (((rd (dfl .AN) x.1.2.1 x.2.2.2.1).id,(rd (dfl .AN) x.1.2.1 x.2.2.2.1).up,(rd (dfl .AN) x.1.2.1 x.2.2.2.1).log,(rd (dfl .AN) x.1.2.1 x.2.2.2.1).fo,(rd (dfl .AN) x.1.2.1 x.2.2.2.1).AE,()),())).bind λa=>if Ac (x.2.2.1.2.1.length+([(AA.mk a.1.1.1 a.1.1.2.1 a.1.1.2.2.1 a.1.1.2.2.2.1 a.1.1.2.2.2.2.1)]:List AA).length) then I (.inl (x.1,x.2.1,(x.2.2.1.1,(x.2.2.1.2.1++([(AA.mk a.1.1.1 a.1.1.2.1 a.1.1.2.2.1 a.1.1.2.2.2.1 a.1.1.2.2.2.2.1)]:List AA)),x.2.2.1.2.2),(w64<|x.2.2.2.1+1),())) else U else U else I (.inr<|.inr (x.2.1,x.2.2.1,()))
def Ye:=AW Wu
def z6:Loop:=⟨[(1,Z29),(2,Z2),(3,Z2),(4,.int .i64)],[(2,Z2),(3,Z2)],0,[],Ye⟩
def ath:LF Tryz.f23 [] [1,1,0,1,0,0] z6:=sq (v:= .nil) uP (b:=Wu) kN
def MG(x:Y2×A2):Option ((Y2×A2)×A2):=if Ac (([]:List Bool).length+x.1.2.2.1.length) then if Ac (([]:List AT).length+x.1.2.2.2.1.length) then if Ac (([]:List A7).length+x.1.2.2.2.2.1.length) then if Ac (([]:List A7).length+x.1.2.2.2.2.2.1.length) then(AO (Ye (x.1,(0,([]:List AA),([]:List Bool),([]:List AT),([]:List A7),([]:List A7),()),(x.1.1,([]:List AA),(([]:List Bool)++x.1.2.2.1),(([]:List AT)++x.1.2.2.2.1),(([]:List A7)++x.1.2.2.2.2.1),(([]:List A7)++x.1.2.2.2.2.2.1),()),0,())) (λ_=>U) λa=>I (a.2,())) else U else U else U else U
def lX:Ent:=(23,U,⟨[Z30],[Z3],MG⟩)
def aBT:SQ Tryz.prog lX:=sk (v:=t1<|t1<|.two (t1<|.one<|.loop z6) .nil) (fn:=Tryz.f23) uP<|kC ath kN
def anz:Cx:=cX [] [] []
def adL:OKC Tryz.prog anz AF:=okc mixed<|AL
def oH(x:A4×Int×A4×A2):Rnd (A4×Int×A4×A2) (A2) (A4×A2):=if A0 (0<x.2.1) then(BF (X:=A4×Int×A4×A2) (λa=>if A0 (a.1.size+a.1.size<=4611686018427387904) then let b:=(w64<|B0 a.2.1 2);I (.inl ((a.1++a.1),b,a.2.2)) else U)<|(if A0 ((BC x.2.1 2)=1) then if A0 (x.2.2.1.size+x.1.size<=4611686018427387904) then I (.inr (x.1,x.2.1,(x.2.2.1++x.1),())) else U else I (.inr x))) else I (.inr<|.inr x.2.2)
def aBQ:=AW oH
def aEv:Loop:=⟨[(0,.str),(1,.int .i64),(5,.str)],[(5,.str)],0,[],aBQ⟩
def avQ:LF Tryz.f46 [] [1,1,0,0,0] aEv:=sq (v:=t1<|.one<|.join [(0,.str),(1,.int .i64),(5,.str)] .nil .nil) adL (b:=oH) kN
def M6(x:A4×Int×A2):Option ((A4×A2)×A2):=(AO (aBQ (x.1,x.2.1,noB,())) (λ_=>U) λa=>I (a,()))
def Vb:Ent:=(46,U,⟨[.str,.int .i64],[.str],M6⟩)
def ao:SQ Tryz.prog Vb:=sk (v:=t1<|t1<|.two (.one<|.loop aEv) .nil) (fn:=Tryz.f46) adL<|kC avQ kN
def ald:Cx:=cX [GH,Vb,QJ] [] []
def aDF:OKC Tryz.prog ald AF:=okc mixed<|gC Gp<|gC ao<|gC V3<|AL
def gu(x:Y0×List Int×Int×A2):Rnd (Y0×List Int×Int×A2) (A2) (Y0×List Int×A2):=if A0 (0<x.2.2.1) then(At (x.1,256,())).bind λa=>if Ac (x.2.1.length+([(w8 a.1.1)]:List Int).length) then I (.inl (a.2.1,(x.2.1++([(w8 a.1.1)]:List Int)),(w64<|x.2.2.1 - 1),())) else U else I (.inr<|.inr (x.1,x.2.1,()))
def aCO:=AW gu
def xy:Loop:=⟨[(0,Z23),(3,.row 5 .u8),(4,.int .i64)],[(0,Z23),(3,.row 5 .u8)],1,[],aCO⟩
def anG:LF Tryz.f85 [0] [1,0,1,0,1,1,1,0,1,0,1,0,0] xy:=sq (v:= .nil) aDF (b:=gu) kN
def cG(x:Y0×A2):Option ((A4×A2)×(Y0×A2)):=(At (x.1,8,())).bind λa=>if A0 (a.1.1=0) then(M6 ((B [120]),24,())).bind λf=>(M6 ((B [121]),25,())).bind λg=>(KX (a.2.1,([noB,f.1.1,g.1.1,(B [0,1]),(B [97,10])]:List A4),())).bind λb=>I (b.1,b.2) else if A0 (a.1.1=1) then(At (a.2.1,20,())).bind λc=>(AO (aCO (c.2.1,([]:List Int),(w64<|1+c.1.1),())) (λ_=>U) λd=>I (((BH d.2.1),()),(d.1,()))) else(KX (a.2.1,([(B [97]),(B [97,98,99,100]),(B [104,101,108,108,111]),(B [49,50,51,52,53,54,55,56]),(B [97,32,108,111,110,103,101,114,32,109,101,115,115,97,103,101]),(B [106,117,115,116,32,116,119,101,110,116,121,45,102,111,117,114,32,98,121,116,101,115,32,33]),(B [109,105,120,101,100,32,98,108,111,99,107,115]),(B [102,111,117,114,32,119,111,114,100,115,32,111,102,32,97,32,116,101,120,116])]:List A4),())).bind λe=>I (e.1,e.2)
def aBx:Ent:=(85,U,⟨[Z0],[.str],cG⟩)
def afn:SQ Tryz.prog aBx:=sk (v:=t1<|.two (t1<|.one<|t1<|t1<|t1<|.two (t1<|.two (t1<|.one<|.loop xy) .nil) .nil) .nil) (fn:=Tryz.f85) aDF<|kC anG kN
def atn:Cx:=cX [GH,QJ,aBx] [] []
def atb:OKC Tryz.prog atn AF:=okc mixed<|gC Gp<|gC V3<|gC afn<|AL
def R9(x:Y0×A2):Option ((Y5×A2)×(Y0×A2)):=(At (x.1,4,())).bind λb=>(At (b.2.1,5,())).bind λc=>(At (c.2.1,4,())).bind λd=>(At (d.2.1,30,())).bind λe=>(KX (e.2.1,([(B [97]),(B [104,101,108,108,111]),(B [97,32,108,111,110,103,101,114,32,109,101,115,115,97,103,101]),(B [32,120,32]),(B [106,117,115,116,32,116,119,101,110,116,121,45,102,111,117,114,32,98,121,116,101,115,32,33])]:List A4),())).bind λf=>(At (f.2.1,16,())).bind λa=>if A0 (a.1.1=0) then(At (a.2.1,2,())).bind λg=>if inb g.1.1 (([(-1),4]:List Int).length) then let l:=(rd (dfl .int) ([(-1),4]:List Int) g.1.1);I (((l,(w64<|1+c.1.1),d.1.1,(w64<|1+e.1.1),f.1),()),g.2) else U else if A0 (a.1.1=1) then(At (a.2.1,3,())).bind λh=>if inb h.1.1 (([0,99,100]:List Int).length) then let m:=(rd (dfl .int) ([0,99,100]:List Int) h.1.1);I (((b.1.1,m,d.1.1,(w64<|1+e.1.1),f.1),()),h.2) else U else if A0 (a.1.1=2) then(At (a.2.1,3,())).bind λi=>if inb i.1.1 (([0,999,1000]:List Int).length) then let n:=(rd (dfl .int) ([0,999,1000]:List Int) i.1.1);I (((b.1.1,(w64<|1+c.1.1),d.1.1,n,f.1),()),i.2) else U else if A0 (a.1.1=3) then(cG a.2).bind λk=>I (((b.1.1,(w64<|1+c.1.1),d.1.1,(w64<|1+e.1.1),k.1),()),k.2) else if A0 (a.1.1=4) then(At (a.2.1,2,())).bind λj=>if inb j.1.1 (([(-1),4]:List Int).length) then let o:=(rd (dfl .int) ([(-1),4]:List Int) j.1.1);I (((b.1.1,(w64<|1+c.1.1),o,(w64<|1+e.1.1),f.1),()),j.2) else U else I (((b.1.1,(w64<|1+c.1.1),d.1.1,(w64<|1+e.1.1),f.1),()),a.2)
def kj:Ent:=(47,U,⟨[Z0],[Z8],R9⟩)
def ac8:SQ Tryz.prog kj:=sk (v:= .nil) (fn:=Tryz.f47) atb kN
def au6:Cx:=cX [GH,Vb,kj,QJ,MM,bq,Py] [] []
def aop:OKC Tryz.prog au6 AF:=okc mixed<|gC Gp<|gC ao<|gC ac8<|gC V3<|gC Ms<|gC nG<|gC Sw<|AL
def UZ(x:Y0×A2):Option ((A4×A2)×(Y0×A2)):=(At (x.1,8,())).bind λa=>if A0 (a.1.1=0) then(At (a.2.1,30,())).bind λc=>(DO c.1).bind λd=>if A0 ((B [116,105,109,101,32]).size+d.1.1.size<=4611686018427387904) then let p:=((B [116,105,109,101,32])++d.1.1);I ((p,()),c.2) else U else if A0 (a.1.1=1) then(At (a.2.1,4,())).bind λe=>(At (e.2.1,3,())).bind λf=>(At (f.2.1,30,())).bind λg=>(Nv (e.1.1,(w64<|1+f.1.1),(w64<|1+g.1.1),())).bind λh=>if A0 ((B [108,101,116,32]).size+h.1.1.size<=4611686018427387904) then let q:=((B [108,101,116,32])++h.1.1);I ((q,()),g.2) else U else if A0 (a.1.1=2) then(At (a.2.1,4,())).bind λi=>(At (i.2.1,3,())).bind λj=>(At (j.2.1,30,())).bind λk=>(Nv (i.1.1,(w64<|1+j.1.1),(w64<|1+k.1.1),())).bind λl=>if A0 ((B [101,97,116,32]).size+l.1.1.size<=4611686018427387904) then let r:=((B [101,97,116,32])++l.1.1);I ((r,()),k.2) else U else if A0 (a.1.1=3) then(M6 ((B [122]),60,())).bind λs=>(M6 ((B [122]),61,())).bind λt=>(KX (a.2.1,([noB,(B [119,104,97,116]),(B [116,105,109,101]),(B [116,105,109,101,32,48]),(B [116,105,109,101,32,48,49]),(B [110,101,120,116,32,51]),(B [110,101,120,116,32,49]),(B [109,97,114,107,32,48,32,49,32,53]),(B [109,97,114,107,32,48,32,49]),(B [109,97,114,107,32,48,32,49,32,53,32]),(B [104,101,108,100,32,48,32,49,32,50,32,57,32,120]),(B [105,110,98,111,120,32,48,32,49,32,50,32,57,32,120]),s.1.1,t.1.1]:List A4),())).bind λm=>I (m.1,m.2) else(KX (a.2.1,([(B [111,119,110,32]),(B [116,97,107,101,32]),(B [116,97,107,101,32]),(B [104,101,108,100,32]),(B [105,110,98,111,120,32])]:List A4),())).bind λb=>(R9 b.2).bind λn=>(KZ n.1).bind λo=>if A0 (b.1.1.size+o.1.1.size<=4611686018427387904) then I (((b.1.1++o.1.1),()),n.2) else U
def k9:Ent:=(84,U,⟨[Z0],[.str],UZ⟩)
def zI:SQ Tryz.prog k9:=sk (v:= .nil) (fn:=Tryz.f84) aop kN
def afO:Cx:=cX [GH,QJ] [] []
def ajV:OKC Tryz.prog afO AF:=okc mixed<|gC Gp<|gC V3<|AL
def We(x:Y0×A4×A2):Option ((A4×A2)×(Y0×A2)):=if A0 ((x.2.1.size:Int)=0) then I (x.2,(x.1,())) else(At (x.1,2,())).bind λe=>if A0 (e.1.1=0) then I (x.2,e.2) else(At (e.2.1,(x.2.1.size:Int),())).bind λa=>(At (a.2.1,5,())).bind λb=>if A0 (b.1.1=0) then if A0 (0<=a.1.1)&&A0 (a.1.1<=(x.2.1.size:Int)) then if A0 (0<=(w64<|a.1.1+1))&&A0 ((w64<|a.1.1+1)<=(x.2.1.size:Int)) then if A0 ((x.2.1.extract (0)<|AM a.1.1).size+(x.2.1.extract (AM<|w64<|a.1.1+1)<|x.2.1.size).size<=4611686018427387904) then let f:=((x.2.1.extract (0)<|AM a.1.1)++(x.2.1.extract (AM<|w64<|a.1.1+1)<|x.2.1.size));I ((f,()),b.2) else U else U else U else if A0 (b.1.1=1) then if A0 (0<=a.1.1)&&A0 (a.1.1<=(x.2.1.size:Int)) then(KX (b.2.1,([(B [32]),(B [48]),(B [45]),(B [49]),(B [120]),(B [58]),(B [59])]:List A4),())).bind λc=>if A0 ((x.2.1.extract (0)<|AM a.1.1).size+c.1.1.size<=4611686018427387904) then if A0 (0<=a.1.1)&&A0 (a.1.1<=(x.2.1.size:Int)) then if A0 (((x.2.1.extract (0)<|AM a.1.1)++c.1.1).size+(x.2.1.extract (AM a.1.1)<|x.2.1.size).size<=4611686018427387904) then let g:=(((x.2.1.extract (0)<|AM a.1.1)++c.1.1)++(x.2.1.extract (AM a.1.1)<|x.2.1.size));I ((g,()),c.2) else U else U else U else U else if A0 (b.1.1=2) then if A0 (0<=a.1.1)&&A0 (a.1.1<=(x.2.1.size:Int)) then(KX (b.2.1,([(B [57]),(B [45]),(B [59]),(B [32]),(B [10])]:List A4),())).bind λd=>if A0 ((x.2.1.extract (0)<|AM a.1.1).size+d.1.1.size<=4611686018427387904) then if A0 (0<=(w64<|a.1.1+1))&&A0 ((w64<|a.1.1+1)<=(x.2.1.size:Int)) then if A0 (((x.2.1.extract (0)<|AM a.1.1)++d.1.1).size+(x.2.1.extract (AM<|w64<|a.1.1+1)<|x.2.1.size).size<=4611686018427387904) then let h:=(((x.2.1.extract (0)<|AM a.1.1)++d.1.1)++(x.2.1.extract (AM<|w64<|a.1.1+1)<|x.2.1.size));I ((h,()),d.2) else U else U else U else U else if A0 (b.1.1=3) then if A0 (x.2.1.size+x.2.1.size<=4611686018427387904) then I (((x.2.1++x.2.1),()),b.2) else U else if A0 (0<=a.1.1)&&A0 (a.1.1<=(x.2.1.size:Int)) then let i:=(x.2.1.extract (0)<|AM a.1.1);I ((i,()),b.2) else U
def abI:Ent:=(127,U,⟨[Z0,.str],[.str],We⟩)
def aoa:SQ Tryz.prog abI:=sk (v:= .nil) (fn:=Tryz.f127) ajV kN
def arL:Cx:=cX [GH,Vb,Vw,k9,kD,Sn,abI] [] []
def jc:OKC Tryz.prog arL AF:=okc mixed<|gC Gp<|gC ao<|gC Zk<|gC zI<|gC abv<|gC aW<|gC aoa<|AL
def qU(x:Y0×Y7×Y7×Int×A2):Rnd (Y0×Y7×Y7×Int×A2) (A2) (Y0×Y7×Y7×A2):=(At (x.1,3,())).bind λa=>if A0 (x.2.2.2.1<(w64<|38+a.1.1)) then(At (a.2.1,3,())).bind λb=>(M6 ((B [102]),(w64<|58+b.1.1),())).bind λd=>(K8 d.1).bind λc=>if A0 (x.2.2.1.1.size+c.1.1.size<=4611686018427387904) then I (.inl (b.2.1,x.2.1,((x.2.2.1.1++c.1.1),x.2.2.1.2),(w64<|x.2.2.2.1+1),())) else U else I (.inr<|.inr (a.2.1,x.2.1,x.2.2.1,()))
def aDT:=AW qU
def zk:Loop:=⟨[(0,Z23),(2,Z21),(3,Z21),(5,.int .i64)],[(0,Z23),(2,Z21),(3,Z21)],3,[],aDT⟩
def avm:LF Tryz.f82 [0] [1,1,1,0,1,0,1,1,1,1,1,0,1,0,0] zk:=sq (v:= .nil) jc (b:=qU) kN
def qL(x:Y0×Y7×Y7×Int×A2):Rnd (Y0×Y7×Y7×Int×A2) (A2) (Y0×Y7×Y7×A2):=if A0 (0<x.2.2.2.1) then(UZ (x.1,())).bind λb=>(Nz (x.2.2.1,b.1)).bind λc=>(At (b.2.1,3,())).bind λa=>if A0 (a.1.1=0) then(Nn (c.1.1,())).bind λd=>I (.inl (a.2.1,x.2.1,d.1.1,(w64<|x.2.2.2.1 - 1),())) else I (.inl (a.2.1,x.2.1,c.1.1,(w64<|x.2.2.2.1 - 1),())) else I (.inr<|.inr (x.1,x.2.1,x.2.2.1,()))
def tq:=AW qL
def aBK:Loop:=⟨[(0,Z23),(2,Z21),(3,Z21),(4,.int .i64)],[(0,Z23),(2,Z21),(3,Z21)],0,[],tq⟩
def ahg:LF Tryz.f82 [0] [1,1,0,1,0,0] aBK:=sq (v:= .nil) jc (b:=qL) kN
def XB(x:Y0×A2):Option ((Y7×A2)×(Y0×A2)):=(At (x.1,9,())).bind λe=>(AO (tq (e.2.1,(noB,0,()),(noB,0,()),e.1)) (λ_=>U) (λa=>(At (a.1,14,())).bind λb=>if A0 (b.1.1=0) then(We (b.2.1,a.2.2.1.1,())).bind λf=>I (((f.1.1,a.2.2.1.2),()),f.2) else if A0 (b.1.1=1) then(At (b.2.1,(w64<|(a.2.2.1.1.size:Int)+1),())).bind λc=>(At (c.2.1,3,())).bind λd=>if inb d.1.1 (([(-1),(w64<|(a.2.2.1.1.size:Int)+1),c.1.1]:List Int).length) then let h:=(rd (dfl .int) ([(-1),(w64<|(a.2.2.1.1.size:Int)+1),c.1.1]:List Int) d.1.1);I (((a.2.2.1.1,h,()),()),d.2) else U else if A0 (b.1.1=2) then(AO (aDT (b.2.1,a.2.1,a.2.2.1,0,())) (λ_=>U) λg=>I (g.2.2,(g.1,()))) else I (a.2.2,b.2)))
def aFb:Ent:=(82,U,⟨[Z0],[Z15],XB⟩)
def aqp:SQ Tryz.prog aFb:=sk (v:=t1<|t1<|.two (t1<|.one<|.loop aBK)<|.two (t1<|.one<|t1<|t1<|t1<|t1<|t1<|.two (t1<|.one<|.loop zk) .nil) .nil) (fn:=Tryz.f82) jc<|kC ahg<|kC avm kN
def agQ:Cx:=cX [ld,GH,La,cd,aFb,Vw,k9] [] []
def ajY:OKC Tryz.prog agQ AF:=okc mixed<|gC xq<|gC Gp<|gC MK<|gC pI<|gC aqp<|gC Zk<|gC zI<|AL
def ZO(x:Y0×A2):Option ((Y2×Y1×A2)×(Y0×A2)):=(RR (x.1,12,())).bind λe=>(BF (X:=Y0×Y2×Y1×Y11×A2) (λa=>(At (a.1,4,())).bind λd=>if inb d.1.1 a.2.2.2.1.2.2.1.length then(G7 (((rd (dfl .AN) a.2.2.2.1.2.2.1 d.1.1).id,(rd (dfl .AN) a.2.2.2.1.2.2.1 d.1.1).up,(rd (dfl .AN) a.2.2.2.1.2.2.1 d.1.1).log,(rd (dfl .AN) a.2.2.2.1.2.2.1 d.1.1).fo,(rd (dfl .AN) a.2.2.2.1.2.2.1 d.1.1).AE,()),())).bind λb=>(At (d.2.1,20,())).bind λc=>if A0 (c.1.1=0) then(At (c.2.1,3,())).bind λf=>if inb f.1.1 (([(-1),4,(BC (w64<|b.1.1.1+1) 4)]:List Int).length) then let r:=(rd (dfl .int) ([(-1),4,(BC (w64<|b.1.1.1+1) 4)]:List Int) f.1.1);I (((a.2.2.2.1.2.1,a.2.2.2.1.2.2.1,a.2.2.2.1.2.2.2.1,a.2.2.2.1.2.2.2.2.1,a.2.2.2.1.2.2.2.2.2.1,a.2.2.2.1.2.2.2.2.2.2.1,()),(r,b.1.1.2),()),f.2) else U else if A0 (c.1.1=1) then(XB c.2).bind λg=>I (((a.2.2.2.1.2.1,a.2.2.2.1.2.2.1,a.2.2.2.1.2.2.2.1,a.2.2.2.1.2.2.2.2.1,a.2.2.2.1.2.2.2.2.2.1,a.2.2.2.1.2.2.2.2.2.2.1,()),(b.1.1.1,b.1.1.2.1,g.1.1.1,g.1.1.2.1,b.1.1.2.2.2.2),()),g.2) else if A0 (c.1.1=2) then(At (c.2.1,4,())).bind λh=>if inb h.1.1 (([(-1),0,(b.1.1.2.2.1.size:Int),(w64<|(b.1.1.2.2.1.size:Int)+1)]:List Int).length) then let s:=(rd (dfl .int) ([(-1),0,(b.1.1.2.2.1.size:Int),(w64<|(b.1.1.2.2.1.size:Int)+1)]:List Int) h.1.1);I (((a.2.2.2.1.2.1,a.2.2.2.1.2.2.1,a.2.2.2.1.2.2.2.1,a.2.2.2.1.2.2.2.2.1,a.2.2.2.1.2.2.2.2.2.1,a.2.2.2.1.2.2.2.2.2.2.1,()),(b.1.1.1,b.1.1.2.1,b.1.1.2.2.1,s,b.1.1.2.2.2.2),()),h.2) else U else if A0 (c.1.1=3) then(At (c.2.1,5,())).bind λi=>(At (i.2.1,3,())).bind λj=>(At (j.2.1,4,())).bind λk=>(At (k.2.1,26,())).bind λl=>(At (l.2.1,9,())).bind λm=>if Ac (b.1.1.2.2.2.2.1.length+([(AH.mk i.1.1 (w64<|1+j.1.1) k.1.1 9 l.1.1 ([(AQ.mk m.1.1<|B [97,98,99,100])]:List AQ))]:List AH).length) then I (((a.2.2.2.1.2.1,a.2.2.2.1.2.2.1,a.2.2.2.1.2.2.2.1,a.2.2.2.1.2.2.2.2.1,a.2.2.2.1.2.2.2.2.2.1,a.2.2.2.1.2.2.2.2.2.2.1,()),(b.1.1.1,b.1.1.2.1,b.1.1.2.2.1,b.1.1.2.2.2.1,(b.1.1.2.2.2.2.1++([(AH.mk i.1.1 (w64<|1+j.1.1) k.1.1 9 l.1.1 ([(AQ.mk m.1.1<|B [97,98,99,100])]:List AQ))]:List AH)),()),()),m.2) else U else if A0 (c.1.1=4) then I (((a.2.2.2.1.2.1,a.2.2.2.1.2.2.1,a.2.2.2.1.2.2.2.1,a.2.2.2.1.2.2.2.2.1,a.2.2.2.1.2.2.2.2.2.1,a.2.2.2.1.2.2.2.2.2.2.1,()),(b.1.1.1,(!b.1.1.2.1),b.1.1.2.2),()),c.2) else if A0 (c.1.1=5) then(UZ c.2).bind λo=>(K8 o.1).bind λp=>if A0 (b.1.1.2.2.1.size+p.1.1.size<=4611686018427387904) then let t:=(b.1.1.2.2.1++p.1.1);I (((a.2.2.2.1.2.1,a.2.2.2.1.2.2.1,a.2.2.2.1.2.2.2.1,a.2.2.2.1.2.2.2.2.1,a.2.2.2.1.2.2.2.2.2.1,a.2.2.2.1.2.2.2.2.2.2.1,()),(b.1.1.1,b.1.1.2.1,t,b.1.1.2.2.2),()),o.2) else U else I (((a.2.2.2.1.2.1,a.2.2.2.1.2.2.1,a.2.2.2.1.2.2.2.1,a.2.2.2.1.2.2.2.2.1,a.2.2.2.1.2.2.2.2.2.1,a.2.2.2.1.2.2.2.2.2.2.1,()),b.1),c.2) else U)<|(At (e.2.1,2,())).bind λn=>if A0 (n.1.1=0) then(N3 ((n.2.1,e.1.1.2),7,0,())).bind λq=>I (.inr (q.2.1.1,(0,([]:List AA),([]:List Bool),([]:List AT),([]:List A7),([]:List A7),()),(0,A3,noB,0,([]:List AH),()),((),q.2.1.2),())) else I (.inr (n.2.1,(0,([]:List AA),([]:List Bool),([]:List AT),([]:List A7),([]:List A7),()),(0,A3,noB,0,([]:List AH),()),((),e.1.1.2),())))
def aDb:Ent:=(45,U,⟨[Z0],[Z3,Z1],ZO⟩)
def anN:SQ Tryz.prog aDb:=sk (v:=t1<|t1<|.join [(0,Z23),(2,Z2),(3,Z20),(4,Z28)] .nil .nil) (fn:=Tryz.f45) ajY kN
def asA:Cx:=cX [GH,lX,aDb,Vb,kj] [] []
def aEf:OKC Tryz.prog asA AF:=okc mixed<|gC Gp<|gC aBT<|gC anN<|gC ao<|gC ac8<|AL
def qu(x:Y0×Y2×Y2×A2):Rnd (Y0×Y2×Y2×A2) (A2) (Y0×Y2×Y2×A2):=(At (x.1,2,())).bind λa=>if A0 ((x.2.1.2.2.2.1.length:Int)<(w64<|30+a.1.1)) then if Ac (x.2.1.2.2.2.1.length+([(AT.mk 0 1 noB A3)]:List AT).length) then I (.inl (a.2.1,(x.2.1.1,x.2.1.2.1,x.2.1.2.2.1,(x.2.1.2.2.2.1++([(AT.mk 0 1 noB A3)]:List AT)),x.2.1.2.2.2.2),x.2.2)) else U else I (.inr<|.inr (a.2.1,x.2))
def acm:=AW qu
def vM:Loop:=⟨[(0,Z23),(3,Z2),(4,Z2)],[(0,Z23),(3,Z2),(4,Z2)],1,[],acm⟩
def awP:LF Tryz.f21 [0] [1,1,0,1,0,1,1,1,1,1,1,1,1,1,1,1,1,1,1,0,0] vM:=sq (v:= .nil) aEf (b:=qu) kN
def Xw(x:Y0×Y2×A2):Option ((Y2×A2)×(Y0×A2)):=(MG x.2).bind λa=>(At (x.1,8,())).bind λb=>if A0 (b.1.1=0) then(At (b.2.1,(a.1.1.2.1.length:Int),())).bind λf=>(ZO f.2).bind λe=>if inb f.1.1 a.1.1.2.1.length then I (((a.1.1.1,(Bq a.1.1.2.1 (AM f.1.1)<|AA.mk e.1.2.1.1 e.1.2.1.2.1 e.1.2.1.2.2.1 e.1.2.1.2.2.2.1 e.1.2.1.2.2.2.2.1),a.1.1.2.2),()),e.2) else U else if A0 (b.1.1=1) then(At (b.2.1,4,())).bind λg=>if inb g.1.1 (([(-1),0,99999,100000]:List Int).length) then let m:=(rd (dfl .int) ([(-1),0,99999,100000]:List Int) g.1.1);I (((m,a.1.1.2),()),g.2) else U else if A0 (b.1.1=2) then if A0 (0<=1)&&A0 (1<=(a.1.1.2.1.length:Int)) then let n:=(Bs (AM 1) a.1.1.2.1);I (((a.1.1.1,n,a.1.1.2.2),()),b.2) else U else if A0 (b.1.1=3) then if Ac (a.1.1.2.2.1.length+([A1]:List Bool).length) then I (((a.1.1.1,a.1.1.2.1,(a.1.1.2.2.1++([A1]:List Bool)),a.1.1.2.2.2),()),b.2) else U else if A0 (b.1.1=4) then(At (b.2.1,5,())).bind λh=>(At (h.2.1,5,())).bind λi=>(At (i.2.1,3,())).bind λj=>if inb j.1.1 (([0,40,41]:List Int).length) then(M6 ((B [120]),(rd (dfl .int) ([0,40,41]:List Int) j.1.1),())).bind λk=>if Ac (a.1.1.2.2.2.1.length+([(AT.mk (w64<|h.1.1 - 1) (w64<|i.1.1 - 1) k.1.1 A3)]:List AT).length) then I (((a.1.1.1,a.1.1.2.1,a.1.1.2.2.1,(a.1.1.2.2.2.1++([(AT.mk (w64<|h.1.1 - 1) (w64<|i.1.1 - 1) k.1.1 A3)]:List AT)),a.1.1.2.2.2.2),()),j.2) else U else U else if A0 (b.1.1=5) then(R9 b.2).bind λc=>if Ac (a.1.1.2.2.2.2.1.length+([(A7.mk c.1.1.1 c.1.1.2.1 c.1.1.2.2.1 c.1.1.2.2.2.1 c.1.1.2.2.2.2.1)]:List A7).length) then I (((a.1.1.1,a.1.1.2.1,a.1.1.2.2.1,a.1.1.2.2.2.1,(a.1.1.2.2.2.2.1++([(A7.mk c.1.1.1 c.1.1.2.1 c.1.1.2.2.1 c.1.1.2.2.2.1 c.1.1.2.2.2.2.1)]:List A7)),a.1.1.2.2.2.2.2),()),c.2) else U else if A0 (b.1.1=6) then(R9 b.2).bind λd=>if Ac (a.1.1.2.2.2.2.2.1.length+([(A7.mk d.1.1.1 d.1.1.2.1 d.1.1.2.2.1 d.1.1.2.2.2.1 d.1.1.2.2.2.2.1)]:List A7).length) then I (((a.1.1.1,a.1.1.2.1,a.1.1.2.2.1,a.1.1.2.2.2.1,a.1.1.2.2.2.2.1,(a.1.1.2.2.2.2.2.1++([(A7.mk d.1.1.1 d.1.1.2.1 d.1.1.2.2.1 d.1.1.2.2.2.1 d.1.1.2.2.2.2.1)]:List A7)),()),()),d.2) else U else(AO (acm (b.2.1,a.1.1,(0,([]:List AA),([]:List Bool),([]:List AT),([]:List A7),([]:List A7),()),())) (λ_=>U) λl=>I ((l.2.1,()),(l.1,())))
def uV:Ent:=(21,U,⟨[Z0,Z30],[Z30],Xw⟩)
def axv:SQ Tryz.prog uV:=sk (v:=t1<|t1<|.two (t1<|.one<|t1<|t1<|t1<|t1<|t1<|t1<|t1<|t1<|t1<|t1<|t1<|t1<|t1<|t1<|.one<|.loop vM) .nil) (fn:=Tryz.f21) aEf<|kC awP kN
def atx:Cx:=cX [(sn.1,I 83,sn.2.2),yo,ld,GH,kW,KP,uV] [] [(73,75)]
def akV:OKC Tryz.prog atx AF:=okc mixed<|gCd agq<|gC avI<|gC xq<|gC Gp<|gC yJ<|gC Q5<|gC axv<|AL
def O8(x:List Int×A2):Option ((Y2×Y3×A2)×A2):=(Za x).bind λz=>(RR (z.1.1,14,())).bind λj=>(BF (X:=Y2×Y3×Y0×Y11×A2) (λa=>(At (a.2.2.1,13,())).bind λh=>(At (h.2.1,4,())).bind λk=>(At (k.2.1,4,())).bind λl=>(At (l.2.1,3,())).bind λm=>(At (m.2.1,(w64<|(a.2.2.2.1.2.2.2.2.1.length:Int)+1),())).bind λn=>(At (n.2.1,18,())).bind λo=>(At (o.2.1,3,())).bind λr=>(At (r.2.1,4,())).bind λp=>(At (p.2.1,20,())).bind λi=>let A:=(w64<|B0 r.1.1 2);(BF (X:=Y2×Y3×Y0×Y11×Y2×Y3×A2) (λb=>(fE ((b.2.2.1,b.2.2.2.1.2),())).bind λd=>(BF (X:=Y2×Y3×Y0×Y2×Y3×A2) (λe=>(At (e.2.2.1,12,())).bind λg=>if A0 (g.1.1=0) then(At (g.2.1,3,())).bind λs=>if inb s.1.1 (([0,14,(-1)]:List Int).length) then let C:=(rd (dfl .int) ([0,14,(-1)]:List Int) s.1.1);I ((e.2.2.2.1,(C,e.2.2.2.2.1.2),()),()) else U else if A0 (g.1.1=1) then(At (g.2.1,3,())).bind λt=>if inb t.1.1 (([(-1),4,3]:List Int).length) then let D:=(rd (dfl .int) ([(-1),4,3]:List Int) t.1.1);I ((e.2.2.2.1,(e.2.2.2.2.1.1,D,e.2.2.2.2.1.2.2),()),()) else U else if A0 (g.1.1=2) then(Xw (g.2.1,e.2.2.2.1,())).bind λE=>I ((E.1.1,e.2.2.2.2),()) else I (e.2.2.2,()))<|(BF (X:=Y2×Y3×Y0×Y2×Y3×Int×Y5×Bool×A2) (λc=>if c.2.2.2.2.2.2.2.1 then I (.inr (c.1,c.2.1,c.2.2.1,c.2.2.2.1,(c.2.2.2.2.1.1,c.2.2.2.2.2.1,c.2.2.2.2.2.2.1.1,c.2.2.2.2.2.2.1.2.1,c.2.2.2.2.1.2.2.2.2),())) else I (.inr (c.1,c.2.1,c.2.2.1,c.2.2.2.1,c.2.2.2.2.1,())))<|(if d.1.2.2.1 then if A0 (b.2.2.2.2.2.1.1=3) then(At (d.2.1.1,4,())).bind λu=>I (.inr (b.1,b.2.1,u.2.1,b.2.2.2.2.1,b.2.2.2.2.2.1,d.1.1,d.1.2.1,(A0<|0<u.1.1),())) else I (.inr (b.1,b.2.1,d.2.1.1,b.2.2.2.2.1,b.2.2.2.2.2.1,d.1.1,d.1.2.1,A3,())) else I (.inr (b.1,b.2.1,d.2.1.1,b.2.2.2.2.1,b.2.2.2.2.2.1,d.1.1,d.1.2.1,A3,()))))))<|(if(A0<|(w64<|1+h.1.1)=6)||(A0<|(w64<|1+h.1.1)=7) then(At (i.2.1,258,())).bind λv=>I (.inr (a.1,a.2.1,v.2.1,((),a.2.2.2.1.2),(a.2.2.2.1.2.1,a.2.2.2.1.2.2.1,a.2.2.2.1.2.2.2.1,a.2.2.2.1.2.2.2.2.1,a.2.2.2.1.2.2.2.2.2.1,a.2.2.2.1.2.2.2.2.2.2.1,()),((w64<|1+h.1.1),k.1.1,l.1.1,(w64<|1+m.1.1),n.1.1,o.1.1,(w64<|v.1.1 - 1),p.1.1,(w64<|1+i.1.1),(B [116,101,120,116]),()),())) else I (.inr (a.1,a.2.1,i.2.1,((),a.2.2.2.1.2),(a.2.2.2.1.2.1,a.2.2.2.1.2.2.1,a.2.2.2.1.2.2.2.1,a.2.2.2.1.2.2.2.2.1,a.2.2.2.1.2.2.2.2.2.1,a.2.2.2.1.2.2.2.2.2.2.1,()),((w64<|1+h.1.1),k.1.1,l.1.1,(w64<|1+m.1.1),n.1.1,o.1.1,A,p.1.1,(w64<|1+i.1.1),(B [116,101,120,116]),()),())))))<|(At (j.2.1,2,())).bind λq=>if A0 (q.1.1=0) then(V6 ((q.2.1,j.1.1.2),())).bind λf=>if f.1.2.2.1 then(At (f.2.1.1,6,())).bind λw=>(FI ((w.2.1,f.2.1.2),(3,f.1.1,f.1.2.1.1,f.1.2.1.2.1,0,w.1.1,0,0,0,noB,()),())).bind λy=>I (.inr ((0,([]:List AA),([]:List Bool),([]:List AT),([]:List A7),([]:List A7),()),(0,0,0,0,0,0,0,0,0,noB,()),y.2.1.1,((),y.2.1.2),())) else I (.inr ((0,([]:List AA),([]:List Bool),([]:List AT),([]:List A7),([]:List A7),()),(0,0,0,0,0,0,0,0,0,noB,()),f.2.1.1,((),f.2.1.2),())) else I (.inr ((0,([]:List AA),([]:List Bool),([]:List AT),([]:List A7),([]:List A7),()),(0,0,0,0,0,0,0,0,0,noB,()),q.2.1,((),j.1.1.2),())))
def SD:Ent:=(7,U,⟨[.fz .u8],[Z30,Z4],O8⟩)
def WV:SQ Tryz.prog SD:=sk (v:=t1<|t1<|t1<|.join [(2,Z2),(3,Z27),(4,Z23),(5,Z33)] .nil<|t1<|t1<|.join [(2,Z2),(3,Z27),(4,Z23),(5,Z31),(9,Z32),(10,Z27)] .nil<|t1<|.join [(2,Z2),(3,Z27),(4,Z23),(9,Z29),(10,Z27)] (.join [(2,Z2),(3,Z27),(4,Z23),(9,Z29),(10,Z27),(11,.int .i64),(12,Z7),(97,.bool)] .nil .nil) .nil) (fn:=Tryz.f7) akV kN
def arO:Cx:=cX [H6,Jw,IX,Ue] [] [(57,64)]
def VJ:OKC Tryz.prog arO AF:=okc mixed<|gC HI<|gC LB<|gC Ij<|gC dS<|AL
def di(x:Y2×Int×A2):Rnd (Y2×Int×A2) (Bool×A2) (A2):=if A0 (x.2.1<(x.1.2.2.2.2.2.1.length:Int)) then if inb x.2.1 x.1.2.2.2.2.2.1.length then(N0 (((rd (dfl .note) x.1.2.2.2.2.2.1 x.2.1).fr,(rd (dfl .note) x.1.2.2.2.2.2.1 x.2.1).nu,(rd (dfl .note) x.1.2.2.2.2.2.1 x.2.1).to,(rd (dfl .note) x.1.2.2.2.2.2.1 x.2.1).un,(rd (dfl .note) x.1.2.2.2.2.2.1 x.2.1).tx,()),())).bind λa=>if !a.1.1 then I (.inr<|.inl (A3,())) else I (.inl (x.1,(w64<|x.2.1+1),())) else U else I (.inr<|.inr ())
def pF:=AW di
def acx:Loop:=⟨[(1,Z29),(7,.int .i64)],[],6,[(2,.bool)],pF⟩
def ajJ:LF Tryz.f22 [] [1,1,1,1,1,0,1,0,0] acx:=sq (v:= .nil) VJ (b:=di) kN
def aN(x:Y2×Int×A2):Rnd (Y2×Int×A2) (Bool×A2) (Y2×A2):=if A0 (x.2.1<(x.1.2.2.2.2.1.length:Int)) then if inb x.2.1 x.1.2.2.2.2.1.length then(N0 (((rd (dfl .note) x.1.2.2.2.2.1 x.2.1).fr,(rd (dfl .note) x.1.2.2.2.2.1 x.2.1).nu,(rd (dfl .note) x.1.2.2.2.2.1 x.2.1).to,(rd (dfl .note) x.1.2.2.2.2.1 x.2.1).un,(rd (dfl .note) x.1.2.2.2.2.1 x.2.1).tx,()),())).bind λa=>if !a.1.1 then I (.inr<|.inl (A3,())) else I (.inl (x.1,(w64<|x.2.1+1),())) else U else I (.inr<|.inr (x.1,()))
def sX:=AW aN
def z7:Loop:=⟨[(1,Z29),(6,.int .i64)],[(1,Z29)],4,[(2,.bool)],sX⟩
def ayF:LF Tryz.f22 [] [1,1,1,1,0,1,0,0] z7:=sq (v:= .nil) VJ (b:=aN) kN
def fO(x:Y2×Int×A2):Rnd (Y2×Int×A2) (Bool×A2) (Y2×A2):=if A0 (x.2.1<(x.1.2.2.2.1.length:Int)) then if inb x.2.1 x.1.2.2.2.1.length then let a:=(rd (dfl .Ai) x.1.2.2.2.1 x.2.1).src;let b:=(rd (dfl .Ai) x.1.2.2.2.1 x.2.1).dst;let c:=(rd (dfl .Ai) x.1.2.2.2.1 x.2.1).data;let f:=(rd (dfl .Ai) x.1.2.2.2.1 x.2.1).sp;(FN (a,())).bind λd=>if !d.1.1 then I (.inr<|.inl (A3,())) else(FN (b,())).bind λe=>if !e.1.1 then I (.inr<|.inl (A3,())) else if !decide ((w64<|a - b)=1) then if !decide ((w64<|b - a)=1) then I (.inr<|.inl (A3,())) else if A0 (40<(c.size:Int)) then I (.inr<|.inl (A3,())) else I (.inl (x.1,(w64<|x.2.1+1),())) else if A0 (40<(c.size:Int)) then I (.inr<|.inl (A3,())) else I (.inl (x.1,(w64<|x.2.1+1),())) else U else I (.inr<|.inr (x.1,()))
def nX:=AW fO
def vN:Loop:=⟨[(1,Z29),(4,.int .i64)],[(1,Z29)],2,[(2,.bool)],nX⟩
def auB:LF Tryz.f22 [] [1,1,1,0,1,0,0] vN:=sq (v:= .nil) VJ (b:=fO) kN
def dK(x:Y2×Int×A2):Rnd (Y2×Int×A2) (Bool×A2) (Y2×A2):=if A0 (x.2.1<(x.1.2.1.length:Int)) then if inb x.2.1 x.1.2.1.length then(Ip (((rd (dfl .AN) x.1.2.1 x.2.1).id,(rd (dfl .AN) x.1.2.1 x.2.1).up,(rd (dfl .AN) x.1.2.1 x.2.1).log,(rd (dfl .AN) x.1.2.1 x.2.1).fo,(rd (dfl .AN) x.1.2.1 x.2.1).AE,()),())).bind λa=>if Ad (!(!a.1.1)) (inb x.2.1 x.1.2.1.length) then if(!a.1.1)||(!decide ((rd (dfl .AN) x.1.2.1 x.2.1).id=x.2.1)) then I (.inr<|.inl (A3,())) else I (.inl (x.1,(w64<|x.2.1+1),())) else U else U else I (.inr<|.inr (x.1,()))
def mM:=AW dK
def ac4:Loop:=⟨[(1,Z29),(3,.int .i64)],[(1,Z29)],0,[(2,.bool)],mM⟩
def aeJ:LF Tryz.f22 [] [1,1,0,1,0,0] ac4:=sq (v:= .nil) VJ (b:=dK) kN
def Nd(x:Y2×A2):Option ((Bool×A2)×A2):=(DK (x.1.1,0,99999,())).bind λe=>if !e.1.1 then I ((A3,()),()) else if !decide ((x.1.2.1.length:Int)=4) then I ((A3,()),()) else if !decide ((x.1.2.2.1.length:Int)=3) then I ((A3,()),()) else if A0 (30<(x.1.2.2.2.1.length:Int)) then I ((A3,()),()) else if A0 (6<(x.1.2.2.2.2.1.length:Int)) then I ((A3,()),()) else if A0 (6<(x.1.2.2.2.2.2.1.length:Int)) then I ((A3,()),()) else(AO (mM (x.1,0,())) (λa=>I (a,())) λa=>(AO (nX (a.1,0,())) (λb=>I (b,())) λb=>(AO (sX (b.1,0,())) (λc=>I (c,())) λc=>(AO (pF (c.1,0,())) (λd=>I (d,())) λd=>I ((A1,()),())))))
def jH:Ent:=(22,U,⟨[Z30],[.bool],Nd⟩)
def abS:SQ Tryz.prog jH:=sk (v:=t1<|t1<|.two (t1<|.one<|.loop ac4)<|.two (t1<|.one<|.loop vN)<|.two (t1<|.one<|.loop z7)<|.two (t1<|.one<|.loop acx) .nil) (fn:=Tryz.f22) VJ<|kC aeJ<|kC auB<|kC ayF<|kC ajJ kN
def ag6:Cx:=cX [jH,lX,uq] [] []
def ahE:OKC Tryz.prog ag6 AF:=okc mixed<|gC abS<|gC aBT<|gC azs<|AL
def IB(x:Y2×Y3×A2):Option ((Y2×Bool×A2)×A2):=(Nd (x.1,())).bind λb=>if !b.1.1 then I (((0,([]:List AA),([]:List Bool),([]:List AT),([]:List A7),([]:List A7),()),A3,()),()) else if A0 (99999<=x.1.1) then(MG (x.1,())).bind λc=>I ((c.1.1,A3,()),()) else(MG (x.1,())).bind λd=>(Us (d.1.1,x.2)).bind λa=>if !a.1.2.1 then(MG (x.1,())).bind λe=>I ((e.1.1,A3,()),()) else(MG (a.1.1,())).bind λf=>I ((f.1.1,A1,()),())
def VE:Ent:=(8,U,⟨[Z30,Z4],[Z3,.bool],IB⟩)
def cK:SQ Tryz.prog VE:=sk (v:= .nil) (fn:=Tryz.f8) ahE kN
def amm:Cx:=cX [] [] [(11,13)]
def afh:OKC Tryz.prog amm AF:=okc mixed<|AL
def C4(x:Int×Int×Int×A2):Option ((Bool×A2)×A2):=let a:=((A0<|x.2.1<=x.1)&&(A0<|x.1<=x.2.2.1));I ((a,()),())
def FF:Ent:=(55,U,⟨[.int .i64,.int .i64,.int .i64],[.bool],C4⟩)
def FK:SQ Tryz.prog FF:=sk (v:= .nil) (fn:=Tryz.f55) afh kN
def an8:Cx:=cX [FF] [] [(11,18)]
def tn:OKC Tryz.prog an8 AF:=okc mixed<|gC FK<|AL
def cU(x:A4×Int×Int×A2):Rnd (A4×Int×Int×A2) (Int×Bool×A2) (Int×A2):=if A0 (x.2.2.1<(x.1.size:Int)) then if inb x.2.2.1 x.1.size then(C4 ((w64<|bt x.1 x.2.2.1),48,57,())).bind λa=>if !a.1.1 then I (.inr<|.inl (0,A3,())) else if inb x.2.2.1 x.1.size then let b:=(w64<|(w64<|10 * x.2.1)+(w64<|w8<|(bt x.1 x.2.2.1) - 48));I (.inl (x.1,b,(w64<|x.2.2.1+1),())) else U else U else I (.inr<|.inr (x.2.1,()))
def sS:=AW cU
def za:Loop:=⟨[(0,.str),(4,.int .i64),(5,.int .i64)],[(4,.int .i64)],0,[(2,.int .i64),(3,.bool)],sS⟩
def ael:LF Tryz.f117 [] [1,1,1,0,1,0,0] za:=sq (v:= .nil) tn (b:=cU) kN
def Od(x:A4×A2):Option ((Int×Bool×A2)×A2):=(C4 ((x.1.size:Int),1,5,())).bind λb=>if Ad (!(!b.1.1)) (inb 0 x.1.size) then if(!b.1.1)||((A0<|(bt x.1 0)=48)&&(A0<|1<(x.1.size:Int))) then I ((0,A3,()),()) else(AO (sS (x.1,0,0,())) (λa=>I (a,())) λa=>I ((a.1,A1,()),())) else U
def bg:Ent:=(117,U,⟨[.str],[.int .i64,.bool],Od⟩)
def si:SQ Tryz.prog bg:=sk (v:=t1<|t1<|t1<|.two (t1<|.one<|.loop za) .nil) (fn:=Tryz.f117) tn<|kC ael kN
def ar6:Cx:=cX [] [] []
def apC:OKC Tryz.prog ar6 AF:=okc mixed<|AL
def QH(x:List A4×A2):Option ((List A4×A2)×A2):=if A0 ((x.1.length:Int)=0) then I ((([]:List A4),()),()) else if A0 (0<=(x.1.length:Int))&&A0 ((x.1.length:Int)<=4294967296) then I (((BU (BW (AM (x.1.length:Int))<|dfl .str).length x.1++Bs x.1.length (BW (AM (x.1.length:Int))<|dfl .str)),()),()) else U
def X1:Ent:=(118,U,⟨[.fz .str],[.row 9 .str],QH⟩)
def gD:SQ Tryz.prog X1:=sk (v:= .nil) (fn:=Tryz.f118) apC kN
def ayb:Cx:=cX [FF,bg,X1] [] [(26,29),(38,41)]
def lF:OKC Tryz.prog ayb AF:=okc mixed<|gC FK<|gC si<|gC gD<|AL
def aq(x:A4×List A4×Int×Int×A2):Rnd (A4×List A4×Int×Int×A2) (A2) (A4×List A4×Int×Int×A2):=if A0 (x.2.2.2.1<(x.1.size:Int)) then if Ad (A0<|x.2.2.2.1<(w64<|x.2.2.1+3)) (inb x.2.2.2.1 x.1.size) then if(A0<|x.2.2.2.1<(w64<|x.2.2.1+3))&&(!decide ((bt x.1 x.2.2.2.1)=58)) then I (.inl (x.1,x.2.1,x.2.2.1,(w64<|x.2.2.2.1+1),())) else I (.inr<|.inr x) else U else if Ad A3 (inb x.2.2.2.1 x.1.size) then I (.inr<|.inr x) else U
def lc:=AW aq
def aER:Loop:=⟨[(0,.str),(4,.row 9 .str),(5,.int .i64),(6,.int .i64)],[(0,.str),(4,.row 9 .str),(5,.int .i64),(6,.int .i64)],2,[],lc⟩
def avR:LF Tryz.f66 [] [1,1,1,0,0,0,1,0,1,0,0,0] aER:=sq (v:= .nil) lF (b:=aq) kN
def RV(x:A4×List A4×Int×A2):Rnd (A4×List A4×Int×A2) (A2) (List A4×Int×A2):=if A0 (x.2.2.1<(x.1.size:Int)) then(AO (lc (x.1,x.2.1,x.2.2.1,x.2.2)) (λ_=>I<|.inr<|.inl ()) λa=>(if Ad (!(A0<|(a.1.size:Int)<=a.2.2.2.1)) (inb a.2.2.2.1 a.1.size) then if(A0<|(a.1.size:Int)<=a.2.2.2.1)||(!decide ((bt a.1 a.2.2.2.1)=58)) then I (.inr<|.inr (a.2.1,a.2.2.1,())) else if(A0 (0<=a.2.2.2.1)&&A0 (a.2.2.2.1<=(a.1.size:Int)))&&(A0 (0<=a.2.2.1)&&A0 (a.2.2.1<=a.2.2.2.1)) then(Od ((a.1.extract (AM a.2.2.1)<|AM a.2.2.2.1),())).bind λc=>let b:=(w64<|(w64<|a.2.2.2.1+1)+c.1.1);(if !c.1.2.1 then I (.inr<|.inr (a.2.1,a.2.2.1,())) else(C4 (c.1.1,1,60,())).bind λd=>if !d.1.1 then I (.inr<|.inr (a.2.1,a.2.2.1,())) else if A0 ((a.1.size:Int)<=b) then I (.inr<|.inr (a.2.1,a.2.2.1,())) else if inb b a.1.size then if !decide ((bt a.1 b)=59) then I (.inr<|.inr (a.2.1,a.2.2.1,())) else if(A0 (0<=b)&&A0 (b<=(a.1.size:Int)))&&(A0 (0<=(w64<|a.2.2.2.1+1))&&A0 ((w64<|a.2.2.2.1+1)<=b)) then if Ac (a.2.1.length+([(a.1.extract (AM<|w64<|a.2.2.2.1+1)<|AM b)]:List A4).length) then I (.inl (a.1,(a.2.1++([(a.1.extract (AM<|w64<|a.2.2.2.1+1)<|AM b)]:List A4)),(w64<|b+1),())) else U else U else U) else U else U)) else I (.inr<|.inr x.2)
def pn:=AW RV
def aAc:Loop:=⟨[(0,.str),(4,.row 9 .str),(5,.int .i64)],[(4,.row 9 .str),(5,.int .i64)],0,[],pn⟩
def auk:LF Tryz.f66 [] [1,1,1,0,0,0] aAc:=sq (v:=t1<|.one<|t1<|.two (.one<|.loop aER) .nil) lF (b:=RV)<|kC avR kN
def PK(x:A4×A2):Option ((List A4×Int×A2)×A2):=(AO (pn (x.1,([]:List A4),0,())) (λ_=>U) λa=>(QH (a.1,())).bind λb=>I ((b.1.1,a.2),()))
def aP:Ent:=(66,U,⟨[.str],[.row 9 .str,.int .i64],PK⟩)
def pq:SQ Tryz.prog aP:=sk (v:=t1<|t1<|t1<|.two (.one<|.loop aAc) .nil) (fn:=Tryz.f66) lF<|kC auk kN
def ajK:Cx:=cX [FF] [] []
def aiD:OKC Tryz.prog ajK AF:=okc mixed<|gC FK<|AL
def FX(x:Int×A2):Option ((Bool×A2)×A2):=(C4 (x.1,0,3,())).bind λa=>I (a.1,())
def JI:Ent:=(57,U,⟨[.int .i64],[.bool],FX⟩)
def KE:SQ Tryz.prog JI:=sk (v:= .nil) (fn:=Tryz.f57) aiD kN
def ahc:Cx:=cX [JI] [] []
def aeR:OKC Tryz.prog ahc AF:=okc mixed<|gC KE<|AL
def Ym(x:Int×A2):Option ((Y4×A2)×A2):=(FX x).bind λa=>if !a.1.1 then I (((0,0,0,([]:List A7),([]:List Mark),([]:List A7),()),()),()) else I (((x.1,0,1,([]:List A7),([]:List Mark),([]:List A7),()),()),())
def vr:Ent:=(119,U,⟨[.int .i64],[Z6],Ym⟩)
def arh:SQ Tryz.prog vr:=sk (v:= .nil) (fn:=Tryz.f119) aeR kN
def al7:Cx:=cX [] [] [(21,24)]
def aEX:OKC Tryz.prog al7 AF:=okc mixed<|AL
def bV(x:Int×Int×List Mark×Int×Int×A2):Rnd (Int×Int×List Mark×Int×Int×A2) (Int×A2) (A2):=if A0 (x.2.2.2.2.1<x.2.2.2.1) then if inb x.2.2.2.2.1 x.2.2.1.length then let a:=(rd (dfl .mark) x.2.2.1 x.2.2.2.2.1).mf;let b:=(rd (dfl .mark) x.2.2.1 x.2.2.2.2.1).mn;let c:=(rd (dfl .mark) x.2.2.1 x.2.2.2.2.1).mu;if(A0<|a=x.1)&&(A0<|b=x.2.1) then I (.inr<|.inl x.2.2.2.2) else I (.inl (x.1,x.2.1,x.2.2.1,x.2.2.2.1,(w64<|x.2.2.2.2.1+1),())) else U else I (.inr<|.inr ())
def jT:=AW bV
def aEY:Loop:=⟨[(1,.int .i64),(2,.int .i64),(9,.sl .mark),(10,.int .i64),(11,.int .i64)],[],0,[(6,.int .i64)],jT⟩
def at0:LF Tryz.f177 [] [1,0,1,0,0] aEY:=sq (v:= .nil) aEX (b:=bV) kN
def KB(x:List Mark×Int×Int×A2):Option ((Int×A2)×A2):=(AO (jT (x.2.1,x.2.2.1,x.1,(x.1.length:Int),0,())) (λa=>I (a,())) λa=>I (((-1),()),()))
def W6:Ent:=(177,U,⟨[.fz .mark,.int .i64,.int .i64],[.int .i64],KB⟩)
def fu:SQ Tryz.prog W6:=sk (v:=t1<|.two (t1<|.one<|.loop aEY) .nil) (fn:=Tryz.f177) aEX<|kC at0 kN
def awm:Cx:=cX [FF] [] []
def aAf:OKC Tryz.prog awm AF:=okc mixed<|gC FK<|AL
def cg(x:A4×Int×A2):Rnd (A4×Int×A2) (Bool×A2) (A4×A2):=if A0 (x.2.1<(x.1.size:Int)) then if inb x.2.1 x.1.size then(C4 ((w64<|bt x.1 x.2.1),32,126,())).bind λa=>if !a.1.1 then I (.inr<|.inl (A3,())) else I (.inl (x.1,(w64<|x.2.1+1),())) else U else I (.inr<|.inr (x.1,()))
def jD:=AW cg
def vK:Loop:=⟨[(0,.str),(3,.int .i64)],[(0,.str)],0,[(2,.bool)],jD⟩
def adp:LF Tryz.f142 [] [1,0,1,0,0] vK:=sq (v:= .nil) aAf (b:=cg) kN
def Mr(x:A4×A2):Option ((Bool×A2)×A2):=(AO (jD (x.1,0,())) (λa=>I (a,())) λa=>(C4 ((a.1.size:Int),1,24,())).bind λb=>I (b.1,()))
def wy:Ent:=(142,U,⟨[.str],[.bool],Mr⟩)
def ajB:SQ Tryz.prog wy:=sk (v:=t1<|.two (t1<|.one<|.loop vK) .nil) (fn:=Tryz.f142) aAf<|kC adp kN
def aku:Cx:=cX [FF,JI,wy] [] [(22,24)]
def avj:OKC Tryz.prog aku AF:=okc mixed<|gC FK<|gC KE<|gC ajB<|AL
def Ng(x:Y5×A2):Option ((Bool×A2)×A2):=(FX (x.1.1,())).bind λb=>if b.1.1 then(FX (x.1.2.2.1,())).bind λc=>if c.1.1 then(C4 (x.1.2.1,1,99,())).bind λd=>if d.1.1 then(C4 (x.1.2.2.2.1,1,999,())).bind λa=>if Ad a.1.1 ((Mr x.1.2.2.2.2).isSome) then let e:=(a.1.1&&(((Mr x.1.2.2.2.2).getD ((A3,()),())).1.1));I ((e,()),()) else U else if Ad A3 ((Mr x.1.2.2.2.2).isSome) then I ((A3,()),()) else U else if Ad A3 ((Mr x.1.2.2.2.2).isSome) then I ((A3,()),()) else U else if Ad A3 ((Mr x.1.2.2.2.2).isSome) then I ((A3,()),()) else U
def Q0:Ent:=(100,U,⟨[Z8],[.bool],Ng⟩)
def Va:SQ Tryz.prog Q0:=sk (v:= .nil) (fn:=Tryz.f100) avj kN
def aqy:Cx:=cX [] [] [(13,20)]
def aq5:OKC Tryz.prog aqy AF:=okc mixed<|AL
def LJ(x:Int×Int×Int×Int×A2):Option ((Bool×A2)×A2):=let a:=((A0<|x.1<x.2.2.1)||((A0<|x.1=x.2.2.1)&&(A0<|x.2.1<x.2.2.2.1)));I ((a,()),())
def Vq:Ent:=(221,U,⟨[.int .i64,.int .i64,.int .i64,.int .i64],[.bool],LJ⟩)
def dV:SQ Tryz.prog Vq:=sk (v:= .nil) (fn:=Tryz.f221) aq5 kN
def as4:Cx:=cX [Q0,Vq] [] [(16,37)]
def yl:OKC Tryz.prog as4 AF:=okc mixed<|gC Va<|gC dV<|AL
def ZY(x:List A7×List A7×Int×Int×A2):Rnd (List A7×List A7×Int×Int×A2) (Bool×A2) (A2):=if A0 (x.2.2.2.1<x.2.2.1) then if inb x.2.2.2.1 x.2.1.length then let b:=(rd (dfl .note) x.2.1 x.2.2.2.1).fr;let c:=(rd (dfl .note) x.2.1 x.2.2.2.1).nu;let d:=(rd (dfl .note) x.2.1 x.2.2.2.1).to;let e:=(rd (dfl .note) x.2.1 x.2.2.2.1).un;let f:=(rd (dfl .note) x.2.1 x.2.2.2.1).tx;(Ng ((b,c,d,e,f,()),())).bind λa=>if Ad ((!(!a.1.1))&&(A0<|0<x.2.2.2.1)) (inb (w64<|x.2.2.2.1 - 1) x.1.length) then if Ad ((!(!a.1.1))&&(A0<|0<x.2.2.2.1)) (inb (w64<|x.2.2.2.1 - 1) x.1.length) then if Ad ((!(!a.1.1))&&(A0<|0<x.2.2.2.1)) ((LJ ((rd (dfl .note) x.1<|w64<|x.2.2.2.1 - 1).fr,(rd (dfl .note) x.1<|w64<|x.2.2.2.1 - 1).nu,b,c,())).isSome) then if(!a.1.1)||((A0<|0<x.2.2.2.1)&&(!(((LJ ((rd (dfl .note) x.1<|w64<|x.2.2.2.1 - 1).fr,(rd (dfl .note) x.1<|w64<|x.2.2.2.1 - 1).nu,b,c,())).getD ((A3,()),())).1.1))) then I (.inr<|.inl (A3,())) else I (.inl (x.1,x.2.1,x.2.2.1,(w64<|x.2.2.2.1+1),())) else U else U else U else U else I (.inr<|.inr ())
def qy:=AW ZY
def uH:Loop:=⟨[(0,.sl .note),(5,.sl .note),(6,.int .i64),(7,.int .i64)],[],0,[(2,.bool)],qy⟩
def asq:LF Tryz.f188 [] [1,0,1,0,0] uH:=sq (v:= .nil) yl (b:=ZY) kN
def VQ(x:List A7×A2):Option ((Bool×A2)×A2):=(AO (qy (x.1,x.1,(x.1.length:Int),0,())) (λa=>I (a,())) λa=>I ((A1,()),()))
def aBB:Ent:=(188,U,⟨[.fz .note],[.bool],VQ⟩)
def ar9:SQ Tryz.prog aBB:=sk (v:=t1<|.two (t1<|.one<|.loop uH) .nil) (fn:=Tryz.f188) yl<|kC asq kN
def aeN:Cx:=cX [FF,JI] [] [(12,14)]
def aia:OKC Tryz.prog aeN AF:=okc mixed<|gC FK<|gC KE<|AL
def dh(x:Y6×A2):Option ((Bool×A2)×A2):=(FX (x.1.1,())).bind λb=>if b.1.1 then(C4 (x.1.2.1,1,99,())).bind λa=>if Ad a.1.1 ((C4 (x.1.2.2.1,1,999,())).isSome) then let c:=(a.1.1&&(((C4 (x.1.2.2.1,1,999,())).getD ((A3,()),())).1.1));I ((c,()),()) else U else if Ad A3 ((C4 (x.1.2.2.1,1,999,())).isSome) then I ((A3,()),()) else U
def aa9:Ent:=(222,U,⟨[Z13],[.bool],dh⟩)
def apz:SQ Tryz.prog aa9:=sk (v:= .nil) (fn:=Tryz.f222) aia kN
def ar3:Cx:=cX [Vq,aa9] [] [(16,37)]
def aaq:OKC Tryz.prog ar3 AF:=okc mixed<|gC dV<|gC apz<|AL
def fR(x:List Mark×List Mark×Int×Int×A2):Rnd (List Mark×List Mark×Int×Int×A2) (Bool×A2) (A2):=if A0 (x.2.2.2.1<x.2.2.1) then if inb x.2.2.2.1 x.2.1.length then let b:=(rd (dfl .mark) x.2.1 x.2.2.2.1).mf;let c:=(rd (dfl .mark) x.2.1 x.2.2.2.1).mn;let d:=(rd (dfl .mark) x.2.1 x.2.2.2.1).mu;(dh ((b,c,d,()),())).bind λa=>if Ad ((!(!a.1.1))&&(A0<|0<x.2.2.2.1)) (inb (w64<|x.2.2.2.1 - 1) x.1.length) then if Ad ((!(!a.1.1))&&(A0<|0<x.2.2.2.1)) (inb (w64<|x.2.2.2.1 - 1) x.1.length) then if Ad ((!(!a.1.1))&&(A0<|0<x.2.2.2.1)) ((LJ ((rd (dfl .mark) x.1<|w64<|x.2.2.2.1 - 1).mf,(rd (dfl .mark) x.1<|w64<|x.2.2.2.1 - 1).mn,b,c,())).isSome) then if(!a.1.1)||((A0<|0<x.2.2.2.1)&&(!(((LJ ((rd (dfl .mark) x.1<|w64<|x.2.2.2.1 - 1).mf,(rd (dfl .mark) x.1<|w64<|x.2.2.2.1 - 1).mn,b,c,())).getD ((A3,()),())).1.1))) then I (.inr<|.inl (A3,())) else I (.inl (x.1,x.2.1,x.2.2.1,(w64<|x.2.2.2.1+1),())) else U else U else U else U else I (.inr<|.inr ())
def nk:=AW fR
def aA5:Loop:=⟨[(0,.sl .mark),(5,.sl .mark),(6,.int .i64),(7,.int .i64)],[],0,[(2,.bool)],nk⟩
def agR:LF Tryz.f189 [] [1,0,1,0,0] aA5:=sq (v:= .nil) aaq (b:=fR) kN
def cu(x:List Mark×A2):Option ((Bool×A2)×A2):=(AO (nk (x.1,x.1,(x.1.length:Int),0,())) (λa=>I (a,())) λa=>I ((A1,()),()))
def uv:Ent:=(189,U,⟨[.fz .mark],[.bool],cu⟩)
def avP:SQ Tryz.prog uv:=sk (v:=t1<|.two (t1<|.one<|.loop aA5) .nil) (fn:=Tryz.f189) aaq<|kC agR kN
def axu:Cx:=cX [FF] [] [(10,23)]
def aqd:OKC Tryz.prog axu AF:=okc mixed<|gC FK<|AL
def TZ(x:Int×Y5×A2):Option ((Bool×A2)×A2):=if Ad (!decide (x.1=x.2.1.2.2.1)) ((C4 (x.1,x.2.1.1,x.2.1.2.2.1,())).isSome) then if Ad ((!decide (x.1=x.2.1.2.2.1))&&(!(((C4 (x.1,x.2.1.1,x.2.1.2.2.1,())).getD ((A3,()),())).1.1))) ((C4 (x.1,x.2.1.2.2.1,x.2.1.1,())).isSome) then let a:=((!decide (x.1=x.2.1.2.2.1))&&((((C4 (x.1,x.2.1.1,x.2.1.2.2.1,())).getD ((A3,()),())).1.1)||(((C4 (x.1,x.2.1.2.2.1,x.2.1.1,())).getD ((A3,()),())).1.1)));I ((a,()),()) else U else U
def acJ:Ent:=(190,U,⟨[.int .i64,Z8],[.bool],TZ⟩)
def azS:SQ Tryz.prog acJ:=sk (v:= .nil) (fn:=Tryz.f190) aqd kN
def ai6:Cx:=cX [FF,JI,W6,aBB,uv,acJ] [] [(123,127)]
def Zs:OKC Tryz.prog ai6 AF:=okc mixed<|gC FK<|gC KE<|gC fu<|gC ar9<|gC avP<|gC azS<|AL
def dY(x:Y4×List A7×Int×Int×A2):Rnd (Y4×List A7×Int×Int×A2) (Bool×A2) (A2):=if A0 (x.2.2.2.1<x.2.2.1) then if inb x.2.2.2.1 x.2.1.length then let rf:=(rd (dfl .note) x.2.1 x.2.2.2.1).fr;let qJ:=(rd (dfl .note) x.2.1 x.2.2.2.1).nu;let Zw:=(rd (dfl .note) x.2.1 x.2.2.2.1).to;let a:=(rd (dfl .note) x.2.1 x.2.2.2.1).un;let xF:=(rd (dfl .note) x.2.1 x.2.2.2.1).tx;(if A0 (rf=x.1.1) then if A0 (x.1.2.2.1<=qJ) then I (.inr<|.inl (A3,())) else if !decide (Zw=x.1.1) then I (.inr<|.inl (A3,())) else if A0 (x.1.2.1<a) then(KB (x.1.2.2.2.2.1,rf,qJ,())).bind λarI=>if A0 (arI.1.1<0) then I (.inr<|.inl (A3,())) else I (.inl (x.1,x.2.1,x.2.2.1,(w64<|x.2.2.2.1+1),())) else I (.inl (x.1,x.2.1,x.2.2.1,(w64<|x.2.2.2.1+1),())) else if !decide (Zw=x.1.1) then I (.inr<|.inl (A3,())) else if A0 (x.1.2.1<a) then(KB (x.1.2.2.2.2.1,rf,qJ,())).bind λalc=>if A0 (alc.1.1<0) then I (.inr<|.inl (A3,())) else I (.inl (x.1,x.2.1,x.2.2.1,(w64<|x.2.2.2.1+1),())) else I (.inl (x.1,x.2.1,x.2.2.1,(w64<|x.2.2.2.1+1),()))) else U else I (.inr<|.inr ())
def ga:=AW dY
def aAU:Loop:=⟨[(1,Z9),(131,.sl .note),(132,.int .i64),(133,.int .i64)],[],4,[(2,.bool)],ga⟩
def arf:LF Tryz.f156 [] [1,1,1,1,1,0,1,0,0] aAU:=sq (v:= .nil) Zs (b:=dY) kN
def bF(x:Y4×List Mark×Int×Int×A2):Rnd (Y4×List Mark×Int×Int×A2) (Bool×A2) (Y4×A2):=if A0 (x.2.2.2.1<x.2.2.1) then if inb x.2.2.2.1 x.2.1.length then let aoQ:=(rd (dfl .mark) x.2.1 x.2.2.2.1).mf;let rC:=(rd (dfl .mark) x.2.1 x.2.2.2.1).mn;let a:=(rd (dfl .mark) x.2.1 x.2.2.2.1).mu;if A0 (aoQ=x.1.1) then if(A0<|x.1.2.2.1<=rC)||(A0<|a<=x.1.2.1) then I (.inr<|.inl (A3,())) else I (.inl (x.1,x.2.1,x.2.2.1,(w64<|x.2.2.2.1+1),())) else if A0 (a<=x.1.2.1) then I (.inr<|.inl (A3,())) else I (.inl (x.1,x.2.1,x.2.2.1,(w64<|x.2.2.2.1+1),())) else U else I (.inr<|.inr (x.1,()))
def qz:=AW bF
def aAO:Loop:=⟨[(1,Z9),(104,.sl .mark),(105,.int .i64),(106,.int .i64)],[(1,Z9)],2,[(2,.bool)],qz⟩
def agM:LF Tryz.f156 [] [1,1,1,1,0,1,0,0] aAO:=sq (v:= .nil) Zs (b:=bF) kN
def XA(x:Y4×List A7×Int×Int×A2):Rnd (Y4×List A7×Int×Int×A2) (Bool×A2) (Y4×A2):=if A0 (x.2.2.2.1<x.2.2.1) then if inb x.2.2.2.1 x.2.1.length then let a:=(rd (dfl .note) x.2.1 x.2.2.2.1).fr;let b:=(rd (dfl .note) x.2.1 x.2.2.2.1).nu;let d:=(rd (dfl .note) x.2.1 x.2.2.2.1).to;let c:=(rd (dfl .note) x.2.1 x.2.2.2.1).un;let e:=(rd (dfl .note) x.2.1 x.2.2.2.1).tx;if A0 (a=x.1.1) then if A0 (x.1.2.2.1<=b) then I (.inr<|.inl (A3,())) else if A0 (c<=x.1.2.1) then I (.inr<|.inl (A3,())) else(TZ (x.1.1,(a,b,d,c,e,()),())).bind λf=>if !f.1.1 then I (.inr<|.inl (A3,())) else(KB (x.1.2.2.2.2.1,a,b,())).bind λg=>if A0 (0<=g.1.1) then I (.inr<|.inl (A3,())) else I (.inl (x.1,x.2.1,x.2.2.1,(w64<|x.2.2.2.1+1),())) else if A0 (c<=x.1.2.1) then I (.inr<|.inl (A3,())) else(TZ (x.1.1,(a,b,d,c,e,()),())).bind λh=>if !h.1.1 then I (.inr<|.inl (A3,())) else(KB (x.1.2.2.2.2.1,a,b,())).bind λi=>if A0 (0<=i.1.1) then I (.inr<|.inl (A3,())) else I (.inl (x.1,x.2.1,x.2.2.1,(w64<|x.2.2.2.1+1),())) else U else I (.inr<|.inr (x.1,()))
def rV:=AW XA
def tL:Loop:=⟨[(1,Z9),(60,.sl .note),(61,.int .i64),(62,.int .i64)],[(1,Z9)],0,[(2,.bool)],rV⟩
def ap0:LF Tryz.f156 [] [1,1,1,0,1,0,0] tL:=sq (v:= .nil) Zs (b:=XA) kN
def OO(x:Y4×A2):Option ((Bool×A2)×A2):=(FX (x.1.1,())).bind λb=>if !b.1.1 then I ((A3,()),()) else(C4 (x.1.2.1,0,999,())).bind λc=>if !c.1.1 then I ((A3,()),()) else(C4 (x.1.2.2.1,1,100,())).bind λd=>if !d.1.1 then I ((A3,()),()) else if A0 (6<(x.1.2.2.2.1.length:Int)) then I ((A3,()),()) else if A0 (12<(x.1.2.2.2.2.1.length:Int)) then I ((A3,()),()) else if A0 (6<(x.1.2.2.2.2.2.1.length:Int)) then I ((A3,()),()) else(VQ (x.1.2.2.2.1,())).bind λe=>if !e.1.1 then I ((A3,()),()) else(cu (x.1.2.2.2.2.1,())).bind λf=>if !f.1.1 then I ((A3,()),()) else(VQ x.1.2.2.2.2.2).bind λg=>if !g.1.1 then I ((A3,()),()) else(AO (rV (x.1,x.1.2.2.2.1,(x.1.2.2.2.1.length:Int),0,())) (λa=>I (a,())) λa=>(AO (qz (a.1,a.1.2.2.2.2.1,(a.1.2.2.2.2.1.length:Int),0,())) (λUt=>I (Ut,())) λUt=>(AO (ga (Ut.1,Ut.1.2.2.2.2.2.1,(Ut.1.2.2.2.2.2.1.length:Int),0,())) (λad6=>I (ad6,())) λad6=>I ((A1,()),()))))
def pv:Ent:=(156,U,⟨[Z10],[.bool],OO⟩)
def u9:SQ Tryz.prog pv:=sk (v:=t1<|t1<|t1<|.two (t1<|.one<|.loop tL)<|.two (t1<|.one<|.loop aAO)<|.two (t1<|.one<|.loop aAU) .nil) (fn:=Tryz.f156) Zs<|kC ap0<|kC agM<|kC arf kN
def anU:Cx:=cX [] [] []
def lh:OKC Tryz.prog anU AF:=okc mixed<|AL
def Zm(x:Int×Y4×Y4×List Mark×Int×Int×A2):Rnd (Int×Y4×Y4×List Mark×Int×Int×A2) (A2) (Y4×Y4×A2):=if A0 (x.2.2.2.2.2.1<x.2.2.2.2.1) then if inb x.2.2.2.2.2.1 x.2.2.2.1.length then let b:=(rd (dfl .mark) x.2.2.2.1 x.2.2.2.2.2.1).mf;let c:=(rd (dfl .mark) x.2.2.2.1 x.2.2.2.2.2.1).mn;let a:=(rd (dfl .mark) x.2.2.2.1 x.2.2.2.2.2.1).mu;if A0 (x.1<a) then if Ac (x.2.2.1.2.2.2.2.1.length+([(Mark.mk b c a)]:List Mark).length) then I (.inl (x.1,x.2.1,(x.2.2.1.1,x.2.2.1.2.1,x.2.2.1.2.2.1,x.2.2.1.2.2.2.1,(x.2.2.1.2.2.2.2.1++([(Mark.mk b c a)]:List Mark)),x.2.2.1.2.2.2.2.2),x.2.2.2.1,x.2.2.2.2.1,(w64<|x.2.2.2.2.2.1+1),())) else U else I (.inl (x.1,x.2.1,x.2.2.1,x.2.2.2.1,x.2.2.2.2.1,(w64<|x.2.2.2.2.2.1+1),())) else U else I (.inr<|.inr (x.2.1,x.2.2.1,()))
def gw:=AW Zm
def yX:Loop:=⟨[(1,.int .i64),(4,Z11),(5,Z34),(37,.sl .mark),(38,.int .i64),(39,.int .i64)],[(4,Z11),(5,Z34)],2,[],gw⟩
def avB:LF Tryz.f224 [] [1,1,1,0,1,0,0] yX:=sq (v:= .nil) lh (b:=Zm) kN
def bB(x:Int×Y4×Y4×Y4×List A7×Int×Int×A2):Rnd (Int×Y4×Y4×Y4×List A7×Int×Int×A2) (A2) (Int×Y4×Y4×Y4×A2):=if A0 (x.2.2.2.2.2.2.1<x.2.2.2.2.2.1) then if inb x.2.2.2.2.2.2.1 x.2.2.2.2.1.length then let b:=(rd (dfl .note) x.2.2.2.2.1 x.2.2.2.2.2.2.1).fr;let c:=(rd (dfl .note) x.2.2.2.2.1 x.2.2.2.2.2.2.1).nu;let d:=(rd (dfl .note) x.2.2.2.2.1 x.2.2.2.2.2.2.1).to;let a:=(rd (dfl .note) x.2.2.2.2.1 x.2.2.2.2.2.2.1).un;let e:=(rd (dfl .note) x.2.2.2.2.1 x.2.2.2.2.2.2.1).tx;if A0 (x.1<a) then if Ac (x.2.2.2.1.2.2.2.1.length+([(A7.mk b c d a e)]:List A7).length) then I (.inl (x.1,x.2.1,x.2.2.1,(x.2.2.2.1.1,x.2.2.2.1.2.1,x.2.2.2.1.2.2.1,(x.2.2.2.1.2.2.2.1++([(A7.mk b c d a e)]:List A7)),x.2.2.2.1.2.2.2.2),x.2.2.2.2.1,x.2.2.2.2.2.1,(w64<|x.2.2.2.2.2.2.1+1),())) else U else I (.inl (x.1,x.2.1,x.2.2.1,x.2.2.2.1,x.2.2.2.2.1,x.2.2.2.2.2.1,(w64<|x.2.2.2.2.2.2.1+1),())) else U else I (.inr<|.inr (x.1,x.2.1,x.2.2.1,x.2.2.2.1,()))
def nP:=AW bB
def aFa:Loop:=⟨[(1,.int .i64),(2,Z9),(4,Z11),(5,Z34),(19,.sl .note),(20,.int .i64),(21,.int .i64)],[(1,.int .i64),(2,Z9),(4,Z11),(5,Z34)],0,[],nP⟩
def atJ:LF Tryz.f224 [] [1,1,0,1,0,0] aFa:=sq (v:= .nil) lh (b:=bB) kN
def Zh(x:Y4×Int×A2):Option ((Y4×A2)×A2):=(AO (nP (x.2.1,x.1,(0,0,0,([]:List A7),([]:List Mark),([]:List A7),()),(x.1.1,x.2.1,x.1.2.2.1,([]:List A7),([]:List Mark),x.1.2.2.2.2.2),x.1.2.2.2.1,(x.1.2.2.2.1.length:Int),0,())) (λ_=>U) λa=>(AO (gw (a.1,a.2.2.1,a.2.2.2.1,a.2.1.2.2.2.2.1,(a.2.1.2.2.2.2.1.length:Int),0,())) (λ_=>U) λb=>I (b.2,())))
def aCV:Ent:=(224,U,⟨[Z10,.int .i64],[Z10],Zh⟩)
def aut:SQ Tryz.prog aCV:=sk (v:=t1<|t1<|.two (t1<|.one<|.loop aFa)<|.two (t1<|.one<|.loop yX) .nil) (fn:=Tryz.f224) lh<|kC atJ<|kC avB kN
def ank:Cx:=cX [aCV] [] [(12,15),(24,27)]
def aun:OKC Tryz.prog ank AF:=okc mixed<|gC aut<|AL
def Vr(x:Y4×A4×Int×A2):Option ((Y4×Bool×A2)×A2):=let a:=((A0<|x.2.1=(B [116,105,109,101]))&&(A0<|x.1.2.1<x.2.2.1));(if a then(Zh (x.1,x.2.2)).bind λb=>I ((b.1.1,A1,()),()) else let c:=((A0<|x.2.1=(B [110,101,120,116]))&&(A0<|x.1.2.2.1<x.2.2.1));(if c then I (((x.1.1,x.1.2.1,x.2.2.1,x.1.2.2.2),A1,()),()) else I ((x.1,A3,()),())))
def yV:Ent:=(192,U,⟨[Z10,.str,.int .i64],[Z10,.bool],Vr⟩)
def ai2:SQ Tryz.prog yV:=sk (v:= .nil) (fn:=Tryz.f192) aun kN
def afL:Cx:=cX [Q0,S9] [] []
def atr:OKC Tryz.prog afL AF:=okc mixed<|gC Va<|gC Tr<|AL
def Ma(x:Y5×A2):Option ((A4×A2)×A2):=(Ng x).bind λe=>if !e.1.1 then I ((noB,()),()) else(J2 (x.1.1,())).bind λa=>if A0 (a.1.1.size+(B [32]).size<=4611686018427387904) then(J2 (x.1.2.1,())).bind λb=>if A0 ((a.1.1++(B [32])).size+b.1.1.size<=4611686018427387904) then if A0 (((a.1.1++(B [32]))++b.1.1).size+(B [32]).size<=4611686018427387904) then(J2 (x.1.2.2.1,())).bind λc=>if A0 ((((a.1.1++(B [32]))++b.1.1)++(B [32])).size+c.1.1.size<=4611686018427387904) then if A0 (((((a.1.1++(B [32]))++b.1.1)++(B [32]))++c.1.1).size+(B [32]).size<=4611686018427387904) then(J2 (x.1.2.2.2.1,())).bind λd=>if A0 ((((((a.1.1++(B [32]))++b.1.1)++(B [32]))++c.1.1)++(B [32])).size+d.1.1.size<=4611686018427387904) then if A0 (((((((a.1.1++(B [32]))++b.1.1)++(B [32]))++c.1.1)++(B [32]))++d.1.1).size+(B [32]).size<=4611686018427387904) then if A0 ((((((((a.1.1++(B [32]))++b.1.1)++(B [32]))++c.1.1)++(B [32]))++d.1.1)++(B [32])).size+x.1.2.2.2.2.1.size<=4611686018427387904) then let f:=((((((((a.1.1++(B [32]))++b.1.1)++(B [32]))++c.1.1)++(B [32]))++d.1.1)++(B [32]))++x.1.2.2.2.2.1);I ((f,()),()) else U else U else U else U else U else U else U else U
def Th:Ent:=(149,U,⟨[Z8],[.str],Ma⟩)
def YD:SQ Tryz.prog Th:=sk (v:= .nil) (fn:=Tryz.f149) atr kN
def agK:Cx:=cX [bg] [] []
def aA2:OKC Tryz.prog agK AF:=okc mixed<|gC si<|AL
def cr(x:List Int×List A4×Int×Int×A2):Rnd (List Int×List A4×Int×Int×A2) (List Int×Bool×A2) (List Int×A2):=if A0 (x.2.2.2.1<x.2.2.1) then if inb x.2.2.2.1 x.2.1.length then let b:=(rd (dfl .str) x.2.1 x.2.2.2.1);(Od (b,())).bind λa=>if !a.1.2.1 then I (.inr<|.inl (([]:List Int),A3,())) else if Ac (x.1.length+([a.1.1]:List Int).length) then I (.inl ((x.1++([a.1.1]:List Int)),x.2.1,x.2.2.1,(w64<|x.2.2.2.1+1),())) else U else U else I (.inr<|.inr (x.1,()))
def mY:=AW cr
def wu:Loop:=⟨[(4,.row 3 .int),(9,.sl .str),(10,.int .i64),(11,.int .i64)],[(4,.row 3 .int)],0,[(2,.row 3 .int),(3,.bool)],mY⟩
def agv:LF Tryz.f195 [] [1,1,0,1,0,0] wu:=sq (v:= .nil) aA2 (b:=cr) kN
def QY(x:List A4×A2):Option ((List Int×Bool×A2)×A2):=(AO (mY (([]:List Int),x.1,(x.1.length:Int),0,())) (λa=>I (a,())) λa=>I ((a.1,A1,()),()))
def ns:Ent:=(195,U,⟨[.fz .str],[.row 3 .int,.bool],QY⟩)
def aBg:SQ Tryz.prog ns:=sk (v:=t1<|t1<|.two (t1<|.one<|.loop wu) .nil) (fn:=Tryz.f195) aA2<|kC agv kN
def aoc:Cx:=cX [Q0,Th,ns,acZ] [] [(43,46)]
def aeP:OKC Tryz.prog aoc AF:=okc mixed<|gC Va<|gC YD<|gC aBg<|gC alv<|AL
def VH(x:A4×A2):Option ((Y5×Bool×A2)×A2):=(iS (x.1,(B [32]),5,())).bind λb=>if !decide ((b.1.1.length:Int)=5) then I (((0,0,0,0,noB,()),A3,()),()) else if A0 (0<=4)&&A0 (4<=(b.1.1.length:Int)) then(QY ((BU (AM 4) b.1.1),())).bind λa=>if !a.1.2.1 then I (((0,0,0,0,noB,()),A3,()),()) else if inb 0 a.1.1.length then if inb 1 a.1.1.length then if inb 2 a.1.1.length then if inb 3 a.1.1.length then if inb 4 b.1.1.length then(Ng (((rd (dfl .int) a.1.1 0),(rd (dfl .int) a.1.1 1),(rd (dfl .int) a.1.1 2),(rd (dfl .int) a.1.1 3),(rd (dfl .str) b.1.1 4),()),())).bind λc=>if Ad (!(!c.1.1)) ((Ma (((rd (dfl .int) a.1.1 0),(rd (dfl .int) a.1.1 1),(rd (dfl .int) a.1.1 2),(rd (dfl .int) a.1.1 3),(rd (dfl .str) b.1.1 4),()),())).isSome) then if(!c.1.1)||(!decide (((Ma (((rd (dfl .int) a.1.1 0),(rd (dfl .int) a.1.1 1),(rd (dfl .int) a.1.1 2),(rd (dfl .int) a.1.1 3),(rd (dfl .str) b.1.1 4),()),())).getD ((noB,()),())).1.1=x.1)) then I (((0,0,0,0,noB,()),A3,()),()) else I ((((rd (dfl .int) a.1.1 0),(rd (dfl .int) a.1.1 1),(rd (dfl .int) a.1.1 2),(rd (dfl .int) a.1.1 3),(rd (dfl .str) b.1.1 4),()),A1,()),()) else U else U else U else U else U else U else U
def aFq:Ent:=(193,U,⟨[.str],[Z8,.bool],VH⟩)
def aqX:SQ Tryz.prog aFq:=sk (v:= .nil) (fn:=Tryz.f193) aeP kN
def ahH:Cx:=cX [] [] [(21,24)]
def xj:OKC Tryz.prog ahH AF:=okc mixed<|AL
def cC(x:Int×Int×List A7×Int×Int×A2):Rnd (Int×Int×List A7×Int×Int×A2) (Int×A2) (A2):=if A0 (x.2.2.2.2.1<x.2.2.2.1) then if inb x.2.2.2.2.1 x.2.2.1.length then let a:=(rd (dfl .note) x.2.2.1 x.2.2.2.2.1).fr;let b:=(rd (dfl .note) x.2.2.1 x.2.2.2.2.1).nu;let c:=(rd (dfl .note) x.2.2.1 x.2.2.2.2.1).to;let d:=(rd (dfl .note) x.2.2.1 x.2.2.2.2.1).un;let e:=(rd (dfl .note) x.2.2.1 x.2.2.2.2.1).tx;if(A0<|a=x.1)&&(A0<|b=x.2.1) then I (.inr<|.inl x.2.2.2.2) else I (.inl (x.1,x.2.1,x.2.2.1,x.2.2.2.1,(w64<|x.2.2.2.2.1+1),())) else U else I (.inr<|.inr ())
def rT:=AW cC
def zB:Loop:=⟨[(1,.int .i64),(2,.int .i64),(9,.sl .note),(10,.int .i64),(11,.int .i64)],[],0,[(6,.int .i64)],rT⟩
def av0:LF Tryz.f35 [] [1,0,1,0,0] zB:=sq (v:= .nil) xj (b:=cC) kN
def Gl(x:List A7×Int×Int×A2):Option ((Int×A2)×A2):=(AO (rT (x.2.1,x.2.2.1,x.1,(x.1.length:Int),0,())) (λa=>I (a,())) λa=>I (((-1),()),()))
def Kj:Ent:=(35,U,⟨[.fz .note,.int .i64,.int .i64],[.int .i64],Gl⟩)
def Ln:SQ Tryz.prog Kj:=sk (v:=t1<|.two (t1<|.one<|.loop zB) .nil) (fn:=Tryz.f35) xj<|kC av0 kN
def ayN:Cx:=cX [Vq] [] [(11,25)]
def adF:OKC Tryz.prog ayN AF:=okc mixed<|gC dV<|AL
def Wq(x:List A7×Y5×Int×A2):Rnd (List A7×Y5×Int×A2) (A2) (List A7×Y5×Int×A2):=if Ad (A0<|x.2.2.1<(x.1.length:Int)) (inb x.2.2.1 x.1.length) then if Ad (A0<|x.2.2.1<(x.1.length:Int)) (inb x.2.2.1 x.1.length) then if Ad (A0<|x.2.2.1<(x.1.length:Int)) ((LJ ((rd (dfl .note) x.1 x.2.2.1).fr,(rd (dfl .note) x.1 x.2.2.1).nu,x.2.1.1,x.2.1.2.1,())).isSome) then if(A0<|x.2.2.1<(x.1.length:Int))&&(((LJ ((rd (dfl .note) x.1 x.2.2.1).fr,(rd (dfl .note) x.1 x.2.2.1).nu,x.2.1.1,x.2.1.2.1,())).getD ((A3,()),())).1.1) then I (.inl (x.1,x.2.1,(w64<|x.2.2.1+1),())) else I (.inr<|.inr x) else U else U else U
def mN:=AW Wq
def acs:Loop:=⟨[(0,.sl .note),(3,Z7),(5,.int .i64)],[(0,.sl .note),(3,Z7),(5,.int .i64)],0,[],mN⟩
def amZ:LF Tryz.f227 [] [1,1,0,0,0] acs:=sq (v:= .nil) adF (b:=Wq) kN
def PV(x:List A7×Y5×A2):Option ((List A7×A2)×A2):=(AO (mN (x.1,x.2.1,0,())) (λ_=>U) λa=>(if A0 (0<=a.2.2.1)&&A0 (a.2.2.1<=(a.1.length:Int)) then if Ac (([]:List A7).length+(BU (AM a.2.2.1) a.1).length) then if Ac ((([]:List A7)++(BU (AM a.2.2.1) a.1)).length+([(A7.mk a.2.1.1 a.2.1.2.1 a.2.1.2.2.1 a.2.1.2.2.2.1 a.2.1.2.2.2.2.1)]:List A7).length) then if A0 (0<=a.2.2.1)&&A0 (a.2.2.1<=(a.1.length:Int)) then if Ac (((([]:List A7)++(BU (AM a.2.2.1) a.1))++([(A7.mk a.2.1.1 a.2.1.2.1 a.2.1.2.2.1 a.2.1.2.2.2.1 a.2.1.2.2.2.2.1)]:List A7)).length+(Bs (AM a.2.2.1) a.1).length) then I (((((([]:List A7)++(BU (AM a.2.2.1) a.1))++([(A7.mk a.2.1.1 a.2.1.2.1 a.2.1.2.2.1 a.2.1.2.2.2.1 a.2.1.2.2.2.2.1)]:List A7))++(Bs (AM a.2.2.1) a.1)),()),()) else U else U else U else U else U))
def gy:Ent:=(227,U,⟨[.fz .note,Z8],[.row 55 .note],PV⟩)
def aBu:SQ Tryz.prog gy:=sk (v:=t1<|t1<|.two (.one<|.loop acs) .nil) (fn:=Tryz.f227) adF<|kC amZ kN
def ant:Cx:=cX [Vq] [] [(11,25)]
def xR:OKC Tryz.prog ant AF:=okc mixed<|gC dV<|AL
def ZZ(x:List Mark×Y6×Int×A2):Rnd (List Mark×Y6×Int×A2) (A2) (List Mark×Y6×Int×A2):=if Ad (A0<|x.2.2.1<(x.1.length:Int)) (inb x.2.2.1 x.1.length) then if Ad (A0<|x.2.2.1<(x.1.length:Int)) (inb x.2.2.1 x.1.length) then if Ad (A0<|x.2.2.1<(x.1.length:Int)) ((LJ ((rd (dfl .mark) x.1 x.2.2.1).mf,(rd (dfl .mark) x.1 x.2.2.1).mn,x.2.1.1,x.2.1.2.1,())).isSome) then if(A0<|x.2.2.1<(x.1.length:Int))&&(((LJ ((rd (dfl .mark) x.1 x.2.2.1).mf,(rd (dfl .mark) x.1 x.2.2.1).mn,x.2.1.1,x.2.1.2.1,())).getD ((A3,()),())).1.1) then I (.inl (x.1,x.2.1,(w64<|x.2.2.1+1),())) else I (.inr<|.inr x) else U else U else U
def mX:=AW ZZ
def aCU:Loop:=⟨[(0,.sl .mark),(3,Z12),(5,.int .i64)],[(0,.sl .mark),(3,Z12),(5,.int .i64)],0,[],mX⟩
def anT:LF Tryz.f230 [] [1,1,0,0,0] aCU:=sq (v:= .nil) xR (b:=ZZ) kN
def Qd(x:List Mark×Y6×A2):Option ((List Mark×A2)×A2):=(AO (mX (x.1,x.2.1,0,())) (λ_=>U) λa=>(if A0 (0<=a.2.2.1)&&A0 (a.2.2.1<=(a.1.length:Int)) then if Ac (([]:List Mark).length+(BU (AM a.2.2.1) a.1).length) then if Ac ((([]:List Mark)++(BU (AM a.2.2.1) a.1)).length+([(Mark.mk a.2.1.1 a.2.1.2.1 a.2.1.2.2.1)]:List Mark).length) then if A0 (0<=a.2.2.1)&&A0 (a.2.2.1<=(a.1.length:Int)) then if Ac (((([]:List Mark)++(BU (AM a.2.2.1) a.1))++([(Mark.mk a.2.1.1 a.2.1.2.1 a.2.1.2.2.1)]:List Mark)).length+(Bs (AM a.2.2.1) a.1).length) then I (((((([]:List Mark)++(BU (AM a.2.2.1) a.1))++([(Mark.mk a.2.1.1 a.2.1.2.1 a.2.1.2.2.1)]:List Mark))++(Bs (AM a.2.2.1) a.1)),()),()) else U else U else U else U else U))
def kF:Ent:=(230,U,⟨[.fz .mark,Z13],[.row 57 .mark],Qd⟩)
def aam:SQ Tryz.prog kF:=sk (v:=t1<|t1<|.two (.one<|.loop aCU) .nil) (fn:=Tryz.f230) xR<|kC anT kN
def adf:Cx:=cX [Kj,Q0,W6,gy,kF] [] []
def ah9:OKC Tryz.prog adf AF:=okc mixed<|gC Ln<|gC Va<|gC fu<|gC aBu<|gC aam<|AL
def UT(x:Y4×Y5×A2):Option ((Y4×Bool×A2)×A2):=(Ng x.2).bind λa=>if !a.1.1 then I ((x.1,A3,()),()) else if A0 (x.2.1.2.2.2.1<=x.1.2.1) then I ((x.1,A3,()),()) else(Gl (x.1.2.2.2.1,x.2.1.1,x.2.1.2.1,())).bind λb=>if A0 (0<=b.1.1) then I ((x.1,A3,()),()) else(Gl (x.1.2.2.2.2.2.1,x.2.1.1,x.2.1.2.1,())).bind λc=>if A0 (0<=c.1.1) then I ((x.1,A3,()),()) else(KB (x.1.2.2.2.2.1,x.2.1.1,x.2.1.2.1,())).bind λd=>if A0 (0<=d.1.1) then I ((x.1,A3,()),()) else if A0 (12<(w64<|(w64<|(x.1.2.2.2.1.length:Int)+(x.1.2.2.2.2.1.length:Int))+1)) then I ((x.1,A3,()),()) else if A0 (x.2.1.2.2.1=x.1.1) then(PV (x.1.2.2.2.2.2.1,x.2)).bind λe=>(Qd (x.1.2.2.2.2.1,(x.2.1.1,x.2.1.2.1,x.2.1.2.2.2.1,()),())).bind λf=>I (((x.1.1,x.1.2.1,x.1.2.2.1,x.1.2.2.2.1,f.1.1,e.1),A1,()),()) else(PV (x.1.2.2.2.1,x.2)).bind λg=>I (((x.1.1,x.1.2.1,x.1.2.2.1,g.1.1,x.1.2.2.2.2),A1,()),())
def aFc:Ent:=(226,U,⟨[Z10,Z8],[Z10,.bool],UT⟩)
def aw3:SQ Tryz.prog aFc:=sk (v:= .nil) (fn:=Tryz.f226) ah9 kN
def ajA:Cx:=cX [Kj,aFc,gy] [] [(19,23),(38,42),(59,66)]
def alN:OKC Tryz.prog ajA AF:=okc mixed<|gC Ln<|gC aw3<|gC aBu<|AL
def WQ(x:Y4×A4×Y5×A2):Option ((Y4×Bool×A2)×A2):=(BF (X:=A4×Y4×Y5×Y4×Bool×A2) (λa=>if a.2.2.2.2.1 then let c:=(w64<|a.2.1.2.2.1+1);(UT ((a.2.1.1,a.2.1.2.1,c,a.2.1.2.2.2),a.2.2.1,())).bind λd=>I (d.1,()) else let e:=((A0<|a.1=(B [116,97,107,101]))&&(!decide (a.2.2.1.1=a.2.1.1)));(if e then(UT (a.2.1,a.2.2.1,())).bind λf=>I (f.1,()) else(Gl (a.2.1.2.2.2.1,a.2.2.1.1,a.2.2.1.2.1,())).bind λb=>if Ad (!(A0<|0<=b.1.1)) ((Gl (a.2.1.2.2.2.2.2.1,a.2.2.1.1,a.2.2.1.2.1,())).isSome) then let g:=((A0<|0<=b.1.1)||(A0<|0<=((Gl (a.2.1.2.2.2.2.2.1,a.2.2.1.1,a.2.2.1.2.1,())).getD ((0,()),())).1.1));(if g then I ((a.2.1,A3,()),()) else let h:=(A0<|a.1=(B [104,101,108,100]));(if h then(PV (a.2.1.2.2.2.1,a.2.2.1,())).bind λi=>I (((a.2.1.1,a.2.1.2.1,a.2.1.2.2.1,i.1.1,a.2.1.2.2.2.2),A1,()),()) else let j:=(A0<|a.1=(B [105,110,98,111,120]));(if j then(PV (a.2.1.2.2.2.2.2.1,a.2.2.1,())).bind λk=>I (((a.2.1.1,a.2.1.2.1,a.2.1.2.2.1,a.2.1.2.2.2.1,a.2.1.2.2.2.2.1,k.1),A1,()),()) else I ((a.2.1,A3,()),())))) else U))<|(if A0 (x.2.1=(B [111,119,110])) then let l:=((A0<|x.2.2.1.1=x.1.1)&&(A0<|x.2.2.1.2.1=x.1.2.2.1));I (.inr (x.2.1,x.1,x.2.2.1,(0,0,0,([]:List A7),([]:List Mark),([]:List A7),()),l,())) else I (.inr (x.2.1,x.1,x.2.2.1,(0,0,0,([]:List A7),([]:List Mark),([]:List A7),()),A3,()))))
def acg:Ent:=(194,U,⟨[Z10,.str,Z8],[Z10,.bool],WQ⟩)
def atq:SQ Tryz.prog acg:=sk (v:=t1<|.two (.one<|.join [(1,.str),(3,Z9),(5,Z7),(6,Z11),(8,.bool)] .nil .nil) .nil) (fn:=Tryz.f194) alN kN
def anP:Cx:=cX [] [] []
def akJ:OKC Tryz.prog anP AF:=okc mixed<|AL
def S8(x:List A7×Int×A2):Option ((List A7×A2)×A2):=if A0 (0<=x.2.1)&&A0 (x.2.1<=(x.1.length:Int)) then if Ac (([]:List A7).length+(BU (AM x.2.1) x.1).length) then if A0 (0<=(w64<|x.2.1+1))&&A0 ((w64<|x.2.1+1)<=(x.1.length:Int)) then if Ac ((([]:List A7)++(BU (AM x.2.1) x.1)).length+(Bs (AM<|w64<|x.2.1+1) x.1).length) then I ((((([]:List A7)++(BU (AM x.2.1) x.1))++(Bs (AM<|w64<|x.2.1+1) x.1)),()),()) else U else U else U else U
def wc:Ent:=(229,U,⟨[.fz .note,.int .i64],[.row 55 .note],S8⟩)
def amE:SQ Tryz.prog wc:=sk (v:= .nil) (fn:=Tryz.f229) akJ kN
def auv:Cx:=cX [Kj,W6,wc,kF] [] [(41,49),(70,78),(90,91)]
def akY:OKC Tryz.prog auv AF:=okc mixed<|gC Ln<|gC fu<|gC amE<|gC aam<|AL
def Uw(x:Y4×A4×Y6×A2):Option ((Y4×Bool×A2)×A2):=(Gl (x.1.2.2.2.1,x.2.2.1.1,x.2.2.1.2.1,())).bind λc=>(Gl (x.1.2.2.2.2.2.1,x.2.2.1.1,x.2.2.1.2.1,())).bind λd=>(KB (x.1.2.2.2.2.1,x.2.2.1.1,x.2.2.1.2.1,())).bind λe=>(BF (X:=A4×Y4×Y6×Y4×Int×Int×Bool×Bool×A2) (λa=>if a.2.2.2.2.2.2.2.1 then(S8 (a.2.1.2.2.2.1,a.2.2.2.2.1,())).bind λf=>(Qd (a.2.1.2.2.2.2.1,a.2.2.1,())).bind λg=>I (((a.2.1.1,a.2.1.2.1,a.2.1.2.2.1,f.1.1,g.1.1,a.2.1.2.2.2.2.2),A1,()),()) else(BF (X:=A4×Y4×Y6×Y4×Int×Bool×Bool×A2) (λb=>if b.2.2.2.2.2.2.1 then(S8 (b.2.1.2.2.2.2.2.1,b.2.2.2.2.1,())).bind λh=>I (((b.2.1.1,b.2.1.2.1,b.2.1.2.2.1,b.2.1.2.2.2.1,b.2.1.2.2.2.2.1,h.1),A1,()),()) else let i:=((A0<|b.1=(B [109,97,114,107]))&&(!b.2.2.2.2.2.1));(if i then(Qd (b.2.1.2.2.2.2.1,b.2.2.1,())).bind λj=>I (((b.2.1.1,b.2.1.2.1,b.2.1.2.2.1,b.2.1.2.2.2.1,j.1.1,b.2.1.2.2.2.2.2),A1,()),()) else I ((b.2.1,A3,()),())))<|(if A0 (a.1=(B [101,97,116])) then if Ad (A0<|0<=a.2.2.2.2.2.1) (inb a.2.2.2.2.2.1 a.2.1.2.2.2.2.2.1.length) then let k:=((A0<|0<=a.2.2.2.2.2.1)&&(A0<|(rd (dfl .note) a.2.1.2.2.2.2.2.1 a.2.2.2.2.2.1).un=a.2.2.1.2.2.1));I (.inr (a.1,a.2.1,a.2.2.1,a.2.2.2.1,a.2.2.2.2.2.1,a.2.2.2.2.2.2.1,k,())) else U else if Ad A3 (inb a.2.2.2.2.2.1 a.2.1.2.2.2.2.2.1.length) then I (.inr (a.1,a.2.1,a.2.2.1,a.2.2.2.1,a.2.2.2.2.2.1,a.2.2.2.2.2.2.1,A3,())) else U)))<|(if A0 (x.2.1=(B [108,101,116])) then if Ad (A0<|0<=c.1.1) (inb c.1.1 x.1.2.2.2.1.length) then let l:=((A0<|0<=c.1.1)&&(A0<|(rd (dfl .note) x.1.2.2.2.1 c.1.1).un=x.2.2.1.2.2.1));I (.inr (x.2.1,x.1,x.2.2.1,(0,0,0,([]:List A7),([]:List Mark),([]:List A7),()),c.1.1,d.1.1,(A0<|0<=e.1.1),l,())) else U else if Ad A3 (inb c.1.1 x.1.2.2.2.1.length) then I (.inr (x.2.1,x.1,x.2.2.1,(0,0,0,([]:List A7),([]:List Mark),([]:List A7),()),c.1.1,d.1.1,(A0<|0<=e.1.1),A3,())) else U))
def abR:Ent:=(197,U,⟨[Z10,.str,Z13],[Z10,.bool],Uw⟩)
def ahV:SQ Tryz.prog abR:=sk (v:=t1<|t1<|t1<|.two (.one<|.join [(1,.str),(3,Z9),(5,Z12),(6,Z11),(8,.int .i64),(9,.int .i64),(10,.bool),(33,.bool)] .nil<|t1<|.join [(1,.str),(3,Z9),(5,Z12),(6,Z11),(9,.int .i64),(10,.bool),(62,.bool)] .nil .nil) .nil) (fn:=Tryz.f197) akY kN
def ayk:Cx:=cX [bg,tP,yV,aFq,acg,ns,aCa,abR] [] [(69,71)]
def aeC:OKC Tryz.prog ayk AF:=okc mixed<|gC si<|gC aoT<|gC ai2<|gC aqX<|gC atq<|gC aBg<|gC aiB<|gC ahV<|AL
def W9(x:Y4×A4×A2):Option ((Y4×Bool×A2)×A2):=(Uk (x.2.1,(B [32]),())).bind λc=>if !c.1.2.2.1 then I ((x.1,A3,()),()) else(BF (X:=Y4×Y4×A4×A4×A4×Bool×A2) (λa=>if a.2.2.2.2.2.1 then(Od (a.2.2.2.1,())).bind λf=>if f.1.2.1 then(Vr (a.1,a.2.2.1,f.1.1,())).bind λn=>I (n.1,()) else I ((a.1,A3,()),()) else(BF (X:=Y4×Y4×A4×A4×A4×Bool×A2) (λb=>if b.2.2.2.2.2.1 then(VH (b.2.2.2.1,())).bind λg=>if g.1.2.1 then(WQ (b.1,b.2.2.1,g.1.1,())).bind λo=>I (o.1,()) else I ((b.1,A3,()),()) else(BF (X:=Y4×Y4×A4×A4×Bool×A2) (λe=>if e.2.2.2.2.1 then(Zz (e.2.2.2.1,(B [32]),())).bind λp=>(QY p.1).bind λd=>if d.1.2.1&&(A0<|(d.1.1.length:Int)=3) then if inb 0 d.1.1.length then if inb 1 d.1.1.length then if inb 2 d.1.1.length then(Uw (e.1,e.2.2.1,((rd (dfl .int) d.1.1 0),(rd (dfl .int) d.1.1 1),(rd (dfl .int) d.1.1 2),()),())).bind λq=>I (q.1,()) else U else U else U else I ((e.1,A3,()),()) else I ((e.1,A3,()),())) (let h:=(A0<|b.2.2.2.2.1=(B [108,101,116]));(if h then I (.inr (b.1,b.2.1,b.2.2.1,b.2.2.2.1,h,())) else let i:=(A0<|b.2.2.2.2.1=(B [101,97,116]));(if i then I (.inr (b.1,b.2.1,b.2.2.1,b.2.2.2.1,i,())) else let r:=(A0<|b.2.2.2.2.1=(B [109,97,114,107]));I (.inr (b.1,b.2.1,b.2.2.1,b.2.2.2.1,r,()))))))) (let j:=(A0<|a.2.2.2.2.1=(B [111,119,110]));(if j then I (.inr (a.1,a.2.1,a.2.2.1,a.2.2.2.1,a.2.2.2.2.1,j,())) else let k:=(A0<|a.2.2.2.2.1=(B [116,97,107,101]));(if k then I (.inr (a.1,a.2.1,a.2.2.1,a.2.2.2.1,a.2.2.2.2.1,k,())) else let l:=(A0<|a.2.2.2.2.1=(B [104,101,108,100]));(if l then I (.inr (a.1,a.2.1,a.2.2.1,a.2.2.2.1,a.2.2.2.2.1,l,())) else let s:=(A0<|a.2.2.2.2.1=(B [105,110,98,111,120]));I (.inr (a.1,a.2.1,a.2.2.1,a.2.2.2.1,a.2.2.2.2.1,s,())))))))) (let m:=(A0<|c.1.1=(B [116,105,109,101]));(if m then I (.inr (x.1,(0,0,0,([]:List A7),([]:List Mark),([]:List A7),()),c.1.1,c.1.2.1,c.1.1,m,())) else let t:=(A0<|c.1.1=(B [110,101,120,116]));I (.inr (x.1,(0,0,0,([]:List A7),([]:List Mark),([]:List A7),()),c.1.1,c.1.2.1,c.1.1,t,())))))
def aBj:Ent:=(157,U,⟨[Z10,.str],[Z10,.bool],W9⟩)
def asp:SQ Tryz.prog aBj:=sk (v:=t1<|t1<|t1<|.two (t1<|.one<|.join [(2,Z9),(4,Z11),(6,.str),(7,.str),(24,.str),(25,.bool)] .nil<|t1<|.join [(2,Z9),(4,Z11),(6,.str),(7,.str),(24,.str),(40,.bool)] .nil<|t1<|.join [(2,Z9),(4,Z11),(6,.str),(7,.str),(57,.bool)] .nil .nil) .nil) (fn:=Tryz.f157) aeC kN
def aqE:Cx:=cX [] [] []
def asU:OKC Tryz.prog aqE AF:=okc mixed<|AL
def NI(x:List A7×A2):Option ((List A7×A2)×A2):=if A0 ((x.1.length:Int)=0) then I ((([]:List A7),()),()) else if A0 (0<=(x.1.length:Int))&&A0 ((x.1.length:Int)<=4294967296) then I (((BU (BW (AM (x.1.length:Int))<|dfl .note).length x.1++Bs x.1.length (BW (AM (x.1.length:Int))<|dfl .note)),()),()) else U
def pP:Ent:=(104,U,⟨[.fz .note],[.row 55 .note],NI⟩)
def aDC:SQ Tryz.prog pP:=sk (v:= .nil) (fn:=Tryz.f104) asU kN
def apa:Cx:=cX [] [] []
def aho:OKC Tryz.prog apa AF:=okc mixed<|AL
def lK(x:List Mark×A2):Option ((List Mark×A2)×A2):=if A0 ((x.1.length:Int)=0) then I ((([]:List Mark),()),()) else if A0 (0<=(x.1.length:Int))&&A0 ((x.1.length:Int)<=4294967296) then I (((BU (BW (AM (x.1.length:Int))<|dfl .mark).length x.1++Bs x.1.length (BW (AM (x.1.length:Int))<|dfl .mark)),()),()) else U
def ve:Ent:=(198,U,⟨[.fz .mark],[.row 57 .mark],lK⟩)
def auy:SQ Tryz.prog ve:=sk (v:= .nil) (fn:=Tryz.f198) aho kN
def akt:Cx:=cX [pP,ve] [] []
def ayW:OKC Tryz.prog akt AF:=okc mixed<|gC aDC<|gC auy<|AL
def Rh(x:Y4×A2):Option ((Y4×A2)×A2):=(NI (x.1.2.2.2.1,())).bind λa=>(lK (x.1.2.2.2.2.1,())).bind λb=>(NI x.1.2.2.2.2.2).bind λc=>I (((x.1.1,x.1.2.1,x.1.2.2.1,a.1.1,b.1.1,c.1),()),())
def aaM:Ent:=(158,U,⟨[Z10],[Z6],Rh⟩)
def alA:SQ Tryz.prog aaM:=sk (v:= .nil) (fn:=Tryz.f158) ayW kN
def at1:Cx:=cX [pv,aBj,aaM] [] [(22,24)]
def aiR:OKC Tryz.prog at1 AF:=okc mixed<|gC u9<|gC asp<|gC alA<|AL
def Pu(x:Y4×A4×A2):Option ((Y4×Bool×A2)×A2):=(OO (x.1,())).bind λb=>if !b.1.1 then I (((0,0,0,([]:List A7),([]:List Mark),([]:List A7),()),A3,()),()) else(Rh (x.1,())).bind λc=>(W9 (c.1.1,x.2)).bind λa=>if Ad (!(!a.1.2.1)) ((OO (a.1.1,())).isSome) then if(!a.1.2.1)||(!(((OO (a.1.1,())).getD ((A3,()),())).1.1)) then(Rh (x.1,())).bind λd=>I ((d.1.1,A3,()),()) else(Rh (a.1.1,())).bind λe=>I ((e.1.1,A1,()),()) else U
def gh:Ent:=(120,U,⟨[Z10,.str],[Z6,.bool],Pu⟩)
def aAH:SQ Tryz.prog gh:=sk (v:= .nil) (fn:=Tryz.f120) aiR kN
def akb:Cx:=cX [JI,vr,gh] [] []
def ad7:OKC Tryz.prog akb AF:=okc mixed<|gC KE<|gC arh<|gC aAH<|AL
def WN(x:Y4×Y4×List A4×Int×Int×A2):Rnd (Y4×Y4×List A4×Int×Int×A2) (Y4×Bool×A2) (Y4×Y4×A2):=if A0 (x.2.2.2.2.1<x.2.2.2.1) then if inb x.2.2.2.2.1 x.2.2.1.length then let b:=(rd (dfl .str) x.2.2.1 x.2.2.2.2.1);(Pu (x.2.1,b,())).bind λa=>if !a.1.2.1 then I (.inr<|.inl ((0,0,0,([]:List A7),([]:List Mark),([]:List A7),()),A3,())) else I (.inl (x.1,a.1.1,x.2.2.1,x.2.2.2.1,(w64<|x.2.2.2.2.1+1),())) else U else I (.inr<|.inr (x.1,x.2.1,()))
def pD:=AW WN
def aAl:Loop:=⟨[(4,Z11),(6,Z11),(17,.sl .str),(18,.int .i64),(19,.int .i64)],[(4,Z11),(6,Z11)],0,[(4,Z11),(5,.bool)],pD⟩
def ao9:LF Tryz.f67 [] [1,1,1,0,1,0,0] aAl:=sq (v:= .nil) ad7 (b:=WN) kN
def eg(x:Int×List A4×A2):Option ((Y4×Bool×A2)×A2):=(FX (x.1,())).bind λb=>if !b.1.1 then I (((0,0,0,([]:List A7),([]:List Mark),([]:List A7),()),A3,()),()) else(Ym (x.1,())).bind λc=>(AO (pD ((0,0,0,([]:List A7),([]:List Mark),([]:List A7),()),c.1.1,x.2.1,(x.2.1.length:Int),0,())) (λa=>I (a,())) λa=>I ((a.2.1,A1,()),()))
def aBa:Ent:=(67,U,⟨[.int .i64,.fz .str],[Z6,.bool],eg⟩)
def atg:SQ Tryz.prog aBa:=sk (v:=t1<|t1<|t1<|.two (t1<|.one<|.loop aAl) .nil) (fn:=Tryz.f67) ad7<|kC ao9 kN
def alK:Cx:=cX [aP,aBa] [] []
def ars:OKC Tryz.prog alK AF:=okc mixed<|gC pq<|gC atg<|AL
def JK(x:Int×A4×A2):Option ((Y4×Bool×A2)×A2):=(PK x.2).bind λa=>(eg (x.1,a.1.1,())).bind λb=>I (b.1,())
def TK:Ent:=(31,U,⟨[.int .i64,.str],[Z6,.bool],JK⟩)
def fa:SQ Tryz.prog TK:=sk (v:= .nil) (fn:=Tryz.f31) ars kN
def avM:Cx:=cX [FF,aP] [] [(12,18),(41,44)]
def ame:OKC Tryz.prog avM AF:=okc mixed<|gC FK<|gC pq<|AL
def O1(x:Y7×A2):Option ((Bool×A2)×A2):=if Ad (!(A0<|2400<(x.1.1.size:Int))) ((C4 (x.1.2.1,0,(x.1.1.size:Int),())).isSome) then if(A0<|2400<(x.1.1.size:Int))||(!(((C4 (x.1.2.1,0,(x.1.1.size:Int),())).getD ((A3,()),())).1.1)) then I ((A3,()),()) else(PK (x.1.1,())).bind λa=>if A0 (0<=x.1.2.1)&&A0 (x.1.2.1<=(x.1.1.size:Int)) then(PK ((x.1.1.extract (0)<|AM x.1.2.1),())).bind λb=>let c:=((A0<|a.1.2.1=(x.1.1.size:Int))&&(A0<|b.1.2.1=x.1.2.1));I ((c,()),()) else U else U
def QR:Ent:=(63,U,⟨[Z15],[.bool],O1⟩)
def VL:SQ Tryz.prog QR:=sk (v:= .nil) (fn:=Tryz.f63) ame kN
def ami:Cx:=cX [FF,JI] [] [(54,57)]
def rZ:OKC Tryz.prog ami AF:=okc mixed<|gC FK<|gC KE<|AL
def aA(x:Y9×Y8×List AQ×Int×Int×List AQ×Int×Int×A2):Rnd (Y9×Y8×List AQ×Int×Int×List AQ×Int×Int×A2) (Bool×A2) (Y9×List AQ×Int×Int×A2):=if A0 (x.2.2.2.2.2.2.2.1<x.2.2.2.2.2.2.1) then if inb x.2.2.2.2.2.2.2.1 x.2.2.2.2.2.1.length then let a:=(rd (dfl .mixed) x.2.2.2.2.2.1 x.2.2.2.2.2.2.2.1).nu;let b:=(rd (dfl .mixed) x.2.2.2.2.2.1 x.2.2.2.2.2.2.2.1).da;if A0 (a=x.2.1.1) then I (.inr<|.inl (A3,())) else I (.inl (x.1,x.2.1,x.2.2.1,x.2.2.2.1,x.2.2.2.2.1,x.2.2.2.2.2.1,x.2.2.2.2.2.2.1,(w64<|x.2.2.2.2.2.2.2.1+1),())) else U else I (.inr<|.inr (x.1,x.2.2.1,x.2.2.2.1,x.2.2.2.2.1,()))
def nE:=AW aA
def acb:Loop:=⟨[(1,Z17),(4,Z35),(42,.sl .mixed),(43,.int .i64),(44,.int .i64),(62,.sl .mixed),(63,.int .i64),(64,.int .i64)],[(1,Z17),(42,.sl .mixed),(43,.int .i64),(44,.int .i64)],2,[(2,.bool)],nE⟩
def ayI:LF Tryz.f64 [] [1,1,0,1,0,0,1,1,0,0,1,1,1,0,0] acb:=sq (v:= .nil) rZ (b:=aA) kN
def dZ(x:Y9×List AQ×Int×Int×A2):Rnd (Y9×List AQ×Int×Int×A2) (Bool×A2) (A2):=if A0 (x.2.2.2.1<x.2.2.1) then if inb x.2.2.2.1 x.2.1.length then let b:=(rd (dfl .mixed) x.2.1 x.2.2.2.1).nu;let c:=(rd (dfl .mixed) x.2.1 x.2.2.2.1).da;(C4 (b,0,999,())).bind λd=>if(!d.1.1)||(!decide ((c.size:Int)=4)) then I (.inr<|.inl (A3,())) else if A0 (0<=x.2.2.2.1)&&A0 (x.2.2.2.1<=(x.1.2.2.2.2.2.1.length:Int)) then(AO (nE (x.1,(b,c,()),x.2.1,x.2.2.1,x.2.2.2.1,(BU (AM x.2.2.2.1) x.1.2.2.2.2.2.1),((BU (AM x.2.2.2.1) x.1.2.2.2.2.2.1).length:Int),0,())) (λa=>I<|.inr<|.inl a) λa=>I<|.inl (a.1,a.2.1,a.2.2.1,(w64<|a.2.2.2.1+1),())) else U else U else I (.inr<|.inr ())
def iA:=AW dZ
def xn:Loop:=⟨[(1,Z17),(42,.sl .mixed),(43,.int .i64),(44,.int .i64)],[],0,[(2,.bool)],iA⟩
def avD:LF Tryz.f64 [] [1,1,0,1,0,0] xn:=sq (v:=t1<|t1<|.two (.one<|t1<|t1<|t1<|.one<|.loop acb) .nil) rZ (b:=dZ)<|kC ayI kN
def Ws(x:Y9×A2):Option ((Bool×A2)×A2):=(FX (x.1.1,())).bind λb=>if !b.1.1 then I ((A3,()),()) else(FX (x.1.2.2.1,())).bind λc=>if !c.1.1 then I ((A3,()),()) else(C4 (x.1.2.1,1,99,())).bind λd=>if !d.1.1 then I ((A3,()),()) else(C4 (x.1.2.2.2.1,1,999,())).bind λe=>if !e.1.1 then I ((A3,()),()) else(C4 (x.1.2.2.2.2.1,1,24,())).bind λf=>if !f.1.1 then I ((A3,()),()) else if A0 (14<(x.1.2.2.2.2.2.1.length:Int)) then I ((A3,()),()) else(AO (iA (x.1,x.1.2.2.2.2.2.1,(x.1.2.2.2.2.2.1.length:Int),0,())) (λa=>I (a,())) λa=>I ((A1,()),()))
def aA0:Ent:=(64,U,⟨[Z18],[.bool],Ws⟩)
def atD:SQ Tryz.prog aA0:=sk (v:=t1<|t1<|.two (t1<|.one<|.loop xn) .nil) (fn:=Tryz.f64) rZ<|kC avD kN
def ai0:Cx:=cX [] [] [(21,24)]
def vU:OKC Tryz.prog ai0 AF:=okc mixed<|AL
def So(x:Int×Int×List AH×Int×Int×A2):Rnd (Int×Int×List AH×Int×Int×A2) (Int×A2) (A2):=if A0 (x.2.2.2.2.1<x.2.2.2.1) then if inb x.2.2.2.2.1 x.2.2.1.length then let a:=(rd (dfl .half) x.2.2.1 x.2.2.2.2.1).fr;let b:=(rd (dfl .half) x.2.2.1 x.2.2.2.2.1).nu;let c:=(rd (dfl .half) x.2.2.1 x.2.2.2.2.1).to;let d:=(rd (dfl .half) x.2.2.1 x.2.2.2.2.1).un;let e:=(rd (dfl .half) x.2.2.1 x.2.2.2.2.1).sz;let f:=(rd (dfl .half) x.2.2.1 x.2.2.2.2.1).got;if(A0<|a=x.1)&&(A0<|b=x.2.1) then I (.inr<|.inl x.2.2.2.2) else I (.inl (x.1,x.2.1,x.2.2.1,x.2.2.2.1,(w64<|x.2.2.2.2.1+1),())) else U else I (.inr<|.inr ())
def jy:=AW So
def aBU:Loop:=⟨[(1,.int .i64),(2,.int .i64),(9,.sl .half),(10,.int .i64),(11,.int .i64)],[],0,[(6,.int .i64)],jy⟩
def aeX:LF Tryz.f65 [] [1,0,1,0,0] aBU:=sq (v:= .nil) vU (b:=So) kN
def S5(x:List AH×Int×Int×A2):Option ((Int×A2)×A2):=(AO (jy (x.2.1,x.2.2.1,x.1,(x.1.length:Int),0,())) (λa=>I (a,())) λa=>I (((-1),()),()))
def gG:Ent:=(65,U,⟨[.fz .half,.int .i64,.int .i64],[.int .i64],S5⟩)
def wK:SQ Tryz.prog gG:=sk (v:=t1<|.two (t1<|.one<|.loop aBU) .nil) (fn:=Tryz.f65) vU<|kC aeX kN
def agy:Cx:=cX [TK,JI,QR,aA0,gG] [] [(61,62),(76,84)]
def abZ:OKC Tryz.prog agy AF:=okc mixed<|gC fa<|gC KE<|gC VL<|gC atD<|gC wK<|AL
def XZ(x:Y1×List AH×Int×Int×A2):Rnd (Y1×List AH×Int×Int×A2) (Bool×A2) (A2):=if A0 (x.2.2.2.1<x.2.2.1) then if inb x.2.2.2.1 x.2.1.length then let a:=(rd (dfl .half) x.2.1 x.2.2.2.1).fr;let b:=(rd (dfl .half) x.2.1 x.2.2.2.1).nu;let d:=(rd (dfl .half) x.2.1 x.2.2.2.1).to;let e:=(rd (dfl .half) x.2.1 x.2.2.2.1).un;let f:=(rd (dfl .half) x.2.1 x.2.2.2.1).sz;let g:=(rd (dfl .half) x.2.1 x.2.2.2.1).got;(Ws ((a,b,d,e,f,g,()),())).bind λc=>if Ad (!(!c.1.1)) ((S5 (x.1.2.2.2.2.1,a,b,())).isSome) then if(!c.1.1)||(A0<|((S5 (x.1.2.2.2.2.1,a,b,())).getD ((0,()),())).1.1<x.2.2.2.1) then I (.inr<|.inl (A3,())) else I (.inl (x.1,x.2.1,x.2.2.1,(w64<|x.2.2.2.1+1),())) else U else U else I (.inr<|.inr ())
def aT:=AW XZ
def aCI:Loop:=⟨[(1,Z19),(65,.sl .half),(66,.int .i64),(67,.int .i64)],[],0,[(2,.bool)],aT⟩
def ar8:LF Tryz.f30 [] [1,1,1,1,1,0,1,0,0] aCI:=sq (v:= .nil) abZ (b:=XZ) kN
def I6(x:Y1×A2):Option ((Bool×A2)×A2):=(BF (X:=Y1×A2) (λa=>(JK (a.1.1,a.1.2.2.1,())).bind λc=>if A0 (0<=a.1.2.2.2.1)&&A0 (a.1.2.2.2.1<=(a.1.2.2.1.size:Int)) then(JK (a.1.1,(a.1.2.2.1.extract (0)<|AM a.1.2.2.2.1),())).bind λd=>if(!c.1.2.1)||(!d.1.2.1) then I ((A3,()),()) else(AO (aT (a.1,a.1.2.2.2.2.1,(a.1.2.2.2.2.1.length:Int),0,())) (λb=>I (b,())) λb=>I ((A1,()),())) else U)<|(FX (x.1.1,())).bind λe=>if !e.1.1 then I (.inl ((A3,()),())) else(O1 ((x.1.2.2.1,x.1.2.2.2.1,()),())).bind λf=>if !f.1.1 then I (.inl ((A3,()),())) else if A0 (3<(x.1.2.2.2.2.1.length:Int)) then I (.inl ((A3,()),())) else if !x.1.2.1 then if A0 (0<(x.1.2.2.2.2.1.length:Int)) then I (.inl ((A3,()),())) else I (.inr x) else I (.inr x))
def JU:Ent:=(30,U,⟨[Z14],[.bool],I6⟩)
def KK:SQ Tryz.prog JU:=sk (v:=t1<|.join [(1,Z19)] .nil<|t1<|t1<|t1<|.two (t1<|.one<|.loop aCI) .nil) (fn:=Tryz.f30) abZ<|kC ar8 kN
def ajk:Cx:=cX [Q0] [] []
def uU:OKC Tryz.prog ajk AF:=okc mixed<|gC Va<|AL
def aE(x:List A7×List A7×Int×Int×A2):Rnd (List A7×List A7×Int×Int×A2) (Bool×A2) (List A7×A2):=if A0 (x.2.2.2.1<x.2.2.1) then if inb x.2.2.2.1 x.2.1.length then let a:=(rd (dfl .note) x.2.1 x.2.2.2.1).fr;let b:=(rd (dfl .note) x.2.1 x.2.2.2.1).nu;let c:=(rd (dfl .note) x.2.1 x.2.2.2.1).to;let d:=(rd (dfl .note) x.2.1 x.2.2.2.1).un;let e:=(rd (dfl .note) x.2.1 x.2.2.2.1).tx;(Ng ((a,b,c,d,e,()),())).bind λf=>if !f.1.1 then I (.inr<|.inl (A3,())) else I (.inl (x.1,x.2.1,x.2.2.1,(w64<|x.2.2.2.1+1),())) else U else I (.inr<|.inr (x.1,()))
def py:=AW aE
def aas:Loop:=⟨[(0,.sl .note),(5,.sl .note),(6,.int .i64),(7,.int .i64)],[(0,.sl .note)],0,[(2,.bool)],py⟩
def arP:LF Tryz.f56 [] [1,0,1,0,0] aas:=sq (v:= .nil) uU (b:=aE) kN
def V9(x:List A7×A2):Option ((Bool×A2)×A2):=(AO (py (x.1,x.1,(x.1.length:Int),0,())) (λa=>I (a,())) (λa=>let b:=(A0<|(a.1.length:Int)<=6);I ((b,()),())))
def aAz:Ent:=(56,U,⟨[.fz .note],[.bool],V9⟩)
def aqf:SQ Tryz.prog aAz:=sk (v:=t1<|.two (t1<|.one<|.loop aas) .nil) (fn:=Tryz.f56) uU<|kC arP kN
def alj:Cx:=cX [JU,FF,aAz,JI] [] [(54,56)]
def pH:OKC Tryz.prog alj AF:=okc mixed<|gC KK<|gC FK<|gC aqf<|gC KE<|AL
def aL(x:List AT×Int×Int×A2):Rnd (List AT×Int×Int×A2) (Bool×A2) (A2):=if A0 (x.2.2.1<x.2.1) then if inb x.2.2.1 x.1.length then let a:=(rd (dfl .Ai) x.1 x.2.2.1).src;let b:=(rd (dfl .Ai) x.1 x.2.2.1).dst;let c:=(rd (dfl .Ai) x.1 x.2.2.1).data;let f:=(rd (dfl .Ai) x.1 x.2.2.1).sp;(FX (a,())).bind λd=>if !d.1.1 then I (.inr<|.inl (A3,())) else(FX (b,())).bind λe=>if !e.1.1 then I (.inr<|.inl (A3,())) else if !decide ((w64<|a - b)=1) then if !decide ((w64<|b - a)=1) then I (.inr<|.inl (A3,())) else if A0 (40<(c.size:Int)) then I (.inr<|.inl (A3,())) else I (.inl (x.1,x.2.1,(w64<|x.2.2.1+1),())) else if A0 (40<(c.size:Int)) then I (.inr<|.inl (A3,())) else I (.inl (x.1,x.2.1,(w64<|x.2.2.1+1),())) else U else I (.inr<|.inr ())
def rK:=AW aL
def aac:Loop:=⟨[(60,.sl .Ai),(61,.int .i64),(62,.int .i64)],[],2,[(2,.bool)],rK⟩
def avy:LF Tryz.f25 [] [1,1,1,0,1,0,0] aac:=sq (v:= .nil) pH (b:=aL) kN
def dA(x:Y2×List AA×Int×Int×A2):Rnd (Y2×List AA×Int×Int×A2) (Bool×A2) (Y2×A2):=if A0 (x.2.2.2.1<x.2.2.1) then if inb x.2.2.2.1 x.2.1.length then let a:=(rd (dfl .AN) x.2.1 x.2.2.2.1).id;let b:=(rd (dfl .AN) x.2.1 x.2.2.2.1).up;let c:=(rd (dfl .AN) x.2.1 x.2.2.2.1).log;let d:=(rd (dfl .AN) x.2.1 x.2.2.2.1).fo;let e:=(rd (dfl .AN) x.2.1 x.2.2.2.1).AE;if Ad (!(!decide (a=x.2.2.2.1))) ((I6 ((a,b,c,d,e,()),())).isSome) then if(!decide (a=x.2.2.2.1))||(!(((I6 ((a,b,c,d,e,()),())).getD ((A3,()),())).1.1)) then I (.inr<|.inl (A3,())) else I (.inl (x.1,x.2.1,x.2.2.1,(w64<|x.2.2.2.1+1),())) else U else U else I (.inr<|.inr (x.1,()))
def qn:=AW dA
def td:Loop:=⟨[(1,Z29),(42,.sl .AN),(43,.int .i64),(44,.int .i64)],[(1,Z29)],0,[(2,.bool)],qn⟩
def ayw:LF Tryz.f25 [] [1,1,0,1,0,0] td:=sq (v:= .nil) pH (b:=dA) kN
def Rv(x:Y2×A2):Option ((Bool×A2)×A2):=(C4 (x.1.1,0,99999,())).bind λc=>if !c.1.1 then I ((A3,()),()) else if !decide ((x.1.2.1.length:Int)=4) then I ((A3,()),()) else if !decide ((x.1.2.2.1.length:Int)=3) then I ((A3,()),()) else if A0 (30<(x.1.2.2.2.1.length:Int)) then I ((A3,()),()) else(V9 (x.1.2.2.2.2.1,())).bind λd=>if !d.1.1 then I ((A3,()),()) else(V9 x.1.2.2.2.2.2).bind λe=>if !e.1.1 then I ((A3,()),()) else(AO (qn (x.1,x.1.2.1,(x.1.2.1.length:Int),0,())) (λa=>I (a,())) λa=>(AO (rK (a.1.2.2.2.1,(a.1.2.2.2.1.length:Int),0,())) (λb=>I (b,())) λb=>I ((A1,()),())))
def rz:Ent:=(25,U,⟨[Z30],[.bool],Rv⟩)
def aBb:SQ Tryz.prog rz:=sk (v:=t1<|t1<|.two (t1<|.one<|.loop td)<|.two (t1<|.one<|.loop aac) .nil) (fn:=Tryz.f25) pH<|kC ayw<|kC avy kN
def ak3:Cx:=cX [] [] []
def aur:OKC Tryz.prog ak3 AF:=okc mixed<|AL
def Yt(x:List AA×A2):Option ((List AA×A2)×A2):=if A0 ((x.1.length:Int)=0) then I ((([]:List AA),()),()) else if A0 (0<=(x.1.length:Int))&&A0 ((x.1.length:Int)<=4294967296) then I (((BU (BW (AM (x.1.length:Int))<|dfl .AN).length x.1++Bs x.1.length (BW (AM (x.1.length:Int))<|dfl .AN)),()),()) else U
def aaa:Ent:=(101,U,⟨[.fz .AN],[.row 45 .AN],Yt⟩)
def aeY:SQ Tryz.prog aaa:=sk (v:= .nil) (fn:=Tryz.f101) aur kN
def amS:Cx:=cX [] [] []
def apW:OKC Tryz.prog amS AF:=okc mixed<|AL
def Yc(x:List Bool×A2):Option ((List Bool×A2)×A2):=if A0 ((x.1.length:Int)=0) then I ((([]:List Bool),()),()) else if A0 (0<=(x.1.length:Int))&&A0 ((x.1.length:Int)<=4294967296) then I (((BU (BW (AM (x.1.length:Int))<|dfl .bool).length x.1++Bs x.1.length (BW (AM (x.1.length:Int))<|dfl .bool)),()),()) else U
def we:Ent:=(102,U,⟨[.fz .bool],[.row 4 .bool],Yc⟩)
def asg:SQ Tryz.prog we:=sk (v:= .nil) (fn:=Tryz.f102) apW kN
def aii:Cx:=cX [] [] []
def anX:OKC Tryz.prog aii AF:=okc mixed<|AL
def ba(x:List AT×A2):Option ((List AT×A2)×A2):=if A0 ((x.1.length:Int)=0) then I ((([]:List AT),()),()) else if A0 (0<=(x.1.length:Int))&&A0 ((x.1.length:Int)<=4294967296) then I (((BU (BW (AM (x.1.length:Int))<|dfl .Ai).length x.1++Bs x.1.length (BW (AM (x.1.length:Int))<|dfl .Ai)),()),()) else U
def aah:Ent:=(103,U,⟨[.fz .Ai],[.row 53 .Ai],ba⟩)
def amV:SQ Tryz.prog aah:=sk (v:= .nil) (fn:=Tryz.f103) anX kN
def amT:Cx:=cX [] [] []
def as1:OKC Tryz.prog amT AF:=okc mixed<|AL
def sr(x:List AH×A2):Option ((List AH×A2)×A2):=if A0 ((x.1.length:Int)=0) then I ((([]:List AH),()),()) else if A0 (0<=(x.1.length:Int))&&A0 ((x.1.length:Int)<=4294967296) then I (((BU (BW (AM (x.1.length:Int))<|dfl .half).length x.1++Bs x.1.length (BW (AM (x.1.length:Int))<|dfl .half)),()),()) else U
def abK:Ent:=(143,U,⟨[.fz .half],[.row 106 .half],sr⟩)
def akr:SQ Tryz.prog abK:=sk (v:= .nil) (fn:=Tryz.f143) as1 kN
def arK:Cx:=cX [] [] []
def ayA:OKC Tryz.prog arK AF:=okc mixed<|AL
def nf(x:List AQ×A2):Option ((List AQ×A2)×A2):=if A0 ((x.1.length:Int)=0) then I ((([]:List AQ),()),()) else if A0 (0<=(x.1.length:Int))&&A0 ((x.1.length:Int)<=4294967296) then I (((BU (BW (AM (x.1.length:Int))<|dfl .mixed).length x.1++Bs x.1.length (BW (AM (x.1.length:Int))<|dfl .mixed)),()),()) else U
def yw:Ent:=(144,U,⟨[.fz .mixed],[.row 123 .mixed],nf⟩)
def apN:SQ Tryz.prog yw:=sk (v:= .nil) (fn:=Tryz.f144) ayA kN
def au2:Cx:=cX [abK,yw] [] []
def yZ:OKC Tryz.prog au2 AF:=okc mixed<|gC akr<|gC apN<|AL
def Yb(x:Y1×Y1×Int×Int×A2):Rnd (Y1×Y1×Int×Int×A2) (A2) (Y1×Y1×A2):=if A0 (x.2.2.2.1<x.2.2.1) then if inb x.2.2.2.1 x.2.1.2.2.2.2.1.length then(nf ((rd (dfl .half) x.2.1.2.2.2.2.1 x.2.2.2.1).got,())).bind λa=>if inb x.2.2.2.1 x.2.1.2.2.2.2.1.length then I (.inl (x.1,(x.2.1.1,x.2.1.2.1,x.2.1.2.2.1,x.2.1.2.2.2.1,(Bq x.2.1.2.2.2.2.1 (AM x.2.2.2.1)<|AH.mk ((rd (dfl .half) x.2.1.2.2.2.2.1 x.2.2.2.1).fr) ((rd (dfl .half) x.2.1.2.2.2.2.1 x.2.2.2.1).nu) ((rd (dfl .half) x.2.1.2.2.2.2.1 x.2.2.2.1).to) ((rd (dfl .half) x.2.1.2.2.2.2.1 x.2.2.2.1).un) ((rd (dfl .half) x.2.1.2.2.2.2.1 x.2.2.2.1).sz) a.1.1),()),x.2.2.1,(w64<|x.2.2.2.1+1),())) else U else U else I (.inr<|.inr (x.1,x.2.1,()))
def oz:=AW Yb
def aE1:Loop:=⟨[(2,Z20),(3,Z20),(12,.int .i64),(13,.int .i64)],[(2,Z20),(3,Z20)],0,[],oz⟩
def azi:LF Tryz.f105 [] [1,1,1,0,1,0,0] aE1:=sq (v:= .nil) yZ (b:=Yb) kN
def Hq(x:Y1×A2):Option ((Y1×A2)×A2):=(sr x.1.2.2.2.2).bind λa=>(AO (oz ((0,A3,noB,0,([]:List AH),()),(x.1.1,x.1.2.1,x.1.2.2.1,x.1.2.2.2.1,a.1),(a.1.1.length:Int),0,())) (λ_=>U) λb=>I (b.2,()))
def LA:Ent:=(105,U,⟨[Z14],[Z1],Hq⟩)
def Lr:SQ Tryz.prog LA:=sk (v:=t1<|t1<|t1<|.two (t1<|.one<|.loop aE1) .nil) (fn:=Tryz.f105) yZ<|kC azi kN
def aic:Cx:=cX [aaa,we,aah,pP,LA] [] []
def zr:OKC Tryz.prog aic AF:=okc mixed<|gC aeY<|gC asg<|gC amV<|gC aDC<|gC Lr<|AL
def fZ(x:Y2×Y2×Int×Int×A2):Rnd (Y2×Y2×Int×Int×A2) (A2) (Y2×Y2×A2):=if A0 (x.2.2.2.1<x.2.2.1) then if inb x.2.2.2.1 x.2.1.2.1.length then(Hq (((rd (dfl .AN) x.2.1.2.1 x.2.2.2.1).id,(rd (dfl .AN) x.2.1.2.1 x.2.2.2.1).up,(rd (dfl .AN) x.2.1.2.1 x.2.2.2.1).log,(rd (dfl .AN) x.2.1.2.1 x.2.2.2.1).fo,(rd (dfl .AN) x.2.1.2.1 x.2.2.2.1).AE,()),())).bind λa=>if inb x.2.2.2.1 x.2.1.2.1.length then I (.inl (x.1,(x.2.1.1,(Bq x.2.1.2.1 (AM x.2.2.2.1)<|AA.mk a.1.1.1 a.1.1.2.1 a.1.1.2.2.1 a.1.1.2.2.2.1 a.1.1.2.2.2.2.1),x.2.1.2.2),x.2.2.1,(w64<|x.2.2.2.1+1),())) else U else U else I (.inr<|.inr (x.1,x.2.1,()))
def dX:=AW fZ
def aCz:Loop:=⟨[(2,Z2),(3,Z2),(25,.int .i64),(26,.int .i64)],[(2,Z2),(3,Z2)],0,[],dX⟩
def ara:LF Tryz.f58 [] [1,1,0,1,0,0] aCz:=sq (v:= .nil) zr (b:=fZ) kN
def Ly(x:Y2×A2):Option ((Y2×A2)×A2):=(Yt (x.1.2.1,())).bind λa=>(Yc (x.1.2.2.1,())).bind λb=>(ba (x.1.2.2.2.1,())).bind λc=>(NI (x.1.2.2.2.2.1,())).bind λd=>(NI x.1.2.2.2.2.2).bind λe=>(AO (dX ((0,([]:List AA),([]:List Bool),([]:List AT),([]:List A7),([]:List A7),()),(x.1.1,a.1.1,b.1.1,c.1.1,d.1.1,e.1),(a.1.1.length:Int),0,())) (λ_=>U) λf=>I (f.2,()))
def aCF:Ent:=(58,U,⟨[Z30],[Z3],Ly⟩)
def auS:SQ Tryz.prog aCF:=sk (v:=t1<|t1<|.two (t1<|.one<|.loop aCz) .nil) (fn:=Tryz.f58) zr<|kC ara kN
def adh:Cx:=cX [FF] [] [(20,29)]
def aq9:OKC Tryz.prog adh AF:=okc mixed<|gC FK<|AL
def XI(x:Y2×Y3×A2):Option ((Bool×A2)×(Y2×A2)):=(C4 (x.2.1.2.1,0,(w64<|(x.1.2.2.1.length:Int) - 1),())).bind λa=>if Ad (!(!a.1.1)) (inb x.2.1.2.1 x.1.2.2.1.length) then if(!a.1.1)||(A0<|(rd (dfl .bool) x.1.2.2.1 x.2.1.2.1)=(A0<|x.2.1.1=9)) then I ((A3,()),(x.1,())) else if inb x.2.1.2.1 x.1.2.2.1.length then I ((A1,()),((x.1.1,x.1.2.1,(Bq x.1.2.2.1 (AM x.2.1.2.1)<|A0<|x.2.1.1=9),x.1.2.2.2),())) else U else U
def zm:Ent:=(59,U,⟨[Z2,Z4],[.bool],XI⟩)
def awe:SQ Tryz.prog zm:=sk (v:= .nil) (fn:=Tryz.f59) aq9 kN
def aqc:Cx:=cX [JI] [] []
def anK:OKC Tryz.prog aqc AF:=okc mixed<|gC KE<|AL
def Ii(x:Int×Int×A2):Option ((Int×A2)×A2):=(BF (X:=Int×Int×Bool×A2) (λa=>if a.2.2.1 then I (((-1),()),()) else if A0 (a.1<a.2.1) then I (((w64<|a.1+1),()),()) else I (((w64<|a.1 - 1),()),()))<|(FX (x.1,())).bind λb=>if !b.1.1 then I (.inr (x.1,x.2.1,A1,())) else(FX x.2).bind λc=>if !c.1.1 then I (.inr (x.1,x.2.1,A1,())) else I (.inr (x.1,x.2.1,(A0<|x.1=x.2.1),())))
def de:Ent:=(121,U,⟨[.int .i64,.int .i64],[.int .i64],Ii⟩)
def nN:SQ Tryz.prog de:=sk (v:=t1<|.two (.one<|.join [(0,.int .i64),(1,.int .i64),(5,.bool)] .nil .nil) .nil) (fn:=Tryz.f121) anK kN
def avZ:Cx:=cX [FF,JI,de] [] [(56,63),(82,89)]
def afC:OKC Tryz.prog avZ AF:=okc mixed<|gC FK<|gC KE<|gC nN<|AL
def VC(x:Y3×A2):Option ((Bool×A2)×A2):=(FX (x.1.2.1,())).bind λb=>if !b.1.1 then I ((A3,()),()) else(FX (x.1.2.2.1,())).bind λc=>if !c.1.1 then I ((A3,()),()) else(FX (x.1.2.2.2.1,())).bind λd=>if !d.1.1 then I ((A3,()),()) else(FX (x.1.2.2.2.2.2.1,())).bind λe=>if !e.1.1 then I ((A3,()),()) else(C4 (x.1.2.2.2.2.1,1,99,())).bind λf=>if !f.1.1 then I ((A3,()),()) else(C4 (x.1.2.2.2.2.2.2.1,1,999,())).bind λg=>if !g.1.1 then I ((A3,()),()) else if A0 (x.1.1=1) then(C4 (x.1.2.2.2.2.2.2.2.1,1,24,())).bind λh=>if h.1.1 then(C4 (x.1.2.2.2.2.2.2.2.2.1,0,999,())).bind λi=>if i.1.1 then if Ad (A0<|(x.1.2.2.2.2.2.2.2.2.2.1.size:Int)=4) ((Ii (x.1.2.1,x.1.2.2.2.2.2.1,())).isSome) then let j:=((A0<|(x.1.2.2.2.2.2.2.2.2.2.1.size:Int)=4)&&(A0<|x.1.2.2.1=((Ii (x.1.2.1,x.1.2.2.2.2.2.1,())).getD ((0,()),())).1.1));I ((j,()),()) else U else if Ad A3 ((Ii (x.1.2.1,x.1.2.2.2.2.2.1,())).isSome) then I ((A3,()),()) else U else if Ad A3 ((Ii (x.1.2.1,x.1.2.2.2.2.2.1,())).isSome) then I ((A3,()),()) else U else(BF (X:=Y3×Bool×A2) (λa=>if a.2.1 then if A0 (a.1.2.2.2.2.2.2.2.1=0) then if A0 (a.1.2.2.2.2.2.2.2.2.1=0) then if Ad (A0<|a.1.2.2.2.2.2.2.2.2.2.1=noB) ((Ii (a.1.2.2.1,a.1.2.2.2.2.2.1,())).isSome) then let k:=((A0<|a.1.2.2.2.2.2.2.2.2.2.1=noB)&&(A0<|a.1.2.1=((Ii (a.1.2.2.1,a.1.2.2.2.2.2.1,())).getD ((0,()),())).1.1));I ((k,()),()) else U else if Ad A3 ((Ii (a.1.2.2.1,a.1.2.2.2.2.2.1,())).isSome) then I ((A3,()),()) else U else if Ad A3 ((Ii (a.1.2.2.1,a.1.2.2.2.2.2.1,())).isSome) then I ((A3,()),()) else U else I ((A3,()),()))<|(if A0 (x.1.1=2) then I (.inr (x.1,(A0<|x.1.1=2),())) else I (.inr (x.1,(A0<|x.1.1=3),()))))
def kB:Ent:=(72,U,⟨[Z4],[.bool],VC⟩)
def uy:SQ Tryz.prog kB:=sk (v:=t1<|t1<|.two (t1<|.one<|t1<|t1<|.join [(1,Z5),(65,.bool)] .nil .nil) .nil) (fn:=Tryz.f72) afC kN
def anI:Cx:=cX [] [] []
def uu:OKC Tryz.prog anI AF:=okc mixed<|AL
def Wh(x:Int×List Int×Int×Int×A2):Rnd (Int×List Int×Int×Int×A2) (A2) (Int×A2):=if A0 (x.2.2.2.1<x.2.2.1) then if inb x.2.2.2.1 x.2.1.length then let a:=(rd (dfl .u8) x.2.1 x.2.2.2.1);let b:=(BC (w64<|x.1+(w64<|(w64 a) * (w64<|(BC x.2.2.2.1 1000)+1))) 65521);I (.inl (b,x.2.1,x.2.2.1,(w64<|x.2.2.2.1+1),())) else U else I (.inr<|.inr (x.1,()))
def dW:=AW Wh
def aaI:Loop:=⟨[(3,.int .i64),(6,.sl .u8),(7,.int .i64),(8,.int .i64)],[(3,.int .i64)],0,[],dW⟩
def asu:LF Tryz.f73 [] [1,1,0,1,0,0] aaI:=sq (v:= .nil) uu (b:=Wh) kN
def T7(x:List Int×A2):Option ((Int×A2)×A2):=(AO (dW (0,x.1,(x.1.length:Int),0,())) (λ_=>U) λa=>I (a,()))
def aa5:Ent:=(73,U,⟨[.fz .u8],[.int .i64],T7⟩)
def aor:SQ Tryz.prog aa5:=sk (v:=t1<|t1<|.two (t1<|.one<|.loop aaI) .nil) (fn:=Tryz.f73) uu<|kC asu kN
def ap6:Cx:=cX [] [] []
def atz:OKC Tryz.prog ap6 AF:=okc mixed<|AL
def ZA(x:List Int×A2):Option ((List Int×A2)×A2):=if A0 ((x.1.length:Int)=0) then I ((([]:List Int),()),()) else if A0 (0<=(x.1.length:Int))&&A0 ((x.1.length:Int)<=4294967296) then I (((BU (BW (AM (x.1.length:Int))<|dfl .u8).length x.1++Bs x.1.length (BW (AM (x.1.length:Int))<|dfl .u8)),()),()) else U
def vI:Ent:=(74,U,⟨[.fz .u8],[.row 5 .u8],ZA⟩)
def aqi:SQ Tryz.prog vI:=sk (v:= .nil) (fn:=Tryz.f74) atz kN
def arw:Cx:=cX [kB,aa5,vI] [] []
def asP:OKC Tryz.prog arw AF:=okc mixed<|gC uy<|gC aor<|gC aqi<|AL
def PC(x:Y3×A2):Option ((List Int×A2)×A2):=(VC x).bind λc=>if !c.1.1 then I ((([]:List Int),()),()) else(BF (X:=List Int×A2) (λb=>(T7 b).bind λa=>if Ac (b.1.length+([(w8<|w64<|B0 a.1.1 256),(w8<|BC a.1.1 256)]:List Int).length) then(ZA ((b.1++([(w8<|w64<|B0 a.1.1 256),(w8<|BC a.1.1 256)]:List Int)),())).bind λd=>I (d.1,()) else U)<|(if A0 (x.1.1=1) then if Ac (([(w8 x.1.1),(w8 x.1.2.1),(w8 x.1.2.2.1),(w8 x.1.2.2.2.1),(w8 x.1.2.2.2.2.1),(w8 x.1.2.2.2.2.2.1),(w8<|w64<|B0 x.1.2.2.2.2.2.2.1 256),(w8<|BC x.1.2.2.2.2.2.2.1 256)]:List Int).length+([(w8 x.1.2.2.2.2.2.2.2.1),(w8<|w64<|B0 x.1.2.2.2.2.2.2.2.2.1 256),(w8<|BC x.1.2.2.2.2.2.2.2.2.1 256)]:List Int).length) then if Ac ((([(w8 x.1.1),(w8 x.1.2.1),(w8 x.1.2.2.1),(w8 x.1.2.2.2.1),(w8 x.1.2.2.2.2.1),(w8 x.1.2.2.2.2.2.1),(w8<|w64<|B0 x.1.2.2.2.2.2.2.1 256),(w8<|BC x.1.2.2.2.2.2.2.1 256)]:List Int)++([(w8 x.1.2.2.2.2.2.2.2.1),(w8<|w64<|B0 x.1.2.2.2.2.2.2.2.2.1 256),(w8<|BC x.1.2.2.2.2.2.2.2.2.1 256)]:List Int)).length+(BA x.1.2.2.2.2.2.2.2.2.2.1).length) then I (.inr (((([(w8 x.1.1),(w8 x.1.2.1),(w8 x.1.2.2.1),(w8 x.1.2.2.2.1),(w8 x.1.2.2.2.2.1),(w8 x.1.2.2.2.2.2.1),(w8<|w64<|B0 x.1.2.2.2.2.2.2.1 256),(w8<|BC x.1.2.2.2.2.2.2.1 256)]:List Int)++([(w8 x.1.2.2.2.2.2.2.2.1),(w8<|w64<|B0 x.1.2.2.2.2.2.2.2.2.1 256),(w8<|BC x.1.2.2.2.2.2.2.2.2.1 256)]:List Int))++(BA x.1.2.2.2.2.2.2.2.2.2.1)),())) else U else U else I (.inr (([(w8 x.1.1),(w8 x.1.2.1),(w8 x.1.2.2.1),(w8 x.1.2.2.2.1),(w8 x.1.2.2.2.2.1),(w8 x.1.2.2.2.2.2.1),(w8<|w64<|B0 x.1.2.2.2.2.2.2.1 256),(w8<|BC x.1.2.2.2.2.2.2.1 256)]:List Int),()))))
def mh:Ent:=(40,U,⟨[Z4],[.row 5 .u8],PC⟩)
def aCn:SQ Tryz.prog mh:=sk (v:=t1<|t1<|t1<|.join [(3,.row 5 .u8)] .nil .nil) (fn:=Tryz.f40) asP kN
def awa:Cx:=cX [mh] [] [(9,11)]
def ajb:OKC Tryz.prog awa AF:=okc mixed<|gC aCn<|AL
def Uv(x:List Int×A2):Option ((Y3×Bool×A2)×A2):=if(!decide ((x.1.length:Int)=10))&&(!decide ((x.1.length:Int)=17)) then I (((0,0,0,0,0,0,0,0,0,noB,()),A3,()),()) else if inb 0 x.1.length then if inb 1 x.1.length then if inb 2 x.1.length then if inb 3 x.1.length then if inb 4 x.1.length then if inb 5 x.1.length then if inb 6 x.1.length then if inb 7 x.1.length then let b:=(w64<|rd (dfl .u8) x.1 0);let c:=(w64<|rd (dfl .u8) x.1 1);let d:=(w64<|rd (dfl .u8) x.1 2);let e:=(w64<|rd (dfl .u8) x.1 3);let f:=(w64<|rd (dfl .u8) x.1 4);let g:=(w64<|rd (dfl .u8) x.1 5);let h:=(w64<|(w64<|256 * (w64<|rd (dfl .u8) x.1 6))+(w64<|rd (dfl .u8) x.1 7));(BF (X:=List Int×Y3×Y3×A2) (λa=>(PC a.2.2).bind λi=>if !decide ((BH i.1.1)=(BH a.1)) then I (((0,0,0,0,0,0,0,0,0,noB,()),A3,()),()) else I ((a.2.2.1,A1,()),()))<|(if A0 ((x.1.length:Int)=17) then if inb 8 x.1.length then let j:=(w64<|rd (dfl .u8) x.1 8);(if inb 9 x.1.length then if inb 10 x.1.length then let k:=(w64<|(w64<|256 * (w64<|rd (dfl .u8) x.1 9))+(w64<|rd (dfl .u8) x.1 10));(if(A0 (0<=15)&&A0 (15<=(x.1.length:Int)))&&(A0 (0<=11)&&A0 (11<=15)) then let l:=(BH<|Bs (AM 11)<|BU (AM 15) x.1);I (.inr (x.1,(0,0,0,0,0,0,0,0,0,noB,()),(b,c,d,e,f,g,h,j,k,l,()),())) else U) else U else U) else U else I (.inr (x.1,(0,0,0,0,0,0,0,0,0,noB,()),(b,c,d,e,f,g,h,0,0,noB,()),())))) else U else U else U else U else U else U else U else U
def ic:Ent:=(15,U,⟨[.fz .u8],[Z4,.bool],Uv⟩)
def vi:SQ Tryz.prog ic:=sk (v:=t1<|t1<|t1<|.join [(0,.sl .u8),(2,Z5),(4,Z5)] .nil .nil) (fn:=Tryz.f15) ajb kN
def alu:Cx:=cX [] [] []
def apF:OKC Tryz.prog alu AF:=okc mixed<|AL
def V7(x:List AT×Int×A2):Option ((List AT×A2)×A2):=if A0 (0<=x.2.1)&&A0 (x.2.1<=(x.1.length:Int)) then if Ac (([]:List AT).length+(BU (AM x.2.1) x.1).length) then if A0 (0<=(w64<|x.2.1+1))&&A0 ((w64<|x.2.1+1)<=(x.1.length:Int)) then if Ac ((([]:List AT)++(BU (AM x.2.1) x.1)).length+(Bs (AM<|w64<|x.2.1+1) x.1).length) then I ((((([]:List AT)++(BU (AM x.2.1) x.1))++(Bs (AM<|w64<|x.2.1+1) x.1)),()),()) else U else U else U else U
def yv:Ent:=(106,U,⟨[.fz .Ai,.int .i64],[.row 53 .Ai],V7⟩)
def ano:SQ Tryz.prog yv:=sk (v:= .nil) (fn:=Tryz.f106) apF kN
def axb:Cx:=cX [JU,TK] [] []
def aew:OKC Tryz.prog axb AF:=okc mixed<|gC KK<|gC fa<|AL
def Gq(x:Y1×A2):Option ((Y4×A2)×A2):=(I6 x).bind λa=>if !a.1.1 then I (((0,0,0,([]:List A7),([]:List Mark),([]:List A7),()),()),()) else(JK (x.1.1,x.1.2.2.1,())).bind λb=>I ((b.1.1,()),())
def JC:Ent:=(12,U,⟨[Z14],[Z6],Gq⟩)
def KQ:SQ Tryz.prog JC:=sk (v:= .nil) (fn:=Tryz.f12) aew kN
def akd:Cx:=cX [FF] [] []
def an7:OKC Tryz.prog akd AF:=okc mixed<|gC FK<|AL
def cP(x:A4×A2):Option ((Bool×A2)×A2):=(C4 ((x.1.size:Int),1,60,())).bind λa=>I (a.1,())
def iT:Ent:=(185,U,⟨[.str],[.bool],cP⟩)
def yj:SQ Tryz.prog iT:=sk (v:= .nil) (fn:=Tryz.f185) an7 kN
def arb:Cx:=cX [S9] [] []
def afr:OKC Tryz.prog arb AF:=okc mixed<|gC Tr<|AL
def PS(x:A4×A2):Option ((A4×A2)×A2):=(J2 ((x.1.size:Int),())).bind λa=>if A0 (a.1.1.size+(B [58]).size<=4611686018427387904) then if A0 ((a.1.1++(B [58])).size+x.1.size<=4611686018427387904) then if A0 (((a.1.1++(B [58]))++x.1).size+(B [59]).size<=4611686018427387904) then let b:=(((a.1.1++(B [58]))++x.1)++(B [59]));I ((b,()),()) else U else U else U
def jZ:Ent:=(186,U,⟨[.str],[.str],PS⟩)
def zu:SQ Tryz.prog jZ:=sk (v:= .nil) (fn:=Tryz.f186) afr kN
def agN:Cx:=cX [QR,iT,jZ] [] [(23,25)]
def aaD:OKC Tryz.prog agN AF:=okc mixed<|gC VL<|gC yj<|gC zu<|AL
def Qg(x:Y7×Y7×A4×List A4×Int×Int×A2):Rnd (Y7×Y7×A4×List A4×Int×Int×A2) (Y7×Bool×A2) (Y7×Y7×A4×A2):=if A0 (x.2.2.2.2.2.1<x.2.2.2.2.1) then if inb x.2.2.2.2.2.1 x.2.2.2.1.length then let a:=(rd (dfl .str) x.2.2.2.1 x.2.2.2.2.2.1);(cP (a,())).bind λc=>if(!c.1.1)||(A0<|2400<(x.2.2.1.size:Int)) then I (.inr<|.inl (x.1,A3,())) else(PS (a,())).bind λb=>if A0 (x.2.2.1.size+b.1.1.size<=4611686018427387904) then I (.inl (x.1,x.2.1,(x.2.2.1++b.1.1),x.2.2.2.1,x.2.2.2.2.1,(w64<|x.2.2.2.2.2.1+1),())) else U else U else I (.inr<|.inr (x.1,x.2.1,x.2.2.1,()))
def Qr:=AW Qg
def abN:Loop:=⟨[(2,Z21),(4,Z21),(6,.str),(13,.sl .str),(14,.int .i64),(15,.int .i64)],[(2,Z21),(4,Z21),(6,.str)],0,[(4,Z21),(5,.bool)],Qr⟩
def axN:LF Tryz.f153 [] [1,1,1,0,1,0,0] abN:=sq (v:= .nil) aaD (b:=Qg) kN
def Qy(x:Y7×List A4×A2):Option ((Y7×Bool×A2)×A2):=(O1 (x.1,())).bind λb=>if !b.1.1 then I (((noB,0,()),A3,()),()) else(AO (Qr (x.1,(noB,0,()),noB,x.2.1,(x.2.1.length:Int),0,())) (λa=>I (a,())) λa=>(if A0 (2400<(a.2.2.1.size:Int)) then I ((a.1,A3,()),()) else I (((a.2.2.1,(a.2.2.1.size:Int),()),A1,()),())))
def oX:Ent:=(153,U,⟨[Z15,.fz .str],[Z15,.bool],Qy⟩)
def acC:SQ Tryz.prog oX:=sk (v:=t1<|t1<|t1<|.two (t1<|.one<|.loop abN) .nil) (fn:=Tryz.f153) aaD<|kC axN kN
def aqF:Cx:=cX [S9] [] []
def afd:OKC Tryz.prog aqF AF:=okc mixed<|gC Tr<|AL
def PY(x:A4×Int×Int×Int×A2):Option ((A4×A2)×A2):=if A0 (x.1.size+(B [32]).size<=4611686018427387904) then(J2 (x.2.1,())).bind λa=>if A0 ((x.1++(B [32])).size+a.1.1.size<=4611686018427387904) then if A0 (((x.1++(B [32]))++a.1.1).size+(B [32]).size<=4611686018427387904) then(J2 (x.2.2.1,())).bind λb=>if A0 ((((x.1++(B [32]))++a.1.1)++(B [32])).size+b.1.1.size<=4611686018427387904) then if A0 (((((x.1++(B [32]))++a.1.1)++(B [32]))++b.1.1).size+(B [32]).size<=4611686018427387904) then(J2 x.2.2.2).bind λc=>if A0 ((((((x.1++(B [32]))++a.1.1)++(B [32]))++b.1.1)++(B [32])).size+c.1.1.size<=4611686018427387904) then let d:=((((((x.1++(B [32]))++a.1.1)++(B [32]))++b.1.1)++(B [32]))++c.1.1);I ((d,()),()) else U else U else U else U else U else U
def YX:Ent:=(147,U,⟨[.str,.int .i64,.int .i64,.int .i64],[.str],PY⟩)
def gr:SQ Tryz.prog YX:=sk (v:= .nil) (fn:=Tryz.f147) afd kN
def axF:Cx:=cX [X1,YX,Th,S9,pv] [] []
def aS:OKC Tryz.prog axF AF:=okc mixed<|gC gD<|gC gr<|gC YD<|gC Tr<|gC u9<|AL
def XH(x:List A4×List A7×Int×Int×A2):Rnd (List A4×List A7×Int×Int×A2) (A2) (List A4×A2):=if A0 (x.2.2.2.1<x.2.2.1) then if inb x.2.2.2.1 x.2.1.length then let rC:=(rd (dfl .note) x.2.1 x.2.2.2.1).fr;let a:=(rd (dfl .note) x.2.1 x.2.2.2.1).nu;let azp:=(rd (dfl .note) x.2.1 x.2.2.2.1).to;let b:=(rd (dfl .note) x.2.1 x.2.2.2.1).un;let awf:=(rd (dfl .note) x.2.1 x.2.2.2.1).tx;(Ma ((rC,a,azp,b,awf,()),())).bind λlT=>if A0 ((B [105,110,98,111,120,32]).size+lT.1.1.size<=4611686018427387904) then if Ac (x.1.length+([((B [105,110,98,111,120,32])++lT.1.1)]:List A4).length) then I (.inl ((x.1++([((B [105,110,98,111,120,32])++lT.1.1)]:List A4)),x.2.1,x.2.2.1,(w64<|x.2.2.2.1+1),())) else U else U else U else I (.inr<|.inr (x.1,()))
def Yf:=AW XH
def aEQ:Loop:=⟨[(3,.row 9 .str),(66,.sl .note),(67,.int .i64),(68,.int .i64)],[(3,.row 9 .str)],4,[],Yf⟩
def aiT:LF Tryz.f154 [] [1,1,1,1,1,1,1,0,1,0,0] aEQ:=sq (v:= .nil) aS (b:=XH) kN
def cY(x:Y4×List A4×List A7×Int×Int×A2):Rnd (Y4×List A4×List A7×Int×Int×A2) (A2) (Y4×List A4×A2):=if A0 (x.2.2.2.2.1<x.2.2.2.1) then if inb x.2.2.2.2.1 x.2.2.1.length then let b:=(rd (dfl .note) x.2.2.1 x.2.2.2.2.1).fr;let c:=(rd (dfl .note) x.2.2.1 x.2.2.2.2.1).nu;let d:=(rd (dfl .note) x.2.2.1 x.2.2.2.2.1).to;let e:=(rd (dfl .note) x.2.2.1 x.2.2.2.2.1).un;let f:=(rd (dfl .note) x.2.2.1 x.2.2.2.2.1).tx;(Ma ((b,c,d,e,f,()),())).bind λa=>if A0 ((B [104,101,108,100,32]).size+a.1.1.size<=4611686018427387904) then if Ac (x.2.1.length+([((B [104,101,108,100,32])++a.1.1)]:List A4).length) then I (.inl (x.1,(x.2.1++([((B [104,101,108,100,32])++a.1.1)]:List A4)),x.2.2.1,x.2.2.2.1,(w64<|x.2.2.2.2.1+1),())) else U else U else U else I (.inr<|.inr (x.1,x.2.1,()))
def YB:=AW cY
def uT:Loop:=⟨[(1,Z9),(3,.row 9 .str),(52,.sl .note),(53,.int .i64),(54,.int .i64)],[(1,Z9),(3,.row 9 .str)],2,[],YB⟩
def asL:LF Tryz.f154 [] [1,1,1,1,1,1,0,1,0,0] uT:=sq (v:= .nil) aS (b:=cY) kN
def Wf(x:Y4×List A4×List Mark×Int×Int×A2):Rnd (Y4×List A4×List Mark×Int×Int×A2) (A2) (Y4×List A4×A2):=if A0 (x.2.2.2.2.1<x.2.2.2.1) then if inb x.2.2.2.2.1 x.2.2.1.length then let b:=(rd (dfl .mark) x.2.2.1 x.2.2.2.2.1).mf;let c:=(rd (dfl .mark) x.2.2.1 x.2.2.2.2.1).mn;let d:=(rd (dfl .mark) x.2.2.1 x.2.2.2.2.1).mu;(PY ((B [109,97,114,107]),b,c,d,())).bind λa=>if Ac (x.2.1.length+([a.1.1]:List A4).length) then I (.inl (x.1,(x.2.1++([a.1.1]:List A4)),x.2.2.1,x.2.2.2.1,(w64<|x.2.2.2.2.1+1),())) else U else U else I (.inr<|.inr (x.1,x.2.1,()))
def Wr:=AW Wf
def aDU:Loop:=⟨[(1,Z9),(3,.row 9 .str),(34,.sl .mark),(35,.int .i64),(36,.int .i64)],[(1,Z9),(3,.row 9 .str)],0,[],Wr⟩
def amj:LF Tryz.f154 [] [1,1,1,1,1,0,1,0,0] aDU:=sq (v:= .nil) aS (b:=Wf) kN
def Ud(x:Y4×A2):Option ((List A4×A2)×A2):=(OO x).bind λg=>if !g.1.1 then I ((([]:List A4),()),()) else(BF (X:=Y4×List A4×A2) (λa=>(BF (X:=Y4×List A4×A2) (λb=>(AO (Wr (b.1,b.2.1,b.1.2.2.2.2.1,(b.1.2.2.2.2.1.length:Int),0,())) (λ_=>U) λc=>(AO (YB (c.1,c.2.1,c.1.2.2.2.1,(c.1.2.2.2.1.length:Int),0,())) (λ_=>U) λd=>(AO (Yf (d.2.1,d.1.2.2.2.2.2.1,(d.1.2.2.2.2.2.1.length:Int),0,())) (λ_=>U) λrq=>(QH rq).bind λsB=>I (sB.1,())))))<|(if A0 (1<a.1.2.2.1) then(J2 (a.1.2.2.1,())).bind λe=>if A0 ((B [110,101,120,116,32]).size+e.1.1.size<=4611686018427387904) then if Ac (a.2.1.length+([((B [110,101,120,116,32])++e.1.1)]:List A4).length) then I (.inr (a.1,(a.2.1++([((B [110,101,120,116,32])++e.1.1)]:List A4)),())) else U else U else I (.inr a))))<|(if A0 (0<x.1.2.1) then(J2 (x.1.2.1,())).bind λf=>if A0 ((B [116,105,109,101,32]).size+f.1.1.size<=4611686018427387904) then if Ac ([((B [116,105,109,101,32])++f.1.1)]:List A4).length then I (.inr (x.1,([((B [116,105,109,101,32])++f.1.1)]:List A4),())) else U else U else I (.inr (x.1,([]:List A4),()))))
def gB:Ent:=(154,U,⟨[Z10],[.row 9 .str],Ud⟩)
def aAR:SQ Tryz.prog gB:=sk (v:=t1<|t1<|t1<|.join [(1,Z9),(3,.row 9 .str)] .nil<|.join [(1,Z9),(3,.row 9 .str)] .nil<|.two (t1<|.one<|.loop aDU)<|.two (t1<|.one<|.loop uT)<|.two (t1<|.one<|.loop aEQ) .nil) (fn:=Tryz.f154) aS<|kC amj<|kC asL<|kC aiT kN
def aiF:Cx:=cX [QR,iT,jZ] [] [(14,21)]
def afF:OKC Tryz.prog aiF AF:=okc mixed<|gC VL<|gC yj<|gC zu<|AL
def R8(x:Y7×A4×A2):Option ((Y7×Bool×A2)×A2):=(O1 (x.1,())).bind λc=>if !c.1.1 then I (((noB,0,()),A3,()),()) else(cP x.2).bind λa=>if Ad (!(!a.1.1)) ((PS x.2).isSome) then if(!a.1.1)||(A0<|2400<(w64<|(x.1.1.size:Int)+((((PS x.2).getD ((noB,()),())).1.1).size:Int))) then I ((x.1,A3,()),()) else(PS x.2).bind λb=>if A0 (x.1.1.size+b.1.1.size<=4611686018427387904) then I ((((x.1.1++b.1.1),x.1.2),A1,()),()) else U else U
def adT:Ent:=(180,U,⟨[Z15,.str],[Z15,.bool],R8⟩)
def atC:SQ Tryz.prog adT:=sk (v:= .nil) (fn:=Tryz.f180) afF kN
def azt:Cx:=cX [TK,gh,oX,gB,adT] [] []
def ayc:OKC Tryz.prog azt AF:=okc mixed<|gC fa<|gC aAH<|gC acC<|gC aAR<|gC atC<|AL
def NR(x:Y1×A4×A2):Option ((Y1×Bool×A2)×A2):=(JK (x.1.1,x.1.2.2.1,())).bind λb=>(Pu (b.1.1,x.2)).bind λe=>if !e.1.2.1 then I ((x.1,A3,()),()) else(R8 ((x.1.2.2.1,x.1.2.2.2.1,()),x.2)).bind λc=>(BF (X:=Y1×Y1×Y7×Bool×A2) (λa=>if !a.2.2.2.1 then I ((a.1,A3,()),()) else I (((a.1.1,a.1.2.1,a.2.2.1.1,a.2.2.1.2.1,a.1.2.2.2.2),A1,()),()))<|(if !c.1.2.1 then(Ud (b.1.1,())).bind λf=>(Qy ((x.1.2.2.1,x.1.2.2.2.1,()),f.1)).bind λd=>if !d.1.2.1 then I (.inl ((x.1,A3,()),())) else(R8 (d.1.1,x.2)).bind λg=>I (.inr (x.1,(0,A3,noB,0,([]:List AH),()),g.1)) else I (.inr (x.1,(0,A3,noB,0,([]:List AH),()),c.1))))
def dT:Ent:=(146,U,⟨[Z14,.str],[Z14,.bool],NR⟩)
def ng:SQ Tryz.prog dT:=sk (v:=t1<|t1<|t1<|t1<|.join [(2,Z19),(4,Z20),(10,Z21),(11,.bool)] .nil .nil) (fn:=Tryz.f146) ayc kN
def auq:Cx:=cX [QR] [] []
def alz:OKC Tryz.prog auq AF:=okc mixed<|gC VL<|AL
def Xs(x:Y7×A2):Option ((Y7×A2)×A2):=(O1 x).bind λa=>if !a.1.1 then I (((noB,0,()),()),()) else I (((x.1.1,(x.1.1.size:Int),()),()),())
def aC3:Ent:=(187,U,⟨[Z15],[Z15],Xs⟩)
def avG:SQ Tryz.prog aC3:=sk (v:= .nil) (fn:=Tryz.f187) alz kN
def ae7:Cx:=cX [aC3] [] []
def axI:OKC Tryz.prog ae7 AF:=okc mixed<|gC avG<|AL
def Nj(x:Y1×A2):Option ((Y1×A2)×A2):=(Xs ((x.1.2.2.1,x.1.2.2.2.1,()),())).bind λa=>I (((x.1.1,x.1.2.1,a.1.1.1,a.1.1.2.1,x.1.2.2.2.2),()),())
def X6:Ent:=(155,U,⟨[Z14],[Z14],Nj⟩)
def mb:SQ Tryz.prog X6:=sk (v:= .nil) (fn:=Tryz.f155) axI kN
def ahs:Cx:=cX [] [] []
def ar7:OKC Tryz.prog ahs AF:=okc mixed<|AL
def Wt(x:Int×Y3×A2):Option ((List Frame×A2)×A2):=I ((([(Frame.mk x.1 x.2.1.2.2.1 x.2.1.2.1 x.2.1.2.2.2.1 x.2.1.2.2.2.2.1 x.2.1.2.2.2.2.2.1 x.2.1.2.2.2.2.2.2.1 0 0 noB)]:List Frame),()),())
def tr:Ent:=(176,U,⟨[.int .i64,Z4],[.row 49 .frame],Wt⟩)
def auo:SQ Tryz.prog tr:=sk (v:= .nil) (fn:=Tryz.f176) ar7 kN
def ayi:Cx:=cX [] [(28,28)] []
def zX:OKC Tryz.prog ayi AF:=okc mixed<|AL
def eF(x:Y8×List AQ×List AQ×Int×Int×A2):Rnd (Y8×List AQ×List AQ×Int×Int×A2) (A2) (Y8×List AQ×A2):=if A0 (x.2.2.2.2.1<x.2.2.2.1) then if inb x.2.2.2.2.1 x.2.2.1.length then let a:=(rd (dfl .mixed) x.2.2.1 x.2.2.2.2.1).nu;let b:=(rd (dfl .mixed) x.2.2.1 x.2.2.2.2.1).da;if !decide (a=x.1.1) then if Ac (x.2.1.length+([(AQ.mk a b)]:List AQ).length) then I (.inl (x.1,(x.2.1++([(AQ.mk a b)]:List AQ)),x.2.2.1,x.2.2.2.1,(w64<|x.2.2.2.2.1+1),())) else U else I (.inl (x.1,x.2.1,x.2.2.1,x.2.2.2.1,(w64<|x.2.2.2.2.1+1),())) else U else I (.inr<|.inr (x.1,x.2.1,()))
def aB:=AW eF
def zp:Loop:=⟨[(3,Z35),(5,.row 123 .mixed),(8,.sl .mixed),(9,.int .i64),(10,.int .i64)],[(3,Z35),(5,.row 123 .mixed)],0,[],aB⟩
def akc:LF Tryz.f178 [] [1,1,0,1,0,0] zp:=sq (v:= .nil) zX (b:=eF) kN
def bQ(x:List AQ×Y8×A2):Option ((List AQ×A2)×A2):=(AO (aB (x.2.1,([]:List AQ),x.1,(x.1.length:Int),0,())) (λ_=>U) λa=>(if A0 (14<=(a.2.1.length:Int)) then if A0 (0<=1)&&A0 (1<=(a.2.1.length:Int)) then if Ac ((Bs (AM 1) a.2.1).length+([(AQ.mk a.1.1 a.1.2.1)]:List AQ).length) then I ((((Bs (AM 1) a.2.1)++([(AQ.mk a.1.1 a.1.2.1)]:List AQ)),()),()) else U else U else if Ac (a.2.1.length+([(AQ.mk a.1.1 a.1.2.1)]:List AQ).length) then I (((a.2.1++([(AQ.mk a.1.1 a.1.2.1)]:List AQ)),()),()) else U))
def xI:Ent:=(178,U,⟨[.fz .mixed,Z16],[.row 123 .mixed],bQ⟩)
def aoZ:SQ Tryz.prog xI:=sk (v:=t1<|t1<|.two (t1<|.one<|.loop zp) .nil) (fn:=Tryz.f178) zX<|kC akc kN
def axi:Cx:=cX [FF] [] [(8,9)]
def apd:OKC Tryz.prog axi AF:=okc mixed<|gC FK<|AL
def Vj(x:Int×Int×A2):Option ((Bool×A2)×A2):=(C4 (x.1,1,6,())).bind λa=>if Ad a.1.1 ((C4 (x.2.1,0,999,())).isSome) then let b:=(a.1.1&&(((C4 (x.2.1,0,999,())).getD ((A3,()),())).1.1));I ((b,()),()) else U
def lj:Ent:=(217,U,⟨[.int .i64,.int .i64],[.bool],Vj⟩)
def yx:SQ Tryz.prog lj:=sk (v:= .nil) (fn:=Tryz.f217) apd kN
def auJ:Cx:=cX [FF] [] []
def awD:OKC Tryz.prog auJ AF:=okc mixed<|gC FK<|AL
def OR(x:Int×A2):Option ((Int×A2)×A2):=(C4 (x.1,0,65535,())).bind λa=>if !a.1.1 then I ((0,()),()) else let b:=(BC (w64<|(w64<|25173 * x.1)+13849) 65536);I ((b,()),())
def qb:Ent:=(218,U,⟨[.int .i64],[.int .i64],OR⟩)
def uL:SQ Tryz.prog qb:=sk (v:= .nil) (fn:=Tryz.f218) awD kN
def am2:Cx:=cX [lj,qb] [] []
def oZ:OKC Tryz.prog am2 AF:=okc mixed<|gC yx<|gC uL<|AL
def zM(x:Int×List Int×Int×Int×Int×A2):Rnd (Int×List Int×Int×Int×Int×A2) (Int×A2) (Int×A2):=if A0 (x.2.2.2.2.1<=x.1) then if inb x.2.2.2.2.1 x.2.1.length then let a:=(w64<|x.2.2.2.1+(rd (dfl .int) x.2.1 x.2.2.2.2.1));(if A0 (x.2.2.1<a) then I (.inr<|.inl x.2.2.2.2) else I (.inl (x.1,x.2.1,x.2.2.1,a,(w64<|x.2.2.2.2.1+1),()))) else U else I (.inr<|.inr (x.1,()))
def Yv:=AW zM
def acP:Loop:=⟨[(0,.int .i64),(5,.row 3 .int),(8,.int .i64),(9,.int .i64),(10,.int .i64)],[(0,.int .i64)],2,[(4,.int .i64)],Yv⟩
def aqL:LF Tryz.f219 [] [1,1,1,1,1,1,1,1,0,1,0,0] acP:=sq (v:= .nil) oZ (b:=zM) kN
def aCL(x:Int×Int×List Int×Int×Int×A2):Rnd (Int×Int×List Int×Int×Int×A2) (A2) (Int×Int×List Int×Int×A2):=if A0 (x.2.2.2.2.1<=x.1) then if !decide ((w64<|x.2.2.2.2.1 * (w64<|x.2.2.2.2.1 - 1))=0) then if Ac (x.2.2.1.length+([(w64<|B0 60<|w64<|x.2.2.2.2.1 * (w64<|x.2.2.2.2.1 - 1))]:List Int).length) then if inb x.2.2.2.2.1 ((x.2.2.1++([(w64<|B0 60<|w64<|x.2.2.2.2.1 * (w64<|x.2.2.2.2.1 - 1))]:List Int)).length) then let a:=(w64<|x.2.2.2.1+(rd (dfl .int) (x.2.2.1++([(w64<|B0 60<|w64<|x.2.2.2.2.1 * (w64<|x.2.2.2.2.1 - 1))]:List Int)) x.2.2.2.2.1));I (.inl (x.1,x.2.1,(x.2.2.1++([(w64<|B0 60<|w64<|x.2.2.2.2.1 * (w64<|x.2.2.2.2.1 - 1))]:List Int)),a,(w64<|x.2.2.2.2.1+1),())) else U else U else U else I (.inr<|.inr (x.1,x.2.1,x.2.2.1,x.2.2.2.1,()))
def Zn:=AW aCL
def ab3:Loop:=⟨[(0,.int .i64),(1,.int .i64),(5,.row 3 .int),(6,.int .i64),(7,.int .i64)],[(0,.int .i64),(1,.int .i64),(5,.row 3 .int),(6,.int .i64)],0,[],Zn⟩
def aum:LF Tryz.f219 [] [1,1,1,1,1,0,1,0,0] ab3:=sq (v:= .nil) oZ (b:=aCL) kN
def Zl(x:Int×Int×A2):Option ((Int×A2)×A2):=(Vj x).bind λc=>if !c.1.1 then I ((0,()),()) else if A0 (x.2.1<x.1) then I ((1,()),()) else if !decide (x.1=0) then if inb 1 (([0,(w64<|(w64<|B0 60 x.1)+10)]:List Int).length) then let d:=(rd (dfl .int) ([0,(w64<|(w64<|B0 60 x.1)+10)]:List Int) 1);(AO (Zn (x.1,x.2.1,([0,(w64<|(w64<|B0 60 x.1)+10)]:List Int),d,2,())) (λ_=>U) (λa=>(OR ((w64<|(w64<|31 * a.2.1)+a.1),())).bind λe=>(OR e.1).bind λf=>if !decide (a.2.2.2.1=0) then let g:=(BC (w64<|B0 f.1.1 16) a.2.2.2.1);(AO (Yv (a.1,a.2.2.1,g,0,1,())) (λb=>I (b,())) λb=>I (b,())) else U)) else U else U
def acv:Ent:=(219,U,⟨[.int .i64,.int .i64],[.int .i64],Zl⟩)
def am8:SQ Tryz.prog acv:=sk (v:=t1<|t1<|t1<|t1<|t1<|.two (t1<|.one<|.loop ab3)<|t1<|t1<|.two (t1<|.one<|.loop acP) .nil) (fn:=Tryz.f219) oZ<|kC aum<|kC aqL kN
def atw:Cx:=cX [] [] []
def af7:OKC Tryz.prog atw AF:=okc mixed<|AL
def gi(x:List Int×A2):Option ((List Int×A2)×A2):=if A0 ((x.1.length:Int)=0) then I ((([]:List Int),()),()) else if A0 (0<=(x.1.length:Int))&&A0 ((x.1.length:Int)<=4294967296) then I (((BU (BW (AM (x.1.length:Int))<|dfl .int).length x.1++Bs x.1.length (BW (AM (x.1.length:Int))<|dfl .int)),()),()) else U
def wD:Ent:=(220,U,⟨[.fz .int],[.row 3 .int],gi⟩)
def arR:SQ Tryz.prog wD:=sk (v:= .nil) (fn:=Tryz.f220) af7 kN
def aqH:Cx:=cX [lj,qb,acv,wD] [] []
def eC:OKC Tryz.prog aqH AF:=okc mixed<|gC yx<|gC uL<|gC am8<|gC arR<|AL
def Su(x:Int×List Bool×Int×Int×Int×A2):Rnd (Int×List Bool×Int×Int×Int×A2) (A2) (Int×List Bool×Int×Int×Int×A2):=if inb x.2.2.2.2.1 x.2.1.length then if rd (dfl .bool) x.2.1 x.2.2.2.2.1 then if !decide (x.1=0) then let a:=(BC (w64<|x.2.2.2.2.1+1) x.1);I (.inl (x.1,x.2.1,x.2.2.1,x.2.2.2.1,a,())) else U else I (.inr<|.inr x) else U
def Xj:=AW Su
def abB:Loop:=⟨[(0,.int .i64),(5,.abx 212 .bool),(6,.int .i64),(7,.int .i64),(8,.int .i64)],[(0,.int .i64),(5,.abx 212 .bool),(6,.int .i64),(7,.int .i64),(8,.int .i64)],2,[],Xj⟩
def ai7:LF Tryz.f183 [] [1,1,1,1,1,0,1,0,0,1,0,0,1,1,0,0,0] abB:=sq (v:= .nil) eC (b:=Su) kN
def mq(x:List Int×List Bool×Int×A2):Rnd (List Int×List Bool×Int×A2) (A2) (List Int×A2):=if A0 (x.2.2.1<6) then if inb x.2.2.1 x.2.1.length&&inb x.2.2.1 6 then let a:=(rd (dfl .bool) x.2.1 x.2.2.1);(if a then if Ac (x.1.length+([x.2.2.1]:List Int).length) then I (.inl ((x.1++([x.2.2.1]:List Int)),x.2.1,(w64<|x.2.2.1+1),())) else U else I (.inl (x.1,x.2.1,(w64<|x.2.2.1+1),()))) else U else I (.inr<|.inr (x.1,()))
def jP:=AW mq
def xp:Loop:=⟨[(9,.row 3 .int),(47,.arr .bool),(48,.int .i64)],[(9,.row 3 .int)],4,[],jP⟩
def aeZ:LF Tryz.f183 [] [1,1,1,1,1,1,1,0,1,0,0] xp:=sq (v:= .nil) eC (b:=mq) kN
def jE(x:Int×List Bool×Int×Int×A2):Rnd (Int×List Bool×Int×Int×A2) (A2) (List Bool×A2):=if A0 (0<x.2.2.2.1) then(OR (x.2.2.1,())).bind λb=>if !decide (x.1=0) then let c:=(BC (w64<|B0 b.1.1 16) x.1);(AO (Xj (x.1,x.2.1,b.1.1,x.2.2.2.1,c,())) (λ_=>I<|.inr<|.inl ()) λa=>(if inb a.2.2.2.2.1 a.2.1.length then I (.inl (a.1,(Bq a.2.1 (AM a.2.2.2.2.1) A1),a.2.2.1,(w64<|a.2.2.2.1 - 1),())) else U)) else U else I (.inr<|.inr (x.2.1,()))
def lf:=AW jE
def xd:Loop:=⟨[(0,.int .i64),(5,.abx 212 .bool),(6,.int .i64),(7,.int .i64)],[(5,.abx 212 .bool)],0,[],lf⟩
def azg:LF Tryz.f183 [] [1,1,1,1,1,0,1,0,0] xd:=sq (v:=t1<|.two (.one<|t1<|t1<|.two (.one<|.loop abB) .nil) .nil) eC (b:=jE)<|kC ai7 kN
def Uf(x:Int×Int×A2):Option ((List Int×A2)×A2):=(Vj x).bind λa=>if !a.1.1 then I ((([]:List Int),()),()) else if A0 (x.2.1<x.1) then I ((([x.2.1]:List Int),()),()) else(OR ((w64<|(w64<|7 * x.2.1)+1),())).bind λb=>(Zl x).bind λc=>(AO (lf (x.1,(BW 6<|dfl .bool),b.1.1,c.1)) (λ_=>U) λd=>(AO (jP (([]:List Int),d.1,0,())) (λ_=>U) λe=>(gi e).bind λf=>I (f.1,())))
def n7:Ent:=(183,U,⟨[.int .i64,.int .i64],[.row 3 .int],Uf⟩)
def yE:SQ Tryz.prog n7:=sk (v:=t1<|t1<|t1<|t1<|t1<|.two (t1<|.one<|.loop xd)<|t1<|.two (t1<|.one<|.loop xp) .nil) (fn:=Tryz.f183) eC<|kC azg<|kC aeZ kN
def aym:Cx:=cX [] [] []
def tI:OKC Tryz.prog aym AF:=okc mixed<|AL
def vD(x:A4×List Int×Int×Int×A2):Rnd (A4×List Int×Int×Int×A2) (A2) (List Int×A2):=if A0 (x.2.2.2.1<x.2.2.1) then if inb x.2.2.2.1 x.2.1.length then if inb x.2.2.2.1 x.1.size then if inb x.2.2.2.1 x.2.1.length then let a:=(Dm .u8 (rd (dfl .u8) x.2.1 x.2.2.2.1)<|bt x.1 x.2.2.2.1);I (.inl (x.1,(Bq x.2.1 (AM x.2.2.2.1) a),x.2.2.1,(w64<|x.2.2.2.1+1),())) else U else U else U else I (.inr<|.inr (x.2.1,()))
def rp:=AW vD
def wS:Loop:=⟨[(1,.str),(5,.Cb 5 .u8),(10,.int .i64),(11,.int .i64)],[(5,.Cb 5 .u8)],0,[],rp⟩
def ait:LF Tryz.f184 [] [1,1,0,1,0,0] wS:=sq (v:= .nil) tI (b:=vD) kN
def SH(x:A4×A4×A2):Option ((A4×A2)×A2):=if Ac x.1.size then(AO (rp (x.2.1,(BA x.1),((BA x.1).length:Int),0,())) (λ_=>U) λa=>I (((BH a.1),()),())) else U
def kG:Ent:=(184,U,⟨[.str,.str],[.str],SH⟩)
def aad:SQ Tryz.prog kG:=sk (v:=t1<|t1<|.two (t1<|.one<|.loop wS) .nil) (fn:=Tryz.f184) tI<|kC ait kN
def am5:Cx:=cX [FF,n7,kG] [] [(31,34)]
def X7:OKC Tryz.prog am5 AF:=okc mixed<|gC FK<|gC yE<|gC aad<|AL
def VF(x:Int×List AQ×List A4×Bool×A4×Int×Int×List AQ×Int×Int×List Int×Int×Int×A2):Rnd (Int×List AQ×List A4×Bool×A4×Int×Int×List AQ×Int×Int×List Int×Int×Int×A2) (A2) (Int×List AQ×List A4×Bool×A4×Int×Int×List AQ×Int×Int×A2):=if A0 (x.2.2.2.2.2.2.2.2.2.2.2.2.1<x.2.2.2.2.2.2.2.2.2.2.2.1) then if inb x.2.2.2.2.2.2.2.2.2.2.2.2.1 x.2.2.2.2.2.2.2.2.2.2.1.length then let WJ:=(rd (dfl .int) x.2.2.2.2.2.2.2.2.2.2.1 x.2.2.2.2.2.2.2.2.2.2.2.2.1);(if inb WJ x.2.2.1.length then if A0 ((rd (dfl .str) x.2.2.1 WJ)=noB) then let azQ:=(w64<|x.2.2.2.2.2.2.1+1);I (.inl (x.1,x.2.1,x.2.2.1,x.2.2.2.1,x.2.2.2.2.1,WJ,azQ,x.2.2.2.2.2.2.2.1,x.2.2.2.2.2.2.2.2.1,x.2.2.2.2.2.2.2.2.2.1,x.2.2.2.2.2.2.2.2.2.2.1,x.2.2.2.2.2.2.2.2.2.2.2.1,(w64<|x.2.2.2.2.2.2.2.2.2.2.2.2.1+1),())) else if inb WJ x.2.2.1.length then(SH (x.2.2.2.2.1,(rd (dfl .str) x.2.2.1 WJ),())).bind λav5=>I (.inl (x.1,x.2.1,x.2.2.1,x.2.2.2.1,av5.1.1,x.2.2.2.2.2.1,x.2.2.2.2.2.2.1,x.2.2.2.2.2.2.2.1,x.2.2.2.2.2.2.2.2.1,x.2.2.2.2.2.2.2.2.2.1,x.2.2.2.2.2.2.2.2.2.2.1,x.2.2.2.2.2.2.2.2.2.2.2.1,(w64<|x.2.2.2.2.2.2.2.2.2.2.2.2.1+1),())) else U else U) else U else I (.inr<|.inr (x.1,x.2.1,x.2.2.1,x.2.2.2.1,x.2.2.2.2.1,x.2.2.2.2.2.1,x.2.2.2.2.2.2.1,x.2.2.2.2.2.2.2.1,x.2.2.2.2.2.2.2.2.1,x.2.2.2.2.2.2.2.2.2.1,()))
def dF:=AW VF
def wG:Loop:=⟨[(0,.int .i64),(1,.sl .mixed),(5,.row 9 .str),(6,.bool),(9,.str),(10,.int .i64),(11,.int .i64),(20,.sl .mixed),(21,.int .i64),(22,.int .i64),(41,.row 3 .int),(42,.int .i64),(43,.int .i64)],[(0,.int .i64),(1,.sl .mixed),(5,.row 9 .str),(6,.bool),(9,.str),(10,.int .i64),(11,.int .i64),(20,.sl .mixed),(21,.int .i64),(22,.int .i64)],4,[],dF⟩
def afS:LF Tryz.f215 [] [1,1,1,0,1,0,0,1,0,1,1,0,0,1,1,0,0,1,1,1,0,1,0,0] wG:=sq (v:= .nil) X7 (b:=VF) kN
def NL(x:Int×List AQ×List A4×Bool×List AQ×Int×Int×A2):Rnd (Int×List AQ×List A4×Bool×List AQ×Int×Int×A2) (A2) (Int×List AQ×List A4×Bool×A2):=if A0 (x.2.2.2.2.2.2.1<x.2.2.2.2.2.1) then if inb x.2.2.2.2.2.2.1 x.2.2.2.2.1.length then let uN:=(rd (dfl .mixed) x.2.2.2.2.1 x.2.2.2.2.2.2.1).nu;let a:=(rd (dfl .mixed) x.2.2.2.2.1 x.2.2.2.2.2.2.1).da;(C4 (uN,0,999,())).bind λao6=>if(!ao6.1.1)||(!decide ((a.size:Int)=4)) then I (.inl (x.1,x.2.1,x.2.2.1,x.2.2.2.1,x.2.2.2.2.1,x.2.2.2.2.2.1,(w64<|x.2.2.2.2.2.2.1+1),())) else(Uf (x.1,uN,())).bind λaDv=>(AO (dF (x.1,x.2.1,x.2.2.1,x.2.2.2.1,a,(-1),0,x.2.2.2.2.1,x.2.2.2.2.2.1,x.2.2.2.2.2.2.1,aDv.1.1,(aDv.1.1.length:Int),0,())) (λ_=>I<|.inr<|.inl ()) λGK=>(if A0 (GK.2.2.2.2.2.2.1=1) then if inb GK.2.2.2.2.2.1 GK.2.2.1.length then I (.inl (GK.1,GK.2.1,(Bq GK.2.2.1 (AM GK.2.2.2.2.2.1) GK.2.2.2.2.1),A1,GK.2.2.2.2.2.2.2.1,GK.2.2.2.2.2.2.2.2.1,(w64<|GK.2.2.2.2.2.2.2.2.2.1+1),())) else U else I (.inl (GK.1,GK.2.1,GK.2.2.1,GK.2.2.2.1,GK.2.2.2.2.2.2.2.1,GK.2.2.2.2.2.2.2.2.1,(w64<|GK.2.2.2.2.2.2.2.2.2.1+1),())))) else U else I (.inr<|.inr (x.1,x.2.1,x.2.2.1,x.2.2.2.1,()))
def W4:=AW NL
def aaj:Loop:=⟨[(0,.int .i64),(1,.sl .mixed),(5,.row 9 .str),(6,.bool),(20,.sl .mixed),(21,.int .i64),(22,.int .i64)],[(0,.int .i64),(1,.sl .mixed),(5,.row 9 .str),(6,.bool)],2,[],W4⟩
def ahM:LF Tryz.f215 [] [1,1,1,0,1,0,0,1,0,1,1,0,0] aaj:=sq (v:=t1<|t1<|.two (.one<|t1<|t1<|t1<|.two (t1<|.one<|.loop wG) .nil) .nil) X7 (b:=NL)<|kC afS kN
def iX(x:Int×List AQ×List A4×Bool×A2):Rnd (Int×List AQ×List A4×Bool×A2) (A2) (List A4×A2):=if x.2.2.2.1 then(AO (W4 (x.1,x.2.1,x.2.2.1,A3,x.2.1,(x.2.1.length:Int),0,())) (λ_=>I<|.inr<|.inl ()) λahh=>I<|.inl ahh) else I (.inr<|.inr (x.2.2.1,()))
def sC:=AW iX
def aDw:Loop:=⟨[(0,.int .i64),(1,.sl .mixed),(5,.row 9 .str),(6,.bool)],[(5,.row 9 .str)],0,[],sC⟩
def aoA:LF Tryz.f215 [] [1,1,1,0,1,0,0] aDw:=sq (v:=t1<|.one<|t1<|t1<|.one<|.loop aaj) X7 (b:=iX)<|kC ahM kN
def YL(x:Int×List AQ×A2):Option ((List A4×A2)×A2):=(C4 (x.1,1,6,())).bind λa=>if !a.1.1 then I ((([]:List A4),()),()) else if A0 (0<=x.1)&&A0 (x.1<=4294967296) then(AO (sC (x.1,x.2.1,(BW (AM x.1)<|dfl .str),A1,())) (λ_=>U) λaqP=>I (aqP,())) else U
def u7:Ent:=(215,U,⟨[.int .i64,.fz .mixed],[.row 9 .str],YL⟩)
def aus:SQ Tryz.prog u7:=sk (v:=t1<|t1<|t1<|.two (t1<|.one<|.loop aDw) .nil) (fn:=Tryz.f215) X7<|kC aoA kN
def asN:Cx:=cX [FF,u7] [] []
def qW:OKC Tryz.prog asN AF:=okc mixed<|gC FK<|gC aus<|AL
def YN(x:Int×A4×Int×A2):Rnd (Int×A4×Int×A2) (A4×Bool×A2) (Int×A4×A2):=if A0 (x.2.2.1<(x.2.1.size:Int)) then if inb x.2.2.1 x.2.1.size then if !decide ((bt x.2.1 x.2.2.1)=0) then I (.inr<|.inl (noB,A3,())) else I (.inl (x.1,x.2.1,(w64<|x.2.2.1+1),())) else U else I (.inr<|.inr (x.1,x.2.1,()))
def lO:=AW YN
def adB:Loop:=⟨[(0,.int .i64),(6,.str),(9,.int .i64)],[(0,.int .i64),(6,.str)],2,[(4,.str),(5,.bool)],lO⟩
def azl:LF Tryz.f179 [] [1,1,1,1,0,1,0,0] adB:=sq (v:= .nil) qW (b:=YN) kN
def U6(x:Int×A4×List A4×Int×Int×A2):Rnd (Int×A4×List A4×Int×Int×A2) (A4×Bool×A2) (Int×A4×A2):=if A0 (x.2.2.2.2.1<x.2.2.2.1) then if inb x.2.2.2.2.1 x.2.2.1.length then let a:=(rd (dfl .str) x.2.2.1 x.2.2.2.2.1);(if A0 (a=noB) then I (.inr<|.inl (noB,A3,())) else if A0 (x.2.1.size+a.size<=4611686018427387904) then I (.inl (x.1,(x.2.1++a),x.2.2.1,x.2.2.2.1,(w64<|x.2.2.2.2.1+1),())) else U) else U else I (.inr<|.inr (x.1,x.2.1,()))
def dP:=AW U6
def yQ:Loop:=⟨[(0,.int .i64),(6,.str),(18,.row 9 .str),(19,.int .i64),(20,.int .i64)],[(0,.int .i64),(6,.str)],0,[(4,.str),(5,.bool)],dP⟩
def azB:LF Tryz.f179 [] [1,1,1,0,1,0,0] yQ:=sq (v:= .nil) qW (b:=U6) kN
def Zj(x:Int×List AQ×A2):Option ((A4×Bool×A2)×A2):=(C4 (x.1,1,24,())).bind λd=>if !d.1.1 then I ((noB,A3,()),()) else(YL ((w64<|B0 (w64<|(w64<|x.1+4) - 1) 4),x.2)).bind λc=>(AO (dP (x.1,noB,c.1.1,(c.1.1.length:Int),0,())) (λb=>I (b,())) λb=>(AO (lO (b.1,b.2.1,b.1,())) (λa=>I (a,())) λa=>(if A0 (0<=a.1)&&A0 (a.1<=(a.2.1.size:Int)) then let e:=(a.2.1.extract (0)<|AM a.1);I ((e,A1,()),()) else U)))
def zo:Ent:=(179,U,⟨[.int .i64,.fz .mixed],[.str,.bool],Zj⟩)
def azM:SQ Tryz.prog zo:=sk (v:=t1<|t1<|t1<|.two (t1<|.one<|.loop yQ)<|.two (t1<|.one<|.loop adB) .nil) (fn:=Tryz.f179) qW<|kC azB<|kC azl kN
def awS:Cx:=cX [JC,Kj,gG,dT,Th,X6,tr,W6,xI,zo] [(85,85)] [(34,41)]
def ahp:OKC Tryz.prog awS AF:=okc mixed<|gC KQ<|gC Ln<|gC wK<|gC ng<|gC YD<|gC mb<|gC auo<|gC fu<|gC aoZ<|gC azM<|AL
def VU(x:Y1×Y3×A2):Option ((Y1×List Frame×A2)×A2):=(Gq (x.1,())).bind λc=>let i:=(A0<|x.2.1.2.2.2.2.2.2.1<=c.1.1.2.1);(if i then(Wt (3,x.2)).bind λj=>I ((x.1,j.1),()) else(Gl (c.1.1.2.2.2.1,x.2.1.2.2.2.1,x.2.1.2.2.2.2.1,())).bind λd=>if Ad (!(A0<|0<=d.1.1)) ((KB (c.1.1.2.2.2.2.1,x.2.1.2.2.2.1,x.2.1.2.2.2.2.1,())).isSome) then let k:=((A0<|0<=d.1.1)||(A0<|0<=((KB (c.1.1.2.2.2.2.1,x.2.1.2.2.2.1,x.2.1.2.2.2.2.1,())).getD ((0,()),())).1.1));(if k then(Nj (x.1,())).bind λl=>(Wt (2,x.2)).bind λm=>I ((l.1.1,m.1),()) else let n:=(A0<|x.2.1.2.2.2.1=x.1.1);(if n then I ((x.1,([]:List Frame),()),()) else(S5 (x.1.2.2.2.2.1,x.2.1.2.2.2.1,x.2.1.2.2.2.2.1,())).bind λe=>(BF (X:=Y1×Y3×Y1×Int×A2) (λa=>if inb a.2.2.2.1 a.1.2.2.2.2.1.length then if !decide ((rd (dfl .half) a.1.2.2.2.2.1 a.2.2.2.1).to=a.2.1.2.2.2.2.2.1) then I ((a.1,([]:List Frame),()),()) else if !decide ((rd (dfl .half) a.1.2.2.2.2.1 a.2.2.2.1).un=a.2.1.2.2.2.2.2.2.1) then I ((a.1,([]:List Frame),()),()) else if !decide ((rd (dfl .half) a.1.2.2.2.2.1 a.2.2.2.1).sz=a.2.1.2.2.2.2.2.2.2.1) then I ((a.1,([]:List Frame),()),()) else(bQ ((rd (dfl .half) a.1.2.2.2.2.1 a.2.2.2.1).got,a.2.1.2.2.2.2.2.2.2.2,())).bind λb=>(Zj ((rd (dfl .half) (Bq a.1.2.2.2.2.1 (AM a.2.2.2.1)<|AH.mk ((rd (dfl .half) a.1.2.2.2.2.1 a.2.2.2.1).fr) ((rd (dfl .half) a.1.2.2.2.2.1 a.2.2.2.1).nu) ((rd (dfl .half) a.1.2.2.2.2.1 a.2.2.2.1).to) ((rd (dfl .half) a.1.2.2.2.2.1 a.2.2.2.1).un) ((rd (dfl .half) a.1.2.2.2.2.1 a.2.2.2.1).sz) b.1.1) a.2.2.2.1).sz,(rd (dfl .half) (Bq a.1.2.2.2.2.1 (AM a.2.2.2.1)<|AH.mk ((rd (dfl .half) a.1.2.2.2.2.1 a.2.2.2.1).fr) ((rd (dfl .half) a.1.2.2.2.2.1 a.2.2.2.1).nu) ((rd (dfl .half) a.1.2.2.2.2.1 a.2.2.2.1).to) ((rd (dfl .half) a.1.2.2.2.2.1 a.2.2.2.1).un) ((rd (dfl .half) a.1.2.2.2.2.1 a.2.2.2.1).sz) b.1.1) a.2.2.2.1).got,())).bind λf=>if !f.1.2.1 then I (((a.1.1,a.1.2.1,a.1.2.2.1,a.1.2.2.2.1,(Bq a.1.2.2.2.2.1 (AM a.2.2.2.1)<|AH.mk ((rd (dfl .half) a.1.2.2.2.2.1 a.2.2.2.1).fr) ((rd (dfl .half) a.1.2.2.2.2.1 a.2.2.2.1).nu) ((rd (dfl .half) a.1.2.2.2.2.1 a.2.2.2.1).to) ((rd (dfl .half) a.1.2.2.2.2.1 a.2.2.2.1).un) ((rd (dfl .half) a.1.2.2.2.2.1 a.2.2.2.1).sz) b.1.1),()),([]:List Frame),()),()) else if A0 (0<=a.2.2.2.1)&&A0 (a.2.2.2.1<=((Bq a.1.2.2.2.2.1 (AM a.2.2.2.1)<|AH.mk ((rd (dfl .half) a.1.2.2.2.2.1 a.2.2.2.1).fr) ((rd (dfl .half) a.1.2.2.2.2.1 a.2.2.2.1).nu) ((rd (dfl .half) a.1.2.2.2.2.1 a.2.2.2.1).to) ((rd (dfl .half) a.1.2.2.2.2.1 a.2.2.2.1).un) ((rd (dfl .half) a.1.2.2.2.2.1 a.2.2.2.1).sz) b.1.1).length:Int)) then if Ac (([]:List AH).length+(BU (AM a.2.2.2.1)<|Bq a.1.2.2.2.2.1 (AM a.2.2.2.1)<|AH.mk ((rd (dfl .half) a.1.2.2.2.2.1 a.2.2.2.1).fr) ((rd (dfl .half) a.1.2.2.2.2.1 a.2.2.2.1).nu) ((rd (dfl .half) a.1.2.2.2.2.1 a.2.2.2.1).to) ((rd (dfl .half) a.1.2.2.2.2.1 a.2.2.2.1).un) ((rd (dfl .half) a.1.2.2.2.2.1 a.2.2.2.1).sz) b.1.1).length) then if A0 (0<=(w64<|a.2.2.2.1+1))&&A0 ((w64<|a.2.2.2.1+1)<=((Bq a.1.2.2.2.2.1 (AM a.2.2.2.1)<|AH.mk ((rd (dfl .half) a.1.2.2.2.2.1 a.2.2.2.1).fr) ((rd (dfl .half) a.1.2.2.2.2.1 a.2.2.2.1).nu) ((rd (dfl .half) a.1.2.2.2.2.1 a.2.2.2.1).to) ((rd (dfl .half) a.1.2.2.2.2.1 a.2.2.2.1).un) ((rd (dfl .half) a.1.2.2.2.2.1 a.2.2.2.1).sz) b.1.1).length:Int)) then if Ac ((([]:List AH)++(BU (AM a.2.2.2.1)<|Bq a.1.2.2.2.2.1 (AM a.2.2.2.1)<|AH.mk ((rd (dfl .half) a.1.2.2.2.2.1 a.2.2.2.1).fr) ((rd (dfl .half) a.1.2.2.2.2.1 a.2.2.2.1).nu) ((rd (dfl .half) a.1.2.2.2.2.1 a.2.2.2.1).to) ((rd (dfl .half) a.1.2.2.2.2.1 a.2.2.2.1).un) ((rd (dfl .half) a.1.2.2.2.2.1 a.2.2.2.1).sz) b.1.1)).length+(Bs (AM<|w64<|a.2.2.2.1+1)<|Bq a.1.2.2.2.2.1 (AM a.2.2.2.1)<|AH.mk ((rd (dfl .half) a.1.2.2.2.2.1 a.2.2.2.1).fr) ((rd (dfl .half) a.1.2.2.2.2.1 a.2.2.2.1).nu) ((rd (dfl .half) a.1.2.2.2.2.1 a.2.2.2.1).to) ((rd (dfl .half) a.1.2.2.2.2.1 a.2.2.2.1).un) ((rd (dfl .half) a.1.2.2.2.2.1 a.2.2.2.1).sz) b.1.1).length) then(Ma ((a.2.1.2.2.2.1,a.2.1.2.2.2.2.1,a.2.1.2.2.2.2.2.1,a.2.1.2.2.2.2.2.2.1,f.1.1,()),())).bind λg=>if A0 ((B [116,97,107,101,32]).size+g.1.1.size<=4611686018427387904) then(NR ((a.1.1,a.1.2.1,a.1.2.2.1,a.1.2.2.2.1,((([]:List AH)++(BU (AM a.2.2.2.1)<|Bq a.1.2.2.2.2.1 (AM a.2.2.2.1)<|AH.mk ((rd (dfl .half) a.1.2.2.2.2.1 a.2.2.2.1).fr) ((rd (dfl .half) a.1.2.2.2.2.1 a.2.2.2.1).nu) ((rd (dfl .half) a.1.2.2.2.2.1 a.2.2.2.1).to) ((rd (dfl .half) a.1.2.2.2.2.1 a.2.2.2.1).un) ((rd (dfl .half) a.1.2.2.2.2.1 a.2.2.2.1).sz) b.1.1))++(Bs (AM<|w64<|a.2.2.2.1+1)<|Bq a.1.2.2.2.2.1 (AM a.2.2.2.1)<|AH.mk ((rd (dfl .half) a.1.2.2.2.2.1 a.2.2.2.1).fr) ((rd (dfl .half) a.1.2.2.2.2.1 a.2.2.2.1).nu) ((rd (dfl .half) a.1.2.2.2.2.1 a.2.2.2.1).to) ((rd (dfl .half) a.1.2.2.2.2.1 a.2.2.2.1).un) ((rd (dfl .half) a.1.2.2.2.2.1 a.2.2.2.1).sz) b.1.1)),()),((B [116,97,107,101,32])++g.1.1),())).bind λh=>if !h.1.2.1 then let o:=((([]:List AH)++(BU (AM a.2.2.2.1)<|Bq a.1.2.2.2.2.1 (AM a.2.2.2.1)<|AH.mk ((rd (dfl .half) a.1.2.2.2.2.1 a.2.2.2.1).fr) ((rd (dfl .half) a.1.2.2.2.2.1 a.2.2.2.1).nu) ((rd (dfl .half) a.1.2.2.2.2.1 a.2.2.2.1).to) ((rd (dfl .half) a.1.2.2.2.2.1 a.2.2.2.1).un) ((rd (dfl .half) a.1.2.2.2.2.1 a.2.2.2.1).sz) b.1.1))++(Bs (AM<|w64<|a.2.2.2.1+1)<|Bq a.1.2.2.2.2.1 (AM a.2.2.2.1)<|AH.mk ((rd (dfl .half) a.1.2.2.2.2.1 a.2.2.2.1).fr) ((rd (dfl .half) a.1.2.2.2.2.1 a.2.2.2.1).nu) ((rd (dfl .half) a.1.2.2.2.2.1 a.2.2.2.1).to) ((rd (dfl .half) a.1.2.2.2.2.1 a.2.2.2.1).un) ((rd (dfl .half) a.1.2.2.2.2.1 a.2.2.2.1).sz) b.1.1));I (((a.1.1,a.1.2.1,a.1.2.2.1,a.1.2.2.2.1,o,()),([]:List Frame),()),()) else(Nj (h.1.1,())).bind λp=>(Wt (2,a.2.1,())).bind λq=>I ((p.1.1,q.1),()) else U else U else U else U else U else U)<|(if A0 (e.1.1<0) then if Ac (x.1.2.2.2.2.1.length+([(AH.mk x.2.1.2.2.2.1 x.2.1.2.2.2.2.1 x.2.1.2.2.2.2.2.1 x.2.1.2.2.2.2.2.2.1 x.2.1.2.2.2.2.2.2.2.1 ([]:List AQ))]:List AH).length) then if A0 (3<((x.1.2.2.2.2.1++([(AH.mk x.2.1.2.2.2.1 x.2.1.2.2.2.2.1 x.2.1.2.2.2.2.2.1 x.2.1.2.2.2.2.2.2.1 x.2.1.2.2.2.2.2.2.2.1 ([]:List AQ))]:List AH)).length:Int)) then if A0 (0<=1)&&A0 (1<=((x.1.2.2.2.2.1++([(AH.mk x.2.1.2.2.2.1 x.2.1.2.2.2.2.1 x.2.1.2.2.2.2.2.1 x.2.1.2.2.2.2.2.2.1 x.2.1.2.2.2.2.2.2.2.1 ([]:List AQ))]:List AH)).length:Int)) then let r:=(w64<|((Bs (AM 1)<|x.1.2.2.2.2.1++([(AH.mk x.2.1.2.2.2.1 x.2.1.2.2.2.2.1 x.2.1.2.2.2.2.2.1 x.2.1.2.2.2.2.2.2.1 x.2.1.2.2.2.2.2.2.2.1 ([]:List AQ))]:List AH)).length:Int) - 1);I (.inr ((x.1.1,x.1.2.1,x.1.2.2.1,x.1.2.2.2.1,(Bs (AM 1)<|x.1.2.2.2.2.1++([(AH.mk x.2.1.2.2.2.1 x.2.1.2.2.2.2.1 x.2.1.2.2.2.2.2.1 x.2.1.2.2.2.2.2.2.1 x.2.1.2.2.2.2.2.2.2.1 ([]:List AQ))]:List AH)),()),x.2.1,(0,A3,noB,0,([]:List AH),()),r,())) else U else let s:=(w64<|((x.1.2.2.2.2.1++([(AH.mk x.2.1.2.2.2.1 x.2.1.2.2.2.2.1 x.2.1.2.2.2.2.2.1 x.2.1.2.2.2.2.2.2.1 x.2.1.2.2.2.2.2.2.2.1 ([]:List AQ))]:List AH)).length:Int) - 1);I (.inr ((x.1.1,x.1.2.1,x.1.2.2.1,x.1.2.2.2.1,(x.1.2.2.2.2.1++([(AH.mk x.2.1.2.2.2.1 x.2.1.2.2.2.2.1 x.2.1.2.2.2.2.2.1 x.2.1.2.2.2.2.2.2.1 x.2.1.2.2.2.2.2.2.2.1 ([]:List AQ))]:List AH)),()),x.2.1,(0,A3,noB,0,([]:List AH),()),s,())) else U else I (.inr (x.1,x.2.1,(0,A3,noB,0,([]:List AH),()),e.1)))))) else U)
def yF:Ent:=(145,U,⟨[Z1,Z4],[Z14,.fz .frame],VU⟩)
def ajW:SQ Tryz.prog yF:=sk (v:=t1<|t1<|t1<|t1<|.join [(2,Z20),(3,Z5),(4,Z20),(7,.int .i64)] .nil .nil) (fn:=Tryz.f145) ahp kN
def aqV:Cx:=cX [JC,JU,Kj,kB,LA,yF,dT,YX] [] [(70,77)]
def avU:OKC Tryz.prog aqV AF:=okc mixed<|gC KQ<|gC KK<|gC Ln<|gC uy<|gC Lr<|gC ajW<|gC ng<|gC gr<|AL
def QA(x:Y1×Y3×A2):Option ((Y1×List Frame×A2)×A2):=(I6 (x.1,())).bind λf=>if !f.1.1 then I (((0,A3,noB,0,([]:List AH),()),([]:List Frame),()),()) else(Hq (x.1,())).bind λa=>if !x.1.2.1 then I ((a.1.1,([]:List Frame),()),()) else(VC x.2).bind λg=>if !g.1.1 then I ((a.1.1,([]:List Frame),()),()) else if !decide (x.2.1.2.2.1=x.1.1) then I ((a.1.1,([]:List Frame),()),()) else if A0 (x.2.1.1=1) then(VU (a.1.1,x.2)).bind λe=>(Hq (e.1.1,())).bind λh=>I ((h.1.1,e.1.2),()) else if A0 (x.2.1.1=2) then(Gq (x.1,())).bind λb=>(Gl (b.1.1.2.2.2.1,x.2.1.2.2.2.1,x.2.1.2.2.2.2.1,())).bind λc=>(BF (X:=Y3×Y1×Y1×Bool×A2) (λd=>if d.2.2.2.1 then(PY ((B [108,101,116]),d.1.2.2.2.1,d.1.2.2.2.2.1,d.1.2.2.2.2.2.2.1,())).bind λi=>(NR (d.2.2.1,i.1)).bind λj=>I ((j.1.1,([]:List Frame),()),()) else I ((d.2.2.1,([]:List Frame),()),()))<|(if A0 (0<=c.1.1) then if inb c.1.1 b.1.1.2.2.2.1.length then if Ad (A0<|(rd (dfl .note) b.1.1.2.2.2.1 c.1.1).to=x.2.1.2.2.2.2.2.1) (inb c.1.1 b.1.1.2.2.2.1.length) then I (.inr (x.2.1,(0,A3,noB,0,([]:List AH),()),a.1.1,((A0<|(rd (dfl .note) b.1.1.2.2.2.1 c.1.1).to=x.2.1.2.2.2.2.2.1)&&(A0<|(rd (dfl .note) b.1.1.2.2.2.1 c.1.1).un=x.2.1.2.2.2.2.2.2.1)),())) else U else U else if Ad A3 (inb c.1.1 b.1.1.2.2.2.1.length) then I (.inr (x.2.1,(0,A3,noB,0,([]:List AH),()),a.1.1,A3,())) else U)) else I ((a.1.1,([]:List Frame),()),())
def aEG:Ent:=(107,U,⟨[Z14,Z4],[Z14,.fz .frame],QA⟩)
def azH:SQ Tryz.prog aEG:=sk (v:=t1<|t1<|t1<|t1<|.two (t1<|.one<|t1<|t1<|t1<|.two (t1<|t1<|.join [(3,Z5),(4,Z20),(6,Z20),(78,.bool)] .nil .nil) .nil) .nil) (fn:=Tryz.f107) avU kN
def akp:Cx:=cX [mh] [] []
def aax:OKC Tryz.prog akp AF:=okc mixed<|gC aCn<|AL
def Yz(x:Y2×List Frame×Int×Int×A2):Rnd (Y2×List Frame×Int×Int×A2) (A2) (Y2×A2):=if A0 (x.2.2.2.1<x.2.2.1) then if inb x.2.2.2.1 x.2.1.length then let d:=(rd (dfl .frame) x.2.1 x.2.2.2.1).ki;let a:=(rd (dfl .frame) x.2.1 x.2.2.2.1).src;let b:=(rd (dfl .frame) x.2.1 x.2.2.2.1).dst;let e:=(rd (dfl .frame) x.2.1 x.2.2.2.1).fr;let f:=(rd (dfl .frame) x.2.1 x.2.2.2.1).nu;let g:=(rd (dfl .frame) x.2.1 x.2.2.2.1).to;let h:=(rd (dfl .frame) x.2.1 x.2.2.2.1).un;let i:=(rd (dfl .frame) x.2.1 x.2.2.2.1).sz;let j:=(rd (dfl .frame) x.2.1 x.2.2.2.1).mix;let k:=(rd (dfl .frame) x.2.1 x.2.2.2.1).da;if A0 ((x.1.2.2.2.1.length:Int)<30) then(PC ((d,a,b,e,f,g,h,i,j,k,()),())).bind λc=>if Ac (x.1.2.2.2.1.length+([(AT.mk a b (BH c.1.1) A3)]:List AT).length) then I (.inl ((x.1.1,x.1.2.1,x.1.2.2.1,(x.1.2.2.2.1++([(AT.mk a b (BH c.1.1) A3)]:List AT)),x.1.2.2.2.2),x.2.1,x.2.2.1,(w64<|x.2.2.2.1+1),())) else U else I (.inl (x.1,x.2.1,x.2.2.1,(w64<|x.2.2.2.1+1),())) else U else I (.inr<|.inr (x.1,()))
def ch:=AW Yz
def aCE:Loop:=⟨[(0,Z2),(6,.sl .frame),(7,.int .i64),(8,.int .i64)],[(0,Z2)],0,[],ch⟩
def aqr:LF Tryz.f108 [0] [1,0,0] aCE:=sq (v:= .nil) aax (b:=Yz) kN
def My(x:Y2×List Frame×A2):Option ((A2)×(Y2×A2)):=(AO (ch (x.1,x.2.1,(x.2.1.length:Int),0,())) (λ_=>U) λa=>I ((),a))
def p6:Ent:=(108,U,⟨[Z2,.fz .frame],[],My⟩)
def ab0:SQ Tryz.prog p6:=sk (v:=t1<|.one<|.loop aCE) (fn:=Tryz.f108) aax<|kC aqr kN
def ayv:Cx:=cX [ic,FF,yv,aEG,p6] [] [(137,141)]
def aqn:OKC Tryz.prog ayv AF:=okc mixed<|gC vi<|gC FK<|gC ano<|gC azH<|gC ab0<|AL
def Ps(x:Y2×Y3×A2):Option ((Bool×A2)×(Y2×A2)):=(C4 (x.2.1.2.2.2.2.1,0,(w64<|(x.1.2.2.2.1.length:Int) - 1),())).bind λj=>if !j.1.1 then I ((A3,()),(x.1,())) else if inb x.2.1.2.2.2.2.1 x.1.2.2.2.1.length then let d:=(rd (dfl .Ai) x.1.2.2.2.1 x.2.1.2.2.2.2.1).src;let e:=(rd (dfl .Ai) x.1.2.2.2.1 x.2.1.2.2.2.2.1).dst;let b:=(rd (dfl .Ai) x.1.2.2.2.1 x.2.1.2.2.2.2.1).data;let i:=(rd (dfl .Ai) x.1.2.2.2.1 x.2.1.2.2.2.2.1).sp;if A0 (x.2.1.1=5) then(V7 (x.1.2.2.2.1,x.2.1.2.2.2.2.1,())).bind λk=>I ((A1,()),((x.1.1,x.1.2.1,x.1.2.2.1,k.1.1,x.1.2.2.2.2),())) else if A0 (x.2.1.1=6) then(C4 (x.2.1.2.2.2.2.2.1,0,(w64<|(b.size:Int) - 1),())).bind λl=>if !l.1.1 then I ((A3,()),(x.1,())) else if i then I ((A3,()),(x.1,())) else(C4 (x.2.1.2.2.2.2.2.2.1,1,255,())).bind λm=>if !m.1.1 then I ((A3,()),(x.1,())) else if Ac b.size then if inb x.2.1.2.2.2.2.2.1 ((BA b).length) then if inb x.2.1.2.2.2.2.2.1 ((BA b).length) then let n:=(Dm .u8 (rd (dfl .u8) (BA b) x.2.1.2.2.2.2.2.1)<|w8 x.2.1.2.2.2.2.2.2.1);(if inb x.2.1.2.2.2.2.1 x.1.2.2.2.1.length then let g:=(BH<|Bq (BA b) (AM x.2.1.2.2.2.2.2.1) n);(if inb x.2.1.2.2.2.2.1 ((Bq x.1.2.2.2.1 (AM x.2.1.2.2.2.2.1)<|AT.mk ((rd (dfl .Ai) x.1.2.2.2.1 x.2.1.2.2.2.2.1).src) ((rd (dfl .Ai) x.1.2.2.2.1 x.2.1.2.2.2.2.1).dst) g<|(rd (dfl .Ai) x.1.2.2.2.1 x.2.1.2.2.2.2.1).sp).length) then I ((A1,()),((x.1.1,x.1.2.1,x.1.2.2.1,(Bq (Bq x.1.2.2.2.1 (AM x.2.1.2.2.2.2.1)<|AT.mk ((rd (dfl .Ai) x.1.2.2.2.1 x.2.1.2.2.2.2.1).src) ((rd (dfl .Ai) x.1.2.2.2.1 x.2.1.2.2.2.2.1).dst) g<|(rd (dfl .Ai) x.1.2.2.2.1 x.2.1.2.2.2.2.1).sp) (AM x.2.1.2.2.2.2.1)<|AT.mk ((rd (dfl .Ai) (Bq x.1.2.2.2.1 (AM x.2.1.2.2.2.2.1)<|AT.mk ((rd (dfl .Ai) x.1.2.2.2.1 x.2.1.2.2.2.2.1).src) ((rd (dfl .Ai) x.1.2.2.2.1 x.2.1.2.2.2.2.1).dst) g<|(rd (dfl .Ai) x.1.2.2.2.1 x.2.1.2.2.2.2.1).sp) x.2.1.2.2.2.2.1).src) ((rd (dfl .Ai) (Bq x.1.2.2.2.1 (AM x.2.1.2.2.2.2.1)<|AT.mk ((rd (dfl .Ai) x.1.2.2.2.1 x.2.1.2.2.2.2.1).src) ((rd (dfl .Ai) x.1.2.2.2.1 x.2.1.2.2.2.2.1).dst) g<|(rd (dfl .Ai) x.1.2.2.2.1 x.2.1.2.2.2.2.1).sp) x.2.1.2.2.2.2.1).dst) ((rd (dfl .Ai) (Bq x.1.2.2.2.1 (AM x.2.1.2.2.2.2.1)<|AT.mk ((rd (dfl .Ai) x.1.2.2.2.1 x.2.1.2.2.2.2.1).src) ((rd (dfl .Ai) x.1.2.2.2.1 x.2.1.2.2.2.2.1).dst) g<|(rd (dfl .Ai) x.1.2.2.2.1 x.2.1.2.2.2.2.1).sp) x.2.1.2.2.2.2.1).data) A1),x.1.2.2.2.2),())) else U) else U) else U else U else U else if A0 (x.2.1.1=4) then if inb (if e<d then e else d) x.1.2.2.1.length then if !(rd (dfl .bool) x.1.2.2.1<|if e<d then e else d) then I ((A3,()),(x.1,())) else(BF (X:=Y2×Y12×A2) (λc=>if Ac c.2.1.2.2.1.size then(Uv ((BA c.2.1.2.2.1),())).bind λh=>(BF (X:=Y2×Y12×Y3×Bool×A2) (λa=>if a.2.2.2.1 then if inb a.2.1.2.1 a.1.2.1.length then(QA (((rd (dfl .AN) a.1.2.1 a.2.1.2.1).id,(rd (dfl .AN) a.1.2.1 a.2.1.2.1).up,(rd (dfl .AN) a.1.2.1 a.2.1.2.1).log,(rd (dfl .AN) a.1.2.1 a.2.1.2.1).fo,(rd (dfl .AN) a.1.2.1 a.2.1.2.1).AE,()),a.2.2.1,())).bind λf=>if inb a.2.1.2.1 a.1.2.1.length then(My ((a.1.1,(Bq a.1.2.1 (AM a.2.1.2.1)<|AA.mk f.1.1.1 f.1.1.2.1 f.1.1.2.2.1 f.1.1.2.2.2.1 f.1.1.2.2.2.2.1),a.1.2.2),f.1.2)).bind λo=>I ((A1,()),o.2) else U else U else I ((A1,()),(a.1,())))<|(if h.1.2.1 then I (.inr (c.1,c.2.1,h.1.1,((A0<|h.1.1.2.1=c.2.1.1)&&(A0<|h.1.1.2.2.1=c.2.1.2.1)),())) else I (.inr (c.1,c.2.1,h.1.1,A3,())))) else U)<|(if A0 (x.2.1.2.2.2.2.2.2.1=0) then(V7 (x.1.2.2.2.1,x.2.1.2.2.2.2.1,())).bind λp=>I (.inr ((x.1.1,x.1.2.1,x.1.2.2.1,p.1.1,x.1.2.2.2.2),(d,e,b,i,()),())) else I (.inr (x.1,(d,e,b,i,()),())))) else U else I ((A1,()),(x.1,())) else U
def wP:Ent:=(60,U,⟨[Z2,Z4],[.bool],Ps⟩)
def aed:SQ Tryz.prog wP:=sk (v:=t1<|t1<|t1<|.two (t1<|.one<|t1<|t1<|t1<|t1<|t1<|.two (t1<|.join [(0,Z2),(5,Z36)] .nil<|t1<|.join [(0,Z2),(5,Z36),(7,Z5),(142,.bool)] .nil .nil) .nil) .nil) (fn:=Tryz.f60) aqn kN
def an9:Cx:=cX [LA,dT,X6] [] []
def aiC:OKC Tryz.prog an9 AF:=okc mixed<|gC Lr<|gC ng<|gC mb<|AL
def NS(x:Y1×A4×A2):Option ((Y1×Bool×A2)×A2):=(NR x).bind λa=>if !a.1.2.1 then(Hq (x.1,())).bind λb=>I ((b.1.1,A3,()),()) else(Nj (a.1.1,())).bind λc=>(Hq c.1).bind λd=>I ((d.1.1,A1,()),())
def eD:Ent:=(148,U,⟨[Z14,.str],[Z1,.bool],NS⟩)
def mm:SQ Tryz.prog eD:=sk (v:= .nil) (fn:=Tryz.f148) aiC kN
def adk:Cx:=cX [JC,JU,LA,eD,Th] [] []
def asJ:OKC Tryz.prog adk AF:=okc mixed<|gC KQ<|gC KK<|gC Lr<|gC mm<|gC YD<|AL
def VK(x:Y1×Int×Int×A4×A2):Option ((Y1×Int×A2)×A2):=(I6 (x.1,())).bind λd=>if !d.1.1 then I (((0,A3,noB,0,([]:List AH),()),0,()),()) else if !x.1.2.1 then(Hq (x.1,())).bind λe=>I ((e.1.1,0,()),()) else(Gq (x.1,())).bind λb=>(Ma ((x.1.1,b.1.1.2.2.1,x.2),())).bind λc=>if A0 ((B [111,119,110,32]).size+c.1.1.size<=4611686018427387904) then(NS (x.1,((B [111,119,110,32])++c.1.1),())).bind λa=>if !a.1.2.1 then I ((a.1.1,0,()),()) else I ((a.1.1,b.1.1.2.2.1,()),()) else U
def aCK:Ent:=(109,U,⟨[Z14,.int .i64,.int .i64,.str],[Z1,.int .i64],VK⟩)
def avX:SQ Tryz.prog aCK:=sk (v:= .nil) (fn:=Tryz.f109) asJ kN
def afp:Cx:=cX [JC,JU,LA,eD,S9] [] []
def amI:OKC Tryz.prog afp AF:=okc mixed<|gC KQ<|gC KK<|gC Lr<|gC mm<|gC Tr<|AL
def V1(x:Y1×A2):Option ((Y1×Bool×A2)×A2):=(I6 x).bind λb=>if !b.1.1 then I (((0,A3,noB,0,([]:List AH),()),A3,()),()) else if !x.1.2.1 then(Hq x).bind λc=>I ((c.1.1,A3,()),()) else(Gq x).bind λd=>(J2 ((w64<|d.1.1.2.1+1),())).bind λa=>if A0 ((B [116,105,109,101,32]).size+a.1.1.size<=4611686018427387904) then(NS (x.1,((B [116,105,109,101,32])++a.1.1),())).bind λe=>I (e.1,()) else U
def aAr:Ent:=(110,U,⟨[Z14],[Z1,.bool],V1⟩)
def asb:SQ Tryz.prog aAr:=sk (v:= .nil) (fn:=Tryz.f110) amI kN
def ahQ:Cx:=cX [FF,X1] [] []
def aFv:OKC Tryz.prog ahQ AF:=okc mixed<|gC FK<|gC gD<|AL
def Yr(x:A4×List A4×Int×A2):Rnd (A4×List A4×Int×A2) (A2) (List A4×A2):=if A0 (x.2.2.1<(x.1.size:Int)) then if A0 (0<=4)&&A0 (4<=4294967296) then if A0 (0<=x.2.2.1)&&A0 (x.2.2.1<=(x.1.size:Int)) then if Ac (x.2.1.length+([(BH<|BU (BW (AM 4)<|dfl .u8).length (BA<|x.1.extract (AM x.2.2.1)<|x.1.size)++Bs (BA<|x.1.extract (AM x.2.2.1)<|x.1.size).length (BW (AM 4)<|dfl .u8))]:List A4).length) then I (.inl (x.1,(x.2.1++([(BH<|BU (BW (AM 4)<|dfl .u8).length (BA<|x.1.extract (AM x.2.2.1)<|x.1.size)++Bs (BA<|x.1.extract (AM x.2.2.1)<|x.1.size).length (BW (AM 4)<|dfl .u8))]:List A4)),(w64<|x.2.2.1+4),())) else U else U else U else I (.inr<|.inr (x.2.1,()))
def nC:=AW Yr
def aAS:Loop:=⟨[(0,.str),(3,.row 9 .str),(4,.int .i64)],[(3,.row 9 .str)],0,[],nC⟩
def amL:LF Tryz.f182 [] [1,1,1,0,1,0,0] aAS:=sq (v:= .nil) aFv (b:=Yr) kN
def Yy(x:A4×A2):Option ((List A4×A2)×A2):=(C4 ((x.1.size:Int),1,24,())).bind λa=>if !a.1.1 then I ((([]:List A4),()),()) else(AO (nC (x.1,([]:List A4),0,())) (λ_=>U) λb=>(QH b).bind λc=>I (c.1,()))
def tZ:Ent:=(182,U,⟨[.str],[.row 9 .str],Yy⟩)
def aeI:SQ Tryz.prog tZ:=sk (v:=t1<|t1<|t1<|.two (t1<|.one<|.loop aAS) .nil) (fn:=Tryz.f182) aFv<|kC amL kN
def afx:Cx:=cX [tZ,n7,kG] [] []
def aAF:OKC Tryz.prog afx AF:=okc mixed<|gC aeI<|gC yE<|gC aad<|AL
def UC(x:List A4×A4×List Int×Int×Int×A2):Rnd (List A4×A4×List Int×Int×Int×A2) (A2) (A4×A2):=if A0 (x.2.2.2.2.1<x.2.2.2.1) then if inb x.2.2.2.2.1 x.2.2.1.length then let a:=(rd (dfl .int) x.2.2.1 x.2.2.2.2.1);(if A0 (x.2.2.2.2.1=0) then if inb a x.1.length then I (.inl (x.1,(rd (dfl .str) x.1 a),x.2.2.1,x.2.2.2.1,(w64<|x.2.2.2.2.1+1),())) else U else if inb a x.1.length then(SH (x.2.1,(rd (dfl .str) x.1 a),())).bind λb=>I (.inl (x.1,b.1.1,x.2.2.1,x.2.2.2.1,(w64<|x.2.2.2.2.1+1),())) else U) else U else I (.inr<|.inr (x.2.1,()))
def Vu:=AW UC
def acN:Loop:=⟨[(5,.row 9 .str),(6,.str),(14,.row 3 .int),(15,.int .i64),(16,.int .i64)],[(6,.str)],0,[],Vu⟩
def auC:LF Tryz.f151 [] [1,1,1,0,1,0,0] acN:=sq (v:= .nil) aAF (b:=UC) kN
def Wc(x:A4×Int×A2):Option ((A4×A2)×A2):=(Yy (x.1,())).bind λa=>(Uf ((a.1.1.length:Int),x.2)).bind λb=>(AO (Vu (a.1.1,noB,b.1.1,(b.1.1.length:Int),0,())) (λ_=>U) λc=>I (c,()))
def tv:Ent:=(151,U,⟨[.str,.int .i64],[.str],Wc⟩)
def afY:SQ Tryz.prog tv:=sk (v:=t1<|t1<|t1<|.two (t1<|.one<|.loop acN) .nil) (fn:=Tryz.f151) aAF<|kC auC kN
def amR:Cx:=cX [JC,JU,Kj,FF,de,tv] [] []
def ahb:OKC Tryz.prog amR AF:=okc mixed<|gC KQ<|gC KK<|gC Ln<|gC FK<|gC nN<|gC afY<|AL
def UW(x:Y1×Int×Int×Int×A2):Option ((Y3×Bool×A2)×A2):=(I6 (x.1,())).bind λe=>if !e.1.1 then I (((0,0,0,0,0,0,0,0,0,noB,()),A3,()),()) else if !x.1.2.1 then I (((0,0,0,0,0,0,0,0,0,noB,()),A3,()),()) else(C4 (x.2.2.2.1,0,999,())).bind λf=>if !f.1.1 then I (((0,0,0,0,0,0,0,0,0,noB,()),A3,()),()) else(Gq (x.1,())).bind λa=>(Gl (a.1.1.2.2.2.1,x.2.1,x.2.2.1,())).bind λb=>if A0 (b.1.1<0) then I (((0,0,0,0,0,0,0,0,0,noB,()),A3,()),()) else if inb b.1.1 a.1.1.2.2.2.1.length then let g:=(rd (dfl .note) a.1.1.2.2.2.1 b.1.1).fr;let h:=(rd (dfl .note) a.1.1.2.2.2.1 b.1.1).nu;let c:=(rd (dfl .note) a.1.1.2.2.2.1 b.1.1).to;let i:=(rd (dfl .note) a.1.1.2.2.2.1 b.1.1).un;let d:=(rd (dfl .note) a.1.1.2.2.2.1 b.1.1).tx;(Ii (x.1.1,c,())).bind λj=>(Wc (d,x.2.2.2)).bind λk=>I (((1,x.1.1,j.1.1,g,h,c,i,(d.size:Int),x.2.2.2.1,k.1),A1,()),()) else U
def abD:Ent:=(111,U,⟨[Z14,.int .i64,.int .i64,.int .i64],[Z4,.bool],UW⟩)
def ak9:SQ Tryz.prog abD:=sk (v:= .nil) (fn:=Tryz.f111) ahb kN
def asY:Cx:=cX [QR,aP] [] []
def ayV:OKC Tryz.prog asY AF:=okc mixed<|gC VL<|gC pq<|AL
def ak(x:Y7×Int×A2):Option ((Y7×A2)×A2):=(O1 (x.1,())).bind λc=>if !c.1.1 then I (((noB,0,()),()),()) else if A0 (0<=(w64<|x.1.2.1+(if 0<(if(w64<|(x.1.1.size:Int) - x.1.2.1)<x.2.1 then(w64<|(x.1.1.size:Int) - x.1.2.1) else x.2.1) then(if(w64<|(x.1.1.size:Int) - x.1.2.1)<x.2.1 then(w64<|(x.1.1.size:Int) - x.1.2.1) else x.2.1) else 0)))&&A0 ((w64<|x.1.2.1+(if 0<(if(w64<|(x.1.1.size:Int) - x.1.2.1)<x.2.1 then(w64<|(x.1.1.size:Int) - x.1.2.1) else x.2.1) then(if(w64<|(x.1.1.size:Int) - x.1.2.1)<x.2.1 then(w64<|(x.1.1.size:Int) - x.1.2.1) else x.2.1) else 0))<=(x.1.1.size:Int)) then let b:=(x.1.1.extract (0)<|AM<|w64<|x.1.2.1+(if 0<(if(w64<|(x.1.1.size:Int) - x.1.2.1)<x.2.1 then(w64<|(x.1.1.size:Int) - x.1.2.1) else x.2.1) then(if(w64<|(x.1.1.size:Int) - x.1.2.1)<x.2.1 then(w64<|(x.1.1.size:Int) - x.1.2.1) else x.2.1) else 0));(PK (b,())).bind λa=>if A0 (0<=a.1.2.1)&&A0 (a.1.2.1<=(b.size:Int)) then let d:=(b.extract (0)<|AM a.1.2.1);I (((d,a.1.2),()),()) else U else U
def aFe:Ent:=(152,U,⟨[Z15,.int .i64],[Z15],ak⟩)
def ai3:SQ Tryz.prog aFe:=sk (v:= .nil) (fn:=Tryz.f152) ayV kN
def ahC:Cx:=cX [JU,aFe] [] []
def alH:OKC Tryz.prog ahC AF:=okc mixed<|gC KK<|gC ai3<|AL
def TP(x:Y1×Int×A2):Option ((Y1×A2)×A2):=(I6 (x.1,())).bind λb=>if !b.1.1 then I (((0,A3,noB,0,([]:List AH),()),()),()) else(ak ((x.1.2.2.1,x.1.2.2.2.1,()),x.2)).bind λa=>I (((x.1.1,A3,a.1.1.1,a.1.1.2.1,([]:List AH),()),()),())
def aca:Ent:=(112,U,⟨[Z14,.int .i64],[Z1],TP⟩)
def ayn:SQ Tryz.prog aca:=sk (v:= .nil) (fn:=Tryz.f112) alH kN
def aeh:Cx:=cX [JU,LA] [] []
def ahZ:OKC Tryz.prog aeh AF:=okc mixed<|gC KK<|gC Lr<|AL
def Ui(x:Y1×A2):Option ((Y1×A2)×A2):=(I6 x).bind λb=>if !b.1.1 then I (((0,A3,noB,0,([]:List AH),()),()),()) else(Hq x).bind λa=>I (((a.1.1.1,A1,a.1.1.2.2),()),())
def aDj:Ent:=(113,U,⟨[Z14],[Z1],Ui⟩)
def atU:SQ Tryz.prog aDj:=sk (v:= .nil) (fn:=Tryz.f113) ahZ kN
def apV:Cx:=cX [JC,JU,Kj,LA,YX,eD] [] [(29,30)]
def azu:OKC Tryz.prog apV AF:=okc mixed<|gC KQ<|gC KK<|gC Ln<|gC Lr<|gC gr<|gC mm<|AL
def Vh(x:Y1×Int×Int×A2):Option ((Y1×Y5×Bool×A2)×A2):=(I6 (x.1,())).bind λd=>if !d.1.1 then I (((0,A3,noB,0,([]:List AH),()),(0,0,0,0,noB,()),A3,()),()) else(Gq (x.1,())).bind λa=>(Gl (a.1.1.2.2.2.2.2.1,x.2)).bind λb=>if(!x.1.2.1)||(A0<|b.1.1<0) then(Hq (x.1,())).bind λe=>I ((e.1.1,(0,0,0,0,noB,()),A3,()),()) else if inb b.1.1 a.1.1.2.2.2.2.2.1.length then(PY ((B [101,97,116]),x.2.1,x.2.2.1,(rd (dfl .note) a.1.1.2.2.2.2.2.1 b.1.1).un,())).bind λf=>(NS (x.1,f.1)).bind λc=>if !c.1.2.1 then I ((c.1.1,(0,0,0,0,noB,()),A3,()),()) else if inb b.1.1 a.1.1.2.2.2.2.2.1.length then let g:=(rd (dfl .note) a.1.1.2.2.2.2.2.1 b.1.1).fr;let h:=(rd (dfl .note) a.1.1.2.2.2.2.2.1 b.1.1).nu;let i:=(rd (dfl .note) a.1.1.2.2.2.2.2.1 b.1.1).to;let j:=(rd (dfl .note) a.1.1.2.2.2.2.2.1 b.1.1).un;let k:=(rd (dfl .note) a.1.1.2.2.2.2.2.1 b.1.1).tx;I ((c.1.1,(g,h,i,j,k,()),A1,()),()) else U else U
def xw:Ent:=(114,U,⟨[Z14,.int .i64,.int .i64],[Z1,Z8,.bool],Vh⟩)
def axG:SQ Tryz.prog xw:=sk (v:= .nil) (fn:=Tryz.f114) azu kN
def anV:Cx:=cX [JC,JU,LA,oX,gB] [] []
def auY:OKC Tryz.prog anV AF:=okc mixed<|gC KQ<|gC KK<|gC Lr<|gC acC<|gC aAR<|AL
def UY(x:Y1×A2):Option ((Y1×Bool×A2)×A2):=(I6 x).bind λc=>if !c.1.1 then I (((0,A3,noB,0,([]:List AH),()),A3,()),()) else(Hq x).bind λa=>if !x.1.2.1 then I ((a.1.1,A3,()),()) else(Gq x).bind λd=>(Ud d.1).bind λe=>(Qy ((x.1.2.2.1,x.1.2.2.2.1,()),e.1)).bind λb=>I (((a.1.1.1,a.1.1.2.1,b.1.1.1,b.1.1.2.1,a.1.1.2.2.2.2),b.1.2),())
def yH:Ent:=(115,U,⟨[Z14],[Z1,.bool],UY⟩)
def anE:SQ Tryz.prog yH:=sk (v:= .nil) (fn:=Tryz.f115) auY kN
def ayx:Cx:=cX [JU,LA,X6] [] [(15,22)]
def ajH:OKC Tryz.prog ayx AF:=okc mixed<|gC KK<|gC Lr<|gC mb<|AL
def Vn(x:Y1×A2):Option ((Y1×Bool×A2)×A2):=(I6 x).bind λb=>if !b.1.1 then I (((0,A3,noB,0,([]:List AH),()),A3,()),()) else(Hq x).bind λa=>if(!x.1.2.1)||(A0<|x.1.2.2.2.1=(x.1.2.2.1.size:Int)) then I ((a.1.1,A3,()),()) else(Nj a.1).bind λc=>I ((c.1.1,A1,()),())
def acO:Ent:=(116,U,⟨[Z14],[Z14,.bool],Vn⟩)
def apc:SQ Tryz.prog acO:=sk (v:= .nil) (fn:=Tryz.f116) ajH kN
def amb:Cx:=cX [JI,p6,aCK,aAr,abD,aca,aDj,xw,yH,acO] [] []
def as3:OKC Tryz.prog amb AF:=okc mixed<|gC KE<|gC ab0<|gC avX<|gC asb<|gC ak9<|gC ayn<|gC atU<|gC axG<|gC anE<|gC apc<|AL
def R4(x:Y2×Y3×A2):Option ((Bool×A2)×(Y2×A2)):=(FX (x.2.1.2.1,())).bind λj=>if !j.1.1 then I ((A3,()),(x.1,())) else if inb x.2.1.2.1 x.1.2.1.length then let e:=(rd (dfl .AN) x.1.2.1 x.2.1.2.1).id;let a:=(rd (dfl .AN) x.1.2.1 x.2.1.2.1).up;let f:=(rd (dfl .AN) x.1.2.1 x.2.1.2.1).log;let g:=(rd (dfl .AN) x.1.2.1 x.2.1.2.1).fo;let h:=(rd (dfl .AN) x.1.2.1 x.2.1.2.1).AE;(BF (X:=Y2×Y3×Y1×Bool×A2) (λc=>if inb c.2.1.2.1 c.1.2.1.length then I (c.2.2.2,((c.1.1,(Bq c.1.2.1 (AM c.2.1.2.1)<|AA.mk c.2.2.1.1 c.2.2.1.2.1 c.2.2.1.2.2.1 c.2.2.1.2.2.2.1 c.2.2.1.2.2.2.2.1),c.1.2.2),())) else U)<|(if A0 (x.2.1.1=1) then if A0 (6<=(x.1.2.2.2.2.1.length:Int)) then I (.inl ((A3,()),(x.1,()))) else(VK ((e,a,f,g,h,()),x.2.1.2.2.2.2.2.2.2)).bind λi=>if A0 (i.1.2.1=0) then I (.inl ((A3,()),(x.1,()))) else if Ac (x.1.2.2.2.2.1.length+([(A7.mk x.2.1.2.1 i.1.2.1 x.2.1.2.2.2.2.2.2.2.1 x.2.1.2.2.2.2.2.2.2.2.1 x.2.1.2.2.2.2.2.2.2.2.2.1)]:List A7).length) then I (.inr ((x.1.1,x.1.2.1,x.1.2.2.1,x.1.2.2.2.1,(x.1.2.2.2.2.1++([(A7.mk x.2.1.2.1 i.1.2.1 x.2.1.2.2.2.2.2.2.2.1 x.2.1.2.2.2.2.2.2.2.2.1 x.2.1.2.2.2.2.2.2.2.2.2.1)]:List A7)),x.1.2.2.2.2.2),x.2.1,i.1.1,A1,())) else U else if A0 (x.2.1.1=2) then(V1 ((e,a,f,g,h,()),())).bind λk=>I (.inr (x.1,x.2.1,k.1)) else if A0 (x.2.1.1=3) then(UW ((e,a,f,g,h,()),x.2.1.2.2.1,x.2.1.2.2.2.1,x.2.1.2.2.2.2.2.1,())).bind λb=>if b.1.2.1 then(My (x.1,([(Frame.mk b.1.1.1 b.1.1.2.1 b.1.1.2.2.1 b.1.1.2.2.2.1 b.1.1.2.2.2.2.1 b.1.1.2.2.2.2.2.1 b.1.1.2.2.2.2.2.2.1 b.1.1.2.2.2.2.2.2.2.1 b.1.1.2.2.2.2.2.2.2.2.1 b.1.1.2.2.2.2.2.2.2.2.2.1)]:List Frame),())).bind λl=>I (.inr (l.2.1,x.2.1,(e,a,f,g,h,()),b.1.2)) else I (.inr (x.1,x.2.1,(e,a,f,g,h,()),b.1.2)) else if A0 (x.2.1.1=7) then(TP ((e,a,f,g,h,()),x.2.1.2.2.2.2.2.2.1,())).bind λm=>I (.inr (x.1,x.2.1,m.1.1,a,())) else if A0 (x.2.1.1=8) then(Ui ((e,a,f,g,h,()),())).bind λn=>I (.inr (x.1,x.2.1,n.1.1,(!a),())) else if A0 (x.2.1.1=11) then if A0 (6<=(x.1.2.2.2.2.2.1.length:Int)) then I (.inl ((A3,()),(x.1,()))) else(Vh ((e,a,f,g,h,()),x.2.1.2.2.1,x.2.1.2.2.2.1,())).bind λd=>if !d.1.2.2.1 then I (.inl ((A3,()),(x.1,()))) else if Ac (x.1.2.2.2.2.2.1.length+([(A7.mk d.1.2.1.1 d.1.2.1.2.1 d.1.2.1.2.2.1 d.1.2.1.2.2.2.1 d.1.2.1.2.2.2.2.1)]:List A7).length) then I (.inr ((x.1.1,x.1.2.1,x.1.2.2.1,x.1.2.2.2.1,x.1.2.2.2.2.1,(x.1.2.2.2.2.2.1++([(A7.mk d.1.2.1.1 d.1.2.1.2.1 d.1.2.1.2.2.1 d.1.2.1.2.2.2.1 d.1.2.1.2.2.2.2.1)]:List A7)),()),x.2.1,d.1.1,A1,())) else U else if A0 (x.2.1.1=12) then(UY ((e,a,f,g,h,()),())).bind λo=>I (.inr (x.1,x.2.1,o.1)) else if A0 (x.2.1.1=13) then(Vn ((e,a,f,g,h,()),())).bind λp=>I (.inr (x.1,x.2.1,p.1)) else I (.inr (x.1,x.2.1,(e,a,f,g,h,()),A3,())))) else U
def yU:Ent:=(61,U,⟨[Z2,Z4],[.bool],R4⟩)
def aom:SQ Tryz.prog yU:=sk (v:=t1<|t1<|t1<|t1<|.join [(0,Z2),(3,Z27),(5,Z37),(6,.bool)] .nil .nil) (fn:=Tryz.f61) as3 kN
def aei:Cx:=cX [aCF,zm,wP,yU] [] [(28,30)]
def apk:OKC Tryz.prog aei AF:=okc mixed<|gC auS<|gC awe<|gC aed<|gC aom<|AL
def bL(x:Y2×Y3×A2):Option ((Y2×Bool×A2)×A2):=(Ly (x.1,())).bind λc=>(BF (X:=Y2×Y2×Y2×Bool×A2) (λb=>if(!b.2.2.2.1)||(A0<|b.1.1=99999) then(Ly (b.1,())).bind λm=>I ((m.1.1,A3,()),()) else(Ly (((w64<|b.2.2.1.1+1),b.2.2.1.2),())).bind λn=>I ((n.1.1,A1,()),()))<|(BF (X:=Y2×Y3×Y2×Y2×Int×Bool×A2) (λa=>if a.2.2.2.2.2.1 then(XI (a.2.2.2.1,a.2.1,())).bind λd=>I (.inr (a.1,a.2.2.1,d.2.1,d.1)) else let e:=(A0<|a.2.2.2.2.1=4);(if e then if e then(Ps (a.2.2.2.1,a.2.1,())).bind λf=>I (.inr (a.1,a.2.2.1,f.2.1,f.1)) else(R4 (a.2.2.2.1,a.2.1,())).bind λg=>I (.inr (a.1,a.2.2.1,g.2.1,g.1)) else let h:=(A0<|a.2.2.2.2.1=5);(if h then if h then(Ps (a.2.2.2.1,a.2.1,())).bind λi=>I (.inr (a.1,a.2.2.1,i.2.1,i.1)) else(R4 (a.2.2.2.1,a.2.1,())).bind λj=>I (.inr (a.1,a.2.2.1,j.2.1,j.1)) else let o:=(A0<|a.2.2.2.2.1=6);(if o then(Ps (a.2.2.2.1,a.2.1,())).bind λk=>I (.inr (a.1,a.2.2.1,k.2.1,k.1)) else(R4 (a.2.2.2.1,a.2.1,())).bind λl=>I<|.inr (a.1,a.2.2.1,l.2.1,l.1)))))<|(if A0 (x.2.1.1=9) then I (.inr (x.1,x.2.1,(0,([]:List AA),([]:List Bool),([]:List AT),([]:List A7),([]:List A7),()),c.1.1,x.2.1.1,(A0<|x.2.1.1=9),())) else I (.inr (x.1,x.2.1,(0,([]:List AA),([]:List Bool),([]:List AT),([]:List A7),([]:List A7),()),c.1.1,x.2.1.1,(A0<|x.2.1.1=10),())))))
def xP:Ent:=(26,U,⟨[Z30,Z4],[Z3,.bool],bL⟩)
def ah8:SQ Tryz.prog xP:=sk (v:=t1<|t1<|t1<|.join [(2,Z29),(4,Z2),(6,Z2),(7,.bool)] (t1<|.one<|.join [(2,Z29),(3,Z27),(4,Z2),(6,Z2),(11,.int .i64),(14,.bool)] .nil .nil) .nil) (fn:=Tryz.f26) apk kN
def amx:Cx:=cX [rz,xP] [] []
def amG:OKC Tryz.prog amx AF:=okc mixed<|gC aBb<|gC ah8<|AL
def HN(x:Y2×Y3×A2):Option ((Y2×Bool×A2)×A2):=(Rv (x.1,())).bind λa=>if !a.1.1 then I (((0,([]:List AA),([]:List Bool),([]:List AT),([]:List A7),([]:List A7),()),A3,()),()) else(bL x).bind λb=>I (b.1,())
def UE:Ent:=(9,U,⟨[Z30,Z4],[Z3,.bool],HN⟩)
def bd:SQ Tryz.prog UE:=sk (v:= .nil) (fn:=Tryz.f9) amG kN
def agu:Cx:=cX [] [] []
def zg:OKC Tryz.prog agu AF:=okc mixed<|AL
def Tu(x:List A7×List A7×Int×A2):Rnd (List A7×List A7×Int×A2) (Bool×A2) (A2):=if A0 (x.2.2.1<(x.1.length:Int)) then if inb x.2.2.1 x.1.length then if inb x.2.2.1 x.2.1.length then if !(MF ((rd (dfl .note) x.1 x.2.2.1).fr) ((rd (dfl .note) x.1 x.2.2.1).nu) ((rd (dfl .note) x.1 x.2.2.1).to) ((rd (dfl .note) x.1 x.2.2.1).un) ((rd (dfl .note) x.1 x.2.2.1).tx) ((rd (dfl .note) x.2.1 x.2.2.1).fr) ((rd (dfl .note) x.2.1 x.2.2.1).nu) ((rd (dfl .note) x.2.1 x.2.2.1).to) ((rd (dfl .note) x.2.1 x.2.2.1).un)<|(rd (dfl .note) x.2.1 x.2.2.1).tx) then I (.inr<|.inl (A3,())) else I (.inl (x.1,x.2.1,(w64<|x.2.2.1+1),())) else U else U else I (.inr<|.inr ())
def gv:=AW Tu
def abY:Loop:=⟨[(0,.sl .note),(1,.sl .note),(5,.int .i64)],[],0,[(4,.bool)],gv⟩
def ava:LF Tryz.f27 [] [1,1,0,1,0,0] abY:=sq (v:= .nil) zg (b:=Tu) kN
def Hz(x:List A7×List A7×A2):Option ((Bool×A2)×A2):=if !decide ((x.1.length:Int)=(x.2.1.length:Int)) then I ((A3,()),()) else(AO (gv (x.1,x.2.1,0,())) (λa=>I (a,())) λa=>I ((A1,()),()))
def mT:Ent:=(27,U,⟨[.fz .note,.fz .note],[.bool],Hz⟩)
def aA1:SQ Tryz.prog mT:=sk (v:=t1<|t1<|.two (t1<|.one<|.loop abY) .nil) (fn:=Tryz.f27) zg<|kC ava kN
def axT:Cx:=cX [] [] []
def my:OKC Tryz.prog axT AF:=okc mixed<|AL
def V5(x:List AH×List AH×Int×Int×A2):Rnd (List AH×List AH×Int×Int×A2) (Bool×A2) (List AH×List AH×Int×A2):=if inb x.2.2.1 x.1.length then if A0 (x.2.2.2.1<(((rd (dfl .half) x.1 x.2.2.1).got).length:Int)) then if inb x.2.2.1 x.1.length then if inb x.2.2.2.1 (((rd (dfl .half) x.1 x.2.2.1).got).length) then if inb x.2.2.1 x.2.1.length then if inb x.2.2.2.1 (((rd (dfl .half) x.2.1 x.2.2.1).got).length) then if !(A0 ((rd (dfl .mixed) ((rd (dfl .half) x.1 x.2.2.1).got) x.2.2.2.1).nu=(rd (dfl .mixed) ((rd (dfl .half) x.2.1 x.2.2.1).got) x.2.2.2.1).nu)&&(A0 ((rd (dfl .mixed) ((rd (dfl .half) x.1 x.2.2.1).got) x.2.2.2.1).da=(rd (dfl .mixed) ((rd (dfl .half) x.2.1 x.2.2.1).got) x.2.2.2.1).da)&&A1)) then I (.inr<|.inl (A3,())) else I (.inl (x.1,x.2.1,x.2.2.1,(w64<|x.2.2.2.1+1),())) else U else U else U else U else I (.inr<|.inr (x.1,x.2.1,x.2.2.1,())) else U
def lL:=AW V5
def xB:Loop:=⟨[(0,.sl .half),(1,.sl .half),(5,.int .i64),(6,.int .i64)],[(0,.sl .half),(1,.sl .half),(5,.int .i64)],2,[(4,.bool)],lL⟩
def asC:LF Tryz.f62 [] [1,1,0,1,0,0,1,0,0,1,1,0,0] xB:=sq (v:= .nil) my (b:=V5) kN
def Un(x:List AH×List AH×Int×A2):Rnd (List AH×List AH×Int×A2) (Bool×A2) (A2):=if A0 (x.2.2.1<(x.1.length:Int)) then if inb x.2.2.1 x.1.length then if inb x.2.2.1 x.2.1.length then if !decide ((rd (dfl .half) x.1 x.2.2.1).fr=(rd (dfl .half) x.2.1 x.2.2.1).fr) then I (.inr<|.inl (A3,())) else if inb x.2.2.1 x.1.length then if inb x.2.2.1 x.2.1.length then if !decide ((rd (dfl .half) x.1 x.2.2.1).nu=(rd (dfl .half) x.2.1 x.2.2.1).nu) then I (.inr<|.inl (A3,())) else if inb x.2.2.1 x.1.length then if inb x.2.2.1 x.2.1.length then if !decide ((rd (dfl .half) x.1 x.2.2.1).to=(rd (dfl .half) x.2.1 x.2.2.1).to) then I (.inr<|.inl (A3,())) else if inb x.2.2.1 x.1.length then if inb x.2.2.1 x.2.1.length then if !decide ((rd (dfl .half) x.1 x.2.2.1).un=(rd (dfl .half) x.2.1 x.2.2.1).un) then I (.inr<|.inl (A3,())) else if inb x.2.2.1 x.1.length then if inb x.2.2.1 x.2.1.length then if !decide ((rd (dfl .half) x.1 x.2.2.1).sz=(rd (dfl .half) x.2.1 x.2.2.1).sz) then I (.inr<|.inl (A3,())) else if inb x.2.2.1 x.1.length then if inb x.2.2.1 x.2.1.length then if !decide ((((rd (dfl .half) x.1 x.2.2.1).got).length:Int)=(((rd (dfl .half) x.2.1 x.2.2.1).got).length:Int)) then I (.inr<|.inl (A3,())) else(AO (lL (x.1,x.2.1,x.2.2.1,0,())) (λa=>I<|.inr<|.inl a) λa=>I<|.inl (a.1,a.2.1,(w64<|a.2.2.1+1),())) else U else U else U else U else U else U else U else U else U else U else U else U else I (.inr<|.inr ())
def qV:=AW Un
def xm:Loop:=⟨[(0,.sl .half),(1,.sl .half),(5,.int .i64)],[],0,[(4,.bool)],qV⟩
def aes:LF Tryz.f62 [] [1,1,0,1,0,0] xm:=sq (v:=t1<|.two (.one<|t1<|t1<|.one<|.loop xB) .nil) my (b:=Un)<|kC asC kN
def Oc(x:List AH×List AH×A2):Option ((Bool×A2)×A2):=if !decide ((x.1.length:Int)=(x.2.1.length:Int)) then I ((A3,()),()) else(AO (qV (x.1,x.2.1,0,())) (λa=>I (a,())) λa=>I ((A1,()),()))
def aBL:Ent:=(62,U,⟨[.fz .half,.fz .half],[.bool],Oc⟩)
def auE:SQ Tryz.prog aBL:=sk (v:=t1<|t1<|.two (t1<|.one<|.loop xm) .nil) (fn:=Tryz.f62) my<|kC aes kN
def ann:Cx:=cX [aBL] [] [(25,29)]
def avY:OKC Tryz.prog ann AF:=okc mixed<|gC auE<|AL
def Zb(x:Y1×Y1×A2):Option ((Bool×A2)×A2):=if A0 (x.1.1=x.2.1.1) then if A0 (x.1.2.1=x.2.1.2.1) then if Ad (A0 (x.1.2.2.1=x.2.1.2.2.1)&&(A0 (x.1.2.2.2.1=x.2.1.2.2.2.1)&&A1)) ((Oc (x.1.2.2.2.2.1,x.2.1.2.2.2.2)).isSome) then let a:=((A0 (x.1.2.2.1=x.2.1.2.2.1)&&(A0 (x.1.2.2.2.1=x.2.1.2.2.2.1)&&A1))&&(((Oc (x.1.2.2.2.2.1,x.2.1.2.2.2.2)).getD ((A3,()),())).1.1));I ((a,()),()) else U else if Ad A3 ((Oc (x.1.2.2.2.2.1,x.2.1.2.2.2.2)).isSome) then I ((A3,()),()) else U else if Ad A3 ((Oc (x.1.2.2.2.2.1,x.2.1.2.2.2.2)).isSome) then I ((A3,()),()) else U
def tu:Ent:=(28,U,⟨[Z14,Z14],[.bool],Zb⟩)
def agU:SQ Tryz.prog tu:=sk (v:= .nil) (fn:=Tryz.f28) avY kN
def afJ:Cx:=cX [mT,tu] [] []
def aj:OKC Tryz.prog afJ AF:=okc mixed<|gC aA1<|gC agU<|AL
def Sf(x:Y2×Y2×Int×A2):Rnd (Y2×Y2×Int×A2) (Bool×A2) (A2):=if A0 (x.2.2.1<(x.1.2.2.2.1.length:Int)) then if inb x.2.2.1 x.1.2.2.2.1.length then if inb x.2.2.1 x.2.1.2.2.2.1.length then if !(A0 ((rd (dfl .Ai) x.1.2.2.2.1 x.2.2.1).src=(rd (dfl .Ai) x.2.1.2.2.2.1 x.2.2.1).src)&&(A0 ((rd (dfl .Ai) x.1.2.2.2.1 x.2.2.1).dst=(rd (dfl .Ai) x.2.1.2.2.2.1 x.2.2.1).dst)&&(A0 ((rd (dfl .Ai) x.1.2.2.2.1 x.2.2.1).data=(rd (dfl .Ai) x.2.1.2.2.2.1 x.2.2.1).data)&&(A0 ((rd (dfl .Ai) x.1.2.2.2.1 x.2.2.1).sp=(rd (dfl .Ai) x.2.1.2.2.2.1 x.2.2.1).sp)&&A1)))) then I (.inr<|.inl (A3,())) else I (.inl (x.1,x.2.1,(w64<|x.2.2.1+1),())) else U else U else I (.inr<|.inr ())
def qY:=AW Sf
def aEu:Loop:=⟨[(2,Z29),(3,Z29),(7,.int .i64)],[],4,[(4,.bool)],qY⟩
def az2:LF Tryz.f10 [] [1,1,1,1,0,1,0,0] aEu:=sq (v:= .nil) aj (b:=Sf) kN
def Ug(x:Y2×Y2×Int×A2):Rnd (Y2×Y2×Int×A2) (Bool×A2) (Y2×Y2×A2):=if A0 (x.2.2.1<(x.1.2.2.1.length:Int)) then if inb x.2.2.1 x.1.2.2.1.length then if inb x.2.2.1 x.2.1.2.2.1.length then if !decide ((rd (dfl .bool) x.1.2.2.1 x.2.2.1)=(rd (dfl .bool) x.2.1.2.2.1 x.2.2.1)) then I (.inr<|.inl (A3,())) else I (.inl (x.1,x.2.1,(w64<|x.2.2.1+1),())) else U else U else I (.inr<|.inr (x.1,x.2.1,()))
def qO:=AW Ug
def aDx:Loop:=⟨[(2,Z29),(3,Z29),(6,.int .i64)],[(2,Z29),(3,Z29)],2,[(4,.bool)],qO⟩
def awR:LF Tryz.f10 [] [1,1,1,0,1,0,0] aDx:=sq (v:= .nil) aj (b:=Ug) kN
def SP(x:Y2×Y2×Int×A2):Rnd (Y2×Y2×Int×A2) (Bool×A2) (Y2×Y2×A2):=if A0 (x.2.2.1<(x.1.2.1.length:Int)) then if inb x.2.2.1 x.1.2.1.length then if inb x.2.2.1 x.2.1.2.1.length then(Zb (((rd (dfl .AN) x.1.2.1 x.2.2.1).id,(rd (dfl .AN) x.1.2.1 x.2.2.1).up,(rd (dfl .AN) x.1.2.1 x.2.2.1).log,(rd (dfl .AN) x.1.2.1 x.2.2.1).fo,(rd (dfl .AN) x.1.2.1 x.2.2.1).AE,()),((rd (dfl .AN) x.2.1.2.1 x.2.2.1).id,(rd (dfl .AN) x.2.1.2.1 x.2.2.1).up,(rd (dfl .AN) x.2.1.2.1 x.2.2.1).log,(rd (dfl .AN) x.2.1.2.1 x.2.2.1).fo,(rd (dfl .AN) x.2.1.2.1 x.2.2.1).AE,()),())).bind λa=>if !a.1.1 then I (.inr<|.inl (A3,())) else I (.inl (x.1,x.2.1,(w64<|x.2.2.1+1),())) else U else U else I (.inr<|.inr (x.1,x.2.1,()))
def rj:=AW SP
def aB5:Loop:=⟨[(2,Z29),(3,Z29),(5,.int .i64)],[(2,Z29),(3,Z29)],0,[(4,.bool)],rj⟩
def agd:LF Tryz.f10 [] [1,1,0,1,0,0] aB5:=sq (v:= .nil) aj (b:=SP) kN
def Hl(x:Y2×Y2×A2):Option ((Bool×A2)×A2):=if !decide (x.1.1=x.2.1.1) then I ((A3,()),()) else if !decide ((x.1.2.1.length:Int)=(x.2.1.2.1.length:Int)) then I ((A3,()),()) else if !decide ((x.1.2.2.1.length:Int)=(x.2.1.2.2.1.length:Int)) then I ((A3,()),()) else if !decide ((x.1.2.2.2.1.length:Int)=(x.2.1.2.2.2.1.length:Int)) then I ((A3,()),()) else(Hz (x.1.2.2.2.2.1,x.2.1.2.2.2.2.1,())).bind λd=>if !d.1.1 then I ((A3,()),()) else(Hz (x.1.2.2.2.2.2.1,x.2.1.2.2.2.2.2)).bind λe=>if !e.1.1 then I ((A3,()),()) else(AO (rj (x.1,x.2.1,0,())) (λa=>I (a,())) λa=>(AO (qO (a.1,a.2.1,0,())) (λb=>I (b,())) λb=>(AO (qY (b.1,b.2.1,0,())) (λc=>I (c,())) λc=>I ((A1,()),()))))
def Tq:Ent:=(10,U,⟨[Z30,Z30],[.bool],Hl⟩)
def fB:SQ Tryz.prog Tq:=sk (v:=t1<|t1<|.two (t1<|.one<|.loop aB5)<|.two (t1<|.one<|.loop aDx)<|.two (t1<|.one<|.loop aEu) .nil) (fn:=Tryz.f10) aj<|kC agd<|kC awR<|kC az2 kN
end Go.VS
end
