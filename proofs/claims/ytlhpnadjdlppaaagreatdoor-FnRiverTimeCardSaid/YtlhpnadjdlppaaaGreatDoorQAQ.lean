/- Part 17. -/
import Derived.Test.YtlhpnadjdlppaaaGreatDoorQAP
open Bool renaming false->A3,true->A1
open Decidable renaming decide->A0
open Int renaming tdiv->Ay,tmod->B5,toNat->AK
open List renaming drop->Bp,replicate->BX,set->Bn,take->BH
open Option renaming none->U,some->I
set_option linter.all false
noncomputable section
namespace Go.VS
open Go Go.Proofs
set_option linter.unusedVariables false
set_option maxRecDepth 100000
def QE:SQ Tryz.prog KB:=soX (fn:=Tryz.f27) (l:=5) (g:=9) ar2 (by kernel_rfl) rfl (by kernel_rfl) alF av3
def aqS:Cx:=cX [G8] [] []
def aoP:OKC Tryz.prog aqS AF:=okc mixed<|gC GQ<|AJ
def Jk(x:Y0×List A4×A2):Option ((A4×A2)×(Y0×A2)):=(Aq (x.1,(x.2.1.length:Int),())).bind λa=>if inb a.1.1 x.2.1.length then let b:=(rd (dfl .str) x.2.1 a.1.1);I ((b,()),a.2) else U
def RS:Ent:=(71,U,⟨[Z0,.fz .str],[.str],Jk⟩)
def SP:SQ Tryz.prog RS:=sk (v:= .nil) (fn:=Tryz.f71) aoP kN
def avW:Cx:=cX [G8,KB,IF,RS] [] []
def aqB:OKC Tryz.prog avW AF:=okc mixed<|gC GQ<|gC QE<|gC Iw<|gC SP<|AJ
def Tc(x:Y10×A2):Option ((A2)×(Y10×A2)):=(Aq (x.1.1,4,())).bind λc=>(Jk (c.2.1,([(B [97]),(B [104,101,108,108,111]),(B [97,32,108,111,110,103,101,114,32,109,101,115,115,97,103,101]),(B [97,98,99,100]),(B [49,50,51,52,53,54,55,56]),(B [106,117,115,116,32,116,119,101,110,116,121,45,102,111,117,114,32,98,121,116,101,115,32,33,33]),(B [109,105,120,101,100,32,98,108,111,99,107,115])]:List A4),())).bind λb=>(B8 (X:=Y10×Int×A4×A2) (λa=>if inb a.2.1 a.1.2.2.1.length then(FN (((rd (dfl .AL) a.1.2.2.1 a.2.1).id,(rd (dfl .AL) a.1.2.2.1 a.2.1).up,(rd (dfl .AL) a.1.2.2.1 a.2.1).log,(rd (dfl .AL) a.1.2.2.1 a.2.1).fo,(rd (dfl .AL) a.1.2.2.1 a.2.1).AM,()),())).bind λf=>(Aq (a.1.1,4,())).bind λd=>(Aq (d.2.1,12,())).bind λe=>(F7 ((e.2.1,a.1.2),(1,a.2.1,0,0,0,0,0,d.1.1,(w64<|(w64<|f.1.1.2.1+1)+e.1.1),a.2.2),())).bind λg=>I ((),g.2) else U)<|(if A0 (24<(b.1.1.size:Int)) then if A0 (0<=24)&&A0 (24<=(b.1.1.size:Int)) then let h:=(b.1.1.extract (0)<|AK 24);I (.inr ((b.2.1,x.1.2),c.1.1,h,())) else U else I (.inr ((b.2.1,x.1.2),c.1.1,b.1))))
def me:Ent:=(44,U,⟨[Z22],[],Tc⟩)
def yE:SQ Tryz.prog me:=sk (v:=t1<|t1<|.join [(0,Z24),(2,.int .i64),(3,.str)] .nil .nil) (fn:=Tryz.f44) aqB kN
def alj:Cx:=cX [G8,IF] [] []
def x6:OKC Tryz.prog alj AF:=okc mixed<|gC GQ<|gC Iw<|AJ
def gD(x:Y10×Y5×Int×Int×A2):Rnd (Y10×Y5×Int×Int×A2) (Y10×Int×Y5×Bool×A2) (Y10×Y5×A2):=if A0 (x.2.2.2.1<4) then if inb x.2.2.1 x.1.2.2.1.length then(FN (((rd (dfl .AL) x.1.2.2.1 x.2.2.1).id,(rd (dfl .AL) x.1.2.2.1 x.2.2.1).up,(rd (dfl .AL) x.1.2.2.1 x.2.2.1).log,(rd (dfl .AL) x.1.2.2.1 x.2.2.1).fo,(rd (dfl .AL) x.1.2.2.1 x.2.2.1).AM,()),())).bind λa=>if A0 (0<(a.1.1.2.2.2.1.length:Int)) then(Aq (x.1.1,(a.1.1.2.2.2.1.length:Int),())).bind λb=>if inb b.1.1 a.1.1.2.2.2.1.length then let c:=(rd (dfl .note) a.1.1.2.2.2.1 b.1.1).fr;let d:=(rd (dfl .note) a.1.1.2.2.2.1 b.1.1).nu;let e:=(rd (dfl .note) a.1.1.2.2.2.1 b.1.1).to;let f:=(rd (dfl .note) a.1.1.2.2.2.1 b.1.1).un;let g:=(rd (dfl .note) a.1.1.2.2.2.1 b.1.1).tx;I (.inr<|.inl ((b.2.1,x.1.2),x.2.2.1,(c,d,e,f,g,()),A1,())) else U else let h:=(B5 (w64<|x.2.2.1+1) 4);I (.inl (x.1,x.2.1,h,(w64<|x.2.2.2.1+1),())) else U else I (.inr<|.inr (x.1,x.2.1,()))
def xm:=AZ gD
def sR:Loop:=⟨[(0,Z24),(3,Z7),(5,.int .i64),(6,.int .i64)],[(0,Z24),(3,Z7)],0,[(0,Z24),(2,.int .i64),(3,Z7),(4,.bool)],xm⟩
def arJ:LF Tryz.f26 [0] [1,1,0,1,0,0] sR:=sq (v:= .nil) x6 (b:=gD) kN
def VN(x:Y10×A2):Option ((Int×Y5×Bool×A2)×(Y10×A2)):=(Aq (x.1.1,4,())).bind λb=>(AS (xm ((b.2.1,x.1.2),(0,0,0,0,noB,()),b.1.1,0,())) (λa=>I (a.2,(a.1,()))) λa=>I ((0,(0,0,0,0,noB,()),A3,()),(a.1,())))
def nh:Ent:=(26,U,⟨[Z22],[.int .i64,Z8,.bool],VN⟩)
def yn:SQ Tryz.prog nh:=sk (v:=t1<|t1<|.two (t1<|.one<|.loop sR) .nil) (fn:=Tryz.f26) x6<|kC arJ kN
def al2:Cx:=cX [G8,IF] [] []
def wu:OKC Tryz.prog al2 AF:=okc mixed<|gC GQ<|gC Iw<|AJ
def iO(x:Y10×Y5×Int×Int×A2):Rnd (Y10×Y5×Int×Int×A2) (Y10×Int×Y5×Bool×A2) (Y10×Y5×A2):=if A0 (x.2.2.2.1<4) then if inb x.2.2.1 x.1.2.2.1.length then(FN (((rd (dfl .AL) x.1.2.2.1 x.2.2.1).id,(rd (dfl .AL) x.1.2.2.1 x.2.2.1).up,(rd (dfl .AL) x.1.2.2.1 x.2.2.1).log,(rd (dfl .AL) x.1.2.2.1 x.2.2.1).fo,(rd (dfl .AL) x.1.2.2.1 x.2.2.1).AM,()),())).bind λa=>if A0 (0<(a.1.1.2.2.2.1.length:Int)) then(Aq (x.1.1,(a.1.1.2.2.2.1.length:Int),())).bind λb=>if inb b.1.1 a.1.1.2.2.2.1.length then let c:=(rd (dfl .note) a.1.1.2.2.2.1 b.1.1).fr;let d:=(rd (dfl .note) a.1.1.2.2.2.1 b.1.1).nu;let e:=(rd (dfl .note) a.1.1.2.2.2.1 b.1.1).to;let f:=(rd (dfl .note) a.1.1.2.2.2.1 b.1.1).un;let g:=(rd (dfl .note) a.1.1.2.2.2.1 b.1.1).tx;I (.inr<|.inl ((b.2.1,x.1.2),x.2.2.1,(c,d,e,f,g,()),A1,())) else U else let h:=(B5 (w64<|x.2.2.1+1) 4);I (.inl (x.1,x.2.1,h,(w64<|x.2.2.2.1+1),())) else U else I (.inr<|.inr (x.1,x.2.1,()))
def rE:=AZ iO
def aAW:Loop:=⟨[(0,Z25),(3,Z7),(5,.int .i64),(6,.int .i64)],[(0,Z25),(3,Z7)],0,[(0,Z25),(2,.int .i64),(3,Z7),(4,.bool)],rE⟩
def axV:LF Tryz.f26 [0] [1,1,0,1,0,0] aAW:=sq (v:= .nil) wu (b:=iO) kN
def Xv(x:Y10×A2):Option ((Int×Y5×Bool×A2)×(Y10×A2)):=(Aq (x.1.1,4,())).bind λb=>(AS (rE ((b.2.1,x.1.2),(0,0,0,0,noB,()),b.1.1,0,())) (λa=>I (a.2,(a.1,()))) λa=>I ((0,(0,0,0,0,noB,()),A3,()),(a.1,())))
def ie:Ent:=(26,U,⟨[Z26],[.int .i64,Z8,.bool],Xv⟩)
def akd:SQ Tryz.prog ie:=sk (v:=t1<|t1<|.two (t1<|.one<|.loop aAW) .nil) (fn:=Tryz.f26) wu<|kC axV kN
def apF:Cx:=cX [G8,KB] [] [(12,18)]
def abK:OKC Tryz.prog apF AF:=okc mixed<|gC GQ<|gC QE<|AJ
def nf(x:Y10×Int×Int×Int×A2):Rnd (Y10×Int×Int×Int×A2) (A2) (Y10×A2):=if(A0<|x.2.2.2.1<x.2.1)&&(A0<|0<(x.1.2.2.2.2.1.length:Int)) then(B8 (X:=Y10×Int×Int×Int×Y3×A2) (λe=>(B8 (X:=Y10×Int×Int×Int×Y3×A2) (λc=>(B8 (X:=Y10×Int×Int×Int×Y3×Bool×A2) (λb=>if b.2.2.2.2.2.1 then(Aq (b.1.1,17,())).bind λg=>(Aq (g.2.1,255,())).bind λh=>(F7 ((h.2.1,b.1.2),(b.2.2.2.2.1.1,b.2.2.2.2.1.2.1,b.2.2.2.2.1.2.2.1,b.2.2.2.2.1.2.2.2.1,b.2.2.2.2.1.2.2.2.2.1,g.1.1,(w64<|1+h.1.1),b.2.2.2.2.1.2.2.2.2.2.2.2),())).bind λo=>I (.inl (o.2.1,b.2.1,b.2.2.1,(w64<|b.2.2.2.1+1),())) else I (.inl (b.1,b.2.1,b.2.2.1,(w64<|b.2.2.2.1+1),())))<|(if A0 (c.2.2.2.2.1.1=6) then(Aq (c.1.1,2,())).bind λi=>I (.inr ((i.2.1,c.1.2),c.2.1,c.2.2.1,c.2.2.2.1,c.2.2.2.2.1,(A0<|i.1.1=0),())) else I (.inr (c.1,c.2.1,c.2.2.1,c.2.2.2.1,c.2.2.2.2.1,A3,())))))<|(F7 (e.1,e.2.2.2.2)).bind λf=>if !f.1.1 then(F7 (f.2.1,(5,0,0,0,0,0,0,0,0,noB,()),())).bind λp=>I (.inr (p.2.1,e.2)) else I (.inr (f.2.1,e.2))))<|(B8 (X:=Y10×Int×Int×Int×Y3×Bool×A2) (λa=>if a.2.2.2.2.2.1 then(Aq (a.1.1,5,())).bind λd=>if A0 (d.1.1=0) then I (.inr ((d.2.1,a.1.2),a.2.1,a.2.2.1,a.2.2.2.1,(5,a.2.2.2.2.1.2),())) else if A0 (d.1.1=1) then I (.inr ((d.2.1,a.1.2),a.2.1,a.2.2.1,a.2.2.2.1,(a.2.2.2.2.1.1,a.2.2.2.2.1.2.1,a.2.2.2.2.1.2.2.1,a.2.2.2.2.1.2.2.2.1,a.2.2.2.2.1.2.2.2.2.1,a.2.2.2.2.1.2.2.2.2.2.1,1,a.2.2.2.2.1.2.2.2.2.2.2.2),())) else if A0 (d.1.1=2) then(Aq (d.2.1,(a.1.2.2.2.2.1.length:Int),())).bind λj=>(Aq (j.2.1,17,())).bind λk=>(Aq (k.2.1,255,())).bind λl=>I (.inr ((l.2.1,a.1.2),a.2.1,a.2.2.1,a.2.2.2.1,(6,a.2.2.2.2.1.2.1,a.2.2.2.2.1.2.2.1,a.2.2.2.2.1.2.2.2.1,j.1.1,k.1.1,(w64<|1+l.1.1),a.2.2.2.2.1.2.2.2.2.2.2.2),())) else(Aq (d.2.1,(a.1.2.2.2.2.1.length:Int),())).bind λm=>I (.inr ((m.2.1,a.1.2),a.2.1,a.2.2.1,a.2.2.2.1,(a.2.2.2.2.1.1,a.2.2.2.2.1.2.1,a.2.2.2.2.1.2.2.1,a.2.2.2.2.1.2.2.2.1,m.1.1,a.2.2.2.2.1.2.2.2.2.2),())) else I (.inr (a.1,a.2.1,a.2.2.1,a.2.2.2.1,a.2.2.2.2.1,())))<|(if A0 (0<x.2.2.1) then(Aq (x.1.1,x.2.2.1,())).bind λn=>I (.inr ((n.2.1,x.1.2),x.2.1,x.2.2.1,x.2.2.2.1,(4,0,0,0,0,0,0,0,0,noB,()),(A0<|n.1.1=0),())) else I (.inr (x.1,x.2.1,x.2.2.1,x.2.2.2.1,(4,0,0,0,0,0,0,0,0,noB,()),A3,()))))) else I (.inr<|.inr (x.1,()))
def rS:=AZ nf
def adI:Loop:=⟨[(0,Z24),(1,.int .i64),(2,.int .i64),(6,.int .i64)],[(0,Z24)],0,[],rS⟩
def atV:LF Tryz.f73 [0] [1,0,0] adI:=sq (v:=t1<|.two (.one<|t1<|.join [(0,Z24),(1,.int .i64),(2,.int .i64),(6,.int .i64),(7,Z27)] (.join [(0,Z24),(1,.int .i64),(2,.int .i64),(6,.int .i64),(7,Z27),(33,.bool)] .nil .nil)<|.join [(0,Z24),(1,.int .i64),(2,.int .i64),(6,.int .i64),(7,Z27)] .nil<|.join [(0,Z24),(1,.int .i64),(2,.int .i64),(6,.int .i64),(7,Z27),(102,.bool)] .nil .nil) .nil) abK (b:=nf) kN
def NX(x:Y10×Int×Int×A2):Option ((A2)×(Y10×A2)):=(AS (rS (x.1,x.2.1,x.2.2.1,0,())) (λ_=>U) λa=>I ((),a))
def cK:Ent:=(73,U,⟨[Z22,.int .i64,.int .i64],[],NX⟩)
def jd:SQ Tryz.prog cK:=sk (v:=t1<|.one<|.loop adI) (fn:=Tryz.f73) abK<|kC atV kN
def alz:Cx:=cX [G8,nh,KB,cK] [] []
def acd:OKC Tryz.prog alz AF:=okc mixed<|gC GQ<|gC yn<|gC QE<|gC jd<|AJ
def mK(x:Y10×Int×Int×Int×Y5×Int×Int×A2):Rnd (Y10×Int×Int×Int×Y5×Int×Int×A2) (A2) (Y10×Int×Int×A2):=if A0 (x.2.2.2.2.2.2.1<x.2.1) then(F7 (x.1,(3,x.2.2.2.1,x.2.2.2.2.1.1,x.2.2.2.2.1.2.1,0,(w64<|x.2.2.2.2.2.1+x.2.2.2.2.2.2.1),0,0,0,noB,()),())).bind λa=>let b:=(w64<|x.2.2.2.2.2.2.1+1);I (.inl (a.2.1,x.2.1,x.2.2.1,x.2.2.2.1,x.2.2.2.2.1,x.2.2.2.2.2.1,b,())) else I (.inr<|.inr (x.1,x.2.1,x.2.2.1,()))
def qo:=AZ mK
def vt:Loop:=⟨[(0,Z24),(1,.int .i64),(2,.int .i64),(6,.int .i64),(7,Z7),(9,.int .i64),(10,.int .i64)],[(0,Z24),(1,.int .i64),(2,.int .i64)],0,[],qo⟩
def atK:LF Tryz.f72 [0] [1,1,1,0,1,0,0] vt:=sq (v:= .nil) acd (b:=mK) kN
def NK(x:Y10×Int×Int×A2):Option ((A2)×(Y10×A2)):=(VN (x.1,())).bind λa=>if !a.1.2.2.1 then I ((),a.2) else(Aq (a.2.1.1,2,())).bind λc=>(Aq (c.2.1,40,())).bind λd=>(AS (qo ((d.2.1,a.2.1.2),x.2.1,x.2.2.1,a.1.1,a.1.2.1,(w64<|c.1.1 * d.1.1),0,())) (λ_=>U) λb=>(Aq (b.1.1,(w64<|b.2.1+4),())).bind λe=>(NX ((e.2.1,b.1.2),e.1.1,b.2.2)).bind λf=>I ((),f.2))
def WO:Ent:=(72,U,⟨[Z22,.int .i64,.int .i64],[],NK⟩)
def jo:SQ Tryz.prog WO:=sk (v:=t1<|t1<|t1<|.two (t1<|.one<|.loop vt) .nil) (fn:=Tryz.f72) acd<|kC atK kN
def am1:Cx:=cX [G8,KB,WO,cK] [] [(89,96)]
def Rz:OKC Tryz.prog am1 AF:=okc mixed<|gC GQ<|gC QE<|gC jo<|gC jd<|AJ
def lh(x:Y10×Int×Int×A2):Rnd (Y10×Int×Int×A2) (A2) (Y10×A2):=if A0 (0<x.2.2.1) then(F7 (x.1,(2,x.2.1,0,0,0,0,0,0,0,noB,()),())).bind λa=>I (.inl (a.2.1,x.2.1,(w64<|x.2.2.1 - 1),())) else I (.inr<|.inr (x.1,()))
def qZ:=AZ lh
def abl:Loop:=⟨[(0,Z24),(5,.int .i64),(6,.int .i64)],[(0,Z24)],5,[],qZ⟩
def aqq:LF Tryz.f74 [0] [1,1,1,1,0,1,0,1,1,1,0,1,0,0] abl:=sq (v:= .nil) Rz (b:=lh) kN
def gY(x:Y10×Int×Int×Int×A2):Rnd (Y10×Int×Int×Int×A2) (A2) (Y10×Int×A2):=if A0 (x.2.2.2.1<x.2.2.1) then(F7 (x.1,(4,0,0,0,x.2.2.2.1,0,1,0,0,noB,()),())).bind λa=>I (.inl (a.2.1,x.2.1,x.2.2.1,(w64<|x.2.2.2.1+1),())) else I (.inr<|.inr (x.1,x.2.1,()))
def aaO:=AZ gY
def aBe:Loop:=⟨[(0,Z24),(2,.int .i64),(3,.int .i64),(4,.int .i64)],[(0,Z24),(2,.int .i64)],2,[],aaO⟩
def aue:LF Tryz.f74 [0] [1,1,0,1,0,0,1,0,0,1,1,0,0] aBe:=sq (v:= .nil) Rz (b:=gY) kN
def ou(x:Y10×Int×Int×A2):Rnd (Y10×Int×Int×A2) (A2) (Y10×A2):=if(A0<|x.2.2.1<12)&&(A0<|x.2.1<(x.1.2.2.2.2.1.length:Int)) then(F7 (x.1,(4,0,0,0,x.2.1,0,0,0,0,noB,()),())).bind λa=>I (.inl (a.2.1,x.2.1,(w64<|x.2.2.1+1),())) else I (.inr<|.inr (x.1,()))
def x7:=AZ ou
def acz:Loop:=⟨[(0,Z24),(7,.int .i64),(8,.int .i64)],[(0,Z24)],7,[],x7⟩
def afL:LF Tryz.f74 [0] [1,1,1,1,1,1,1,0,1,0,0] acz:=sq (v:= .nil) Rz (b:=ou) kN
def kR(x:Y10×Int×A2):Rnd (Y10×Int×A2) (A2) (Y10×A2):=(Aq (x.1.1,2,())).bind λa=>if A0 (x.2.1<(w64<|1+a.1.1)) then let c:=(x.1.2.2.2.2.1.length:Int);(AS (aaO ((a.2.1,x.1.2),x.2.1,c,0,())) (λ_=>I<|.inr<|.inl ()) λb=>I<|.inl (b.1,(w64<|b.2.1+1),())) else I (.inr<|.inr ((a.2.1,x.1.2),()))
def qy:=AZ kR
def aaM:Loop:=⟨[(0,Z24),(2,.int .i64)],[(0,Z24)],0,[],qy⟩
def amQ:LF Tryz.f74 [0] [1,1,0,1,0,0] aaM:=sq (v:=t1<|.two (.one<|t1<|t1<|.one<|.loop aBe) .nil) Rz (b:=kR)<|kC aue kN
def WZ(x:Y10×A2):Option ((A2)×(Y10×A2)):=(NX (x.1,40,0,())).bind λg=>(NK (g.2.1,6,0,())).bind λh=>(AS (qy (h.2.1,0,())) (λ_=>U) λb=>(Aq (b.1.1,4,())).bind λc=>(B8 (X:=Y10×A2) (λd=>let i:=(d.1.2.2.2.2.1.length:Int);(NK (d.1,6,0,())).bind λj=>(AS (x7 (j.2.1,i,0,())) (λ_=>U) λk=>(NX (k.1,40,0,())).bind λl=>I ((),l.2)))<|(Aq (c.2.1,3,())).bind λa=>if A0 (a.1.1=0) then(Aq (a.2.1,40,())).bind λe=>(F7 ((e.2.1,b.1.2),(7,c.1.1,0,0,0,0,e.1.1,0,0,noB,()),())).bind λm=>(F7 (m.2.1,(8,c.1.1,0,0,0,0,0,0,0,noB,()),())).bind λn=>I (.inr n.2) else if A0 (a.1.1=1) then(Aq (a.2.1,9,())).bind λf=>(AS (qZ ((f.2.1,b.1.2),c.1.1,f.1)) (λ_=>U) λo=>I<|.inr o) else I (.inr ((a.2.1,b.1.2),()))))
def td:Ent:=(74,U,⟨[Z22],[],WZ⟩)
def avz:SQ Tryz.prog td:=sk (v:=t1<|t1<|.two (t1<|.one<|.loop aaM)<|t1<|.join [(0,Z24)] (t1<|.one<|t1<|t1<|t1<|.two (t1<|.one<|.loop abl) .nil)<|t1<|t1<|.two (t1<|.one<|.loop acz) .nil) (fn:=Tryz.f74) Rz<|kC amQ<|kC aqq<|kC afL kN
def ax7:Cx:=cX [G8,KB,me,IF,WO,cK,td] [] []
def aaf:OKC Tryz.prog ax7 AF:=okc mixed<|gC GQ<|gC QE<|gC yE<|gC Iw<|gC jo<|gC jd<|gC avz<|AJ
def oJ(x:Y10×Int×A2):Rnd (Y10×Int×A2) (A2) (Y10×A2):=if A0 (x.2.1<4) then(NK (x.1,7,0,())).bind λa=>(NX (a.2.1,20,0,())).bind λb=>I (.inl (b.2.1,(w64<|x.2.1+1),())) else I (.inr<|.inr (x.1,()))
def tO:=AZ oJ
def qn:Loop:=⟨[(0,Z24),(8,.int .i64)],[(0,Z24)],1,[],tO⟩
def av1:LF Tryz.f45 [0] [1,1,0,1,1,1,1,1,1,1,1,1,1,1,1,1,1,1,1,1,1,1,1,1,0,0] qn:=sq (v:= .nil) aaf (b:=oJ) kN
def dN(x:Y10×Int×A2):Option ((A2)×(Y10×A2)):=(Aq (x.1.1,4,())).bind λj=>(Aq (j.2.1,24,())).bind λg=>(B8 (X:=Y10×Int×Int×Int×Bool×A2) (λa=>if a.2.2.2.2.1 then(Tc (a.1,())).bind λD=>I ((),D.2) else(B8 (X:=Y10×Int×Int×Int×Bool×A2) (λd=>if d.2.2.2.2.1 then(Aq (d.1.1,7,())).bind λl=>(NK ((l.2.1,d.1.2),(w64<|1+l.1.1),d.2.1,())).bind λE=>I ((),E.2) else(B8 (X:=Y10×Int×Int×Int×Bool×A2) (λf=>if f.2.2.2.2.1 then(Aq (f.1.1,20,())).bind λm=>(NX ((m.2.1,f.1.2),(w64<|1+m.1.1),f.2.1,())).bind λF=>I ((),F.2) else(B8 (X:=Y10×Int×Int×Bool×A2) (λc=>if c.2.2.2.1 then(F7 (c.1,(2,c.2.1,0,0,0,0,0,0,0,noB,()),())).bind λG=>I ((),G.2) else let H:=(A0<|c.2.2.1=13);(if H then(Aq (c.1.1,50,())).bind λn=>(F7 ((n.2.1,c.1.2),(7,c.2.1,0,0,0,0,n.1.1,0,0,noB,()),())).bind λJ=>I ((),J.2) else(B8 (X:=Y10×Int×Int×Bool×A2) (λe=>if e.2.2.2.1 then(F7 (e.1,(8,e.2.1,0,0,0,0,0,0,0,noB,()),())).bind λK=>I ((),K.2) else let L:=(A0<|e.2.2.1=16);(if L then(Aq (e.1.1,2,())).bind λo=>(Aq (o.2.1,3,())).bind λp=>(F7 ((p.2.1,e.1.2),((w64<|9+o.1.1),p.1.1,0,0,0,0,0,0,0,noB,()),())).bind λM=>I ((),M.2) else(B8 (X:=Y10×Int×Int×Bool×A2) (λb=>if b.2.2.2.1 then if inb b.2.1 b.1.2.2.1.length then(FN (((rd (dfl .AL) b.1.2.2.1 b.2.1).id,(rd (dfl .AL) b.1.2.2.1 b.2.1).up,(rd (dfl .AL) b.1.2.2.1 b.2.1).log,(rd (dfl .AL) b.1.2.2.1 b.2.1).fo,(rd (dfl .AL) b.1.2.2.1 b.2.1).AM,()),())).bind λh=>if A0 (0<(h.1.1.2.2.2.2.2.1.length:Int)) then(Aq (b.1.1,(h.1.1.2.2.2.2.2.1.length:Int),())).bind λi=>if inb i.1.1 h.1.1.2.2.2.2.2.1.length then let N:=(rd (dfl .note) h.1.1.2.2.2.2.2.1 i.1.1).fr;let O:=(rd (dfl .note) h.1.1.2.2.2.2.2.1 i.1.1).nu;let v55:=(rd (dfl .note) h.1.1.2.2.2.2.2.1 i.1.1).to;let v56:=(rd (dfl .note) h.1.1.2.2.2.2.2.1 i.1.1).un;let v57:=(rd (dfl .note) h.1.1.2.2.2.2.2.1 i.1.1).tx;(F7 ((i.2.1,b.1.2),(11,b.2.1,N,O,0,0,0,0,0,noB,()),())).bind λP=>I ((),P.2) else U else I ((),(b.1,())) else U else let Q:=(A0<|b.2.2.1=19);(if Q then(Aq (b.1.1,2,())).bind λq=>(F7 ((q.2.1,b.1.2),((w64<|12+q.1.1),b.2.1,0,0,0,0,0,0,0,noB,()),())).bind λR=>I ((),R.2) else(B8 (X:=Y10×Bool×A2) (λk=>if k.2.1 then(WZ (k.1,())).bind λS=>I ((),S.2) else(AS (tO (k.1,0,())) (λ_=>U) λT=>I ((),T))) (let r:=(A0<|b.2.2.1=20);(if r then I (.inr (b.1,r,())) else let s:=(A0<|b.2.2.1=21);(if s then I (.inr (b.1,s,())) else let V:=(A0<|b.2.2.1=22);I (.inr (b.1,V,())))))))) (let t:=(A0<|e.2.2.1=17);(if t then I (.inr (e.1,e.2.1,e.2.2.1,t,())) else let W:=(A0<|e.2.2.1=18);I (.inr (e.1,e.2.1,e.2.2.1,W,()))))))) (let u:=(A0<|c.2.2.1=14);(if u then I (.inr (c.1,c.2.1,c.2.2.1,u,())) else let Y:=(A0<|c.2.2.1=15);I (.inr (c.1,c.2.1,c.2.2.1,Y,()))))))) (let v:=(A0<|f.2.2.2.1=11);(if v then I (.inr (f.1,f.2.2.1,f.2.2.2.1,v,())) else let Z:=(A0<|f.2.2.2.1=12);I (.inr (f.1,f.2.2.1,f.2.2.2.1,Z,())))))) (let w:=(A0<|d.2.2.2.1=9);(if w then I (.inr (d.1,d.2.1,d.2.2.1,d.2.2.2.1,w,())) else let v24:=(A0<|d.2.2.2.1=10);I (.inr (d.1,d.2.1,d.2.2.1,d.2.2.2.1,v24,())))))) (let y:=(A0<|a.2.2.2.1=3);(if y then I (.inr (a.1,a.2.1,a.2.2.1,a.2.2.2.1,y,())) else let z:=(A0<|a.2.2.2.1=4);(if z then I (.inr (a.1,a.2.1,a.2.2.1,a.2.2.2.1,z,())) else let A:=(A0<|a.2.2.2.1=5);(if A then I (.inr (a.1,a.2.1,a.2.2.1,a.2.2.2.1,A,())) else let B:=(A0<|a.2.2.2.1=6);(if B then I (.inr (a.1,a.2.1,a.2.2.1,a.2.2.2.1,B,())) else let C:=(A0<|a.2.2.2.1=7);(if C then I (.inr (a.1,a.2.1,a.2.2.1,a.2.2.2.1,C,())) else let v17:=(A0<|a.2.2.2.1=8);I (.inr (a.1,a.2.1,a.2.2.1,a.2.2.2.1,v17,()))))))))))<|(if A0 (g.1.1=0) then I (.inr ((g.2.1,x.1.2),x.2.1,j.1.1,g.1.1,(A0<|g.1.1=0),())) else if A0 (g.1.1=1) then I (.inr ((g.2.1,x.1.2),x.2.1,j.1.1,g.1.1,(A0<|g.1.1=1),())) else I (.inr ((g.2.1,x.1.2),x.2.1,j.1.1,g.1.1,(A0<|g.1.1=2),()))))
def vr:Ent:=(45,U,⟨[Z22,.int .i64],[],dN⟩)
def ai3:SQ Tryz.prog vr:=sk (v:=t1<|t1<|.one<|.join [(0,Z24),(1,.int .i64),(4,.int .i64),(18,.int .i64),(27,.bool)] .nil<|t1<|.join [(0,Z24),(1,.int .i64),(4,.int .i64),(18,.int .i64),(33,.bool)] .nil<|t1<|.join [(0,Z24),(1,.int .i64),(4,.int .i64),(18,.int .i64),(49,.bool)] .nil<|t1<|.join [(0,Z24),(4,.int .i64),(18,.int .i64),(61,.bool)] .nil<|t1<|t1<|t1<|.join [(0,Z24),(4,.int .i64),(18,.int .i64),(79,.bool)] .nil<|t1<|t1<|t1<|.join [(0,Z24),(4,.int .i64),(18,.int .i64),(102,.bool)] .nil<|t1<|t1<|t1<|.join [(0,Z24),(153,.bool)] .nil<|t1<|t1<|.one<|.loop qn) (fn:=Tryz.f45) aaf<|kC av1 kN
def alC:Cx:=cX [G8,aA3,me,vr] [] []
def rL:OKC Tryz.prog alC AF:=okc mixed<|gC GQ<|gC akZ<|gC yE<|gC ai3<|AJ
def gx(x:Y0×Y11×Int×Int×A2):Rnd (Y0×Y11×Int×Int×A2) (A2) (Y0×Y11×A2):=if A0 (0<x.2.2.2.1) then(dN ((x.1,x.2.1.2),x.2.2.1,())).bind λa=>I (.inl (a.2.1.1,((),a.2.1.2),x.2.2.1,(w64<|x.2.2.2.1 - 1),())) else I (.inr<|.inr (x.1,((),x.2.1.2),()))
def uj:=AZ gx
def xL:Loop:=⟨[(0,Z23),(5,Z28),(6,.int .i64),(7,.int .i64)],[(0,Z23),(5,Z28)],0,[],uj⟩
def alR:LF Tryz.f24 [0] [1,1,1,1,0,1,0,0] xL:=sq (v:= .nil) rL (b:=gx) kN
def Q9(x:Y0×Int×A2):Option ((Y11×A2)×(Y0×A2)):=(aP ()).bind λa=>(Aq (x.1,5,())).bind λb=>if inb b.1.1 (([0,0,3,6,12]:List Int).length) then let f:=(rd (dfl .int) ([0,0,3,6,12]:List Int) b.1.1);(Tc ((b.2.1,a.1.1.1,a.1.1.2.1,a.1.1.2.2.1,a.1.1.2.2.2.1,a.1.1.2.2.2.2.1,a.1.1.2.2.2.2.2.1,([]:List Event),()),())).bind λc=>(Aq (c.2.1.1,x.2)).bind λd=>(AS (uj (d.2.1,((),c.2.1.2),f,d.1)) (λ_=>U) λe=>I ((((),e.2.1.2),()),(e.1,()))) else U
def ly:Ent:=(24,U,⟨[Z0,.int .i64],[Z28],Q9⟩)
def px:SQ Tryz.prog ly:=sk (v:=t1<|t1<|t1<|t1<|.two (t1<|.one<|.loop xL) .nil) (fn:=Tryz.f24) rL<|kC alR kN
def ay1:Cx:=cX [LW] [] []
def sn:OKC Tryz.prog ay1 AF:=okc mixed<|gC MH<|AJ
def Xh(x:Y2×Y2×Y2×Int×A2):Rnd (Y2×Y2×Y2×Int×A2) (A2) (Y2×Y2×A2):=if A0 (x.2.2.2.1<(x.1.2.1.length:Int)) then if inb x.2.2.2.1 x.1.2.1.length then(Fg (((rd (dfl .AL) x.1.2.1 x.2.2.2.1).id,(rd (dfl .AL) x.1.2.1 x.2.2.2.1).up,(rd (dfl .AL) x.1.2.1 x.2.2.2.1).log,(rd (dfl .AL) x.1.2.1 x.2.2.2.1).fo,(rd (dfl .AL) x.1.2.1 x.2.2.2.1).AM,()),())).bind λa=>if Ab (x.2.2.1.2.1.length+([(AA.mk a.1.1.1 a.1.1.2.1 a.1.1.2.2.1 a.1.1.2.2.2.1 a.1.1.2.2.2.2.1)]:List AA).length) then I (.inl (x.1,x.2.1,(x.2.2.1.1,(x.2.2.1.2.1++([(AA.mk a.1.1.1 a.1.1.2.1 a.1.1.2.2.1 a.1.1.2.2.2.1 a.1.1.2.2.2.2.1)]:List AA)),x.2.2.1.2.2),(w64<|x.2.2.2.1+1),())) else U else U else I (.inr<|.inr (x.2.1,x.2.2.1,()))
def aQ:=AZ Xh
def aeK:Loop:=⟨[(1,Z29),(2,Z2),(3,Z2),(4,.int .i64)],[(2,Z2),(3,Z2)],0,[],aQ⟩
def aos:LF Tryz.f29 [] [1,1,0,1,0,0] aeK:=sq (v:= .nil) sn (b:=Xh) kN
def MN(x:Y2×A2):Option ((Y2×A2)×A2):=if Ab (([]:List Bool).length+x.1.2.2.1.length) then if Ab (([]:List AR).length+x.1.2.2.2.1.length) then if Ab (([]:List A7).length+x.1.2.2.2.2.1.length) then if Ab (([]:List A7).length+x.1.2.2.2.2.2.1.length) then(AS (aQ (x.1,(0,([]:List AA),([]:List Bool),([]:List AR),([]:List A7),([]:List A7),()),(x.1.1,([]:List AA),(([]:List Bool)++x.1.2.2.1),(([]:List AR)++x.1.2.2.2.1),(([]:List A7)++x.1.2.2.2.2.1),(([]:List A7)++x.1.2.2.2.2.2.1),()),0,())) (λ_=>U) λa=>I (a.2,())) else U else U else U else U
def mN:Ent:=(29,U,⟨[Z30],[Z3],MN⟩)
def uq:SQ Tryz.prog mN:=sk (v:=t1<|t1<|.two (t1<|.one<|.loop aeK) .nil) (fn:=Tryz.f29) sn<|kC aos kN
def ait:Cx:=cX [] [] []
def zD:OKC Tryz.prog ait AF:=okc mixed<|AJ
def o7(x:A4×Int×A4×A2):Rnd (A4×Int×A4×A2) (A2) (A4×A2):=if A0 (0<x.2.1) then(B8 (X:=A4×Int×A4×A2) (λa=>if A0 (a.1.size+a.1.size<=4611686018427387904) then let b:=(w64<|Ay a.2.1 2);I (.inl ((a.1++a.1),b,a.2.2)) else U)<|(if A0 ((B5 x.2.1 2)=1) then if A0 (x.2.2.1.size+x.1.size<=4611686018427387904) then I (.inr (x.1,x.2.1,(x.2.2.1++x.1),())) else U else I (.inr x))) else I (.inr<|.inr x.2.2)
def wA:=AZ o7
def acJ:Loop:=⟨[(0,.str),(1,.int .i64),(5,.str)],[(5,.str)],0,[],wA⟩
def aiF:LF Tryz.f48 [] [1,1,0,0,0] acJ:=sq (v:=t1<|.one<|.join [(0,.str),(1,.int .i64),(5,.str)] .nil .nil) zD (b:=o7) kN
def Mh(x:A4×Int×A2):Option ((A4×A2)×A2):=(AS (wA (x.1,x.2.1,noB,())) (λ_=>U) λa=>I (a,()))
def Ty:Ent:=(48,U,⟨[.str,.int .i64],[.str],Mh⟩)
def X0:SQ Tryz.prog Ty:=sk (v:=t1<|t1<|.two (.one<|.loop acJ) .nil) (fn:=Tryz.f48) zD<|kC aiF kN
def axa:Cx:=cX [G8,Ty,RS] [] []
def yI:OKC Tryz.prog axa AF:=okc mixed<|gC GQ<|gC X0<|gC SP<|AJ
def kb(x:Y0×List Int×Int×A2):Rnd (Y0×List Int×Int×A2) (A2) (Y0×List Int×A2):=if A0 (0<x.2.2.1) then(Aq (x.1,256,())).bind λa=>if Ab (x.2.1.length+([(w8 a.1.1)]:List Int).length) then I (.inl (a.2.1,(x.2.1++([(w8 a.1.1)]:List Int)),(w64<|x.2.2.1 - 1),())) else U else I (.inr<|.inr (x.1,x.2.1,()))
def ae6:=AZ kb
def rK:Loop:=⟨[(0,Z23),(3,.row 5 .u8),(4,.int .i64)],[(0,Z23),(3,.row 5 .u8)],1,[],ae6⟩
def ag1:LF Tryz.f78 [0] [1,0,1,0,1,1,1,0,1,0,1,0,0] rK:=sq (v:= .nil) yI (b:=kb) kN
def Wo(x:Y0×A2):Option ((A4×A2)×(Y0×A2)):=(Aq (x.1,8,())).bind λa=>if A0 (a.1.1=0) then(Mh ((B [120]),24,())).bind λf=>(Mh ((B [121]),25,())).bind λg=>(Jk (a.2.1,([noB,f.1.1,g.1.1,(B [0,1]),(B [97,10])]:List A4),())).bind λb=>I (b.1,b.2) else if A0 (a.1.1=1) then(Aq (a.2.1,20,())).bind λc=>(AS (ae6 (c.2.1,([]:List Int),(w64<|1+c.1.1),())) (λ_=>U) λd=>I (((BA d.2.1),()),(d.1,()))) else(Jk (a.2.1,([(B [97]),(B [97,98,99,100]),(B [104,101,108,108,111]),(B [49,50,51,52,53,54,55,56]),(B [97,32,108,111,110,103,101,114,32,109,101,115,115,97,103,101]),(B [106,117,115,116,32,116,119,101,110,116,121,45,102,111,117,114,32,98,121,116,101,115,32,33]),(B [109,105,120,101,100,32,98,108,111,99,107,115]),(B [102,111,117,114,32,119,111,114,100,115,32,111,102,32,97,32,116,101,120,116])]:List A4),())).bind λe=>I (e.1,e.2)
def va:Ent:=(78,U,⟨[Z0],[.str],Wo⟩)
def akw:SQ Tryz.prog va:=sk (v:=t1<|.two (t1<|.one<|t1<|t1<|t1<|.two (t1<|.two (t1<|.one<|.loop rK) .nil) .nil) .nil) (fn:=Tryz.f78) yI<|kC ag1 kN
def ajj:Cx:=cX [G8,RS,va] [] []
def asb:OKC Tryz.prog ajj AF:=okc mixed<|gC GQ<|gC SP<|gC akw<|AJ
def QM(x:Y0×A2):Option ((Y5×A2)×(Y0×A2)):=(Aq (x.1,4,())).bind λb=>(Aq (b.2.1,5,())).bind λc=>(Aq (c.2.1,4,())).bind λd=>(Aq (d.2.1,30,())).bind λe=>(Jk (e.2.1,([(B [97]),(B [104,101,108,108,111]),(B [97,32,108,111,110,103,101,114,32,109,101,115,115,97,103,101]),(B [32,120,32]),(B [106,117,115,116,32,116,119,101,110,116,121,45,102,111,117,114,32,98,121,116,101,115,32,33])]:List A4),())).bind λf=>(Aq (f.2.1,16,())).bind λa=>if A0 (a.1.1=0) then(Aq (a.2.1,2,())).bind λg=>if inb g.1.1 (([(-1),4]:List Int).length) then let l:=(rd (dfl .int) ([(-1),4]:List Int) g.1.1);I (((l,(w64<|1+c.1.1),d.1.1,(w64<|1+e.1.1),f.1),()),g.2) else U else if A0 (a.1.1=1) then(Aq (a.2.1,3,())).bind λh=>if inb h.1.1 (([0,99,100]:List Int).length) then let m:=(rd (dfl .int) ([0,99,100]:List Int) h.1.1);I (((b.1.1,m,d.1.1,(w64<|1+e.1.1),f.1),()),h.2) else U else if A0 (a.1.1=2) then(Aq (a.2.1,3,())).bind λi=>if inb i.1.1 (([0,999,1000]:List Int).length) then let n:=(rd (dfl .int) ([0,999,1000]:List Int) i.1.1);I (((b.1.1,(w64<|1+c.1.1),d.1.1,n,f.1),()),i.2) else U else if A0 (a.1.1=3) then(Wo a.2).bind λk=>I (((b.1.1,(w64<|1+c.1.1),d.1.1,(w64<|1+e.1.1),k.1),()),k.2) else if A0 (a.1.1=4) then(Aq (a.2.1,2,())).bind λj=>if inb j.1.1 (([(-1),4]:List Int).length) then let o:=(rd (dfl .int) ([(-1),4]:List Int) j.1.1);I (((b.1.1,(w64<|1+c.1.1),o,(w64<|1+e.1.1),f.1),()),j.2) else U else I (((b.1.1,(w64<|1+c.1.1),d.1.1,(w64<|1+e.1.1),f.1),()),a.2)
def ff:Ent:=(49,U,⟨[Z0],[Z8],QM⟩)
def vL:SQ Tryz.prog ff:=sk (v:= .nil) (fn:=Tryz.f49) asb kN
def al5:Cx:=cX [G8,Ty,ff,RS,Mi,ZF,Rg] [] []
def ayS:OKC Tryz.prog al5 AF:=okc mixed<|gC GQ<|gC X0<|gC vL<|gC SP<|gC N4<|gC ir<|gC Uf<|AJ
def SS(x:Y0×A2):Option ((A4×A2)×(Y0×A2)):=(Aq (x.1,8,())).bind λa=>if A0 (a.1.1=0) then(Aq (a.2.1,30,())).bind λc=>(D6 c.1).bind λd=>if A0 ((B [116,105,109,101,32]).size+d.1.1.size<=4611686018427387904) then let p:=((B [116,105,109,101,32])++d.1.1);I ((p,()),c.2) else U else if A0 (a.1.1=1) then(Aq (a.2.1,4,())).bind λe=>(Aq (e.2.1,3,())).bind λf=>(Aq (f.2.1,30,())).bind λg=>(Nt (e.1.1,(w64<|1+f.1.1),(w64<|1+g.1.1),())).bind λh=>if A0 ((B [108,101,116,32]).size+h.1.1.size<=4611686018427387904) then let q:=((B [108,101,116,32])++h.1.1);I ((q,()),g.2) else U else if A0 (a.1.1=2) then(Aq (a.2.1,4,())).bind λi=>(Aq (i.2.1,3,())).bind λj=>(Aq (j.2.1,30,())).bind λk=>(Nt (i.1.1,(w64<|1+j.1.1),(w64<|1+k.1.1),())).bind λl=>if A0 ((B [101,97,116,32]).size+l.1.1.size<=4611686018427387904) then let r:=((B [101,97,116,32])++l.1.1);I ((r,()),k.2) else U else if A0 (a.1.1=3) then(Mh ((B [122]),60,())).bind λs=>(Mh ((B [122]),61,())).bind λt=>(Jk (a.2.1,([noB,(B [119,104,97,116]),(B [116,105,109,101]),(B [116,105,109,101,32,48]),(B [116,105,109,101,32,48,49]),(B [110,101,120,116,32,51]),(B [110,101,120,116,32,49]),(B [109,97,114,107,32,48,32,49,32,53]),(B [109,97,114,107,32,48,32,49]),(B [109,97,114,107,32,48,32,49,32,53,32]),(B [104,101,108,100,32,48,32,49,32,50,32,57,32,120]),(B [105,110,98,111,120,32,48,32,49,32,50,32,57,32,120]),s.1.1,t.1.1]:List A4),())).bind λm=>I (m.1,m.2) else(Jk (a.2.1,([(B [111,119,110,32]),(B [116,97,107,101,32]),(B [116,97,107,101,32]),(B [104,101,108,100,32]),(B [105,110,98,111,120,32])]:List A4),())).bind λb=>(QM b.2).bind λn=>(Ju n.1).bind λo=>if A0 (b.1.1.size+o.1.1.size<=4611686018427387904) then I (((b.1.1++o.1.1),()),n.2) else U
def nk:Ent:=(77,U,⟨[Z0],[.str],SS⟩)
def tD:SQ Tryz.prog nk:=sk (v:= .nil) (fn:=Tryz.f77) ayS kN
def ajl:Cx:=cX [G8,RS] [] []
def aha:OKC Tryz.prog ajl AF:=okc mixed<|gC GQ<|gC SP<|AJ
def ZT(x:Y0×A4×A2):Option ((A4×A2)×(Y0×A2)):=if A0 ((x.2.1.size:Int)=0) then I (x.2,(x.1,())) else(Aq (x.1,2,())).bind λe=>if A0 (e.1.1=0) then I (x.2,e.2) else(Aq (e.2.1,(x.2.1.size:Int),())).bind λa=>(Aq (a.2.1,5,())).bind λb=>if A0 (b.1.1=0) then if A0 (0<=a.1.1)&&A0 (a.1.1<=(x.2.1.size:Int)) then if A0 (0<=(w64<|a.1.1+1))&&A0 ((w64<|a.1.1+1)<=(x.2.1.size:Int)) then if A0 ((x.2.1.extract (0)<|AK a.1.1).size+(x.2.1.extract (AK<|w64<|a.1.1+1)<|x.2.1.size).size<=4611686018427387904) then let f:=((x.2.1.extract (0)<|AK a.1.1)++(x.2.1.extract (AK<|w64<|a.1.1+1)<|x.2.1.size));I ((f,()),b.2) else U else U else U else if A0 (b.1.1=1) then if A0 (0<=a.1.1)&&A0 (a.1.1<=(x.2.1.size:Int)) then(Jk (b.2.1,([(B [32]),(B [48]),(B [45]),(B [49]),(B [120]),(B [58]),(B [59])]:List A4),())).bind λc=>if A0 ((x.2.1.extract (0)<|AK a.1.1).size+c.1.1.size<=4611686018427387904) then if A0 (0<=a.1.1)&&A0 (a.1.1<=(x.2.1.size:Int)) then if A0 (((x.2.1.extract (0)<|AK a.1.1)++c.1.1).size+(x.2.1.extract (AK a.1.1)<|x.2.1.size).size<=4611686018427387904) then let g:=(((x.2.1.extract (0)<|AK a.1.1)++c.1.1)++(x.2.1.extract (AK a.1.1)<|x.2.1.size));I ((g,()),c.2) else U else U else U else U else if A0 (b.1.1=2) then if A0 (0<=a.1.1)&&A0 (a.1.1<=(x.2.1.size:Int)) then(Jk (b.2.1,([(B [57]),(B [45]),(B [59]),(B [32]),(B [10])]:List A4),())).bind λd=>if A0 ((x.2.1.extract (0)<|AK a.1.1).size+d.1.1.size<=4611686018427387904) then if A0 (0<=(w64<|a.1.1+1))&&A0 ((w64<|a.1.1+1)<=(x.2.1.size:Int)) then if A0 (((x.2.1.extract (0)<|AK a.1.1)++d.1.1).size+(x.2.1.extract (AK<|w64<|a.1.1+1)<|x.2.1.size).size<=4611686018427387904) then let h:=(((x.2.1.extract (0)<|AK a.1.1)++d.1.1)++(x.2.1.extract (AK<|w64<|a.1.1+1)<|x.2.1.size));I ((h,()),d.2) else U else U else U else U else if A0 (b.1.1=3) then if A0 (x.2.1.size+x.2.1.size<=4611686018427387904) then I (((x.2.1++x.2.1),()),b.2) else U else if A0 (0<=a.1.1)&&A0 (a.1.1<=(x.2.1.size:Int)) then let i:=(x.2.1.extract (0)<|AK a.1.1);I ((i,()),b.2) else U
def qf:Ent:=(120,U,⟨[Z0,.str],[.str],ZT⟩)
def afE:SQ Tryz.prog qf:=sk (v:= .nil) (fn:=Tryz.f120) aha kN
def ai1:Cx:=cX [G8,Ty,SE,nk,gV,Rw,qf] [] []
def pb:OKC Tryz.prog ai1 AF:=okc mixed<|gC GQ<|gC X0<|gC Xa<|gC tD<|gC zA<|gC Zx<|gC afE<|AJ
def fT(x:Y0×Y7×Y7×Int×A2):Rnd (Y0×Y7×Y7×Int×A2) (A2) (Y0×Y7×Y7×A2):=(Aq (x.1,3,())).bind λa=>if A0 (x.2.2.2.1<(w64<|38+a.1.1)) then(Aq (a.2.1,3,())).bind λb=>(Mh ((B [102]),(w64<|58+b.1.1),())).bind λd=>(Jy d.1).bind λc=>if A0 (x.2.2.1.1.size+c.1.1.size<=4611686018427387904) then I (.inl (b.2.1,x.2.1,((x.2.2.1.1++c.1.1),x.2.2.1.2),(w64<|x.2.2.2.1+1),())) else U else I (.inr<|.inr (a.2.1,x.2.1,x.2.2.1,()))
def xe:=AZ fT
def sF:Loop:=⟨[(0,Z23),(2,Z21),(3,Z21),(5,.int .i64)],[(0,Z23),(2,Z21),(3,Z21)],3,[],xe⟩
def awD:LF Tryz.f75 [0] [1,1,1,0,1,0,1,1,1,1,1,0,1,0,0] sF:=sq (v:= .nil) pb (b:=fT) kN
def pR(x:Y0×Y7×Y7×Int×A2):Rnd (Y0×Y7×Y7×Int×A2) (A2) (Y0×Y7×Y7×A2):=if A0 (0<x.2.2.2.1) then(SS (x.1,())).bind λb=>(Mx (x.2.2.1,b.1)).bind λc=>(Aq (b.2.1,3,())).bind λa=>if A0 (a.1.1=0) then(Nf (c.1.1,())).bind λd=>I (.inl (a.2.1,x.2.1,d.1.1,(w64<|x.2.2.2.1 - 1),())) else I (.inl (a.2.1,x.2.1,c.1.1,(w64<|x.2.2.2.1 - 1),())) else I (.inr<|.inr (x.1,x.2.1,x.2.2.1,()))
def aAr:=AZ pR
def vV:Loop:=⟨[(0,Z23),(2,Z21),(3,Z21),(4,.int .i64)],[(0,Z23),(2,Z21),(3,Z21)],0,[],aAr⟩
def avq:LF Tryz.f75 [0] [1,1,0,1,0,0] vV:=sq (v:= .nil) pb (b:=pR) kN
def dW(x:Y0×A2):Option ((Y7×A2)×(Y0×A2)):=(Aq (x.1,9,())).bind λe=>(AS (aAr (e.2.1,(noB,0,()),(noB,0,()),e.1)) (λ_=>U) (λa=>(Aq (a.1,14,())).bind λb=>if A0 (b.1.1=0) then(ZT (b.2.1,a.2.2.1.1,())).bind λf=>I (((f.1.1,a.2.2.1.2),()),f.2) else if A0 (b.1.1=1) then(Aq (b.2.1,(w64<|(a.2.2.1.1.size:Int)+1),())).bind λc=>(Aq (c.2.1,3,())).bind λd=>if inb d.1.1 (([(-1),(w64<|(a.2.2.1.1.size:Int)+1),c.1.1]:List Int).length) then let h:=(rd (dfl .int) ([(-1),(w64<|(a.2.2.1.1.size:Int)+1),c.1.1]:List Int) d.1.1);I (((a.2.2.1.1,h,()),()),d.2) else U else if A0 (b.1.1=2) then(AS (xe (b.2.1,a.2.1,a.2.2.1,0,())) (λ_=>U) λg=>I (g.2.2,(g.1,()))) else I (a.2.2,b.2)))
def ac0:Ent:=(75,U,⟨[Z0],[Z15],dW⟩)
def aeu:SQ Tryz.prog ac0:=sk (v:=t1<|t1<|.two (t1<|.one<|.loop vV)<|.two (t1<|.one<|t1<|t1<|t1<|t1<|t1<|.two (t1<|.one<|.loop sF) .nil) .nil) (fn:=Tryz.f75) pb<|kC avq<|kC awD kN
def anU:Cx:=cX [ly,G8,LW,WO,ac0,SE,nk] [] []
def ate:OKC Tryz.prog anU AF:=okc mixed<|gC px<|gC GQ<|gC MH<|gC jo<|gC aeu<|gC Xa<|gC tD<|AJ
def cw(x:Y0×A2):Option ((Y2×Y1×A2)×(Y0×A2)):=(Q9 (x.1,12,())).bind λe=>(B8 (X:=Y0×Y2×Y1×Y11×A2) (λa=>(Aq (a.1,4,())).bind λd=>if inb d.1.1 a.2.2.2.1.2.2.1.length then(Fg (((rd (dfl .AL) a.2.2.2.1.2.2.1 d.1.1).id,(rd (dfl .AL) a.2.2.2.1.2.2.1 d.1.1).up,(rd (dfl .AL) a.2.2.2.1.2.2.1 d.1.1).log,(rd (dfl .AL) a.2.2.2.1.2.2.1 d.1.1).fo,(rd (dfl .AL) a.2.2.2.1.2.2.1 d.1.1).AM,()),())).bind λb=>(Aq (d.2.1,20,())).bind λc=>if A0 (c.1.1=0) then(Aq (c.2.1,3,())).bind λf=>if inb f.1.1 (([(-1),4,(B5 (w64<|b.1.1.1+1) 4)]:List Int).length) then let r:=(rd (dfl .int) ([(-1),4,(B5 (w64<|b.1.1.1+1) 4)]:List Int) f.1.1);I (((a.2.2.2.1.2.1,a.2.2.2.1.2.2.1,a.2.2.2.1.2.2.2.1,a.2.2.2.1.2.2.2.2.1,a.2.2.2.1.2.2.2.2.2.1,a.2.2.2.1.2.2.2.2.2.2.1,()),(r,b.1.1.2),()),f.2) else U else if A0 (c.1.1=1) then(dW c.2).bind λg=>I (((a.2.2.2.1.2.1,a.2.2.2.1.2.2.1,a.2.2.2.1.2.2.2.1,a.2.2.2.1.2.2.2.2.1,a.2.2.2.1.2.2.2.2.2.1,a.2.2.2.1.2.2.2.2.2.2.1,()),(b.1.1.1,b.1.1.2.1,g.1.1.1,g.1.1.2.1,b.1.1.2.2.2.2),()),g.2) else if A0 (c.1.1=2) then(Aq (c.2.1,4,())).bind λh=>if inb h.1.1 (([(-1),0,(b.1.1.2.2.1.size:Int),(w64<|(b.1.1.2.2.1.size:Int)+1)]:List Int).length) then let s:=(rd (dfl .int) ([(-1),0,(b.1.1.2.2.1.size:Int),(w64<|(b.1.1.2.2.1.size:Int)+1)]:List Int) h.1.1);I (((a.2.2.2.1.2.1,a.2.2.2.1.2.2.1,a.2.2.2.1.2.2.2.1,a.2.2.2.1.2.2.2.2.1,a.2.2.2.1.2.2.2.2.2.1,a.2.2.2.1.2.2.2.2.2.2.1,()),(b.1.1.1,b.1.1.2.1,b.1.1.2.2.1,s,b.1.1.2.2.2.2),()),h.2) else U else if A0 (c.1.1=3) then(Aq (c.2.1,5,())).bind λi=>(Aq (i.2.1,3,())).bind λj=>(Aq (j.2.1,4,())).bind λk=>(Aq (k.2.1,26,())).bind λl=>(Aq (l.2.1,9,())).bind λm=>if Ab (b.1.1.2.2.2.2.1.length+([(AG.mk i.1.1 (w64<|1+j.1.1) k.1.1 9 l.1.1 ([(AQ.mk m.1.1<|B [97,98,99,100])]:List AQ))]:List AG).length) then I (((a.2.2.2.1.2.1,a.2.2.2.1.2.2.1,a.2.2.2.1.2.2.2.1,a.2.2.2.1.2.2.2.2.1,a.2.2.2.1.2.2.2.2.2.1,a.2.2.2.1.2.2.2.2.2.2.1,()),(b.1.1.1,b.1.1.2.1,b.1.1.2.2.1,b.1.1.2.2.2.1,(b.1.1.2.2.2.2.1++([(AG.mk i.1.1 (w64<|1+j.1.1) k.1.1 9 l.1.1 ([(AQ.mk m.1.1<|B [97,98,99,100])]:List AQ))]:List AG)),()),()),m.2) else U else if A0 (c.1.1=4) then I (((a.2.2.2.1.2.1,a.2.2.2.1.2.2.1,a.2.2.2.1.2.2.2.1,a.2.2.2.1.2.2.2.2.1,a.2.2.2.1.2.2.2.2.2.1,a.2.2.2.1.2.2.2.2.2.2.1,()),(b.1.1.1,(!b.1.1.2.1),b.1.1.2.2),()),c.2) else if A0 (c.1.1=5) then(SS c.2).bind λo=>(Jy o.1).bind λp=>if A0 (b.1.1.2.2.1.size+p.1.1.size<=4611686018427387904) then let t:=(b.1.1.2.2.1++p.1.1);I (((a.2.2.2.1.2.1,a.2.2.2.1.2.2.1,a.2.2.2.1.2.2.2.1,a.2.2.2.1.2.2.2.2.1,a.2.2.2.1.2.2.2.2.2.1,a.2.2.2.1.2.2.2.2.2.2.1,()),(b.1.1.1,b.1.1.2.1,t,b.1.1.2.2.2),()),o.2) else U else I (((a.2.2.2.1.2.1,a.2.2.2.1.2.2.1,a.2.2.2.1.2.2.2.1,a.2.2.2.1.2.2.2.2.1,a.2.2.2.1.2.2.2.2.2.1,a.2.2.2.1.2.2.2.2.2.2.1,()),b.1),c.2) else U)<|(Aq (e.2.1,2,())).bind λn=>if A0 (n.1.1=0) then(NK ((n.2.1,e.1.1.2),7,0,())).bind λq=>I (.inr (q.2.1.1,(0,([]:List AA),([]:List Bool),([]:List AR),([]:List A7),([]:List A7),()),(0,A3,noB,0,([]:List AG),()),((),q.2.1.2),())) else I (.inr (n.2.1,(0,([]:List AA),([]:List Bool),([]:List AR),([]:List A7),([]:List A7),()),(0,A3,noB,0,([]:List AG),()),((),e.1.1.2),())))
def sJ:Ent:=(47,U,⟨[Z0],[Z3,Z1],cw⟩)
def auF:SQ Tryz.prog sJ:=sk (v:=t1<|t1<|.join [(0,Z23),(2,Z2),(3,Z20),(4,Z28)] .nil .nil) (fn:=Tryz.f47) ate kN
def ahO:Cx:=cX [G8,mN,sJ,Ty,ff] [] []
def acr:OKC Tryz.prog ahO AF:=okc mixed<|gC GQ<|gC uq<|gC auF<|gC X0<|gC vL<|AJ
def eL(x:Y0×Y2×Y2×A2):Rnd (Y0×Y2×Y2×A2) (A2) (Y0×Y2×Y2×A2):=(Aq (x.1,2,())).bind λa=>if A0 ((x.2.1.2.2.2.1.length:Int)<(w64<|30+a.1.1)) then if Ab (x.2.1.2.2.2.1.length+([(AR.mk 0 1 noB A3)]:List AR).length) then I (.inl (a.2.1,(x.2.1.1,x.2.1.2.1,x.2.1.2.2.1,(x.2.1.2.2.2.1++([(AR.mk 0 1 noB A3)]:List AR)),x.2.1.2.2.2.2),x.2.2)) else U else I (.inr<|.inr (a.2.1,x.2))
def aAa:=AZ eL
def zp:Loop:=⟨[(0,Z23),(3,Z2),(4,Z2)],[(0,Z23),(3,Z2),(4,Z2)],1,[],aAa⟩
def apI:LF Tryz.f28 [0] [1,1,0,1,0,1,1,1,1,1,1,1,1,1,1,1,1,1,1,0,0] zp:=sq (v:= .nil) acr (b:=eL) kN
def ap(x:Y0×Y2×A2):Option ((Y2×A2)×(Y0×A2)):=(MN x.2).bind λa=>(Aq (x.1,8,())).bind λb=>if A0 (b.1.1=0) then(Aq (b.2.1,(a.1.1.2.1.length:Int),())).bind λf=>(cw f.2).bind λe=>if inb f.1.1 a.1.1.2.1.length then I (((a.1.1.1,(Bn a.1.1.2.1 (AK f.1.1)<|AA.mk e.1.2.1.1 e.1.2.1.2.1 e.1.2.1.2.2.1 e.1.2.1.2.2.2.1 e.1.2.1.2.2.2.2.1),a.1.1.2.2),()),e.2) else U else if A0 (b.1.1=1) then(Aq (b.2.1,4,())).bind λg=>if inb g.1.1 (([(-1),0,99999,100000]:List Int).length) then let m:=(rd (dfl .int) ([(-1),0,99999,100000]:List Int) g.1.1);I (((m,a.1.1.2),()),g.2) else U else if A0 (b.1.1=2) then if A0 (0<=1)&&A0 (1<=(a.1.1.2.1.length:Int)) then let n:=(Bp (AK 1) a.1.1.2.1);I (((a.1.1.1,n,a.1.1.2.2),()),b.2) else U else if A0 (b.1.1=3) then if Ab (a.1.1.2.2.1.length+([A1]:List Bool).length) then I (((a.1.1.1,a.1.1.2.1,(a.1.1.2.2.1++([A1]:List Bool)),a.1.1.2.2.2),()),b.2) else U else if A0 (b.1.1=4) then(Aq (b.2.1,5,())).bind λh=>(Aq (h.2.1,5,())).bind λi=>(Aq (i.2.1,3,())).bind λj=>if inb j.1.1 (([0,40,41]:List Int).length) then(Mh ((B [120]),(rd (dfl .int) ([0,40,41]:List Int) j.1.1),())).bind λk=>if Ab (a.1.1.2.2.2.1.length+([(AR.mk (w64<|h.1.1 - 1) (w64<|i.1.1 - 1) k.1.1 A3)]:List AR).length) then I (((a.1.1.1,a.1.1.2.1,a.1.1.2.2.1,(a.1.1.2.2.2.1++([(AR.mk (w64<|h.1.1 - 1) (w64<|i.1.1 - 1) k.1.1 A3)]:List AR)),a.1.1.2.2.2.2),()),j.2) else U else U else if A0 (b.1.1=5) then(QM b.2).bind λc=>if Ab (a.1.1.2.2.2.2.1.length+([(A7.mk c.1.1.1 c.1.1.2.1 c.1.1.2.2.1 c.1.1.2.2.2.1 c.1.1.2.2.2.2.1)]:List A7).length) then I (((a.1.1.1,a.1.1.2.1,a.1.1.2.2.1,a.1.1.2.2.2.1,(a.1.1.2.2.2.2.1++([(A7.mk c.1.1.1 c.1.1.2.1 c.1.1.2.2.1 c.1.1.2.2.2.1 c.1.1.2.2.2.2.1)]:List A7)),a.1.1.2.2.2.2.2),()),c.2) else U else if A0 (b.1.1=6) then(QM b.2).bind λd=>if Ab (a.1.1.2.2.2.2.2.1.length+([(A7.mk d.1.1.1 d.1.1.2.1 d.1.1.2.2.1 d.1.1.2.2.2.1 d.1.1.2.2.2.2.1)]:List A7).length) then I (((a.1.1.1,a.1.1.2.1,a.1.1.2.2.1,a.1.1.2.2.2.1,a.1.1.2.2.2.2.1,(a.1.1.2.2.2.2.2.1++([(A7.mk d.1.1.1 d.1.1.2.1 d.1.1.2.2.1 d.1.1.2.2.2.1 d.1.1.2.2.2.2.1)]:List A7)),()),()),d.2) else U else(AS (aAa (b.2.1,a.1.1,(0,([]:List AA),([]:List Bool),([]:List AR),([]:List A7),([]:List A7),()),())) (λ_=>U) λl=>I ((l.2.1,()),(l.1,())))
def ab3:Ent:=(28,U,⟨[Z0,Z30],[Z30],ap⟩)
def axv:SQ Tryz.prog ab3:=sk (v:=t1<|t1<|.two (t1<|.one<|t1<|t1<|t1<|t1<|t1<|t1<|t1<|t1<|t1<|t1<|t1<|t1<|t1<|t1<|.one<|.loop zp) .nil) (fn:=Tryz.f28) acr<|kC apI kN
def akA:Cx:=cX [(ie.1,I 83,ie.2.2),wY,ly,G8,nh,KB,ab3] [] [(73,75)]
def axs:OKC Tryz.prog akA AF:=okc mixed<|gCd akd<|gC azC<|gC px<|gC GQ<|gC yn<|gC QE<|gC axv<|AJ
def JH(x:List Int×A2):Option ((Y2×Y3×A2)×A2):=(Wc x).bind λz=>(Q9 (z.1.1,14,())).bind λj=>(B8 (X:=Y2×Y3×Y0×Y11×A2) (λa=>(Aq (a.2.2.1,13,())).bind λh=>(Aq (h.2.1,4,())).bind λk=>(Aq (k.2.1,4,())).bind λl=>(Aq (l.2.1,3,())).bind λm=>(Aq (m.2.1,(w64<|(a.2.2.2.1.2.2.2.2.1.length:Int)+1),())).bind λn=>(Aq (n.2.1,18,())).bind λo=>(Aq (o.2.1,3,())).bind λr=>(Aq (r.2.1,4,())).bind λp=>(Aq (p.2.1,20,())).bind λi=>let A:=(w64<|Ay r.1.1 2);(B8 (X:=Y2×Y3×Y0×Y11×Y2×Y3×A2) (λb=>(Xv ((b.2.2.1,b.2.2.2.1.2),())).bind λd=>(B8 (X:=Y2×Y3×Y0×Y2×Y3×A2) (λe=>(Aq (e.2.2.1,12,())).bind λg=>if A0 (g.1.1=0) then(Aq (g.2.1,3,())).bind λs=>if inb s.1.1 (([0,14,(-1)]:List Int).length) then let C:=(rd (dfl .int) ([0,14,(-1)]:List Int) s.1.1);I ((e.2.2.2.1,(C,e.2.2.2.2.1.2),()),()) else U else if A0 (g.1.1=1) then(Aq (g.2.1,3,())).bind λt=>if inb t.1.1 (([(-1),4,3]:List Int).length) then let D:=(rd (dfl .int) ([(-1),4,3]:List Int) t.1.1);I ((e.2.2.2.1,(e.2.2.2.2.1.1,D,e.2.2.2.2.1.2.2),()),()) else U else if A0 (g.1.1=2) then(ap (g.2.1,e.2.2.2.1,())).bind λE=>I ((E.1.1,e.2.2.2.2),()) else I (e.2.2.2,()))<|(B8 (X:=Y2×Y3×Y0×Y2×Y3×Int×Y5×Bool×A2) (λc=>if c.2.2.2.2.2.2.2.1 then I (.inr (c.1,c.2.1,c.2.2.1,c.2.2.2.1,(c.2.2.2.2.1.1,c.2.2.2.2.2.1,c.2.2.2.2.2.2.1.1,c.2.2.2.2.2.2.1.2.1,c.2.2.2.2.1.2.2.2.2),())) else I (.inr (c.1,c.2.1,c.2.2.1,c.2.2.2.1,c.2.2.2.2.1,())))<|(if d.1.2.2.1 then if A0 (b.2.2.2.2.2.1.1=3) then(Aq (d.2.1.1,4,())).bind λu=>I (.inr (b.1,b.2.1,u.2.1,b.2.2.2.2.1,b.2.2.2.2.2.1,d.1.1,d.1.2.1,(A0<|0<u.1.1),())) else I (.inr (b.1,b.2.1,d.2.1.1,b.2.2.2.2.1,b.2.2.2.2.2.1,d.1.1,d.1.2.1,A3,())) else I (.inr (b.1,b.2.1,d.2.1.1,b.2.2.2.2.1,b.2.2.2.2.2.1,d.1.1,d.1.2.1,A3,()))))))<|(if(A0<|(w64<|1+h.1.1)=6)||(A0<|(w64<|1+h.1.1)=7) then(Aq (i.2.1,258,())).bind λv=>I (.inr (a.1,a.2.1,v.2.1,((),a.2.2.2.1.2),(a.2.2.2.1.2.1,a.2.2.2.1.2.2.1,a.2.2.2.1.2.2.2.1,a.2.2.2.1.2.2.2.2.1,a.2.2.2.1.2.2.2.2.2.1,a.2.2.2.1.2.2.2.2.2.2.1,()),((w64<|1+h.1.1),k.1.1,l.1.1,(w64<|1+m.1.1),n.1.1,o.1.1,(w64<|v.1.1 - 1),p.1.1,(w64<|1+i.1.1),(B [116,101,120,116]),()),())) else I (.inr (a.1,a.2.1,i.2.1,((),a.2.2.2.1.2),(a.2.2.2.1.2.1,a.2.2.2.1.2.2.1,a.2.2.2.1.2.2.2.1,a.2.2.2.1.2.2.2.2.1,a.2.2.2.1.2.2.2.2.2.1,a.2.2.2.1.2.2.2.2.2.2.1,()),((w64<|1+h.1.1),k.1.1,l.1.1,(w64<|1+m.1.1),n.1.1,o.1.1,A,p.1.1,(w64<|1+i.1.1),(B [116,101,120,116]),()),())))))<|(Aq (j.2.1,2,())).bind λq=>if A0 (q.1.1=0) then(VN ((q.2.1,j.1.1.2),())).bind λf=>if f.1.2.2.1 then(Aq (f.2.1.1,6,())).bind λw=>(F7 ((w.2.1,f.2.1.2),(3,f.1.1,f.1.2.1.1,f.1.2.1.2.1,0,w.1.1,0,0,0,noB,()),())).bind λy=>I (.inr ((0,([]:List AA),([]:List Bool),([]:List AR),([]:List A7),([]:List A7),()),(0,0,0,0,0,0,0,0,0,noB,()),y.2.1.1,((),y.2.1.2),())) else I (.inr ((0,([]:List AA),([]:List Bool),([]:List AR),([]:List A7),([]:List A7),()),(0,0,0,0,0,0,0,0,0,noB,()),f.2.1.1,((),f.2.1.2),())) else I (.inr ((0,([]:List AA),([]:List Bool),([]:List AR),([]:List A7),([]:List A7),()),(0,0,0,0,0,0,0,0,0,noB,()),q.2.1,((),j.1.1.2),())))
def Mc:Ent:=(11,U,⟨[.fz .u8],[Z30,Z4],JH⟩)
def Nz:SQ Tryz.prog Mc:=sk (v:=t1<|t1<|t1<|.join [(2,Z2),(3,Z27),(4,Z23),(5,Z33)] .nil<|t1<|t1<|.join [(2,Z2),(3,Z27),(4,Z23),(5,Z31),(9,Z32),(10,Z27)] .nil<|t1<|.join [(2,Z2),(3,Z27),(4,Z23),(9,Z29),(10,Z27)] (.join [(2,Z2),(3,Z27),(4,Z23),(9,Z29),(10,Z27),(11,.int .i64),(12,Z7),(97,.bool)] .nil .nil) .nil) (fn:=Tryz.f11) axs kN
def arE:Cx:=cX [GR,KM,IG,Ul] [] [(57,64)]
def Ts:OKC Tryz.prog arE AF:=okc mixed<|gC HI<|gC LD<|gC Iz<|gC bQ<|AJ
def XC(x:Y2×Int×A2):Rnd (Y2×Int×A2) (Bool×A2) (A2):=if A0 (x.2.1<(x.1.2.2.2.2.2.1.length:Int)) then if inb x.2.1 x.1.2.2.2.2.2.1.length then(O3 (((rd (dfl .note) x.1.2.2.2.2.2.1 x.2.1).fr,(rd (dfl .note) x.1.2.2.2.2.2.1 x.2.1).nu,(rd (dfl .note) x.1.2.2.2.2.2.1 x.2.1).to,(rd (dfl .note) x.1.2.2.2.2.2.1 x.2.1).un,(rd (dfl .note) x.1.2.2.2.2.2.1 x.2.1).tx,()),())).bind λa=>if !a.1.1 then I (.inr<|.inl (A3,())) else I (.inl (x.1,(w64<|x.2.1+1),())) else U else I (.inr<|.inr ())
def kO:=AZ XC
def aaS:Loop:=⟨[(1,Z29),(7,.int .i64)],[],6,[(2,.bool)],kO⟩
def agl:LF Tryz.f15 [] [1,1,1,1,1,0,1,0,0] aaS:=sq (v:= .nil) Ts (b:=XC) kN
def bm(x:Y2×Int×A2):Rnd (Y2×Int×A2) (Bool×A2) (Y2×A2):=if A0 (x.2.1<(x.1.2.2.2.2.1.length:Int)) then if inb x.2.1 x.1.2.2.2.2.1.length then(O3 (((rd (dfl .note) x.1.2.2.2.2.1 x.2.1).fr,(rd (dfl .note) x.1.2.2.2.2.1 x.2.1).nu,(rd (dfl .note) x.1.2.2.2.2.1 x.2.1).to,(rd (dfl .note) x.1.2.2.2.2.1 x.2.1).un,(rd (dfl .note) x.1.2.2.2.2.1 x.2.1).tx,()),())).bind λa=>if !a.1.1 then I (.inr<|.inl (A3,())) else I (.inl (x.1,(w64<|x.2.1+1),())) else U else I (.inr<|.inr (x.1,()))
def mU:=AZ bm
def adf:Loop:=⟨[(1,Z29),(6,.int .i64)],[(1,Z29)],4,[(2,.bool)],mU⟩
def ath:LF Tryz.f15 [] [1,1,1,1,0,1,0,0] adf:=sq (v:= .nil) Ts (b:=bm) kN
def bo(x:Y2×Int×A2):Rnd (Y2×Int×A2) (Bool×A2) (Y2×A2):=if A0 (x.2.1<(x.1.2.2.2.1.length:Int)) then if inb x.2.1 x.1.2.2.2.1.length then let a:=(rd (dfl .Ad) x.1.2.2.2.1 x.2.1).src;let b:=(rd (dfl .Ad) x.1.2.2.2.1 x.2.1).dst;let c:=(rd (dfl .Ad) x.1.2.2.2.1 x.2.1).data;let f:=(rd (dfl .Ad) x.1.2.2.2.1 x.2.1).sp;(FC (a,())).bind λd=>if !d.1.1 then I (.inr<|.inl (A3,())) else(FC (b,())).bind λe=>if !e.1.1 then I (.inr<|.inl (A3,())) else if !decide ((w64<|a - b)=1) then if !decide ((w64<|b - a)=1) then I (.inr<|.inl (A3,())) else if A0 (40<(c.size:Int)) then I (.inr<|.inl (A3,())) else I (.inl (x.1,(w64<|x.2.1+1),())) else if A0 (40<(c.size:Int)) then I (.inr<|.inl (A3,())) else I (.inl (x.1,(w64<|x.2.1+1),())) else U else I (.inr<|.inr (x.1,()))
def kY:=AZ bo
def xf:Loop:=⟨[(1,Z29),(4,.int .i64)],[(1,Z29)],2,[(2,.bool)],kY⟩
def akP:LF Tryz.f15 [] [1,1,1,0,1,0,0] xf:=sq (v:= .nil) Ts (b:=bo) kN
def Yt(x:Y2×Int×A2):Rnd (Y2×Int×A2) (Bool×A2) (Y2×A2):=if A0 (x.2.1<(x.1.2.1.length:Int)) then if inb x.2.1 x.1.2.1.length then(It (((rd (dfl .AL) x.1.2.1 x.2.1).id,(rd (dfl .AL) x.1.2.1 x.2.1).up,(rd (dfl .AL) x.1.2.1 x.2.1).log,(rd (dfl .AL) x.1.2.1 x.2.1).fo,(rd (dfl .AL) x.1.2.1 x.2.1).AM,()),())).bind λa=>if Ah (!(!a.1.1)) (inb x.2.1 x.1.2.1.length) then if(!a.1.1)||(!decide ((rd (dfl .AL) x.1.2.1 x.2.1).id=x.2.1)) then I (.inr<|.inl (A3,())) else I (.inl (x.1,(w64<|x.2.1+1),())) else U else U else I (.inr<|.inr (x.1,()))
def kW:=AZ Yt
def tz:Loop:=⟨[(1,Z29),(3,.int .i64)],[(1,Z29)],0,[(2,.bool)],kW⟩
def atO:LF Tryz.f15 [] [1,1,0,1,0,0] tz:=sq (v:= .nil) Ts (b:=Yt) kN
def LG(x:Y2×A2):Option ((Bool×A2)×A2):=(Cv (x.1.1,0,99999,())).bind λe=>if !e.1.1 then I ((A3,()),()) else if !decide ((x.1.2.1.length:Int)=4) then I ((A3,()),()) else if !decide ((x.1.2.2.1.length:Int)=3) then I ((A3,()),()) else if A0 (30<(x.1.2.2.2.1.length:Int)) then I ((A3,()),()) else if A0 (6<(x.1.2.2.2.2.1.length:Int)) then I ((A3,()),()) else if A0 (6<(x.1.2.2.2.2.2.1.length:Int)) then I ((A3,()),()) else(AS (kW (x.1,0,())) (λa=>I (a,())) λa=>(AS (kY (a.1,0,())) (λb=>I (b,())) λb=>(AS (mU (b.1,0,())) (λc=>I (c,())) λc=>(AS (kO (c.1,0,())) (λd=>I (d,())) λd=>I ((A1,()),())))))
def VW:Ent:=(15,U,⟨[Z30],[.bool],LG⟩)
def Zv:SQ Tryz.prog VW:=sk (v:=t1<|t1<|.two (t1<|.one<|.loop tz)<|.two (t1<|.one<|.loop xf)<|.two (t1<|.one<|.loop adf)<|.two (t1<|.one<|.loop aaS) .nil) (fn:=Tryz.f15) Ts<|kC atO<|kC akP<|kC ath<|kC agl kN
def azj:Cx:=cX [VW,mN,ace] [] []
def aiR:OKC Tryz.prog azj AF:=okc mixed<|gC Zv<|gC uq<|gC amP<|AJ
def FZ(x:Y2×Y3×A2):Option ((Y2×Bool×A2)×A2):=(LG (x.1,())).bind λb=>if !b.1.1 then I (((0,([]:List AA),([]:List Bool),([]:List AR),([]:List A7),([]:List A7),()),A3,()),()) else if A0 (99999<=x.1.1) then(MN (x.1,())).bind λc=>I ((c.1.1,A3,()),()) else(MN (x.1,())).bind λd=>(Vb (d.1.1,x.2)).bind λa=>if !a.1.2.1 then(MN (x.1,())).bind λe=>I ((e.1.1,A3,()),()) else(MN (a.1.1,())).bind λf=>I ((f.1.1,A1,()),())
def Lh:Ent:=(12,U,⟨[Z30,Z4],[Z3,.bool],FZ⟩)
def Ng:SQ Tryz.prog Lh:=sk (v:= .nil) (fn:=Tryz.f12) aiR kN
def ani:Cx:=cX [] [] [(11,13)]
def auw:OKC Tryz.prog ani AF:=okc mixed<|AJ
def By(x:Int×Int×Int×A2):Option ((Bool×A2)×A2):=let a:=((A0<|x.2.1<=x.1)&&(A0<|x.1<=x.2.2.1));I ((a,()),())
def Ev:Ent:=(36,U,⟨[.int .i64,.int .i64,.int .i64],[.bool],By⟩)
def FD:SQ Tryz.prog Ev:=sk (v:= .nil) (fn:=Tryz.f36) auw kN
def ax1:Cx:=cX [Ev] [] []
def ayP:OKC Tryz.prog ax1 AF:=okc mixed<|gC FD<|AJ
def FT(x:Int×A2):Option ((Bool×A2)×A2):=(By (x.1,0,3,())).bind λa=>I (a.1,())
def JN:Ent:=(39,U,⟨[.int .i64],[.bool],FT⟩)
def KX:SQ Tryz.prog JN:=sk (v:= .nil) (fn:=Tryz.f39) ayP kN
def ayn:Cx:=cX [Ev] [] []
def qH:OKC Tryz.prog ayn AF:=okc mixed<|gC FD<|AJ
def Vu(x:A4×Int×A2):Rnd (A4×Int×A2) (Bool×A2) (A4×A2):=if A0 (x.2.1<(x.1.size:Int)) then if inb x.2.1 x.1.size then(By ((w64<|bt x.1 x.2.1),32,126,())).bind λa=>if !a.1.1 then I (.inr<|.inl (A3,())) else I (.inl (x.1,(w64<|x.2.1+1),())) else U else I (.inr<|.inr (x.1,()))
def jx:=AZ Vu
def uP:Loop:=⟨[(0,.str),(3,.int .i64)],[(0,.str)],0,[(2,.bool)],jx⟩
def aiI:LF Tryz.f112 [] [1,0,1,0,0] uP:=sq (v:= .nil) qH (b:=Vu) kN
def NS(x:A4×A2):Option ((Bool×A2)×A2):=(AS (jx (x.1,0,())) (λa=>I (a,())) λa=>(By ((a.1.size:Int),1,24,())).bind λb=>I (b.1,()))
def s9:Ent:=(112,U,⟨[.str],[.bool],NS⟩)
def ajb:SQ Tryz.prog s9:=sk (v:=t1<|.two (t1<|.one<|.loop uP) .nil) (fn:=Tryz.f112) qH<|kC aiI kN
def aoT:Cx:=cX [Ev,JN,s9] [] [(22,24)]
def ajW:OKC Tryz.prog aoT AF:=okc mixed<|gC FD<|gC KX<|gC ajb<|AJ
def Nc(x:Y5×A2):Option ((Bool×A2)×A2):=(FT (x.1.1,())).bind λb=>if b.1.1 then(FT (x.1.2.2.1,())).bind λc=>if c.1.1 then(By (x.1.2.1,1,99,())).bind λd=>if d.1.1 then(By (x.1.2.2.2.1,1,999,())).bind λa=>if Ah a.1.1 ((NS x.1.2.2.2.2).isSome) then let e:=(a.1.1&&(((NS x.1.2.2.2.2).getD ((A3,()),())).1.1));I ((e,()),()) else U else if Ah A3 ((NS x.1.2.2.2.2).isSome) then I ((A3,()),()) else U else if Ah A3 ((NS x.1.2.2.2.2).isSome) then I ((A3,()),()) else U else if Ah A3 ((NS x.1.2.2.2.2).isSome) then I ((A3,()),()) else U
def Rf:Ent:=(61,U,⟨[Z8],[.bool],Nc⟩)
def UU:SQ Tryz.prog Rf:=sk (v:= .nil) (fn:=Tryz.f61) ajW kN
def ahi:Cx:=cX [Rf] [] []
def tX:OKC Tryz.prog ahi AF:=okc mixed<|gC UU<|AJ
def Vz(x:List A7×List A7×Int×Int×A2):Rnd (List A7×List A7×Int×Int×A2) (Bool×A2) (List A7×A2):=if A0 (x.2.2.2.1<x.2.2.1) then if inb x.2.2.2.1 x.2.1.length then let a:=(rd (dfl .note) x.2.1 x.2.2.2.1).fr;let b:=(rd (dfl .note) x.2.1 x.2.2.2.1).nu;let c:=(rd (dfl .note) x.2.1 x.2.2.2.1).to;let d:=(rd (dfl .note) x.2.1 x.2.2.2.1).un;let e:=(rd (dfl .note) x.2.1 x.2.2.2.1).tx;(Nc ((a,b,c,d,e,()),())).bind λf=>if !f.1.1 then I (.inr<|.inl (A3,())) else I (.inl (x.1,x.2.1,x.2.2.1,(w64<|x.2.2.2.1+1),())) else U else I (.inr<|.inr (x.1,()))
def kV:=AZ Vz
def zw:Loop:=⟨[(0,.sl .note),(5,.sl .note),(6,.int .i64),(7,.int .i64)],[(0,.sl .note)],0,[(2,.bool)],kV⟩
def ayh:LF Tryz.f37 [] [1,0,1,0,0] zw:=sq (v:= .nil) tX (b:=Vz) kN
def S8(x:List A7×A2):Option ((Bool×A2)×A2):=(AS (kV (x.1,x.1,(x.1.length:Int),0,())) (λa=>I (a,())) (λa=>let b:=(A0<|(a.1.length:Int)<=6);I ((b,()),())))
def rz:Ent:=(37,U,⟨[.fz .note],[.bool],S8⟩)
def anH:SQ Tryz.prog rz:=sk (v:=t1<|.two (t1<|.one<|.loop zw) .nil) (fn:=Tryz.f37) tX<|kC ayh kN
def avT:Cx:=cX [Ev] [] [(11,18)]
def zM:OKC Tryz.prog avT AF:=okc mixed<|gC FD<|AJ
def XA(x:A4×Int×Int×A2):Rnd (A4×Int×Int×A2) (Int×Bool×A2) (Int×A2):=if A0 (x.2.2.1<(x.1.size:Int)) then if inb x.2.2.1 x.1.size then(By ((w64<|bt x.1 x.2.2.1),48,57,())).bind λa=>if !a.1.1 then I (.inr<|.inl (0,A3,())) else if inb x.2.2.1 x.1.size then let b:=(w64<|(w64<|10 * x.2.1)+(w64<|w8<|(bt x.1 x.2.2.1) - 48));I (.inl (x.1,b,(w64<|x.2.2.1+1),())) else U else U else I (.inr<|.inr (x.2.1,()))
def nb:=AZ XA
def xJ:Loop:=⟨[(0,.str),(4,.int .i64),(5,.int .i64)],[(4,.int .i64)],0,[(2,.int .i64),(3,.bool)],nb⟩
def ati:LF Tryz.f113 [] [1,1,1,0,1,0,0] xJ:=sq (v:= .nil) zM (b:=XA) kN
def PF(x:A4×A2):Option ((Int×Bool×A2)×A2):=(By ((x.1.size:Int),1,5,())).bind λb=>if Ah (!(!b.1.1)) (inb 0 x.1.size) then if(!b.1.1)||((A0<|(bt x.1 0)=48)&&(A0<|1<(x.1.size:Int))) then I ((0,A3,()),()) else(AS (nb (x.1,0,0,())) (λa=>I (a,())) λa=>I ((a.1,A1,()),())) else U
def aV:Ent:=(113,U,⟨[.str],[.int .i64,.bool],PF⟩)
def iv:SQ Tryz.prog aV:=sk (v:=t1<|t1<|t1<|.two (t1<|.one<|.loop xJ) .nil) (fn:=Tryz.f113) zM<|kC ati kN
def aqG:Cx:=cX [] [] []
def alW:OKC Tryz.prog aqG AF:=okc mixed<|AJ
def RU(x:List A4×A2):Option ((List A4×A2)×A2):=if A0 ((x.1.length:Int)=0) then I ((([]:List A4),()),()) else if A0 (0<=(x.1.length:Int))&&A0 ((x.1.length:Int)<=4294967296) then I (((BH (BX (AK (x.1.length:Int))<|dfl .str).length x.1++Bp x.1.length (BX (AK (x.1.length:Int))<|dfl .str)),()),()) else U
def bw:Ent:=(114,U,⟨[.fz .str],[.row 9 .str],RU⟩)
def nV:SQ Tryz.prog bw:=sk (v:= .nil) (fn:=Tryz.f114) alW kN
def ahT:Cx:=cX [Ev,aV,bw] [] [(26,29),(38,41)]
def gj:OKC Tryz.prog ahT AF:=okc mixed<|gC FD<|gC iv<|gC nV<|AJ
def ZV(x:A4×List A4×Int×Int×A2):Rnd (A4×List A4×Int×Int×A2) (A2) (A4×List A4×Int×Int×A2):=if A0 (x.2.2.2.1<(x.1.size:Int)) then if Ah (A0<|x.2.2.2.1<(w64<|x.2.2.1+3)) (inb x.2.2.2.1 x.1.size) then if(A0<|x.2.2.2.1<(w64<|x.2.2.1+3))&&(!decide ((bt x.1 x.2.2.2.1)=58)) then I (.inl (x.1,x.2.1,x.2.2.1,(w64<|x.2.2.2.1+1),())) else I (.inr<|.inr x) else U else if Ah A3 (inb x.2.2.2.1 x.1.size) then I (.inr<|.inr x) else U
def kX:=AZ ZV
def rV:Loop:=⟨[(0,.str),(4,.row 9 .str),(5,.int .i64),(6,.int .i64)],[(0,.str),(4,.row 9 .str),(5,.int .i64),(6,.int .i64)],2,[],kX⟩
def ark:LF Tryz.f65 [] [1,1,1,0,0,0,1,0,1,0,0,0] rV:=sq (v:= .nil) gj (b:=ZV) kN
def Qq(x:A4×List A4×Int×A2):Rnd (A4×List A4×Int×A2) (A2) (List A4×Int×A2):=if A0 (x.2.2.1<(x.1.size:Int)) then(AS (kX (x.1,x.2.1,x.2.2.1,x.2.2)) (λ_=>I<|.inr<|.inl ()) λa=>(if Ah (!(A0<|(a.1.size:Int)<=a.2.2.2.1)) (inb a.2.2.2.1 a.1.size) then if(A0<|(a.1.size:Int)<=a.2.2.2.1)||(!decide ((bt a.1 a.2.2.2.1)=58)) then I (.inr<|.inr (a.2.1,a.2.2.1,())) else if(A0 (0<=a.2.2.2.1)&&A0 (a.2.2.2.1<=(a.1.size:Int)))&&(A0 (0<=a.2.2.1)&&A0 (a.2.2.1<=a.2.2.2.1)) then(PF ((a.1.extract (AK a.2.2.1)<|AK a.2.2.2.1),())).bind λc=>let b:=(w64<|(w64<|a.2.2.2.1+1)+c.1.1);(if !c.1.2.1 then I (.inr<|.inr (a.2.1,a.2.2.1,())) else(By (c.1.1,1,60,())).bind λd=>if !d.1.1 then I (.inr<|.inr (a.2.1,a.2.2.1,())) else if A0 ((a.1.size:Int)<=b) then I (.inr<|.inr (a.2.1,a.2.2.1,())) else if inb b a.1.size then if !decide ((bt a.1 b)=59) then I (.inr<|.inr (a.2.1,a.2.2.1,())) else if(A0 (0<=b)&&A0 (b<=(a.1.size:Int)))&&(A0 (0<=(w64<|a.2.2.2.1+1))&&A0 ((w64<|a.2.2.2.1+1)<=b)) then if Ab (a.2.1.length+([(a.1.extract (AK<|w64<|a.2.2.2.1+1)<|AK b)]:List A4).length) then I (.inl (a.1,(a.2.1++([(a.1.extract (AK<|w64<|a.2.2.2.1+1)<|AK b)]:List A4)),(w64<|b+1),())) else U else U else U) else U else U)) else I (.inr<|.inr x.2)
def oA:=AZ Qq
def acA:Loop:=⟨[(0,.str),(4,.row 9 .str),(5,.int .i64)],[(4,.row 9 .str),(5,.int .i64)],0,[],oA⟩
def aqK:LF Tryz.f65 [] [1,1,1,0,0,0] acA:=sq (v:=t1<|.one<|t1<|.two (.one<|.loop rV) .nil) gj (b:=Qq)<|kC ark kN
def P2(x:A4×A2):Option ((List A4×Int×A2)×A2):=(AS (oA (x.1,([]:List A4),0,())) (λ_=>U) λa=>(RU (a.1,())).bind λb=>I ((b.1.1,a.2),()))
def WT:Ent:=(65,U,⟨[.str],[.row 9 .str,.int .i64],P2⟩)
def gr:SQ Tryz.prog WT:=sk (v:=t1<|t1<|t1<|.two (.one<|.loop acA) .nil) (fn:=Tryz.f65) gj<|kC aqK kN
def aqe:Cx:=cX [JN] [] []
def ato:OKC Tryz.prog aqe AF:=okc mixed<|gC KX<|AJ
def Xj(x:Int×A2):Option ((Y4×A2)×A2):=(FT x).bind λa=>if !a.1.1 then I (((0,0,0,([]:List A7),([]:List Mark),([]:List A7),()),()),()) else I (((x.1,0,1,([]:List A7),([]:List Mark),([]:List A7),()),()),())
def aA0:Ent:=(115,U,⟨[.int .i64],[Z6],Xj⟩)
def awE:SQ Tryz.prog aA0:=sk (v:= .nil) (fn:=Tryz.f115) ato kN
def akc:Cx:=cX [] [] [(21,24)]
def rD:OKC Tryz.prog akc AF:=okc mixed<|AJ
def YL(x:Int×Int×List Mark×Int×Int×A2):Rnd (Int×Int×List Mark×Int×Int×A2) (Int×A2) (A2):=if A0 (x.2.2.2.2.1<x.2.2.2.1) then if inb x.2.2.2.2.1 x.2.2.1.length then let a:=(rd (dfl .mark) x.2.2.1 x.2.2.2.2.1).mf;let b:=(rd (dfl .mark) x.2.2.1 x.2.2.2.2.1).mn;let c:=(rd (dfl .mark) x.2.2.1 x.2.2.2.2.1).mu;if(A0<|a=x.1)&&(A0<|b=x.2.1) then I (.inr<|.inl x.2.2.2.2) else I (.inl (x.1,x.2.1,x.2.2.1,x.2.2.2.1,(w64<|x.2.2.2.2.1+1),())) else U else I (.inr<|.inr ())
def jy:=AZ YL
def uB:Loop:=⟨[(1,.int .i64),(2,.int .i64),(9,.sl .mark),(10,.int .i64),(11,.int .i64)],[],0,[(6,.int .i64)],jy⟩
def aqf:LF Tryz.f170 [] [1,0,1,0,0] uB:=sq (v:= .nil) rD (b:=YL) kN
def Jg(x:List Mark×Int×Int×A2):Option ((Int×A2)×A2):=(AS (jy (x.2.1,x.2.2.1,x.1,(x.1.length:Int),0,())) (λa=>I (a,())) λa=>I (((-1),()),()))
def Sj:Ent:=(170,U,⟨[.fz .mark,.int .i64,.int .i64],[.int .i64],Jg⟩)
def Ys:SQ Tryz.prog Sj:=sk (v:=t1<|.two (t1<|.one<|.loop uB) .nil) (fn:=Tryz.f170) rD<|kC aqf kN
def aoL:Cx:=cX [] [] [(13,20)]
def aql:OKC Tryz.prog aoL AF:=okc mixed<|AJ
def LR(x:Int×Int×Int×Int×A2):Option ((Bool×A2)×A2):=let a:=((A0<|x.1<x.2.2.1)||((A0<|x.1=x.2.2.1)&&(A0<|x.2.1<x.2.2.2.1)));I ((a,()),())
def U0:Ent:=(216,U,⟨[.int .i64,.int .i64,.int .i64,.int .i64],[.bool],LR⟩)
def Zm:SQ Tryz.prog U0:=sk (v:= .nil) (fn:=Tryz.f216) aql kN
def arO:Cx:=cX [Rf,U0] [] [(16,37)]
def qO:OKC Tryz.prog arO AF:=okc mixed<|gC UU<|gC Zm<|AJ
def WK(x:List A7×List A7×Int×Int×A2):Rnd (List A7×List A7×Int×Int×A2) (Bool×A2) (A2):=if A0 (x.2.2.2.1<x.2.2.1) then if inb x.2.2.2.1 x.2.1.length then let b:=(rd (dfl .note) x.2.1 x.2.2.2.1).fr;let c:=(rd (dfl .note) x.2.1 x.2.2.2.1).nu;let d:=(rd (dfl .note) x.2.1 x.2.2.2.1).to;let e:=(rd (dfl .note) x.2.1 x.2.2.2.1).un;let f:=(rd (dfl .note) x.2.1 x.2.2.2.1).tx;(Nc ((b,c,d,e,f,()),())).bind λa=>if Ah ((!(!a.1.1))&&(A0<|0<x.2.2.2.1)) (inb (w64<|x.2.2.2.1 - 1) x.1.length) then if Ah ((!(!a.1.1))&&(A0<|0<x.2.2.2.1)) (inb (w64<|x.2.2.2.1 - 1) x.1.length) then if Ah ((!(!a.1.1))&&(A0<|0<x.2.2.2.1)) ((LR ((rd (dfl .note) x.1<|w64<|x.2.2.2.1 - 1).fr,(rd (dfl .note) x.1<|w64<|x.2.2.2.1 - 1).nu,b,c,())).isSome) then if(!a.1.1)||((A0<|0<x.2.2.2.1)&&(!(((LR ((rd (dfl .note) x.1<|w64<|x.2.2.2.1 - 1).fr,(rd (dfl .note) x.1<|w64<|x.2.2.2.1 - 1).nu,b,c,())).getD ((A3,()),())).1.1))) then I (.inr<|.inl (A3,())) else I (.inl (x.1,x.2.1,x.2.2.1,(w64<|x.2.2.2.1+1),())) else U else U else U else U else I (.inr<|.inr ())
def iB:=AZ WK
def rR:Loop:=⟨[(0,.sl .note),(5,.sl .note),(6,.int .i64),(7,.int .i64)],[],0,[(2,.bool)],iB⟩
def ajM:LF Tryz.f193 [] [1,0,1,0,0] rR:=sq (v:= .nil) qO (b:=WK) kN
def Un(x:List A7×A2):Option ((Bool×A2)×A2):=(AS (iB (x.1,x.1,(x.1.length:Int),0,())) (λa=>I (a,())) λa=>I ((A1,()),()))
def adN:Ent:=(193,U,⟨[.fz .note],[.bool],Un⟩)
def an9:SQ Tryz.prog adN:=sk (v:=t1<|.two (t1<|.one<|.loop rR) .nil) (fn:=Tryz.f193) qO<|kC ajM kN
def anX:Cx:=cX [Ev,JN] [] [(12,14)]
def aoA:OKC Tryz.prog anX AF:=okc mixed<|gC FD<|gC KX<|AJ
def aA(x:Y6×A2):Option ((Bool×A2)×A2):=(FT (x.1.1,())).bind λb=>if b.1.1 then(By (x.1.2.1,1,99,())).bind λa=>if Ah a.1.1 ((By (x.1.2.2.1,1,999,())).isSome) then let c:=(a.1.1&&(((By (x.1.2.2.1,1,999,())).getD ((A3,()),())).1.1));I ((c,()),()) else U else if Ah A3 ((By (x.1.2.2.1,1,999,())).isSome) then I ((A3,()),()) else U
def aAu:Ent:=(217,U,⟨[Z13],[.bool],aA⟩)
def ayd:SQ Tryz.prog aAu:=sk (v:= .nil) (fn:=Tryz.f217) aoA kN
def ang:Cx:=cX [U0,aAu] [] [(16,37)]
def aeG:OKC Tryz.prog ang AF:=okc mixed<|gC Zm<|gC ayd<|AJ
def X9(x:List Mark×List Mark×Int×Int×A2):Rnd (List Mark×List Mark×Int×Int×A2) (Bool×A2) (A2):=if A0 (x.2.2.2.1<x.2.2.1) then if inb x.2.2.2.1 x.2.1.length then let b:=(rd (dfl .mark) x.2.1 x.2.2.2.1).mf;let c:=(rd (dfl .mark) x.2.1 x.2.2.2.1).mn;let d:=(rd (dfl .mark) x.2.1 x.2.2.2.1).mu;(aA ((b,c,d,()),())).bind λa=>if Ah ((!(!a.1.1))&&(A0<|0<x.2.2.2.1)) (inb (w64<|x.2.2.2.1 - 1) x.1.length) then if Ah ((!(!a.1.1))&&(A0<|0<x.2.2.2.1)) (inb (w64<|x.2.2.2.1 - 1) x.1.length) then if Ah ((!(!a.1.1))&&(A0<|0<x.2.2.2.1)) ((LR ((rd (dfl .mark) x.1<|w64<|x.2.2.2.1 - 1).mf,(rd (dfl .mark) x.1<|w64<|x.2.2.2.1 - 1).mn,b,c,())).isSome) then if(!a.1.1)||((A0<|0<x.2.2.2.1)&&(!(((LR ((rd (dfl .mark) x.1<|w64<|x.2.2.2.1 - 1).mf,(rd (dfl .mark) x.1<|w64<|x.2.2.2.1 - 1).mn,b,c,())).getD ((A3,()),())).1.1))) then I (.inr<|.inl (A3,())) else I (.inl (x.1,x.2.1,x.2.2.1,(w64<|x.2.2.2.1+1),())) else U else U else U else U else I (.inr<|.inr ())
def p7:=AZ X9
def aby:Loop:=⟨[(0,.sl .mark),(5,.sl .mark),(6,.int .i64),(7,.int .i64)],[],0,[(2,.bool)],p7⟩
def asw:LF Tryz.f194 [] [1,0,1,0,0] aby:=sq (v:= .nil) aeG (b:=X9) kN
def Xq(x:List Mark×A2):Option ((Bool×A2)×A2):=(AS (p7 (x.1,x.1,(x.1.length:Int),0,())) (λa=>I (a,())) λa=>I ((A1,()),()))
def acy:Ent:=(194,U,⟨[.fz .mark],[.bool],Xq⟩)
def akL:SQ Tryz.prog acy:=sk (v:=t1<|.two (t1<|.one<|.loop aby) .nil) (fn:=Tryz.f194) aeG<|kC asw kN
def alY:Cx:=cX [Ev] [] [(10,23)]
def aks:OKC Tryz.prog alY AF:=okc mixed<|gC FD<|AJ
def VK(x:Int×Y5×A2):Option ((Bool×A2)×A2):=if Ah (!decide (x.1=x.2.1.2.2.1)) ((By (x.1,x.2.1.1,x.2.1.2.2.1,())).isSome) then if Ah ((!decide (x.1=x.2.1.2.2.1))&&(!(((By (x.1,x.2.1.1,x.2.1.2.2.1,())).getD ((A3,()),())).1.1))) ((By (x.1,x.2.1.2.2.1,x.2.1.1,())).isSome) then let a:=((!decide (x.1=x.2.1.2.2.1))&&((((By (x.1,x.2.1.1,x.2.1.2.2.1,())).getD ((A3,()),())).1.1)||(((By (x.1,x.2.1.2.2.1,x.2.1.1,())).getD ((A3,()),())).1.1)));I ((a,()),()) else U else U
def qN:Ent:=(195,U,⟨[.int .i64,Z8],[.bool],VK⟩)
def aoc:SQ Tryz.prog qN:=sk (v:= .nil) (fn:=Tryz.f195) aks kN
def akX:Cx:=cX [Ev,JN,Sj,adN,acy,qN] [] [(123,127)]
def Zb:OKC Tryz.prog akX AF:=okc mixed<|gC FD<|gC KX<|gC Ys<|gC an9<|gC akL<|gC aoc<|AJ
def YW(x:Y4×List A7×Int×Int×A2):Rnd (Y4×List A7×Int×Int×A2) (Bool×A2) (A2):=if A0 (x.2.2.2.1<x.2.2.1) then if inb x.2.2.2.1 x.2.1.length then let ji:=(rd (dfl .note) x.2.1 x.2.2.2.1).fr;let fu:=(rd (dfl .note) x.2.1 x.2.2.2.1).nu;let a:=(rd (dfl .note) x.2.1 x.2.2.2.1).to;let b:=(rd (dfl .note) x.2.1 x.2.2.2.1).un;let azt:=(rd (dfl .note) x.2.1 x.2.2.2.1).tx;(if A0 (ji=x.1.1) then if A0 (x.1.2.2.1<=fu) then I (.inr<|.inl (A3,())) else if !decide (a=x.1.1) then I (.inr<|.inl (A3,())) else if A0 (x.1.2.1<b) then(Jg (x.1.2.2.2.2.1,ji,fu,())).bind λayo=>if A0 (ayo.1.1<0) then I (.inr<|.inl (A3,())) else I (.inl (x.1,x.2.1,x.2.2.1,(w64<|x.2.2.2.1+1),())) else I (.inl (x.1,x.2.1,x.2.2.1,(w64<|x.2.2.2.1+1),())) else if !decide (a=x.1.1) then I (.inr<|.inl (A3,())) else if A0 (x.1.2.1<b) then(Jg (x.1.2.2.2.2.1,ji,fu,())).bind λafi=>if A0 (afi.1.1<0) then I (.inr<|.inl (A3,())) else I (.inl (x.1,x.2.1,x.2.2.1,(w64<|x.2.2.2.1+1),())) else I (.inl (x.1,x.2.1,x.2.2.1,(w64<|x.2.2.2.1+1),()))) else U else I (.inr<|.inr ())
def mR:=AZ YW
def rn:Loop:=⟨[(1,Z9),(131,.sl .note),(132,.int .i64),(133,.int .i64)],[],4,[(2,.bool)],mR⟩
def asW:LF Tryz.f154 [] [1,1,1,1,1,0,1,0,0] rn:=sq (v:= .nil) Zb (b:=YW) kN
def dh(x:Y4×List Mark×Int×Int×A2):Rnd (Y4×List Mark×Int×Int×A2) (Bool×A2) (Y4×A2):=if A0 (x.2.2.2.1<x.2.2.1) then if inb x.2.2.2.1 x.2.1.length then let aj6:=(rd (dfl .mark) x.2.1 x.2.2.2.1).mf;let oT:=(rd (dfl .mark) x.2.1 x.2.2.2.1).mn;let a:=(rd (dfl .mark) x.2.1 x.2.2.2.1).mu;if A0 (aj6=x.1.1) then if(A0<|x.1.2.2.1<=oT)||(A0<|a<=x.1.2.1) then I (.inr<|.inl (A3,())) else I (.inl (x.1,x.2.1,x.2.2.1,(w64<|x.2.2.2.1+1),())) else if A0 (a<=x.1.2.1) then I (.inr<|.inl (A3,())) else I (.inl (x.1,x.2.1,x.2.2.1,(w64<|x.2.2.2.1+1),())) else U else I (.inr<|.inr (x.1,()))
def nX:=AZ dh
def adD:Loop:=⟨[(1,Z9),(104,.sl .mark),(105,.int .i64),(106,.int .i64)],[(1,Z9)],2,[(2,.bool)],nX⟩
def apy:LF Tryz.f154 [] [1,1,1,1,0,1,0,0] adD:=sq (v:= .nil) Zb (b:=dh) kN
def aT(x:Y4×List A7×Int×Int×A2):Rnd (Y4×List A7×Int×Int×A2) (Bool×A2) (Y4×A2):=if A0 (x.2.2.2.1<x.2.2.1) then if inb x.2.2.2.1 x.2.1.length then let a:=(rd (dfl .note) x.2.1 x.2.2.2.1).fr;let b:=(rd (dfl .note) x.2.1 x.2.2.2.1).nu;let d:=(rd (dfl .note) x.2.1 x.2.2.2.1).to;let c:=(rd (dfl .note) x.2.1 x.2.2.2.1).un;let e:=(rd (dfl .note) x.2.1 x.2.2.2.1).tx;if A0 (a=x.1.1) then if A0 (x.1.2.2.1<=b) then I (.inr<|.inl (A3,())) else if A0 (c<=x.1.2.1) then I (.inr<|.inl (A3,())) else(VK (x.1.1,(a,b,d,c,e,()),())).bind λf=>if !f.1.1 then I (.inr<|.inl (A3,())) else(Jg (x.1.2.2.2.2.1,a,b,())).bind λg=>if A0 (0<=g.1.1) then I (.inr<|.inl (A3,())) else I (.inl (x.1,x.2.1,x.2.2.1,(w64<|x.2.2.2.1+1),())) else if A0 (c<=x.1.2.1) then I (.inr<|.inl (A3,())) else(VK (x.1.1,(a,b,d,c,e,()),())).bind λh=>if !h.1.1 then I (.inr<|.inl (A3,())) else(Jg (x.1.2.2.2.2.1,a,b,())).bind λi=>if A0 (0<=i.1.1) then I (.inr<|.inl (A3,())) else I (.inl (x.1,x.2.1,x.2.2.1,(w64<|x.2.2.2.1+1),())) else U else I (.inr<|.inr (x.1,()))
def mh:=AZ aT
def acZ:Loop:=⟨[(1,Z9),(60,.sl .note),(61,.int .i64),(62,.int .i64)],[(1,Z9)],0,[(2,.bool)],mh⟩
def aqP:LF Tryz.f154 [] [1,1,1,0,1,0,0] acZ:=sq (v:= .nil) Zb (b:=aT) kN
def P0(x:Y4×A2):Option ((Bool×A2)×A2):=(FT (x.1.1,())).bind λb=>if !b.1.1 then I ((A3,()),()) else(By (x.1.2.1,0,999,())).bind λc=>if !c.1.1 then I ((A3,()),()) else(By (x.1.2.2.1,1,100,())).bind λd=>if !d.1.1 then I ((A3,()),()) else if A0 (6<(x.1.2.2.2.1.length:Int)) then I ((A3,()),()) else if A0 (12<(x.1.2.2.2.2.1.length:Int)) then I ((A3,()),()) else if A0 (6<(x.1.2.2.2.2.2.1.length:Int)) then I ((A3,()),()) else(Un (x.1.2.2.2.1,())).bind λe=>if !e.1.1 then I ((A3,()),()) else(Xq (x.1.2.2.2.2.1,())).bind λf=>if !f.1.1 then I ((A3,()),()) else(Un x.1.2.2.2.2.2).bind λg=>if !g.1.1 then I ((A3,()),()) else(AS (mh (x.1,x.1.2.2.2.1,(x.1.2.2.2.1.length:Int),0,())) (λa=>I (a,())) λa=>(AS (nX (a.1,a.1.2.2.2.2.1,(a.1.2.2.2.2.1.length:Int),0,())) (λRv=>I (Rv,())) λRv=>(AS (mR (Rv.1,Rv.1.2.2.2.2.2.1,(Rv.1.2.2.2.2.2.1.length:Int),0,())) (λtp=>I (tp,())) λtp=>I ((A1,()),()))))
def eh:Ent:=(154,U,⟨[Z10],[.bool],P0⟩)
def rv:SQ Tryz.prog eh:=sk (v:=t1<|t1<|t1<|.two (t1<|.one<|.loop acZ)<|.two (t1<|.one<|.loop adD)<|.two (t1<|.one<|.loop rn) .nil) (fn:=Tryz.f154) Zb<|kC aqP<|kC apy<|kC asW kN
def axp:Cx:=cX [] [] []
def iZ:OKC Tryz.prog axp AF:=okc mixed<|AJ
def Yc(x:Int×Y4×Y4×List Mark×Int×Int×A2):Rnd (Int×Y4×Y4×List Mark×Int×Int×A2) (A2) (Y4×Y4×A2):=if A0 (x.2.2.2.2.2.1<x.2.2.2.2.1) then if inb x.2.2.2.2.2.1 x.2.2.2.1.length then let b:=(rd (dfl .mark) x.2.2.2.1 x.2.2.2.2.2.1).mf;let c:=(rd (dfl .mark) x.2.2.2.1 x.2.2.2.2.2.1).mn;let a:=(rd (dfl .mark) x.2.2.2.1 x.2.2.2.2.2.1).mu;if A0 (x.1<a) then if Ab (x.2.2.1.2.2.2.2.1.length+([(Mark.mk b c a)]:List Mark).length) then I (.inl (x.1,x.2.1,(x.2.2.1.1,x.2.2.1.2.1,x.2.2.1.2.2.1,x.2.2.1.2.2.2.1,(x.2.2.1.2.2.2.2.1++([(Mark.mk b c a)]:List Mark)),x.2.2.1.2.2.2.2.2),x.2.2.2.1,x.2.2.2.2.1,(w64<|x.2.2.2.2.2.1+1),())) else U else I (.inl (x.1,x.2.1,x.2.2.1,x.2.2.2.1,x.2.2.2.2.1,(w64<|x.2.2.2.2.2.1+1),())) else U else I (.inr<|.inr (x.2.1,x.2.2.1,()))
def gy:=AZ Yc
def xY:Loop:=⟨[(1,.int .i64),(4,Z11),(5,Z34),(37,.sl .mark),(38,.int .i64),(39,.int .i64)],[(4,Z11),(5,Z34)],2,[],gy⟩
def aeo:LF Tryz.f219 [] [1,1,1,0,1,0,0] xY:=sq (v:= .nil) iZ (b:=Yc) kN
def WU(x:Int×Y4×Y4×Y4×List A7×Int×Int×A2):Rnd (Int×Y4×Y4×Y4×List A7×Int×Int×A2) (A2) (Int×Y4×Y4×Y4×A2):=if A0 (x.2.2.2.2.2.2.1<x.2.2.2.2.2.1) then if inb x.2.2.2.2.2.2.1 x.2.2.2.2.1.length then let b:=(rd (dfl .note) x.2.2.2.2.1 x.2.2.2.2.2.2.1).fr;let c:=(rd (dfl .note) x.2.2.2.2.1 x.2.2.2.2.2.2.1).nu;let d:=(rd (dfl .note) x.2.2.2.2.1 x.2.2.2.2.2.2.1).to;let a:=(rd (dfl .note) x.2.2.2.2.1 x.2.2.2.2.2.2.1).un;let e:=(rd (dfl .note) x.2.2.2.2.1 x.2.2.2.2.2.2.1).tx;if A0 (x.1<a) then if Ab (x.2.2.2.1.2.2.2.1.length+([(A7.mk b c d a e)]:List A7).length) then I (.inl (x.1,x.2.1,x.2.2.1,(x.2.2.2.1.1,x.2.2.2.1.2.1,x.2.2.2.1.2.2.1,(x.2.2.2.1.2.2.2.1++([(A7.mk b c d a e)]:List A7)),x.2.2.2.1.2.2.2.2),x.2.2.2.2.1,x.2.2.2.2.2.1,(w64<|x.2.2.2.2.2.2.1+1),())) else U else I (.inl (x.1,x.2.1,x.2.2.1,x.2.2.2.1,x.2.2.2.2.1,x.2.2.2.2.2.1,(w64<|x.2.2.2.2.2.2.1+1),())) else U else I (.inr<|.inr (x.1,x.2.1,x.2.2.1,x.2.2.2.1,()))
def pD:=AZ WU
def wU:Loop:=⟨[(1,.int .i64),(2,Z9),(4,Z11),(5,Z34),(19,.sl .note),(20,.int .i64),(21,.int .i64)],[(1,.int .i64),(2,Z9),(4,Z11),(5,Z34)],0,[],pD⟩
def au0:LF Tryz.f219 [] [1,1,0,1,0,0] wU:=sq (v:= .nil) iZ (b:=WU) kN
def au(x:Y4×Int×A2):Option ((Y4×A2)×A2):=(AS (pD (x.2.1,x.1,(0,0,0,([]:List A7),([]:List Mark),([]:List A7),()),(x.1.1,x.2.1,x.1.2.2.1,([]:List A7),([]:List Mark),x.1.2.2.2.2.2),x.1.2.2.2.1,(x.1.2.2.2.1.length:Int),0,())) (λ_=>U) λa=>(AS (gy (a.1,a.2.2.1,a.2.2.2.1,a.2.1.2.2.2.2.1,(a.2.1.2.2.2.2.1.length:Int),0,())) (λ_=>U) λb=>I (b.2,())))
def ql:Ent:=(219,U,⟨[Z10,.int .i64],[Z10],au⟩)
def alp:SQ Tryz.prog ql:=sk (v:=t1<|t1<|.two (t1<|.one<|.loop wU)<|.two (t1<|.one<|.loop xY) .nil) (fn:=Tryz.f219) iZ<|kC au0<|kC aeo kN
def agp:Cx:=cX [ql] [] [(12,15),(24,27)]
def aiz:OKC Tryz.prog agp AF:=okc mixed<|gC alp<|AJ
def Uk(x:Y4×A4×Int×A2):Option ((Y4×Bool×A2)×A2):=let a:=((A0<|x.2.1=(B [116,105,109,101]))&&(A0<|x.1.2.1<x.2.2.1));(if a then(au (x.1,x.2.2)).bind λb=>I ((b.1.1,A1,()),()) else let c:=((A0<|x.2.1=(B [110,101,120,116]))&&(A0<|x.1.2.2.1<x.2.2.1));(if c then I (((x.1.1,x.1.2.1,x.2.2.1,x.1.2.2.2),A1,()),()) else I ((x.1,A3,()),())))
def abX:Ent:=(197,U,⟨[Z10,.str,.int .i64],[Z10,.bool],Uk⟩)
def arT:SQ Tryz.prog abX:=sk (v:= .nil) (fn:=Tryz.f197) aiz kN
def awc:Cx:=cX [Rf,Q8] [] []
def afJ:OKC Tryz.prog awc AF:=okc mixed<|gC UU<|gC Si<|AJ
def M9(x:Y5×A2):Option ((A4×A2)×A2):=(Nc x).bind λe=>if !e.1.1 then I ((noB,()),()) else(Iu (x.1.1,())).bind λa=>if A0 (a.1.1.size+(B [32]).size<=4611686018427387904) then(Iu (x.1.2.1,())).bind λb=>if A0 ((a.1.1++(B [32])).size+b.1.1.size<=4611686018427387904) then if A0 (((a.1.1++(B [32]))++b.1.1).size+(B [32]).size<=4611686018427387904) then(Iu (x.1.2.2.1,())).bind λc=>if A0 ((((a.1.1++(B [32]))++b.1.1)++(B [32])).size+c.1.1.size<=4611686018427387904) then if A0 (((((a.1.1++(B [32]))++b.1.1)++(B [32]))++c.1.1).size+(B [32]).size<=4611686018427387904) then(Iu (x.1.2.2.2.1,())).bind λd=>if A0 ((((((a.1.1++(B [32]))++b.1.1)++(B [32]))++c.1.1)++(B [32])).size+d.1.1.size<=4611686018427387904) then if A0 (((((((a.1.1++(B [32]))++b.1.1)++(B [32]))++c.1.1)++(B [32]))++d.1.1).size+(B [32]).size<=4611686018427387904) then if A0 ((((((((a.1.1++(B [32]))++b.1.1)++(B [32]))++c.1.1)++(B [32]))++d.1.1)++(B [32])).size+x.1.2.2.2.2.1.size<=4611686018427387904) then let f:=((((((((a.1.1++(B [32]))++b.1.1)++(B [32]))++c.1.1)++(B [32]))++d.1.1)++(B [32]))++x.1.2.2.2.2.1);I ((f,()),()) else U else U else U else U else U else U else U else U
def Tz:Ent:=(141,U,⟨[Z8],[.str],M9⟩)
def cS:SQ Tryz.prog Tz:=sk (v:= .nil) (fn:=Tryz.f141) afJ kN
def asM:Cx:=cX [aV] [] []
def aay:OKC Tryz.prog asM AF:=okc mixed<|gC iv<|AJ
def bR(x:List Int×List A4×Int×Int×A2):Rnd (List Int×List A4×Int×Int×A2) (List Int×Bool×A2) (List Int×A2):=if A0 (x.2.2.2.1<x.2.2.1) then if inb x.2.2.2.1 x.2.1.length then let b:=(rd (dfl .str) x.2.1 x.2.2.2.1);(PF (b,())).bind λa=>if !a.1.2.1 then I (.inr<|.inl (([]:List Int),A3,())) else if Ab (x.1.length+([a.1.1]:List Int).length) then I (.inl ((x.1++([a.1.1]:List Int)),x.2.1,x.2.2.1,(w64<|x.2.2.2.1+1),())) else U else U else I (.inr<|.inr (x.1,()))
def nL:=AZ bR
def aeS:Loop:=⟨[(4,.row 3 .int),(9,.sl .str),(10,.int .i64),(11,.int .i64)],[(4,.row 3 .int)],0,[(2,.row 3 .int),(3,.bool)],nL⟩
def ag4:LF Tryz.f200 [] [1,1,0,1,0,0] aeS:=sq (v:= .nil) aay (b:=bR) kN
def Rk(x:List A4×A2):Option ((List Int×Bool×A2)×A2):=(AS (nL (([]:List Int),x.1,(x.1.length:Int),0,())) (λa=>I (a,())) λa=>I ((a.1,A1,()),()))
def ic:Ent:=(200,U,⟨[.fz .str],[.row 3 .int,.bool],Rk⟩)
def aaJ:SQ Tryz.prog ic:=sk (v:=t1<|t1<|.two (t1<|.one<|.loop aeS) .nil) (fn:=Tryz.f200) aay<|kC ag4 kN
def arb:Cx:=cX [Rf,Tz,ic,ab8] [] [(43,46)]
def aza:OKC Tryz.prog arb AF:=okc mixed<|gC UU<|gC cS<|gC aaJ<|gC aez<|AJ
def VA(x:A4×A2):Option ((Y5×Bool×A2)×A2):=(eF (x.1,(B [32]),5,())).bind λb=>if !decide ((b.1.1.length:Int)=5) then I (((0,0,0,0,noB,()),A3,()),()) else if A0 (0<=4)&&A0 (4<=(b.1.1.length:Int)) then(Rk ((BH (AK 4) b.1.1),())).bind λa=>if !a.1.2.1 then I (((0,0,0,0,noB,()),A3,()),()) else if inb 0 a.1.1.length then if inb 1 a.1.1.length then if inb 2 a.1.1.length then if inb 3 a.1.1.length then if inb 4 b.1.1.length then(Nc (((rd (dfl .int) a.1.1 0),(rd (dfl .int) a.1.1 1),(rd (dfl .int) a.1.1 2),(rd (dfl .int) a.1.1 3),(rd (dfl .str) b.1.1 4),()),())).bind λc=>if Ah (!(!c.1.1)) ((M9 (((rd (dfl .int) a.1.1 0),(rd (dfl .int) a.1.1 1),(rd (dfl .int) a.1.1 2),(rd (dfl .int) a.1.1 3),(rd (dfl .str) b.1.1 4),()),())).isSome) then if(!c.1.1)||(!decide (((M9 (((rd (dfl .int) a.1.1 0),(rd (dfl .int) a.1.1 1),(rd (dfl .int) a.1.1 2),(rd (dfl .int) a.1.1 3),(rd (dfl .str) b.1.1 4),()),())).getD ((noB,()),())).1.1=x.1)) then I (((0,0,0,0,noB,()),A3,()),()) else I ((((rd (dfl .int) a.1.1 0),(rd (dfl .int) a.1.1 1),(rd (dfl .int) a.1.1 2),(rd (dfl .int) a.1.1 3),(rd (dfl .str) b.1.1 4),()),A1,()),()) else U else U else U else U else U else U else U
def zj:Ent:=(198,U,⟨[.str],[Z8,.bool],VA⟩)
def aip:SQ Tryz.prog zj:=sk (v:= .nil) (fn:=Tryz.f198) aza kN
def awk:Cx:=cX [] [] [(21,24)]
def aAM:OKC Tryz.prog awk AF:=okc mixed<|AJ
def XD(x:Int×Int×List A7×Int×Int×A2):Rnd (Int×Int×List A7×Int×Int×A2) (Int×A2) (A2):=if A0 (x.2.2.2.2.1<x.2.2.2.1) then if inb x.2.2.2.2.1 x.2.2.1.length then let a:=(rd (dfl .note) x.2.2.1 x.2.2.2.2.1).fr;let b:=(rd (dfl .note) x.2.2.1 x.2.2.2.2.1).nu;let c:=(rd (dfl .note) x.2.2.1 x.2.2.2.2.1).to;let d:=(rd (dfl .note) x.2.2.1 x.2.2.2.2.1).un;let e:=(rd (dfl .note) x.2.2.1 x.2.2.2.2.1).tx;if(A0<|a=x.1)&&(A0<|b=x.2.1) then I (.inr<|.inl x.2.2.2.2) else I (.inl (x.1,x.2.1,x.2.2.1,x.2.2.2.1,(w64<|x.2.2.2.2.1+1),())) else U else I (.inr<|.inr ())
def mq:=AZ XD
def aaL:Loop:=⟨[(1,.int .i64),(2,.int .i64),(9,.sl .note),(10,.int .i64),(11,.int .i64)],[],0,[(6,.int .i64)],mq⟩
def ayK:LF Tryz.f137 [] [1,0,1,0,0] aaL:=sq (v:= .nil) aAM (b:=XD) kN
def I8(x:List A7×Int×Int×A2):Option ((Int×A2)×A2):=(AS (mq (x.2.1,x.2.2.1,x.1,(x.1.length:Int),0,())) (λa=>I (a,())) λa=>I (((-1),()),()))
def NC:Ent:=(137,U,⟨[.fz .note,.int .i64,.int .i64],[.int .i64],I8⟩)
def Od:SQ Tryz.prog NC:=sk (v:=t1<|.two (t1<|.one<|.loop aaL) .nil) (fn:=Tryz.f137) aAM<|kC ayK kN
def ahF:Cx:=cX [U0] [] [(11,25)]
def uV:OKC Tryz.prog ahF AF:=okc mixed<|gC Zm<|AJ
def bf(x:List A7×Y5×Int×A2):Rnd (List A7×Y5×Int×A2) (A2) (List A7×Y5×Int×A2):=if Ah (A0<|x.2.2.1<(x.1.length:Int)) (inb x.2.2.1 x.1.length) then if Ah (A0<|x.2.2.1<(x.1.length:Int)) (inb x.2.2.1 x.1.length) then if Ah (A0<|x.2.2.1<(x.1.length:Int)) ((LR ((rd (dfl .note) x.1 x.2.2.1).fr,(rd (dfl .note) x.1 x.2.2.1).nu,x.2.1.1,x.2.1.2.1,())).isSome) then if(A0<|x.2.2.1<(x.1.length:Int))&&(((LR ((rd (dfl .note) x.1 x.2.2.1).fr,(rd (dfl .note) x.1 x.2.2.1).nu,x.2.1.1,x.2.1.2.1,())).getD ((A3,()),())).1.1) then I (.inl (x.1,x.2.1,(w64<|x.2.2.1+1),())) else I (.inr<|.inr x) else U else U else U
def mS:=AZ bf
def aeb:Loop:=⟨[(0,.sl .note),(3,Z7),(5,.int .i64)],[(0,.sl .note),(3,Z7),(5,.int .i64)],0,[],mS⟩
def ax6:LF Tryz.f222 [] [1,1,0,0,0] aeb:=sq (v:= .nil) uV (b:=bf) kN
def P7(x:List A7×Y5×A2):Option ((List A7×A2)×A2):=(AS (mS (x.1,x.2.1,0,())) (λ_=>U) λa=>(if A0 (0<=a.2.2.1)&&A0 (a.2.2.1<=(a.1.length:Int)) then if Ab (([]:List A7).length+(BH (AK a.2.2.1) a.1).length) then if Ab ((([]:List A7)++(BH (AK a.2.2.1) a.1)).length+([(A7.mk a.2.1.1 a.2.1.2.1 a.2.1.2.2.1 a.2.1.2.2.2.1 a.2.1.2.2.2.2.1)]:List A7).length) then if A0 (0<=a.2.2.1)&&A0 (a.2.2.1<=(a.1.length:Int)) then if Ab (((([]:List A7)++(BH (AK a.2.2.1) a.1))++([(A7.mk a.2.1.1 a.2.1.2.1 a.2.1.2.2.1 a.2.1.2.2.2.1 a.2.1.2.2.2.2.1)]:List A7)).length+(Bp (AK a.2.2.1) a.1).length) then I (((((([]:List A7)++(BH (AK a.2.2.1) a.1))++([(A7.mk a.2.1.1 a.2.1.2.1 a.2.1.2.2.1 a.2.1.2.2.2.1 a.2.1.2.2.2.2.1)]:List A7))++(Bp (AK a.2.2.1) a.1)),()),()) else U else U else U else U else U))
def eX:Ent:=(222,U,⟨[.fz .note,Z8],[.row 53 .note],P7⟩)
def abf:SQ Tryz.prog eX:=sk (v:=t1<|t1<|.two (.one<|.loop aeb) .nil) (fn:=Tryz.f222) uV<|kC ax6 kN
def afA:Cx:=cX [U0] [] [(11,25)]
def aa8:OKC Tryz.prog afA AF:=okc mixed<|gC Zm<|AJ
def Xk(x:List Mark×Y6×Int×A2):Rnd (List Mark×Y6×Int×A2) (A2) (List Mark×Y6×Int×A2):=if Ah (A0<|x.2.2.1<(x.1.length:Int)) (inb x.2.2.1 x.1.length) then if Ah (A0<|x.2.2.1<(x.1.length:Int)) (inb x.2.2.1 x.1.length) then if Ah (A0<|x.2.2.1<(x.1.length:Int)) ((LR ((rd (dfl .mark) x.1 x.2.2.1).mf,(rd (dfl .mark) x.1 x.2.2.1).mn,x.2.1.1,x.2.1.2.1,())).isSome) then if(A0<|x.2.2.1<(x.1.length:Int))&&(((LR ((rd (dfl .mark) x.1 x.2.2.1).mf,(rd (dfl .mark) x.1 x.2.2.1).mn,x.2.1.1,x.2.1.2.1,())).getD ((A3,()),())).1.1) then I (.inl (x.1,x.2.1,(w64<|x.2.2.1+1),())) else I (.inr<|.inr x) else U else U else U
def eV:=AZ Xk
def yi:Loop:=⟨[(0,.sl .mark),(3,Z12),(5,.int .i64)],[(0,.sl .mark),(3,Z12),(5,.int .i64)],0,[],eV⟩
def auU:LF Tryz.f225 [] [1,1,0,0,0] yi:=sq (v:= .nil) aa8 (b:=Xk) kN
def RF(x:List Mark×Y6×A2):Option ((List Mark×A2)×A2):=(AS (eV (x.1,x.2.1,0,())) (λ_=>U) λa=>(if A0 (0<=a.2.2.1)&&A0 (a.2.2.1<=(a.1.length:Int)) then if Ab (([]:List Mark).length+(BH (AK a.2.2.1) a.1).length) then if Ab ((([]:List Mark)++(BH (AK a.2.2.1) a.1)).length+([(Mark.mk a.2.1.1 a.2.1.2.1 a.2.1.2.2.1)]:List Mark).length) then if A0 (0<=a.2.2.1)&&A0 (a.2.2.1<=(a.1.length:Int)) then if Ab (((([]:List Mark)++(BH (AK a.2.2.1) a.1))++([(Mark.mk a.2.1.1 a.2.1.2.1 a.2.1.2.2.1)]:List Mark)).length+(Bp (AK a.2.2.1) a.1).length) then I (((((([]:List Mark)++(BH (AK a.2.2.1) a.1))++([(Mark.mk a.2.1.1 a.2.1.2.1 a.2.1.2.2.1)]:List Mark))++(Bp (AK a.2.2.1) a.1)),()),()) else U else U else U else U else U))
def oO:Ent:=(225,U,⟨[.fz .mark,Z13],[.row 174 .mark],RF⟩)
def tQ:SQ Tryz.prog oO:=sk (v:=t1<|t1<|.two (.one<|.loop yi) .nil) (fn:=Tryz.f225) aa8<|kC auU kN
def aj2:Cx:=cX [Rf,NC,Sj,eX,oO] [] []
def afl:OKC Tryz.prog aj2 AF:=okc mixed<|gC UU<|gC Od<|gC Ys<|gC abf<|gC tQ<|AJ
def Tf(x:Y4×Y5×A2):Option ((Y4×Bool×A2)×A2):=(Nc x.2).bind λa=>if !a.1.1 then I ((x.1,A3,()),()) else if A0 (x.2.1.2.2.2.1<=x.1.2.1) then I ((x.1,A3,()),()) else(I8 (x.1.2.2.2.1,x.2.1.1,x.2.1.2.1,())).bind λb=>if A0 (0<=b.1.1) then I ((x.1,A3,()),()) else(I8 (x.1.2.2.2.2.2.1,x.2.1.1,x.2.1.2.1,())).bind λc=>if A0 (0<=c.1.1) then I ((x.1,A3,()),()) else(Jg (x.1.2.2.2.2.1,x.2.1.1,x.2.1.2.1,())).bind λd=>if A0 (0<=d.1.1) then I ((x.1,A3,()),()) else if A0 (12<(w64<|(w64<|(x.1.2.2.2.1.length:Int)+(x.1.2.2.2.2.1.length:Int))+1)) then I ((x.1,A3,()),()) else if A0 (x.2.1.2.2.1=x.1.1) then(P7 (x.1.2.2.2.2.2.1,x.2)).bind λe=>(RF (x.1.2.2.2.2.1,(x.2.1.1,x.2.1.2.1,x.2.1.2.2.2.1,()),())).bind λf=>I (((x.1.1,x.1.2.1,x.1.2.2.1,x.1.2.2.2.1,f.1.1,e.1),A1,()),()) else(P7 (x.1.2.2.2.1,x.2)).bind λg=>I (((x.1.1,x.1.2.1,x.1.2.2.1,g.1.1,x.1.2.2.2.2),A1,()),())
def xj:Ent:=(221,U,⟨[Z10,Z8],[Z10,.bool],Tf⟩)
def aqy:SQ Tryz.prog xj:=sk (v:= .nil) (fn:=Tryz.f221) afl kN
def ash:Cx:=cX [NC,xj,eX] [] [(19,23),(38,42),(59,66)]
def as8:OKC Tryz.prog ash AF:=okc mixed<|gC Od<|gC aqy<|gC abf<|AJ
def UY(x:Y4×A4×Y5×A2):Option ((Y4×Bool×A2)×A2):=(B8 (X:=A4×Y4×Y5×Y4×Bool×A2) (λa=>if a.2.2.2.2.1 then let c:=(w64<|a.2.1.2.2.1+1);(Tf ((a.2.1.1,a.2.1.2.1,c,a.2.1.2.2.2),a.2.2.1,())).bind λd=>I (d.1,()) else let e:=((A0<|a.1=(B [116,97,107,101]))&&(!decide (a.2.2.1.1=a.2.1.1)));(if e then(Tf (a.2.1,a.2.2.1,())).bind λf=>I (f.1,()) else(I8 (a.2.1.2.2.2.1,a.2.2.1.1,a.2.2.1.2.1,())).bind λb=>if Ah (!(A0<|0<=b.1.1)) ((I8 (a.2.1.2.2.2.2.2.1,a.2.2.1.1,a.2.2.1.2.1,())).isSome) then let g:=((A0<|0<=b.1.1)||(A0<|0<=((I8 (a.2.1.2.2.2.2.2.1,a.2.2.1.1,a.2.2.1.2.1,())).getD ((0,()),())).1.1));(if g then I ((a.2.1,A3,()),()) else let h:=(A0<|a.1=(B [104,101,108,100]));(if h then(P7 (a.2.1.2.2.2.1,a.2.2.1,())).bind λi=>I (((a.2.1.1,a.2.1.2.1,a.2.1.2.2.1,i.1.1,a.2.1.2.2.2.2),A1,()),()) else let j:=(A0<|a.1=(B [105,110,98,111,120]));(if j then(P7 (a.2.1.2.2.2.2.2.1,a.2.2.1,())).bind λk=>I (((a.2.1.1,a.2.1.2.1,a.2.1.2.2.1,a.2.1.2.2.2.1,a.2.1.2.2.2.2.1,k.1),A1,()),()) else I ((a.2.1,A3,()),())))) else U))<|(if A0 (x.2.1=(B [111,119,110])) then let l:=((A0<|x.2.2.1.1=x.1.1)&&(A0<|x.2.2.1.2.1=x.1.2.2.1));I (.inr (x.2.1,x.1,x.2.2.1,(0,0,0,([]:List A7),([]:List Mark),([]:List A7),()),l,())) else I (.inr (x.2.1,x.1,x.2.2.1,(0,0,0,([]:List A7),([]:List Mark),([]:List A7),()),A3,()))))
def adJ:Ent:=(199,U,⟨[Z10,.str,Z8],[Z10,.bool],UY⟩)
def agx:SQ Tryz.prog adJ:=sk (v:=t1<|.two (.one<|.join [(1,.str),(3,Z9),(5,Z7),(6,Z11),(8,.bool)] .nil .nil) .nil) (fn:=Tryz.f199) as8 kN
def azF:Cx:=cX [] [] []
def asx:OKC Tryz.prog azF AF:=okc mixed<|AJ
def Q3(x:List A7×Int×A2):Option ((List A7×A2)×A2):=if A0 (0<=x.2.1)&&A0 (x.2.1<=(x.1.length:Int)) then if Ab (([]:List A7).length+(BH (AK x.2.1) x.1).length) then if A0 (0<=(w64<|x.2.1+1))&&A0 ((w64<|x.2.1+1)<=(x.1.length:Int)) then if Ab ((([]:List A7)++(BH (AK x.2.1) x.1)).length+(Bp (AK<|w64<|x.2.1+1) x.1).length) then I ((((([]:List A7)++(BH (AK x.2.1) x.1))++(Bp (AK<|w64<|x.2.1+1) x.1)),()),()) else U else U else U else U
def sv:Ent:=(224,U,⟨[.fz .note,.int .i64],[.row 53 .note],Q3⟩)
def axh:SQ Tryz.prog sv:=sk (v:= .nil) (fn:=Tryz.f224) asx kN
def aui:Cx:=cX [NC,Sj,sv,oO] [] [(41,49),(70,78),(90,91)]
def axz:OKC Tryz.prog aui AF:=okc mixed<|gC Od<|gC Ys<|gC axh<|gC tQ<|AJ
def Ss(x:Y4×A4×Y6×A2):Option ((Y4×Bool×A2)×A2):=(I8 (x.1.2.2.2.1,x.2.2.1.1,x.2.2.1.2.1,())).bind λc=>(I8 (x.1.2.2.2.2.2.1,x.2.2.1.1,x.2.2.1.2.1,())).bind λd=>(Jg (x.1.2.2.2.2.1,x.2.2.1.1,x.2.2.1.2.1,())).bind λe=>(B8 (X:=A4×Y4×Y6×Y4×Int×Int×Bool×Bool×A2) (λa=>if a.2.2.2.2.2.2.2.1 then(Q3 (a.2.1.2.2.2.1,a.2.2.2.2.1,())).bind λf=>(RF (a.2.1.2.2.2.2.1,a.2.2.1,())).bind λg=>I (((a.2.1.1,a.2.1.2.1,a.2.1.2.2.1,f.1.1,g.1.1,a.2.1.2.2.2.2.2),A1,()),()) else(B8 (X:=A4×Y4×Y6×Y4×Int×Bool×Bool×A2) (λb=>if b.2.2.2.2.2.2.1 then(Q3 (b.2.1.2.2.2.2.2.1,b.2.2.2.2.1,())).bind λh=>I (((b.2.1.1,b.2.1.2.1,b.2.1.2.2.1,b.2.1.2.2.2.1,b.2.1.2.2.2.2.1,h.1),A1,()),()) else let i:=((A0<|b.1=(B [109,97,114,107]))&&(!b.2.2.2.2.2.1));(if i then(RF (b.2.1.2.2.2.2.1,b.2.2.1,())).bind λj=>I (((b.2.1.1,b.2.1.2.1,b.2.1.2.2.1,b.2.1.2.2.2.1,j.1.1,b.2.1.2.2.2.2.2),A1,()),()) else I ((b.2.1,A3,()),())))<|(if A0 (a.1=(B [101,97,116])) then if Ah (A0<|0<=a.2.2.2.2.2.1) (inb a.2.2.2.2.2.1 a.2.1.2.2.2.2.2.1.length) then let k:=((A0<|0<=a.2.2.2.2.2.1)&&(A0<|(rd (dfl .note) a.2.1.2.2.2.2.2.1 a.2.2.2.2.2.1).un=a.2.2.1.2.2.1));I (.inr (a.1,a.2.1,a.2.2.1,a.2.2.2.1,a.2.2.2.2.2.1,a.2.2.2.2.2.2.1,k,())) else U else if Ah A3 (inb a.2.2.2.2.2.1 a.2.1.2.2.2.2.2.1.length) then I (.inr (a.1,a.2.1,a.2.2.1,a.2.2.2.1,a.2.2.2.2.2.1,a.2.2.2.2.2.2.1,A3,())) else U)))<|(if A0 (x.2.1=(B [108,101,116])) then if Ah (A0<|0<=c.1.1) (inb c.1.1 x.1.2.2.2.1.length) then let l:=((A0<|0<=c.1.1)&&(A0<|(rd (dfl .note) x.1.2.2.2.1 c.1.1).un=x.2.2.1.2.2.1));I (.inr (x.2.1,x.1,x.2.2.1,(0,0,0,([]:List A7),([]:List Mark),([]:List A7),()),c.1.1,d.1.1,(A0<|0<=e.1.1),l,())) else U else if Ah A3 (inb c.1.1 x.1.2.2.2.1.length) then I (.inr (x.2.1,x.1,x.2.2.1,(0,0,0,([]:List A7),([]:List Mark),([]:List A7),()),c.1.1,d.1.1,(A0<|0<=e.1.1),A3,())) else U))
def rP:Ent:=(202,U,⟨[Z10,.str,Z13],[Z10,.bool],Ss⟩)
def arn:SQ Tryz.prog rP:=sk (v:=t1<|t1<|t1<|.two (.one<|.join [(1,.str),(3,Z9),(5,Z12),(6,Z11),(8,.int .i64),(9,.int .i64),(10,.bool),(33,.bool)] .nil<|t1<|.join [(1,.str),(3,Z9),(5,Z12),(6,Z11),(9,.int .i64),(10,.bool),(62,.bool)] .nil .nil) .nil) (fn:=Tryz.f202) axz kN
def agj:Cx:=cX [aV,aAd,abX,zj,adJ,ic,tU,rP] [] [(69,71)]
def ap0:OKC Tryz.prog agj AF:=okc mixed<|gC iv<|gC agN<|gC arT<|gC aip<|gC agx<|gC aaJ<|gC ajL<|gC arn<|AJ
def Vc(x:Y4×A4×A2):Option ((Y4×Bool×A2)×A2):=(TB (x.2.1,(B [32]),())).bind λc=>if !c.1.2.2.1 then I ((x.1,A3,()),()) else(B8 (X:=Y4×Y4×A4×A4×A4×Bool×A2) (λa=>if a.2.2.2.2.2.1 then(PF (a.2.2.2.1,())).bind λf=>if f.1.2.1 then(Uk (a.1,a.2.2.1,f.1.1,())).bind λn=>I (n.1,()) else I ((a.1,A3,()),()) else(B8 (X:=Y4×Y4×A4×A4×A4×Bool×A2) (λb=>if b.2.2.2.2.2.1 then(VA (b.2.2.2.1,())).bind λg=>if g.1.2.1 then(UY (b.1,b.2.2.1,g.1.1,())).bind λo=>I (o.1,()) else I ((b.1,A3,()),()) else(B8 (X:=Y4×Y4×A4×A4×Bool×A2) (λe=>if e.2.2.2.2.1 then(dT (e.2.2.2.1,(B [32]),())).bind λp=>(Rk p.1).bind λd=>if d.1.2.1&&(A0<|(d.1.1.length:Int)=3) then if inb 0 d.1.1.length then if inb 1 d.1.1.length then if inb 2 d.1.1.length then(Ss (e.1,e.2.2.1,((rd (dfl .int) d.1.1 0),(rd (dfl .int) d.1.1 1),(rd (dfl .int) d.1.1 2),()),())).bind λq=>I (q.1,()) else U else U else U else I ((e.1,A3,()),()) else I ((e.1,A3,()),())) (let h:=(A0<|b.2.2.2.2.1=(B [108,101,116]));(if h then I (.inr (b.1,b.2.1,b.2.2.1,b.2.2.2.1,h,())) else let i:=(A0<|b.2.2.2.2.1=(B [101,97,116]));(if i then I (.inr (b.1,b.2.1,b.2.2.1,b.2.2.2.1,i,())) else let r:=(A0<|b.2.2.2.2.1=(B [109,97,114,107]));I (.inr (b.1,b.2.1,b.2.2.1,b.2.2.2.1,r,()))))))) (let j:=(A0<|a.2.2.2.2.1=(B [111,119,110]));(if j then I (.inr (a.1,a.2.1,a.2.2.1,a.2.2.2.1,a.2.2.2.2.1,j,())) else let k:=(A0<|a.2.2.2.2.1=(B [116,97,107,101]));(if k then I (.inr (a.1,a.2.1,a.2.2.1,a.2.2.2.1,a.2.2.2.2.1,k,())) else let l:=(A0<|a.2.2.2.2.1=(B [104,101,108,100]));(if l then I (.inr (a.1,a.2.1,a.2.2.1,a.2.2.2.1,a.2.2.2.2.1,l,())) else let s:=(A0<|a.2.2.2.2.1=(B [105,110,98,111,120]));I (.inr (a.1,a.2.1,a.2.2.1,a.2.2.2.1,a.2.2.2.2.1,s,())))))))) (let m:=(A0<|c.1.1=(B [116,105,109,101]));(if m then I (.inr (x.1,(0,0,0,([]:List A7),([]:List Mark),([]:List A7),()),c.1.1,c.1.2.1,c.1.1,m,())) else let t:=(A0<|c.1.1=(B [110,101,120,116]));I (.inr (x.1,(0,0,0,([]:List A7),([]:List Mark),([]:List A7),()),c.1.1,c.1.2.1,c.1.1,t,())))))
def za:Ent:=(155,U,⟨[Z10,.str],[Z10,.bool],Vc⟩)
def avP:SQ Tryz.prog za:=sk (v:=t1<|t1<|t1<|.two (t1<|.one<|.join [(2,Z9),(4,Z11),(6,.str),(7,.str),(24,.str),(25,.bool)] .nil<|t1<|.join [(2,Z9),(4,Z11),(6,.str),(7,.str),(24,.str),(40,.bool)] .nil<|t1<|.join [(2,Z9),(4,Z11),(6,.str),(7,.str),(57,.bool)] .nil .nil) .nil) (fn:=Tryz.f155) ap0 kN
def ajH:Cx:=cX [] [] []
def ap1:OKC Tryz.prog ajH AF:=okc mixed<|AJ
def O5(x:List A7×A2):Option ((List A7×A2)×A2):=if A0 ((x.1.length:Int)=0) then I ((([]:List A7),()),()) else if A0 (0<=(x.1.length:Int))&&A0 ((x.1.length:Int)<=4294967296) then I (((BH (BX (AK (x.1.length:Int))<|dfl .note).length x.1++Bp x.1.length (BX (AK (x.1.length:Int))<|dfl .note)),()),()) else U
def jO:Ent:=(93,U,⟨[.fz .note],[.row 53 .note],O5⟩)
def vl:SQ Tryz.prog jO:=sk (v:= .nil) (fn:=Tryz.f93) ap1 kN
def ay3:Cx:=cX [] [] []
def awa:OKC Tryz.prog ay3 AF:=okc mixed<|AJ
def iF(x:List Mark×A2):Option ((List Mark×A2)×A2):=if A0 ((x.1.length:Int)=0) then I ((([]:List Mark),()),()) else if A0 (0<=(x.1.length:Int))&&A0 ((x.1.length:Int)<=4294967296) then I (((BH (BX (AK (x.1.length:Int))<|dfl .mark).length x.1++Bp x.1.length (BX (AK (x.1.length:Int))<|dfl .mark)),()),()) else U
def aaX:Ent:=(203,U,⟨[.fz .mark],[.row 174 .mark],iF⟩)
def as4:SQ Tryz.prog aaX:=sk (v:= .nil) (fn:=Tryz.f203) awa kN
def apO:Cx:=cX [jO,aaX] [] []
def aiv:OKC Tryz.prog apO AF:=okc mixed<|gC vl<|gC as4<|AJ
def QB(x:Y4×A2):Option ((Y4×A2)×A2):=(O5 (x.1.2.2.2.1,())).bind λa=>(iF (x.1.2.2.2.2.1,())).bind λb=>(O5 x.1.2.2.2.2.2).bind λc=>I (((x.1.1,x.1.2.1,x.1.2.2.1,a.1.1,b.1.1,c.1),()),())
def qJ:Ent:=(156,U,⟨[Z10],[Z6],QB⟩)
def avM:SQ Tryz.prog qJ:=sk (v:= .nil) (fn:=Tryz.f156) aiv kN
def aop:Cx:=cX [eh,za,qJ] [] [(22,24)]
def auA:OKC Tryz.prog aop AF:=okc mixed<|gC rv<|gC avP<|gC avM<|AJ
def RZ(x:Y4×A4×A2):Option ((Y4×Bool×A2)×A2):=(P0 (x.1,())).bind λb=>if !b.1.1 then I (((0,0,0,([]:List A7),([]:List Mark),([]:List A7),()),A3,()),()) else(QB (x.1,())).bind λc=>(Vc (c.1.1,x.2)).bind λa=>if Ah (!(!a.1.2.1)) ((P0 (a.1.1,())).isSome) then if(!a.1.2.1)||(!(((P0 (a.1.1,())).getD ((A3,()),())).1.1)) then(QB (x.1,())).bind λd=>I ((d.1.1,A3,()),()) else(QB (a.1.1,())).bind λe=>I ((e.1.1,A1,()),()) else U
def iK:Ent:=(116,U,⟨[Z10,.str],[Z6,.bool],RZ⟩)
def aad:SQ Tryz.prog iK:=sk (v:= .nil) (fn:=Tryz.f116) auA kN
def ahG:Cx:=cX [JN,aA0,iK] [] []
def acx:OKC Tryz.prog ahG AF:=okc mixed<|gC KX<|gC awE<|gC aad<|AJ
def S3(x:Y4×Y4×List A4×Int×Int×A2):Rnd (Y4×Y4×List A4×Int×Int×A2) (Y4×Bool×A2) (Y4×Y4×A2):=if A0 (x.2.2.2.2.1<x.2.2.2.1) then if inb x.2.2.2.2.1 x.2.2.1.length then let b:=(rd (dfl .str) x.2.2.1 x.2.2.2.2.1);(RZ (x.2.1,b,())).bind λa=>if !a.1.2.1 then I (.inr<|.inl ((0,0,0,([]:List A7),([]:List Mark),([]:List A7),()),A3,())) else I (.inl (x.1,a.1.1,x.2.2.1,x.2.2.2.1,(w64<|x.2.2.2.2.1+1),())) else U else I (.inr<|.inr (x.1,x.2.1,()))
def mY:=AZ S3
def aeP:Loop:=⟨[(4,Z11),(6,Z11),(17,.sl .str),(18,.int .i64),(19,.int .i64)],[(4,Z11),(6,Z11)],0,[(4,Z11),(5,.bool)],mY⟩
def aq6:LF Tryz.f66 [] [1,1,1,0,1,0,0] aeP:=sq (v:= .nil) acx (b:=S3) kN
def bp(x:Int×List A4×A2):Option ((Y4×Bool×A2)×A2):=(FT (x.1,())).bind λb=>if !b.1.1 then I (((0,0,0,([]:List A7),([]:List Mark),([]:List A7),()),A3,()),()) else(Xj (x.1,())).bind λc=>(AS (mY ((0,0,0,([]:List A7),([]:List Mark),([]:List A7),()),c.1.1,x.2.1,(x.2.1.length:Int),0,())) (λa=>I (a,())) λa=>I ((a.2.1,A1,()),()))
def aa9:Ent:=(66,U,⟨[.int .i64,.fz .str],[Z6,.bool],bp⟩)
def axG:SQ Tryz.prog aa9:=sk (v:=t1<|t1<|t1<|.two (t1<|.one<|.loop aeP) .nil) (fn:=Tryz.f66) acx<|kC aq6 kN
def avL:Cx:=cX [WT,aa9] [] []
def asi:OKC Tryz.prog avL AF:=okc mixed<|gC gr<|gC axG<|AJ
def Le(x:Int×A4×A2):Option ((Y4×Bool×A2)×A2):=(P2 x.2).bind λa=>(bp (x.1,a.1.1,())).bind λb=>I (b.1,())
def Zk:Ent:=(41,U,⟨[.int .i64,.str],[Z6,.bool],Le⟩)
def oV:SQ Tryz.prog Zk:=sk (v:= .nil) (fn:=Tryz.f41) asi kN
def ag6:Cx:=cX [Ev,WT] [] [(12,18),(41,44)]
def axd:OKC Tryz.prog ag6 AF:=okc mixed<|gC FD<|gC gr<|AJ
def Nr(x:Y7×A2):Option ((Bool×A2)×A2):=if Ah (!(A0<|2400<(x.1.1.size:Int))) ((By (x.1.2.1,0,(x.1.1.size:Int),())).isSome) then if(A0<|2400<(x.1.1.size:Int))||(!(((By (x.1.2.1,0,(x.1.1.size:Int),())).getD ((A3,()),())).1.1)) then I ((A3,()),()) else(P2 (x.1.1,())).bind λa=>if A0 (0<=x.1.2.1)&&A0 (x.1.2.1<=(x.1.1.size:Int)) then(P2 ((x.1.1.extract (0)<|AK x.1.2.1),())).bind λb=>let c:=((A0<|a.1.2.1=(x.1.1.size:Int))&&(A0<|b.1.2.1=x.1.2.1));I ((c,()),()) else U else U
def Ra:Ent:=(62,U,⟨[Z15],[.bool],Nr⟩)
def TC:SQ Tryz.prog Ra:=sk (v:= .nil) (fn:=Tryz.f62) axd kN
def aon:Cx:=cX [Ev,JN] [] [(54,57)]
def jC:OKC Tryz.prog aon AF:=okc mixed<|gC FD<|gC KX<|AJ
def av(x:Y9×Y8×List AQ×Int×Int×List AQ×Int×Int×A2):Rnd (Y9×Y8×List AQ×Int×Int×List AQ×Int×Int×A2) (Bool×A2) (Y9×List AQ×Int×Int×A2):=if A0 (x.2.2.2.2.2.2.2.1<x.2.2.2.2.2.2.1) then if inb x.2.2.2.2.2.2.2.1 x.2.2.2.2.2.1.length then let a:=(rd (dfl .mixed) x.2.2.2.2.2.1 x.2.2.2.2.2.2.2.1).nu;let b:=(rd (dfl .mixed) x.2.2.2.2.2.1 x.2.2.2.2.2.2.2.1).da;if A0 (a=x.2.1.1) then I (.inr<|.inl (A3,())) else I (.inl (x.1,x.2.1,x.2.2.1,x.2.2.2.1,x.2.2.2.2.1,x.2.2.2.2.2.1,x.2.2.2.2.2.2.1,(w64<|x.2.2.2.2.2.2.2.1+1),())) else U else I (.inr<|.inr (x.1,x.2.2.1,x.2.2.2.1,x.2.2.2.2.1,()))
def oq:=AZ av
def aAm:Loop:=⟨[(1,Z17),(4,Z35),(42,.sl .mixed),(43,.int .i64),(44,.int .i64),(62,.sl .mixed),(63,.int .i64),(64,.int .i64)],[(1,Z17),(42,.sl .mixed),(43,.int .i64),(44,.int .i64)],2,[(2,.bool)],oq⟩
def af6:LF Tryz.f63 [] [1,1,0,1,0,0,1,1,0,0,1,1,1,0,0] aAm:=sq (v:= .nil) jC (b:=av) kN
def bq(x:Y9×List AQ×Int×Int×A2):Rnd (Y9×List AQ×Int×Int×A2) (Bool×A2) (A2):=if A0 (x.2.2.2.1<x.2.2.1) then if inb x.2.2.2.1 x.2.1.length then let b:=(rd (dfl .mixed) x.2.1 x.2.2.2.1).nu;let c:=(rd (dfl .mixed) x.2.1 x.2.2.2.1).da;(By (b,0,999,())).bind λd=>if(!d.1.1)||(!decide ((c.size:Int)=4)) then I (.inr<|.inl (A3,())) else if A0 (0<=x.2.2.2.1)&&A0 (x.2.2.2.1<=(x.1.2.2.2.2.2.1.length:Int)) then(AS (oq (x.1,(b,c,()),x.2.1,x.2.2.1,x.2.2.2.1,(BH (AK x.2.2.2.1) x.1.2.2.2.2.2.1),((BH (AK x.2.2.2.1) x.1.2.2.2.2.2.1).length:Int),0,())) (λa=>I<|.inr<|.inl a) λa=>I<|.inl (a.1,a.2.1,a.2.2.1,(w64<|a.2.2.2.1+1),())) else U else U else I (.inr<|.inr ())
def gf:=AZ bq
def uC:Loop:=⟨[(1,Z17),(42,.sl .mixed),(43,.int .i64),(44,.int .i64)],[],0,[(2,.bool)],gf⟩
def avc:LF Tryz.f63 [] [1,1,0,1,0,0] uC:=sq (v:=t1<|t1<|.two (.one<|t1<|t1<|t1<|.one<|.loop aAm) .nil) jC (b:=bq)<|kC af6 kN
def dV(x:Y9×A2):Option ((Bool×A2)×A2):=(FT (x.1.1,())).bind λb=>if !b.1.1 then I ((A3,()),()) else(FT (x.1.2.2.1,())).bind λc=>if !c.1.1 then I ((A3,()),()) else(By (x.1.2.1,1,99,())).bind λd=>if !d.1.1 then I ((A3,()),()) else(By (x.1.2.2.2.1,1,999,())).bind λe=>if !e.1.1 then I ((A3,()),()) else(By (x.1.2.2.2.2.1,1,24,())).bind λf=>if !f.1.1 then I ((A3,()),()) else if A0 (14<(x.1.2.2.2.2.2.1.length:Int)) then I ((A3,()),()) else(AS (gf (x.1,x.1.2.2.2.2.2.1,(x.1.2.2.2.2.2.1.length:Int),0,())) (λa=>I (a,())) λa=>I ((A1,()),()))
def ac4:Ent:=(63,U,⟨[Z18],[.bool],dV⟩)
def ai0:SQ Tryz.prog ac4:=sk (v:=t1<|t1<|.two (t1<|.one<|.loop uC) .nil) (fn:=Tryz.f63) jC<|kC avc kN
def awZ:Cx:=cX [] [] [(21,24)]
def acq:OKC Tryz.prog awZ AF:=okc mixed<|AJ
def VO(x:Int×Int×List AG×Int×Int×A2):Rnd (Int×Int×List AG×Int×Int×A2) (Int×A2) (A2):=if A0 (x.2.2.2.2.1<x.2.2.2.1) then if inb x.2.2.2.2.1 x.2.2.1.length then let a:=(rd (dfl .half) x.2.2.1 x.2.2.2.2.1).fr;let b:=(rd (dfl .half) x.2.2.1 x.2.2.2.2.1).nu;let c:=(rd (dfl .half) x.2.2.1 x.2.2.2.2.1).to;let d:=(rd (dfl .half) x.2.2.1 x.2.2.2.2.1).un;let e:=(rd (dfl .half) x.2.2.1 x.2.2.2.2.1).sz;let f:=(rd (dfl .half) x.2.2.1 x.2.2.2.2.1).got;if(A0<|a=x.1)&&(A0<|b=x.2.1) then I (.inr<|.inl x.2.2.2.2) else I (.inl (x.1,x.2.1,x.2.2.1,x.2.2.2.1,(w64<|x.2.2.2.2.1+1),())) else U else I (.inr<|.inr ())
def fc:=AZ VO
def tj:Loop:=⟨[(1,.int .i64),(2,.int .i64),(9,.sl .half),(10,.int .i64),(11,.int .i64)],[],0,[(6,.int .i64)],fc⟩
def avj:LF Tryz.f64 [] [1,0,1,0,0] tj:=sq (v:= .nil) acq (b:=VO) kN
def Ri(x:List AG×Int×Int×A2):Option ((Int×A2)×A2):=(AS (fc (x.2.1,x.2.2.1,x.1,(x.1.length:Int),0,())) (λa=>I (a,())) λa=>I (((-1),()),()))
def fP:Ent:=(64,U,⟨[.fz .half,.int .i64,.int .i64],[.int .i64],Ri⟩)
def ae4:SQ Tryz.prog fP:=sk (v:=t1<|.two (t1<|.one<|.loop tj) .nil) (fn:=Tryz.f64) acq<|kC avj kN
def azm:Cx:=cX [JN,Zk,Ra,ac4,fP] [] [(61,62),(76,84)]
def ae5:OKC Tryz.prog azm AF:=okc mixed<|gC KX<|gC oV<|gC TC<|gC ai0<|gC ae4<|AJ
def YB(x:Y1×List AG×Int×Int×A2):Rnd (Y1×List AG×Int×Int×A2) (Bool×A2) (A2):=if A0 (x.2.2.2.1<x.2.2.1) then if inb x.2.2.2.1 x.2.1.length then let a:=(rd (dfl .half) x.2.1 x.2.2.2.1).fr;let b:=(rd (dfl .half) x.2.1 x.2.2.2.1).nu;let d:=(rd (dfl .half) x.2.1 x.2.2.2.1).to;let e:=(rd (dfl .half) x.2.1 x.2.2.2.1).un;let f:=(rd (dfl .half) x.2.1 x.2.2.2.1).sz;let g:=(rd (dfl .half) x.2.1 x.2.2.2.1).got;(dV ((a,b,d,e,f,g,()),())).bind λc=>if Ah (!(!c.1.1)) ((Ri (x.1.2.2.2.2.1,a,b,())).isSome) then if(!c.1.1)||(A0<|((Ri (x.1.2.2.2.2.1,a,b,())).getD ((0,()),())).1.1<x.2.2.2.1) then I (.inr<|.inl (A3,())) else I (.inl (x.1,x.2.1,x.2.2.1,(w64<|x.2.2.2.1+1),())) else U else U else I (.inr<|.inr ())
def aw:=AZ YB
def sA:Loop:=⟨[(1,Z19),(65,.sl .half),(66,.int .i64),(67,.int .i64)],[],0,[(2,.bool)],aw⟩
def ajm:LF Tryz.f38 [] [1,1,1,1,1,0,1,0,0] sA:=sq (v:= .nil) ae5 (b:=YB) kN
def I2(x:Y1×A2):Option ((Bool×A2)×A2):=(B8 (X:=Y1×A2) (λa=>(Le (a.1.1,a.1.2.2.1,())).bind λc=>if A0 (0<=a.1.2.2.2.1)&&A0 (a.1.2.2.2.1<=(a.1.2.2.1.size:Int)) then(Le (a.1.1,(a.1.2.2.1.extract (0)<|AK a.1.2.2.2.1),())).bind λd=>if(!c.1.2.1)||(!d.1.2.1) then I ((A3,()),()) else(AS (aw (a.1,a.1.2.2.2.2.1,(a.1.2.2.2.2.1.length:Int),0,())) (λb=>I (b,())) λb=>I ((A1,()),())) else U)<|(FT (x.1.1,())).bind λe=>if !e.1.1 then I (.inl ((A3,()),())) else(Nr ((x.1.2.2.1,x.1.2.2.2.1,()),())).bind λf=>if !f.1.1 then I (.inl ((A3,()),())) else if A0 (3<(x.1.2.2.2.2.1.length:Int)) then I (.inl ((A3,()),())) else if !x.1.2.1 then if A0 (0<(x.1.2.2.2.2.1.length:Int)) then I (.inl ((A3,()),())) else I (.inr x) else I (.inr x))
def JL:Ent:=(38,U,⟨[Z14],[.bool],I2⟩)
def Jt:SQ Tryz.prog JL:=sk (v:=t1<|.join [(1,Z19)] .nil<|t1<|t1<|t1<|.two (t1<|.one<|.loop sA) .nil) (fn:=Tryz.f38) ae5<|kC ajm kN
def agu:Cx:=cX [Ev,rz,JL,JN] [] [(54,56)]
def kL:OKC Tryz.prog agu AF:=okc mixed<|gC FD<|gC anH<|gC Jt<|gC KX<|AJ
def Wy(x:List AR×Int×Int×A2):Rnd (List AR×Int×Int×A2) (Bool×A2) (A2):=if A0 (x.2.2.1<x.2.1) then if inb x.2.2.1 x.1.length then let a:=(rd (dfl .Ad) x.1 x.2.2.1).src;let b:=(rd (dfl .Ad) x.1 x.2.2.1).dst;let c:=(rd (dfl .Ad) x.1 x.2.2.1).data;let f:=(rd (dfl .Ad) x.1 x.2.2.1).sp;(FT (a,())).bind λd=>if !d.1.1 then I (.inr<|.inl (A3,())) else(FT (b,())).bind λe=>if !e.1.1 then I (.inr<|.inl (A3,())) else if !decide ((w64<|a - b)=1) then if !decide ((w64<|b - a)=1) then I (.inr<|.inl (A3,())) else if A0 (40<(c.size:Int)) then I (.inr<|.inl (A3,())) else I (.inl (x.1,x.2.1,(w64<|x.2.2.1+1),())) else if A0 (40<(c.size:Int)) then I (.inr<|.inl (A3,())) else I (.inl (x.1,x.2.1,(w64<|x.2.2.1+1),())) else U else I (.inr<|.inr ())
def jL:=AZ Wy
def ac1:Loop:=⟨[(60,.sl .Ad),(61,.int .i64),(62,.int .i64)],[],2,[(2,.bool)],jL⟩
def aw2:LF Tryz.f16 [] [1,1,1,0,1,0,0] ac1:=sq (v:= .nil) kL (b:=Wy) kN
def Wb(x:Y2×List AA×Int×Int×A2):Rnd (Y2×List AA×Int×Int×A2) (Bool×A2) (Y2×A2):=if A0 (x.2.2.2.1<x.2.2.1) then if inb x.2.2.2.1 x.2.1.length then let a:=(rd (dfl .AL) x.2.1 x.2.2.2.1).id;let b:=(rd (dfl .AL) x.2.1 x.2.2.2.1).up;let c:=(rd (dfl .AL) x.2.1 x.2.2.2.1).log;let d:=(rd (dfl .AL) x.2.1 x.2.2.2.1).fo;let e:=(rd (dfl .AL) x.2.1 x.2.2.2.1).AM;if Ah (!(!decide (a=x.2.2.2.1))) ((I2 ((a,b,c,d,e,()),())).isSome) then if(!decide (a=x.2.2.2.1))||(!(((I2 ((a,b,c,d,e,()),())).getD ((A3,()),())).1.1)) then I (.inr<|.inl (A3,())) else I (.inl (x.1,x.2.1,x.2.2.1,(w64<|x.2.2.2.1+1),())) else U else U else I (.inr<|.inr (x.1,()))
def pH:=AZ Wb
def tr:Loop:=⟨[(1,Z29),(42,.sl .AL),(43,.int .i64),(44,.int .i64)],[(1,Z29)],0,[(2,.bool)],pH⟩
def aiE:LF Tryz.f16 [] [1,1,0,1,0,0] tr:=sq (v:= .nil) kL (b:=Wb) kN
def Pg(x:Y2×A2):Option ((Bool×A2)×A2):=(By (x.1.1,0,99999,())).bind λc=>if !c.1.1 then I ((A3,()),()) else if !decide ((x.1.2.1.length:Int)=4) then I ((A3,()),()) else if !decide ((x.1.2.2.1.length:Int)=3) then I ((A3,()),()) else if A0 (30<(x.1.2.2.2.1.length:Int)) then I ((A3,()),()) else(S8 (x.1.2.2.2.2.1,())).bind λd=>if !d.1.1 then I ((A3,()),()) else(S8 x.1.2.2.2.2.2).bind λe=>if !e.1.1 then I ((A3,()),()) else(AS (pH (x.1,x.1.2.1,(x.1.2.1.length:Int),0,())) (λa=>I (a,())) λa=>(AS (jL (a.1.2.2.2.1,(a.1.2.2.2.1.length:Int),0,())) (λb=>I (b,())) λb=>I ((A1,()),())))
def ju:Ent:=(16,U,⟨[Z30],[.bool],Pg⟩)
def tL:SQ Tryz.prog ju:=sk (v:=t1<|t1<|.two (t1<|.one<|.loop tr)<|.two (t1<|.one<|.loop ac1) .nil) (fn:=Tryz.f16) kL<|kC aiE<|kC aw2 kN
def aiK:Cx:=cX [] [] []
def atb:OKC Tryz.prog aiK AF:=okc mixed<|AJ
def Wn(x:List AA×A2):Option ((List AA×A2)×A2):=if A0 ((x.1.length:Int)=0) then I ((([]:List AA),()),()) else if A0 (0<=(x.1.length:Int))&&A0 ((x.1.length:Int)<=4294967296) then I (((BH (BX (AK (x.1.length:Int))<|dfl .AL).length x.1++Bp x.1.length (BX (AK (x.1.length:Int))<|dfl .AL)),()),()) else U
def xa:Ent:=(90,U,⟨[.fz .AL],[.row 46 .AL],Wn⟩)
def avE:SQ Tryz.prog xa:=sk (v:= .nil) (fn:=Tryz.f90) atb kN
def auB:Cx:=cX [] [] []
def aud:OKC Tryz.prog auB AF:=okc mixed<|AJ
def dK(x:List Bool×A2):Option ((List Bool×A2)×A2):=if A0 ((x.1.length:Int)=0) then I ((([]:List Bool),()),()) else if A0 (0<=(x.1.length:Int))&&A0 ((x.1.length:Int)<=4294967296) then I (((BH (BX (AK (x.1.length:Int))<|dfl .bool).length x.1++Bp x.1.length (BX (AK (x.1.length:Int))<|dfl .bool)),()),()) else U
def aa3:Ent:=(91,U,⟨[.fz .bool],[.row 4 .bool],dK⟩)
def agX:SQ Tryz.prog aa3:=sk (v:= .nil) (fn:=Tryz.f91) aud kN
def aoV:Cx:=cX [] [] []
def art:OKC Tryz.prog aoV AF:=okc mixed<|AJ
def aN(x:List AR×A2):Option ((List AR×A2)×A2):=if A0 ((x.1.length:Int)=0) then I ((([]:List AR),()),()) else if A0 (0<=(x.1.length:Int))&&A0 ((x.1.length:Int)<=4294967296) then I (((BH (BX (AK (x.1.length:Int))<|dfl .Ad).length x.1++Bp x.1.length (BX (AK (x.1.length:Int))<|dfl .Ad)),()),()) else U
def uX:Ent:=(92,U,⟨[.fz .Ad],[.row 38 .Ad],aN⟩)
def afK:SQ Tryz.prog uX:=sk (v:= .nil) (fn:=Tryz.f92) art kN
def aoR:Cx:=cX [] [] []
def asB:OKC Tryz.prog aoR AF:=okc mixed<|AJ
def nR(x:List AG×A2):Option ((List AG×A2)×A2):=if A0 ((x.1.length:Int)=0) then I ((([]:List AG),()),()) else if A0 (0<=(x.1.length:Int))&&A0 ((x.1.length:Int)<=4294967296) then I (((BH (BX (AK (x.1.length:Int))<|dfl .half).length x.1++Bp x.1.length (BX (AK (x.1.length:Int))<|dfl .half)),()),()) else U
def s7:Ent:=(132,U,⟨[.fz .half],[.row 102 .half],nR⟩)
def aeh:SQ Tryz.prog s7:=sk (v:= .nil) (fn:=Tryz.f132) asB kN
def amT:Cx:=cX [] [] []
def ava:OKC Tryz.prog amT AF:=okc mixed<|AJ
def lP(x:List AQ×A2):Option ((List AQ×A2)×A2):=if A0 ((x.1.length:Int)=0) then I ((([]:List AQ),()),()) else if A0 (0<=(x.1.length:Int))&&A0 ((x.1.length:Int)<=4294967296) then I (((BH (BX (AK (x.1.length:Int))<|dfl .mixed).length x.1++Bp x.1.length (BX (AK (x.1.length:Int))<|dfl .mixed)),()),()) else U
def vE:Ent:=(133,U,⟨[.fz .mixed],[.row 105 .mixed],lP⟩)
def aqk:SQ Tryz.prog vE:=sk (v:= .nil) (fn:=Tryz.f133) ava kN
def am3:Cx:=cX [s7,vE] [] []
def yw:OKC Tryz.prog am3 AF:=okc mixed<|gC aeh<|gC aqk<|AJ
def di(x:Y1×Y1×Int×Int×A2):Rnd (Y1×Y1×Int×Int×A2) (A2) (Y1×Y1×A2):=if A0 (x.2.2.2.1<x.2.2.1) then if inb x.2.2.2.1 x.2.1.2.2.2.2.1.length then(lP ((rd (dfl .half) x.2.1.2.2.2.2.1 x.2.2.2.1).got,())).bind λa=>if inb x.2.2.2.1 x.2.1.2.2.2.2.1.length then I (.inl (x.1,(x.2.1.1,x.2.1.2.1,x.2.1.2.2.1,x.2.1.2.2.2.1,(Bn x.2.1.2.2.2.2.1 (AK x.2.2.2.1)<|AG.mk ((rd (dfl .half) x.2.1.2.2.2.2.1 x.2.2.2.1).fr) ((rd (dfl .half) x.2.1.2.2.2.2.1 x.2.2.2.1).nu) ((rd (dfl .half) x.2.1.2.2.2.2.1 x.2.2.2.1).to) ((rd (dfl .half) x.2.1.2.2.2.2.1 x.2.2.2.1).un) ((rd (dfl .half) x.2.1.2.2.2.2.1 x.2.2.2.1).sz) a.1.1),()),x.2.2.1,(w64<|x.2.2.2.1+1),())) else U else U else I (.inr<|.inr (x.1,x.2.1,()))
def pr:=AZ di
def xV:Loop:=⟨[(2,Z20),(3,Z20),(12,.int .i64),(13,.int .i64)],[(2,Z20),(3,Z20)],0,[],pr⟩
def awY:LF Tryz.f94 [] [1,1,1,0,1,0,0] xV:=sq (v:= .nil) yw (b:=di) kN
def Hc(x:Y1×A2):Option ((Y1×A2)×A2):=(nR x.1.2.2.2.2).bind λa=>(AS (pr ((0,A3,noB,0,([]:List AG),()),(x.1.1,x.1.2.1,x.1.2.2.1,x.1.2.2.2.1,a.1),(a.1.1.length:Int),0,())) (λ_=>U) λb=>I (b.2,()))
def LL:Ent:=(94,U,⟨[Z14],[Z1],Hc⟩)
def Mj:SQ Tryz.prog LL:=sk (v:=t1<|t1<|t1<|.two (t1<|.one<|.loop xV) .nil) (fn:=Tryz.f94) yw<|kC awY kN
def agW:Cx:=cX [xa,aa3,uX,jO,LL] [] []
def ac6:OKC Tryz.prog agW AF:=okc mixed<|gC avE<|gC agX<|gC afK<|gC vl<|gC Mj<|AJ
def dP(x:Y2×Y2×Int×Int×A2):Rnd (Y2×Y2×Int×Int×A2) (A2) (Y2×Y2×A2):=if A0 (x.2.2.2.1<x.2.2.1) then if inb x.2.2.2.1 x.2.1.2.1.length then(Hc (((rd (dfl .AL) x.2.1.2.1 x.2.2.2.1).id,(rd (dfl .AL) x.2.1.2.1 x.2.2.2.1).up,(rd (dfl .AL) x.2.1.2.1 x.2.2.2.1).log,(rd (dfl .AL) x.2.1.2.1 x.2.2.2.1).fo,(rd (dfl .AL) x.2.1.2.1 x.2.2.2.1).AM,()),())).bind λa=>if inb x.2.2.2.1 x.2.1.2.1.length then I (.inl (x.1,(x.2.1.1,(Bn x.2.1.2.1 (AK x.2.2.2.1)<|AA.mk a.1.1.1 a.1.1.2.1 a.1.1.2.2.1 a.1.1.2.2.2.1 a.1.1.2.2.2.2.1),x.2.1.2.2),x.2.2.1,(w64<|x.2.2.2.1+1),())) else U else U else I (.inr<|.inr (x.1,x.2.1,()))
def dY:=AZ dP
def aaj:Loop:=⟨[(2,Z2),(3,Z2),(25,.int .i64),(26,.int .i64)],[(2,Z2),(3,Z2)],0,[],dY⟩
def ahA:LF Tryz.f53 [] [1,1,0,1,0,0] aaj:=sq (v:= .nil) ac6 (b:=dP) kN
def MQ(x:Y2×A2):Option ((Y2×A2)×A2):=(Wn (x.1.2.1,())).bind λa=>(dK (x.1.2.2.1,())).bind λb=>(aN (x.1.2.2.2.1,())).bind λc=>(O5 (x.1.2.2.2.2.1,())).bind λd=>(O5 x.1.2.2.2.2.2).bind λe=>(AS (dY ((0,([]:List AA),([]:List Bool),([]:List AR),([]:List A7),([]:List A7),()),(x.1.1,a.1.1,b.1.1,c.1.1,d.1.1,e.1),(a.1.1.length:Int),0,())) (λ_=>U) λf=>I (f.2,()))
def ach:Ent:=(53,U,⟨[Z30],[Z3],MQ⟩)
def awl:SQ Tryz.prog ach:=sk (v:=t1<|t1<|.two (t1<|.one<|.loop aaj) .nil) (fn:=Tryz.f53) ac6<|kC ahA kN
def avZ:Cx:=cX [Ev] [] [(20,29)]
def arY:OKC Tryz.prog avZ AF:=okc mixed<|gC FD<|AJ
def XH(x:Y2×Y3×A2):Option ((Bool×A2)×(Y2×A2)):=(By (x.2.1.2.1,0,(w64<|(x.1.2.2.1.length:Int) - 1),())).bind λa=>if Ah (!(!a.1.1)) (inb x.2.1.2.1 x.1.2.2.1.length) then if(!a.1.1)||(A0<|(rd (dfl .bool) x.1.2.2.1 x.2.1.2.1)=(A0<|x.2.1.1=9)) then I ((A3,()),(x.1,())) else if inb x.2.1.2.1 x.1.2.2.1.length then I ((A1,()),((x.1.1,x.1.2.1,(Bn x.1.2.2.1 (AK x.2.1.2.1)<|A0<|x.2.1.1=9),x.1.2.2.2),())) else U else U
def uk:Ent:=(54,U,⟨[Z2,Z4],[.bool],XH⟩)
def anw:SQ Tryz.prog uk:=sk (v:= .nil) (fn:=Tryz.f54) arY kN
def aok:Cx:=cX [] [] []
def afr:OKC Tryz.prog aok AF:=okc mixed<|AJ
def Uv(x:List AR×Int×A2):Option ((List AR×A2)×A2):=if A0 (0<=x.2.1)&&A0 (x.2.1<=(x.1.length:Int)) then if Ab (([]:List AR).length+(BH (AK x.2.1) x.1).length) then if A0 (0<=(w64<|x.2.1+1))&&A0 ((w64<|x.2.1+1)<=(x.1.length:Int)) then if Ab ((([]:List AR)++(BH (AK x.2.1) x.1)).length+(Bp (AK<|w64<|x.2.1+1) x.1).length) then I ((((([]:List AR)++(BH (AK x.2.1) x.1))++(Bp (AK<|w64<|x.2.1+1) x.1)),()),()) else U else U else U else U
def aat:Ent:=(95,U,⟨[.fz .Ad,.int .i64],[.row 38 .Ad],Uv⟩)
def agA:SQ Tryz.prog aat:=sk (v:= .nil) (fn:=Tryz.f95) afr kN
def ai5:Cx:=cX [JN] [] []
def aiY:OKC Tryz.prog ai5 AF:=okc mixed<|gC KX<|AJ
def J5(x:Int×Int×A2):Option ((Int×A2)×A2):=(B8 (X:=Int×Int×Bool×A2) (λa=>if a.2.2.1 then I (((-1),()),()) else if A0 (a.1<a.2.1) then I (((w64<|a.1+1),()),()) else I (((w64<|a.1 - 1),()),()))<|(FT (x.1,())).bind λb=>if !b.1.1 then I (.inr (x.1,x.2.1,A1,())) else(FT x.2).bind λc=>if !c.1.1 then I (.inr (x.1,x.2.1,A1,())) else I (.inr (x.1,x.2.1,(A0<|x.1=x.2.1),())))
def eT:Ent:=(143,U,⟨[.int .i64,.int .i64],[.int .i64],J5⟩)
def wL:SQ Tryz.prog eT:=sk (v:=t1<|.two (.one<|.join [(0,.int .i64),(1,.int .i64),(5,.bool)] .nil .nil) .nil) (fn:=Tryz.f143) aiY kN
def am9:Cx:=cX [Ev,JN,eT] [] [(56,63),(82,89)]
def am8:OKC Tryz.prog am9 AF:=okc mixed<|gC FD<|gC KX<|gC wL<|AJ
def SI(x:Y3×A2):Option ((Bool×A2)×A2):=(FT (x.1.2.1,())).bind λb=>if !b.1.1 then I ((A3,()),()) else(FT (x.1.2.2.1,())).bind λc=>if !c.1.1 then I ((A3,()),()) else(FT (x.1.2.2.2.1,())).bind λd=>if !d.1.1 then I ((A3,()),()) else(FT (x.1.2.2.2.2.2.1,())).bind λe=>if !e.1.1 then I ((A3,()),()) else(By (x.1.2.2.2.2.1,1,99,())).bind λf=>if !f.1.1 then I ((A3,()),()) else(By (x.1.2.2.2.2.2.2.1,1,999,())).bind λg=>if !g.1.1 then I ((A3,()),()) else if A0 (x.1.1=1) then(By (x.1.2.2.2.2.2.2.2.1,1,24,())).bind λh=>if h.1.1 then(By (x.1.2.2.2.2.2.2.2.2.1,0,999,())).bind λi=>if i.1.1 then if Ah (A0<|(x.1.2.2.2.2.2.2.2.2.2.1.size:Int)=4) ((J5 (x.1.2.1,x.1.2.2.2.2.2.1,())).isSome) then let j:=((A0<|(x.1.2.2.2.2.2.2.2.2.2.1.size:Int)=4)&&(A0<|x.1.2.2.1=((J5 (x.1.2.1,x.1.2.2.2.2.2.1,())).getD ((0,()),())).1.1));I ((j,()),()) else U else if Ah A3 ((J5 (x.1.2.1,x.1.2.2.2.2.2.1,())).isSome) then I ((A3,()),()) else U else if Ah A3 ((J5 (x.1.2.1,x.1.2.2.2.2.2.1,())).isSome) then I ((A3,()),()) else U else(B8 (X:=Y3×Bool×A2) (λa=>if a.2.1 then if A0 (a.1.2.2.2.2.2.2.2.1=0) then if A0 (a.1.2.2.2.2.2.2.2.2.1=0) then if Ah (A0<|a.1.2.2.2.2.2.2.2.2.2.1=noB) ((J5 (a.1.2.2.1,a.1.2.2.2.2.2.1,())).isSome) then let k:=((A0<|a.1.2.2.2.2.2.2.2.2.2.1=noB)&&(A0<|a.1.2.1=((J5 (a.1.2.2.1,a.1.2.2.2.2.2.1,())).getD ((0,()),())).1.1));I ((k,()),()) else U else if Ah A3 ((J5 (a.1.2.2.1,a.1.2.2.2.2.2.1,())).isSome) then I ((A3,()),()) else U else if Ah A3 ((J5 (a.1.2.2.1,a.1.2.2.2.2.2.1,())).isSome) then I ((A3,()),()) else U else I ((A3,()),()))<|(if A0 (x.1.1=2) then I (.inr (x.1,(A0<|x.1.1=2),())) else I (.inr (x.1,(A0<|x.1.1=3),()))))
def pt:Ent:=(135,U,⟨[Z4],[.bool],SI⟩)
def acM:SQ Tryz.prog pt:=sk (v:=t1<|t1<|.two (t1<|.one<|t1<|t1<|.join [(1,Z5),(65,.bool)] .nil .nil) .nil) (fn:=Tryz.f135) am8 kN
def ahK:Cx:=cX [] [] []
def abq:OKC Tryz.prog ahK AF:=okc mixed<|AJ
def cM(x:Int×List Int×Int×Int×A2):Rnd (Int×List Int×Int×Int×A2) (A2) (Int×A2):=if A0 (x.2.2.2.1<x.2.2.1) then if inb x.2.2.2.1 x.2.1.length then let a:=(rd (dfl .u8) x.2.1 x.2.2.2.1);let b:=(B5 (w64<|x.1+(w64<|(w64 a) * (w64<|(B5 x.2.2.2.1 1000)+1))) 65521);I (.inl (b,x.2.1,x.2.2.1,(w64<|x.2.2.2.1+1),())) else U else I (.inr<|.inr (x.1,()))
def Yr:=AZ cM
def zd:Loop:=⟨[(3,.int .i64),(6,.sl .u8),(7,.int .i64),(8,.int .i64)],[(3,.int .i64)],0,[],Yr⟩
def ai8:LF Tryz.f167 [] [1,1,0,1,0,0] zd:=sq (v:= .nil) abq (b:=cM) kN
def UP(x:List Int×A2):Option ((Int×A2)×A2):=(AS (Yr (0,x.1,(x.1.length:Int),0,())) (λ_=>U) λa=>I (a,()))
def vW:Ent:=(167,U,⟨[.fz .u8],[.int .i64],UP⟩)
def al1:SQ Tryz.prog vW:=sk (v:=t1<|t1<|.two (t1<|.one<|.loop zd) .nil) (fn:=Tryz.f167) abq<|kC ai8 kN
def aiT:Cx:=cX [] [] []
def anE:OKC Tryz.prog aiT AF:=okc mixed<|AJ
def aM(x:List Int×A2):Option ((List Int×A2)×A2):=if A0 ((x.1.length:Int)=0) then I ((([]:List Int),()),()) else if A0 (0<=(x.1.length:Int))&&A0 ((x.1.length:Int)<=4294967296) then I (((BH (BX (AK (x.1.length:Int))<|dfl .u8).length x.1++Bp x.1.length (BX (AK (x.1.length:Int))<|dfl .u8)),()),()) else U
def sV:Ent:=(168,U,⟨[.fz .u8],[.row 5 .u8],aM⟩)
def apV:SQ Tryz.prog sV:=sk (v:= .nil) (fn:=Tryz.f168) anE kN
def ao5:Cx:=cX [pt,vW,sV] [] []
def alM:OKC Tryz.prog ao5 AF:=okc mixed<|gC acM<|gC al1<|gC apV<|AJ
def Oa(x:Y3×A2):Option ((List Int×A2)×A2):=(SI x).bind λc=>if !c.1.1 then I ((([]:List Int),()),()) else(B8 (X:=List Int×A2) (λb=>(UP b).bind λa=>if Ab (b.1.length+([(w8<|w64<|Ay a.1.1 256),(w8<|B5 a.1.1 256)]:List Int).length) then(aM ((b.1++([(w8<|w64<|Ay a.1.1 256),(w8<|B5 a.1.1 256)]:List Int)),())).bind λd=>I (d.1,()) else U)<|(if A0 (x.1.1=1) then if Ab (([(w8 x.1.1),(w8 x.1.2.1),(w8 x.1.2.2.1),(w8 x.1.2.2.2.1),(w8 x.1.2.2.2.2.1),(w8 x.1.2.2.2.2.2.1),(w8<|w64<|Ay x.1.2.2.2.2.2.2.1 256),(w8<|B5 x.1.2.2.2.2.2.2.1 256)]:List Int).length+([(w8 x.1.2.2.2.2.2.2.2.1),(w8<|w64<|Ay x.1.2.2.2.2.2.2.2.2.1 256),(w8<|B5 x.1.2.2.2.2.2.2.2.2.1 256)]:List Int).length) then if Ab ((([(w8 x.1.1),(w8 x.1.2.1),(w8 x.1.2.2.1),(w8 x.1.2.2.2.1),(w8 x.1.2.2.2.2.1),(w8 x.1.2.2.2.2.2.1),(w8<|w64<|Ay x.1.2.2.2.2.2.2.1 256),(w8<|B5 x.1.2.2.2.2.2.2.1 256)]:List Int)++([(w8 x.1.2.2.2.2.2.2.2.1),(w8<|w64<|Ay x.1.2.2.2.2.2.2.2.2.1 256),(w8<|B5 x.1.2.2.2.2.2.2.2.2.1 256)]:List Int)).length+(BB x.1.2.2.2.2.2.2.2.2.2.1).length) then I (.inr (((([(w8 x.1.1),(w8 x.1.2.1),(w8 x.1.2.2.1),(w8 x.1.2.2.2.1),(w8 x.1.2.2.2.2.1),(w8 x.1.2.2.2.2.2.1),(w8<|w64<|Ay x.1.2.2.2.2.2.2.1 256),(w8<|B5 x.1.2.2.2.2.2.2.1 256)]:List Int)++([(w8 x.1.2.2.2.2.2.2.2.1),(w8<|w64<|Ay x.1.2.2.2.2.2.2.2.2.1 256),(w8<|B5 x.1.2.2.2.2.2.2.2.2.1 256)]:List Int))++(BB x.1.2.2.2.2.2.2.2.2.2.1)),())) else U else U else I (.inr (([(w8 x.1.1),(w8 x.1.2.1),(w8 x.1.2.2.1),(w8 x.1.2.2.2.1),(w8 x.1.2.2.2.2.1),(w8 x.1.2.2.2.2.2.1),(w8<|w64<|Ay x.1.2.2.2.2.2.2.1 256),(w8<|B5 x.1.2.2.2.2.2.2.1 256)]:List Int),()))))
def l9:Ent:=(134,U,⟨[Z4],[.row 5 .u8],Oa⟩)
def aab:SQ Tryz.prog l9:=sk (v:=t1<|t1<|t1<|.join [(3,.row 5 .u8)] .nil .nil) (fn:=Tryz.f134) alM kN
def apr:Cx:=cX [l9] [] [(9,11)]
def afj:OKC Tryz.prog apr AF:=okc mixed<|gC aab<|AJ
def X4(x:List Int×A2):Option ((Y3×Bool×A2)×A2):=if(!decide ((x.1.length:Int)=10))&&(!decide ((x.1.length:Int)=17)) then I (((0,0,0,0,0,0,0,0,0,noB,()),A3,()),()) else if inb 0 x.1.length then if inb 1 x.1.length then if inb 2 x.1.length then if inb 3 x.1.length then if inb 4 x.1.length then if inb 5 x.1.length then if inb 6 x.1.length then if inb 7 x.1.length then let b:=(w64<|rd (dfl .u8) x.1 0);let c:=(w64<|rd (dfl .u8) x.1 1);let d:=(w64<|rd (dfl .u8) x.1 2);let e:=(w64<|rd (dfl .u8) x.1 3);let f:=(w64<|rd (dfl .u8) x.1 4);let g:=(w64<|rd (dfl .u8) x.1 5);let h:=(w64<|(w64<|256 * (w64<|rd (dfl .u8) x.1 6))+(w64<|rd (dfl .u8) x.1 7));(B8 (X:=List Int×Y3×Y3×A2) (λa=>(Oa a.2.2).bind λi=>if !decide ((BA i.1.1)=(BA a.1)) then I (((0,0,0,0,0,0,0,0,0,noB,()),A3,()),()) else I ((a.2.2.1,A1,()),()))<|(if A0 ((x.1.length:Int)=17) then if inb 8 x.1.length then let j:=(w64<|rd (dfl .u8) x.1 8);(if inb 9 x.1.length then if inb 10 x.1.length then let k:=(w64<|(w64<|256 * (w64<|rd (dfl .u8) x.1 9))+(w64<|rd (dfl .u8) x.1 10));(if(A0 (0<=15)&&A0 (15<=(x.1.length:Int)))&&(A0 (0<=11)&&A0 (11<=15)) then let l:=(BA<|Bp (AK 11)<|BH (AK 15) x.1);I (.inr (x.1,(0,0,0,0,0,0,0,0,0,noB,()),(b,c,d,e,f,g,h,j,k,l,()),())) else U) else U else U) else U else I (.inr (x.1,(0,0,0,0,0,0,0,0,0,noB,()),(b,c,d,e,f,g,h,0,0,noB,()),())))) else U else U else U else U else U else U else U else U
def yL:Ent:=(96,U,⟨[.fz .u8],[Z4,.bool],X4⟩)
def anQ:SQ Tryz.prog yL:=sk (v:=t1<|t1<|t1<|.join [(0,.sl .u8),(2,Z5),(4,Z5)] .nil .nil) (fn:=Tryz.f96) afj kN
def akD:Cx:=cX [JL,Zk] [] []
def aeq:OKC Tryz.prog akD AF:=okc mixed<|gC Jt<|gC oV<|AJ
def IU(x:Y1×A2):Option ((Y4×A2)×A2):=(I2 x).bind λa=>if !a.1.1 then I (((0,0,0,([]:List A7),([]:List Mark),([]:List A7),()),()),()) else(Le (x.1.1,x.1.2.2.1,())).bind λb=>I ((b.1.1,()),())
def LU:Ent:=(19,U,⟨[Z14],[Z6],IU⟩)
def Lj:SQ Tryz.prog LU:=sk (v:= .nil) (fn:=Tryz.f19) aeq kN
def amp:Cx:=cX [Ev] [] []
def atf:OKC Tryz.prog amp AF:=okc mixed<|gC FD<|AJ
def ZP(x:A4×A2):Option ((Bool×A2)×A2):=(By ((x.1.size:Int),1,60,())).bind λa=>I (a.1,())
def iz:Ent:=(178,U,⟨[.str],[.bool],ZP⟩)
def tc:SQ Tryz.prog iz:=sk (v:= .nil) (fn:=Tryz.f178) atf kN
def awp:Cx:=cX [Q8] [] []
def aht:OKC Tryz.prog awp AF:=okc mixed<|gC Si<|AJ
def PW(x:A4×A2):Option ((A4×A2)×A2):=(Iu ((x.1.size:Int),())).bind λa=>if A0 (a.1.1.size+(B [58]).size<=4611686018427387904) then if A0 ((a.1.1++(B [58])).size+x.1.size<=4611686018427387904) then if A0 (((a.1.1++(B [58]))++x.1).size+(B [59]).size<=4611686018427387904) then let b:=(((a.1.1++(B [58]))++x.1)++(B [59]));I ((b,()),()) else U else U else U
def eG:Ent:=(179,U,⟨[.str],[.str],PW⟩)
def rB:SQ Tryz.prog eG:=sk (v:= .nil) (fn:=Tryz.f179) aht kN
def api:Cx:=cX [Ra,iz,eG] [] [(23,25)]
def aAI:OKC Tryz.prog api AF:=okc mixed<|gC TC<|gC tc<|gC rB<|AJ
def Qm(x:Y7×Y7×A4×List A4×Int×Int×A2):Rnd (Y7×Y7×A4×List A4×Int×Int×A2) (Y7×Bool×A2) (Y7×Y7×A4×A2):=if A0 (x.2.2.2.2.2.1<x.2.2.2.2.1) then if inb x.2.2.2.2.2.1 x.2.2.2.1.length then let a:=(rd (dfl .str) x.2.2.2.1 x.2.2.2.2.2.1);(ZP (a,())).bind λc=>if(!c.1.1)||(A0<|2400<(x.2.2.1.size:Int)) then I (.inr<|.inl (x.1,A3,())) else(PW (a,())).bind λb=>if A0 (x.2.2.1.size+b.1.1.size<=4611686018427387904) then I (.inl (x.1,x.2.1,(x.2.2.1++b.1.1),x.2.2.2.1,x.2.2.2.2.1,(w64<|x.2.2.2.2.2.1+1),())) else U else U else I (.inr<|.inr (x.1,x.2.1,x.2.2.1,()))
def Rh:=AZ Qm
def rM:Loop:=⟨[(2,Z21),(4,Z21),(6,.str),(13,.sl .str),(14,.int .i64),(15,.int .i64)],[(2,Z21),(4,Z21),(6,.str)],0,[(4,Z21),(5,.bool)],Rh⟩
def afI:LF Tryz.f146 [] [1,1,1,0,1,0,0] rM:=sq (v:= .nil) aAI (b:=Qm) kN
def Pr(x:Y7×List A4×A2):Option ((Y7×Bool×A2)×A2):=(Nr (x.1,())).bind λb=>if !b.1.1 then I (((noB,0,()),A3,()),()) else(AS (Rh (x.1,(noB,0,()),noB,x.2.1,(x.2.1.length:Int),0,())) (λa=>I (a,())) λa=>(if A0 (2400<(a.2.2.1.size:Int)) then I ((a.1,A3,()),()) else I (((a.2.2.1,(a.2.2.1.size:Int),()),A1,()),())))
def p6:Ent:=(146,U,⟨[Z15,.fz .str],[Z15,.bool],Pr⟩)
def acH:SQ Tryz.prog p6:=sk (v:=t1<|t1<|t1<|.two (t1<|.one<|.loop rM) .nil) (fn:=Tryz.f146) aAI<|kC afI kN
def aiy:Cx:=cX [Q8] [] []
def aym:OKC Tryz.prog aiy AF:=okc mixed<|gC Si<|AJ
def PV(x:A4×Int×Int×Int×A2):Option ((A4×A2)×A2):=if A0 (x.1.size+(B [32]).size<=4611686018427387904) then(Iu (x.2.1,())).bind λa=>if A0 ((x.1++(B [32])).size+a.1.1.size<=4611686018427387904) then if A0 (((x.1++(B [32]))++a.1.1).size+(B [32]).size<=4611686018427387904) then(Iu (x.2.2.1,())).bind λb=>if A0 ((((x.1++(B [32]))++a.1.1)++(B [32])).size+b.1.1.size<=4611686018427387904) then if A0 (((((x.1++(B [32]))++a.1.1)++(B [32]))++b.1.1).size+(B [32]).size<=4611686018427387904) then(Iu x.2.2.2).bind λc=>if A0 ((((((x.1++(B [32]))++a.1.1)++(B [32]))++b.1.1)++(B [32])).size+c.1.1.size<=4611686018427387904) then let d:=((((((x.1++(B [32]))++a.1.1)++(B [32]))++b.1.1)++(B [32]))++c.1.1);I ((d,()),()) else U else U else U else U else U else U
def aS:Ent:=(139,U,⟨[.str,.int .i64,.int .i64,.int .i64],[.str],PV⟩)
def kP:SQ Tryz.prog aS:=sk (v:= .nil) (fn:=Tryz.f139) aym kN
def arG:Cx:=cX [bw,aS,Tz,Q8,eh] [] []
def XU:OKC Tryz.prog arG AF:=okc mixed<|gC nV<|gC kP<|gC cS<|gC Si<|gC rv<|AJ
def cE(x:List A4×List A7×Int×Int×A2):Rnd (List A4×List A7×Int×Int×A2) (A2) (List A4×A2):=if A0 (x.2.2.2.1<x.2.2.1) then if inb x.2.2.2.1 x.2.1.length then let oT:=(rd (dfl .note) x.2.1 x.2.2.2.1).fr;let a:=(rd (dfl .note) x.2.1 x.2.2.2.1).nu;let azR:=(rd (dfl .note) x.2.1 x.2.2.2.1).to;let b:=(rd (dfl .note) x.2.1 x.2.2.2.1).un;let axP:=(rd (dfl .note) x.2.1 x.2.2.2.1).tx;(M9 ((oT,a,azR,b,axP,()),())).bind λlq=>if A0 ((B [105,110,98,111,120,32]).size+lq.1.1.size<=4611686018427387904) then if Ab (x.1.length+([((B [105,110,98,111,120,32])++lq.1.1)]:List A4).length) then I (.inl ((x.1++([((B [105,110,98,111,120,32])++lq.1.1)]:List A4)),x.2.1,x.2.2.1,(w64<|x.2.2.2.1+1),())) else U else U else U else I (.inr<|.inr (x.1,()))
def bu:=AZ cE
def aam:Loop:=⟨[(3,.row 9 .str),(66,.sl .note),(67,.int .i64),(68,.int .i64)],[(3,.row 9 .str)],4,[],bu⟩
def apX:LF Tryz.f147 [] [1,1,1,1,1,1,1,0,1,0,0] aam:=sq (v:= .nil) XU (b:=cE) kN
def dJ(x:Y4×List A4×List A7×Int×Int×A2):Rnd (Y4×List A4×List A7×Int×Int×A2) (A2) (Y4×List A4×A2):=if A0 (x.2.2.2.2.1<x.2.2.2.1) then if inb x.2.2.2.2.1 x.2.2.1.length then let b:=(rd (dfl .note) x.2.2.1 x.2.2.2.2.1).fr;let c:=(rd (dfl .note) x.2.2.1 x.2.2.2.2.1).nu;let d:=(rd (dfl .note) x.2.2.1 x.2.2.2.2.1).to;let e:=(rd (dfl .note) x.2.2.1 x.2.2.2.2.1).un;let f:=(rd (dfl .note) x.2.2.1 x.2.2.2.2.1).tx;(M9 ((b,c,d,e,f,()),())).bind λa=>if A0 ((B [104,101,108,100,32]).size+a.1.1.size<=4611686018427387904) then if Ab (x.2.1.length+([((B [104,101,108,100,32])++a.1.1)]:List A4).length) then I (.inl (x.1,(x.2.1++([((B [104,101,108,100,32])++a.1.1)]:List A4)),x.2.2.1,x.2.2.2.1,(w64<|x.2.2.2.2.1+1),())) else U else U else U else I (.inr<|.inr (x.1,x.2.1,()))
def YV:=AZ dJ
def z7:Loop:=⟨[(1,Z9),(3,.row 9 .str),(52,.sl .note),(53,.int .i64),(54,.int .i64)],[(1,Z9),(3,.row 9 .str)],2,[],YV⟩
def akm:LF Tryz.f147 [] [1,1,1,1,1,1,0,1,0,0] z7:=sq (v:= .nil) XU (b:=dJ) kN
def Zj(x:Y4×List A4×List Mark×Int×Int×A2):Rnd (Y4×List A4×List Mark×Int×Int×A2) (A2) (Y4×List A4×A2):=if A0 (x.2.2.2.2.1<x.2.2.2.1) then if inb x.2.2.2.2.1 x.2.2.1.length then let b:=(rd (dfl .mark) x.2.2.1 x.2.2.2.2.1).mf;let c:=(rd (dfl .mark) x.2.2.1 x.2.2.2.2.1).mn;let d:=(rd (dfl .mark) x.2.2.1 x.2.2.2.2.1).mu;(PV ((B [109,97,114,107]),b,c,d,())).bind λa=>if Ab (x.2.1.length+([a.1.1]:List A4).length) then I (.inl (x.1,(x.2.1++([a.1.1]:List A4)),x.2.2.1,x.2.2.2.1,(w64<|x.2.2.2.2.1+1),())) else U else U else I (.inr<|.inr (x.1,x.2.1,()))
def X8:=AZ Zj
def ae3:Loop:=⟨[(1,Z9),(3,.row 9 .str),(34,.sl .mark),(35,.int .i64),(36,.int .i64)],[(1,Z9),(3,.row 9 .str)],0,[],X8⟩
def alb:LF Tryz.f147 [] [1,1,1,1,1,0,1,0,0] ae3:=sq (v:= .nil) XU (b:=Zj) kN
def Ry(x:Y4×A2):Option ((List A4×A2)×A2):=(P0 x).bind λg=>if !g.1.1 then I ((([]:List A4),()),()) else(B8 (X:=Y4×List A4×A2) (λa=>(B8 (X:=Y4×List A4×A2) (λb=>(AS (X8 (b.1,b.2.1,b.1.2.2.2.2.1,(b.1.2.2.2.2.1.length:Int),0,())) (λ_=>U) λc=>(AS (YV (c.1,c.2.1,c.1.2.2.2.1,(c.1.2.2.2.1.length:Int),0,())) (λ_=>U) λd=>(AS (bu (d.2.1,d.1.2.2.2.2.2.1,(d.1.2.2.2.2.2.1.length:Int),0,())) (λ_=>U) λiy=>(RU iy).bind λiG=>I (iG.1,())))))<|(if A0 (1<a.1.2.2.1) then(Iu (a.1.2.2.1,())).bind λe=>if A0 ((B [110,101,120,116,32]).size+e.1.1.size<=4611686018427387904) then if Ab (a.2.1.length+([((B [110,101,120,116,32])++e.1.1)]:List A4).length) then I (.inr (a.1,(a.2.1++([((B [110,101,120,116,32])++e.1.1)]:List A4)),())) else U else U else I (.inr a))))<|(if A0 (0<x.1.2.1) then(Iu (x.1.2.1,())).bind λf=>if A0 ((B [116,105,109,101,32]).size+f.1.1.size<=4611686018427387904) then if Ab ([((B [116,105,109,101,32])++f.1.1)]:List A4).length then I (.inr (x.1,([((B [116,105,109,101,32])++f.1.1)]:List A4),())) else U else U else I (.inr (x.1,([]:List A4),()))))
def p8:Ent:=(147,U,⟨[Z10],[.row 9 .str],Ry⟩)
def ady:SQ Tryz.prog p8:=sk (v:=t1<|t1<|t1<|.join [(1,Z9),(3,.row 9 .str)] .nil<|.join [(1,Z9),(3,.row 9 .str)] .nil<|.two (t1<|.one<|.loop ae3)<|.two (t1<|.one<|.loop z7)<|.two (t1<|.one<|.loop aam) .nil) (fn:=Tryz.f147) XU<|kC alb<|kC akm<|kC apX kN
def aqm:Cx:=cX [Ra,iz,eG] [] [(14,21)]
def ao1:OKC Tryz.prog aqm AF:=okc mixed<|gC TC<|gC tc<|gC rB<|AJ
def QO(x:Y7×A4×A2):Option ((Y7×Bool×A2)×A2):=(Nr (x.1,())).bind λc=>if !c.1.1 then I (((noB,0,()),A3,()),()) else(ZP x.2).bind λa=>if Ah (!(!a.1.1)) ((PW x.2).isSome) then if(!a.1.1)||(A0<|2400<(w64<|(x.1.1.size:Int)+((((PW x.2).getD ((noB,()),())).1.1).size:Int))) then I ((x.1,A3,()),()) else(PW x.2).bind λb=>if A0 (x.1.1.size+b.1.1.size<=4611686018427387904) then I ((((x.1.1++b.1.1),x.1.2),A1,()),()) else U else U
def vK:Ent:=(173,U,⟨[Z15,.str],[Z15,.bool],QO⟩)
def arP:SQ Tryz.prog vK:=sk (v:= .nil) (fn:=Tryz.f173) ao1 kN
def agJ:Cx:=cX [Zk,iK,p6,p8,vK] [] []
def aye:OKC Tryz.prog agJ AF:=okc mixed<|gC oV<|gC aad<|gC acH<|gC ady<|gC arP<|AJ
def O0(x:Y1×A4×A2):Option ((Y1×Bool×A2)×A2):=(Le (x.1.1,x.1.2.2.1,())).bind λb=>(RZ (b.1.1,x.2)).bind λe=>if !e.1.2.1 then I ((x.1,A3,()),()) else(QO ((x.1.2.2.1,x.1.2.2.2.1,()),x.2)).bind λc=>(B8 (X:=Y1×Y1×Y7×Bool×A2) (λa=>if !a.2.2.2.1 then I ((a.1,A3,()),()) else I (((a.1.1,a.1.2.1,a.2.2.1.1,a.2.2.1.2.1,a.1.2.2.2.2),A1,()),()))<|(if !c.1.2.1 then(Ry (b.1.1,())).bind λf=>(Pr ((x.1.2.2.1,x.1.2.2.2.1,()),f.1)).bind λd=>if !d.1.2.1 then I (.inl ((x.1,A3,()),())) else(QO (d.1.1,x.2)).bind λg=>I (.inr (x.1,(0,A3,noB,0,([]:List AG),()),g.1)) else I (.inr (x.1,(0,A3,noB,0,([]:List AG),()),c.1))))
def Xo:Ent:=(138,U,⟨[Z14,.str],[Z14,.bool],O0⟩)
def pO:SQ Tryz.prog Xo:=sk (v:=t1<|t1<|t1<|t1<|.join [(2,Z19),(4,Z20),(10,Z21),(11,.bool)] .nil .nil) (fn:=Tryz.f138) aye kN
def ajo:Cx:=cX [Ra] [] []
def ahr:OKC Tryz.prog ajo AF:=okc mixed<|gC TC<|AJ
def XZ(x:Y7×A2):Option ((Y7×A2)×A2):=(Nr x).bind λa=>if !a.1.1 then I (((noB,0,()),()),()) else I (((x.1.1,(x.1.1.size:Int),()),()),())
def qe:Ent:=(180,U,⟨[Z15],[Z15],XZ⟩)
def ayA:SQ Tryz.prog qe:=sk (v:= .nil) (fn:=Tryz.f180) ahr kN
def am0:Cx:=cX [qe] [] []
def ayq:OKC Tryz.prog am0 AF:=okc mixed<|gC ayA<|AJ
def Nd(x:Y1×A2):Option ((Y1×A2)×A2):=(XZ ((x.1.2.2.1,x.1.2.2.2.1,()),())).bind λa=>I (((x.1.1,x.1.2.1,a.1.1.1,a.1.1.2.1,x.1.2.2.2.2),()),())
def Zl:Ent:=(148,U,⟨[Z14],[Z14],Nd⟩)
def mD:SQ Tryz.prog Zl:=sk (v:= .nil) (fn:=Tryz.f148) ayq kN
def aoQ:Cx:=cX [] [] []
def agE:OKC Tryz.prog aoQ AF:=okc mixed<|AJ
def cB(x:Int×Y3×A2):Option ((List Frame×A2)×A2):=I ((([(Frame.mk x.1 x.2.1.2.2.1 x.2.1.2.1 x.2.1.2.2.2.1 x.2.1.2.2.2.2.1 x.2.1.2.2.2.2.2.1 x.2.1.2.2.2.2.2.2.1 0 0 noB)]:List Frame),()),())
def aAO:Ent:=(169,U,⟨[.int .i64,Z4],[.row 56 .frame],cB⟩)
def aio:SQ Tryz.prog aAO:=sk (v:= .nil) (fn:=Tryz.f169) agE kN
def atq:Cx:=cX [] [(28,28)] []
def aA2:OKC Tryz.prog atq AF:=okc mixed<|AJ
def ZG(x:Y8×List AQ×List AQ×Int×Int×A2):Rnd (Y8×List AQ×List AQ×Int×Int×A2) (A2) (Y8×List AQ×A2):=if A0 (x.2.2.2.2.1<x.2.2.2.1) then if inb x.2.2.2.2.1 x.2.2.1.length then let a:=(rd (dfl .mixed) x.2.2.1 x.2.2.2.2.1).nu;let b:=(rd (dfl .mixed) x.2.2.1 x.2.2.2.2.1).da;if !decide (a=x.1.1) then if Ab (x.2.1.length+([(AQ.mk a b)]:List AQ).length) then I (.inl (x.1,(x.2.1++([(AQ.mk a b)]:List AQ)),x.2.2.1,x.2.2.2.1,(w64<|x.2.2.2.2.1+1),())) else U else I (.inl (x.1,x.2.1,x.2.2.1,x.2.2.2.1,(w64<|x.2.2.2.2.1+1),())) else U else I (.inr<|.inr (x.1,x.2.1,()))
def cI:=AZ ZG
def xp:Loop:=⟨[(3,Z35),(5,.row 105 .mixed),(8,.sl .mixed),(9,.int .i64),(10,.int .i64)],[(3,Z35),(5,.row 105 .mixed)],0,[],cI⟩
def ak4:LF Tryz.f171 [] [1,1,0,1,0,0] xp:=sq (v:= .nil) aA2 (b:=ZG) kN
def Yq(x:List AQ×Y8×A2):Option ((List AQ×A2)×A2):=(AS (cI (x.2.1,([]:List AQ),x.1,(x.1.length:Int),0,())) (λ_=>U) λa=>(if A0 (14<=(a.2.1.length:Int)) then if A0 (0<=1)&&A0 (1<=(a.2.1.length:Int)) then if Ab ((Bp (AK 1) a.2.1).length+([(AQ.mk a.1.1 a.1.2.1)]:List AQ).length) then I ((((Bp (AK 1) a.2.1)++([(AQ.mk a.1.1 a.1.2.1)]:List AQ)),()),()) else U else U else if Ab (a.2.1.length+([(AQ.mk a.1.1 a.1.2.1)]:List AQ).length) then I (((a.2.1++([(AQ.mk a.1.1 a.1.2.1)]:List AQ)),()),()) else U))
def qU:Ent:=(171,U,⟨[.fz .mixed,Z16],[.row 105 .mixed],Yq⟩)
def aiU:SQ Tryz.prog qU:=sk (v:=t1<|t1<|.two (t1<|.one<|.loop xp) .nil) (fn:=Tryz.f171) aA2<|kC ak4 kN
def agc:Cx:=cX [Ev] [] [(8,9)]
def ahu:OKC Tryz.prog agc AF:=okc mixed<|gC FD<|AJ
def Ui(x:Int×Int×A2):Option ((Bool×A2)×A2):=(By (x.1,1,6,())).bind λa=>if Ah a.1.1 ((By (x.2.1,0,999,())).isSome) then let b:=(a.1.1&&(((By (x.2.1,0,999,())).getD ((A3,()),())).1.1));I ((b,()),()) else U
def lr:Ent:=(210,U,⟨[.int .i64,.int .i64],[.bool],Ui⟩)
def adM:SQ Tryz.prog lr:=sk (v:= .nil) (fn:=Tryz.f210) ahu kN
def atp:Cx:=cX [Ev] [] []
def ai7:OKC Tryz.prog atp AF:=okc mixed<|gC FD<|AJ
def Ot(x:Int×A2):Option ((Int×A2)×A2):=(By (x.1,0,65535,())).bind λa=>if !a.1.1 then I ((0,()),()) else let b:=(B5 (w64<|(w64<|25173 * x.1)+13849) 65536);I ((b,()),())
def fl:Ent:=(211,U,⟨[.int .i64],[.int .i64],Ot⟩)
def sL:SQ Tryz.prog fl:=sk (v:= .nil) (fn:=Tryz.f211) ai7 kN
def azE:Cx:=cX [lr,fl] [] []
def ja:OKC Tryz.prog azE AF:=okc mixed<|gC adM<|gC sL<|AJ
def adS(x:Int×List Int×Int×Int×Int×A2):Rnd (Int×List Int×Int×Int×Int×A2) (Int×A2) (Int×A2):=if A0 (x.2.2.2.2.1<=x.1) then if inb x.2.2.2.2.1 x.2.1.length then let a:=(w64<|x.2.2.2.1+(rd (dfl .int) x.2.1 x.2.2.2.2.1));(if A0 (x.2.2.1<a) then I (.inr<|.inl x.2.2.2.2) else I (.inl (x.1,x.2.1,x.2.2.1,a,(w64<|x.2.2.2.2.1+1),()))) else U else I (.inr<|.inr (x.1,()))
def Zg:=AZ adS
def vF:Loop:=⟨[(0,.int .i64),(5,.row 3 .int),(8,.int .i64),(9,.int .i64),(10,.int .i64)],[(0,.int .i64)],2,[(4,.int .i64)],Zg⟩
def awj:LF Tryz.f212 [] [1,1,1,1,1,1,1,1,0,1,0,0] vF:=sq (v:= .nil) ja (b:=adS) kN
def wG(x:Int×Int×List Int×Int×Int×A2):Rnd (Int×Int×List Int×Int×Int×A2) (A2) (Int×Int×List Int×Int×A2):=if A0 (x.2.2.2.2.1<=x.1) then if !decide ((w64<|x.2.2.2.2.1 * (w64<|x.2.2.2.2.1 - 1))=0) then if Ab (x.2.2.1.length+([(w64<|Ay 60<|w64<|x.2.2.2.2.1 * (w64<|x.2.2.2.2.1 - 1))]:List Int).length) then if inb x.2.2.2.2.1 ((x.2.2.1++([(w64<|Ay 60<|w64<|x.2.2.2.2.1 * (w64<|x.2.2.2.2.1 - 1))]:List Int)).length) then let a:=(w64<|x.2.2.2.1+(rd (dfl .int) (x.2.2.1++([(w64<|Ay 60<|w64<|x.2.2.2.2.1 * (w64<|x.2.2.2.2.1 - 1))]:List Int)) x.2.2.2.2.1));I (.inl (x.1,x.2.1,(x.2.2.1++([(w64<|Ay 60<|w64<|x.2.2.2.2.1 * (w64<|x.2.2.2.2.1 - 1))]:List Int)),a,(w64<|x.2.2.2.2.1+1),())) else U else U else U else I (.inr<|.inr (x.1,x.2.1,x.2.2.1,x.2.2.2.1,()))
def bW:=AZ wG
def vH:Loop:=⟨[(0,.int .i64),(1,.int .i64),(5,.row 3 .int),(6,.int .i64),(7,.int .i64)],[(0,.int .i64),(1,.int .i64),(5,.row 3 .int),(6,.int .i64)],0,[],bW⟩
def amJ:LF Tryz.f212 [] [1,1,1,1,1,0,1,0,0] vH:=sq (v:= .nil) ja (b:=wG) kN
def Wu(x:Int×Int×A2):Option ((Int×A2)×A2):=(Ui x).bind λc=>if !c.1.1 then I ((0,()),()) else if A0 (x.2.1<x.1) then I ((1,()),()) else if !decide (x.1=0) then if inb 1 (([0,(w64<|(w64<|Ay 60 x.1)+10)]:List Int).length) then let d:=(rd (dfl .int) ([0,(w64<|(w64<|Ay 60 x.1)+10)]:List Int) 1);(AS (bW (x.1,x.2.1,([0,(w64<|(w64<|Ay 60 x.1)+10)]:List Int),d,2,())) (λ_=>U) (λa=>(Ot ((w64<|(w64<|31 * a.2.1)+a.1),())).bind λe=>(Ot e.1).bind λf=>if !decide (a.2.2.2.1=0) then let g:=(B5 (w64<|Ay f.1.1 16) a.2.2.2.1);(AS (Zg (a.1,a.2.2.1,g,0,1,())) (λb=>I (b,())) λb=>I (b,())) else U)) else U else U
def re:Ent:=(212,U,⟨[.int .i64,.int .i64],[.int .i64],Wu⟩)
def amS:SQ Tryz.prog re:=sk (v:=t1<|t1<|t1<|t1<|t1<|.two (t1<|.one<|.loop vH)<|t1<|t1<|.two (t1<|.one<|.loop vF) .nil) (fn:=Tryz.f212) ja<|kC amJ<|kC awj kN
def awF:Cx:=cX [] [] []
def amb:OKC Tryz.prog awF AF:=okc mixed<|AJ
def hY(x:List Int×A2):Option ((List Int×A2)×A2):=if A0 ((x.1.length:Int)=0) then I ((([]:List Int),()),()) else if A0 (0<=(x.1.length:Int))&&A0 ((x.1.length:Int)<=4294967296) then I (((BH (BX (AK (x.1.length:Int))<|dfl .int).length x.1++Bp x.1.length (BX (AK (x.1.length:Int))<|dfl .int)),()),()) else U
def uz:Ent:=(213,U,⟨[.fz .int],[.row 3 .int],hY⟩)
def ajK:SQ Tryz.prog uz:=sk (v:= .nil) (fn:=Tryz.f213) amb kN
def azH:Cx:=cX [lr,fl,re,uz] [] []
def XW:OKC Tryz.prog azH AF:=okc mixed<|gC adM<|gC sL<|gC amS<|gC ajK<|AJ
def Tq(x:Int×List Bool×Int×Int×Int×A2):Rnd (Int×List Bool×Int×Int×Int×A2) (A2) (Int×List Bool×Int×Int×Int×A2):=if inb x.2.2.2.2.1 x.2.1.length then if rd (dfl .bool) x.2.1 x.2.2.2.2.1 then if !decide (x.1=0) then let a:=(B5 (w64<|x.2.2.2.2.1+1) x.1);I (.inl (x.1,x.2.1,x.2.2.1,x.2.2.2.1,a,())) else U else I (.inr<|.inr x) else U
def XN:=AZ Tq
def uN:Loop:=⟨[(0,.int .i64),(5,.abx 205 .bool),(6,.int .i64),(7,.int .i64),(8,.int .i64)],[(0,.int .i64),(5,.abx 205 .bool),(6,.int .i64),(7,.int .i64),(8,.int .i64)],2,[],XN⟩
def ajs:LF Tryz.f176 [] [1,1,1,1,1,0,1,0,0,1,0,0,1,1,0,0,0] uN:=sq (v:= .nil) XW (b:=Tq) kN
def kI(x:List Int×List Bool×Int×A2):Rnd (List Int×List Bool×Int×A2) (A2) (List Int×A2):=if A0 (x.2.2.1<6) then if inb x.2.2.1 x.2.1.length&&inb x.2.2.1 6 then let a:=(rd (dfl .bool) x.2.1 x.2.2.1);(if a then if Ab (x.1.length+([x.2.2.1]:List Int).length) then I (.inl ((x.1++([x.2.2.1]:List Int)),x.2.1,(w64<|x.2.2.1+1),())) else U else I (.inl (x.1,x.2.1,(w64<|x.2.2.1+1),()))) else U else I (.inr<|.inr (x.1,()))
def jW:=AZ kI
def ad7:Loop:=⟨[(9,.row 3 .int),(47,.arr .bool),(48,.int .i64)],[(9,.row 3 .int)],4,[],jW⟩
def agT:LF Tryz.f176 [] [1,1,1,1,1,1,1,0,1,0,0] ad7:=sq (v:= .nil) XW (b:=kI) kN
def fH(x:Int×List Bool×Int×Int×A2):Rnd (Int×List Bool×Int×Int×A2) (A2) (List Bool×A2):=if A0 (0<x.2.2.2.1) then(Ot (x.2.2.1,())).bind λb=>if !decide (x.1=0) then let c:=(B5 (w64<|Ay b.1.1 16) x.1);(AS (XN (x.1,x.2.1,b.1.1,x.2.2.2.1,c,())) (λ_=>I<|.inr<|.inl ()) λa=>(if inb a.2.2.2.2.1 a.2.1.length then I (.inl (a.1,(Bn a.2.1 (AK a.2.2.2.2.1) A1),a.2.2.1,(w64<|a.2.2.2.1 - 1),())) else U)) else U else I (.inr<|.inr (x.2.1,()))
def iR:=AZ fH
def sB:Loop:=⟨[(0,.int .i64),(5,.abx 205 .bool),(6,.int .i64),(7,.int .i64)],[(5,.abx 205 .bool)],0,[],iR⟩
def asr:LF Tryz.f176 [] [1,1,1,1,1,0,1,0,0] sB:=sq (v:=t1<|.two (.one<|t1<|t1<|.two (.one<|.loop uN) .nil) .nil) XW (b:=fH)<|kC ajs kN
def US(x:Int×Int×A2):Option ((List Int×A2)×A2):=(Ui x).bind λa=>if !a.1.1 then I ((([]:List Int),()),()) else if A0 (x.2.1<x.1) then I ((([x.2.1]:List Int),()),()) else(Ot ((w64<|(w64<|7 * x.2.1)+1),())).bind λb=>(Wu x).bind λc=>(AS (iR (x.1,(BX 6<|dfl .bool),b.1.1,c.1)) (λ_=>U) λd=>(AS (jW (([]:List Int),d.1,0,())) (λ_=>U) λe=>(hY e).bind λf=>I (f.1,())))
def nN:Ent:=(176,U,⟨[.int .i64,.int .i64],[.row 3 .int],US⟩)
def uS:SQ Tryz.prog nN:=sk (v:=t1<|t1<|t1<|t1<|t1<|.two (t1<|.one<|.loop sB)<|t1<|.two (t1<|.one<|.loop ad7) .nil) (fn:=Tryz.f176) XW<|kC asr<|kC agT kN
def ax3:Cx:=cX [] [] []
def vQ:OKC Tryz.prog ax3 AF:=okc mixed<|AJ
def acX(x:A4×List Int×Int×Int×A2):Rnd (A4×List Int×Int×Int×A2) (A2) (List Int×A2):=if A0 (x.2.2.2.1<x.2.2.1) then if inb x.2.2.2.1 x.2.1.length then if inb x.2.2.2.1 x.1.size then if inb x.2.2.2.1 x.2.1.length then let a:=(DY .u8 (rd (dfl .u8) x.2.1 x.2.2.2.1)<|bt x.1 x.2.2.2.1);I (.inl (x.1,(Bn x.2.1 (AK x.2.2.2.1) a),x.2.2.1,(w64<|x.2.2.2.1+1),())) else U else U else U else I (.inr<|.inr (x.2.1,()))
def pM:=AZ acX
def qM:Loop:=⟨[(1,.str),(5,.CP 5 .u8),(10,.int .i64),(11,.int .i64)],[(5,.CP 5 .u8)],0,[],pM⟩
def avv:LF Tryz.f177 [] [1,1,0,1,0,0] qM:=sq (v:= .nil) vQ (b:=acX) kN
def U2(x:A4×A4×A2):Option ((A4×A2)×A2):=if Ab x.1.size then(AS (pM (x.2.1,(BB x.1),((BB x.1).length:Int),0,())) (λ_=>U) λa=>I (((BA a.1),()),())) else U
def kr:Ent:=(177,U,⟨[.str,.str],[.str],U2⟩)
def xv:SQ Tryz.prog kr:=sk (v:=t1<|t1<|.two (t1<|.one<|.loop qM) .nil) (fn:=Tryz.f177) vQ<|kC avv kN
def aiQ:Cx:=cX [Ev,nN,kr] [] [(31,34)]
def aI:OKC Tryz.prog aiQ AF:=okc mixed<|gC FD<|gC uS<|gC xv<|AJ
def TJ(x:Int×List AQ×List A4×Bool×A4×Int×Int×List AQ×Int×Int×List Int×Int×Int×A2):Rnd (Int×List AQ×List A4×Bool×A4×Int×Int×List AQ×Int×Int×List Int×Int×Int×A2) (A2) (Int×List AQ×List A4×Bool×A4×Int×Int×List AQ×Int×Int×A2):=if A0 (x.2.2.2.2.2.2.2.2.2.2.2.2.1<x.2.2.2.2.2.2.2.2.2.2.2.1) then if inb x.2.2.2.2.2.2.2.2.2.2.2.2.1 x.2.2.2.2.2.2.2.2.2.2.1.length then let TH:=(rd (dfl .int) x.2.2.2.2.2.2.2.2.2.2.1 x.2.2.2.2.2.2.2.2.2.2.2.2.1);(if inb TH x.2.2.1.length then if A0 ((rd (dfl .str) x.2.2.1 TH)=noB) then let avp:=(w64<|x.2.2.2.2.2.2.1+1);I (.inl (x.1,x.2.1,x.2.2.1,x.2.2.2.1,x.2.2.2.2.1,TH,avp,x.2.2.2.2.2.2.2.1,x.2.2.2.2.2.2.2.2.1,x.2.2.2.2.2.2.2.2.2.1,x.2.2.2.2.2.2.2.2.2.2.1,x.2.2.2.2.2.2.2.2.2.2.2.1,(w64<|x.2.2.2.2.2.2.2.2.2.2.2.2.1+1),())) else if inb TH x.2.2.1.length then(U2 (x.2.2.2.2.1,(rd (dfl .str) x.2.2.1 TH),())).bind λaxT=>I (.inl (x.1,x.2.1,x.2.2.1,x.2.2.2.1,axT.1.1,x.2.2.2.2.2.1,x.2.2.2.2.2.2.1,x.2.2.2.2.2.2.2.1,x.2.2.2.2.2.2.2.2.1,x.2.2.2.2.2.2.2.2.2.1,x.2.2.2.2.2.2.2.2.2.2.1,x.2.2.2.2.2.2.2.2.2.2.2.1,(w64<|x.2.2.2.2.2.2.2.2.2.2.2.2.1+1),())) else U else U) else U else I (.inr<|.inr (x.1,x.2.1,x.2.2.1,x.2.2.2.1,x.2.2.2.2.1,x.2.2.2.2.2.1,x.2.2.2.2.2.2.1,x.2.2.2.2.2.2.2.1,x.2.2.2.2.2.2.2.2.1,x.2.2.2.2.2.2.2.2.2.1,()))
def dk:=AZ TJ
def aAl:Loop:=⟨[(0,.int .i64),(1,.sl .mixed),(5,.row 9 .str),(6,.bool),(9,.str),(10,.int .i64),(11,.int .i64),(20,.sl .mixed),(21,.int .i64),(22,.int .i64),(41,.row 3 .int),(42,.int .i64),(43,.int .i64)],[(0,.int .i64),(1,.sl .mixed),(5,.row 9 .str),(6,.bool),(9,.str),(10,.int .i64),(11,.int .i64),(20,.sl .mixed),(21,.int .i64),(22,.int .i64)],4,[],dk⟩
def akB:LF Tryz.f208 [] [1,1,1,0,1,0,0,1,0,1,1,0,0,1,1,0,0,1,1,1,0,1,0,0] aAl:=sq (v:= .nil) aI (b:=TJ) kN
def N5(x:Int×List AQ×List A4×Bool×List AQ×Int×Int×A2):Rnd (Int×List AQ×List A4×Bool×List AQ×Int×Int×A2) (A2) (Int×List AQ×List A4×Bool×A2):=if A0 (x.2.2.2.2.2.2.1<x.2.2.2.2.2.1) then if inb x.2.2.2.2.2.2.1 x.2.2.2.2.1.length then let uE:=(rd (dfl .mixed) x.2.2.2.2.1 x.2.2.2.2.2.2.1).nu;let a:=(rd (dfl .mixed) x.2.2.2.2.1 x.2.2.2.2.2.2.1).da;(By (uE,0,999,())).bind λajU=>if(!ajU.1.1)||(!decide ((a.size:Int)=4)) then I (.inl (x.1,x.2.1,x.2.2.1,x.2.2.2.1,x.2.2.2.2.1,x.2.2.2.2.2.1,(w64<|x.2.2.2.2.2.2.1+1),())) else(US (x.1,uE,())).bind λaeW=>(AS (dk (x.1,x.2.1,x.2.2.1,x.2.2.2.1,a,(-1),0,x.2.2.2.2.1,x.2.2.2.2.2.1,x.2.2.2.2.2.2.1,aeW.1.1,(aeW.1.1.length:Int),0,())) (λ_=>I<|.inr<|.inl ()) λGF=>(if A0 (GF.2.2.2.2.2.2.1=1) then if inb GF.2.2.2.2.2.1 GF.2.2.1.length then I (.inl (GF.1,GF.2.1,(Bn GF.2.2.1 (AK GF.2.2.2.2.2.1) GF.2.2.2.2.1),A1,GF.2.2.2.2.2.2.2.1,GF.2.2.2.2.2.2.2.2.1,(w64<|GF.2.2.2.2.2.2.2.2.2.1+1),())) else U else I (.inl (GF.1,GF.2.1,GF.2.2.1,GF.2.2.2.1,GF.2.2.2.2.2.2.2.1,GF.2.2.2.2.2.2.2.2.1,(w64<|GF.2.2.2.2.2.2.2.2.2.1+1),())))) else U else I (.inr<|.inr (x.1,x.2.1,x.2.2.1,x.2.2.2.1,()))
def Sa:=AZ N5
def xW:Loop:=⟨[(0,.int .i64),(1,.sl .mixed),(5,.row 9 .str),(6,.bool),(20,.sl .mixed),(21,.int .i64),(22,.int .i64)],[(0,.int .i64),(1,.sl .mixed),(5,.row 9 .str),(6,.bool)],2,[],Sa⟩
def aqz:LF Tryz.f208 [] [1,1,1,0,1,0,0,1,0,1,1,0,0] xW:=sq (v:=t1<|t1<|.two (.one<|t1<|t1<|t1<|.two (t1<|.one<|.loop aAl) .nil) .nil) aI (b:=N5)<|kC akB kN
def lG(x:Int×List AQ×List A4×Bool×A2):Rnd (Int×List AQ×List A4×Bool×A2) (A2) (List A4×A2):=if x.2.2.2.1 then(AS (Sa (x.1,x.2.1,x.2.2.1,A3,x.2.1,(x.2.1.length:Int),0,())) (λ_=>I<|.inr<|.inl ()) λaiL=>I<|.inl aiL) else I (.inr<|.inr (x.2.2.1,()))
def pI:=AZ lG
def rf:Loop:=⟨[(0,.int .i64),(1,.sl .mixed),(5,.row 9 .str),(6,.bool)],[(5,.row 9 .str)],0,[],pI⟩
def avh:LF Tryz.f208 [] [1,1,1,0,1,0,0] rf:=sq (v:=t1<|.one<|t1<|t1<|.one<|.loop xW) aI (b:=lG)<|kC aqz kN
def WE(x:Int×List AQ×A2):Option ((List A4×A2)×A2):=(By (x.1,1,6,())).bind λa=>if !a.1.1 then I ((([]:List A4),()),()) else if A0 (0<=x.1)&&A0 (x.1<=4294967296) then(AS (pI (x.1,x.2.1,(BX (AK x.1)<|dfl .str),A1,())) (λ_=>U) λasA=>I (asA,())) else U
def qk:Ent:=(208,U,⟨[.int .i64,.fz .mixed],[.row 9 .str],WE⟩)
def aeg:SQ Tryz.prog qk:=sk (v:=t1<|t1<|t1<|.two (t1<|.one<|.loop rf) .nil) (fn:=Tryz.f208) aI<|kC avh kN
def amC:Cx:=cX [Ev,qk] [] []
def nB:OKC Tryz.prog amC AF:=okc mixed<|gC FD<|gC aeg<|AJ
def ZQ(x:Int×A4×Int×A2):Rnd (Int×A4×Int×A2) (A4×Bool×A2) (Int×A4×A2):=if A0 (x.2.2.1<(x.2.1.size:Int)) then if inb x.2.2.1 x.2.1.size then if !decide ((bt x.2.1 x.2.2.1)=0) then I (.inr<|.inl (noB,A3,())) else I (.inl (x.1,x.2.1,(w64<|x.2.2.1+1),())) else U else I (.inr<|.inr (x.1,x.2.1,()))
def pQ:=AZ ZQ
def aaC:Loop:=⟨[(0,.int .i64),(6,.str),(9,.int .i64)],[(0,.int .i64),(6,.str)],2,[(4,.str),(5,.bool)],pQ⟩
def aro:LF Tryz.f172 [] [1,1,1,1,0,1,0,0] aaC:=sq (v:= .nil) nB (b:=ZQ) kN
def S4(x:Int×A4×List A4×Int×Int×A2):Rnd (Int×A4×List A4×Int×Int×A2) (A4×Bool×A2) (Int×A4×A2):=if A0 (x.2.2.2.2.1<x.2.2.2.1) then if inb x.2.2.2.2.1 x.2.2.1.length then let a:=(rd (dfl .str) x.2.2.1 x.2.2.2.2.1);(if A0 (a=noB) then I (.inr<|.inl (noB,A3,())) else if A0 (x.2.1.size+a.size<=4611686018427387904) then I (.inl (x.1,(x.2.1++a),x.2.2.1,x.2.2.2.1,(w64<|x.2.2.2.2.1+1),())) else U) else U else I (.inr<|.inr (x.1,x.2.1,()))
def WL:=AZ S4
def aeY:Loop:=⟨[(0,.int .i64),(6,.str),(18,.row 9 .str),(19,.int .i64),(20,.int .i64)],[(0,.int .i64),(6,.str)],0,[(4,.str),(5,.bool)],WL⟩
def anO:LF Tryz.f172 [] [1,1,1,0,1,0,0] aeY:=sq (v:= .nil) nB (b:=S4) kN
def Xx(x:Int×List AQ×A2):Option ((A4×Bool×A2)×A2):=(By (x.1,1,24,())).bind λd=>if !d.1.1 then I ((noB,A3,()),()) else(WE ((w64<|Ay (w64<|(w64<|x.1+4) - 1) 4),x.2)).bind λc=>(AS (WL (x.1,noB,c.1.1,(c.1.1.length:Int),0,())) (λb=>I (b,())) λb=>(AS (pQ (b.1,b.2.1,b.1,())) (λa=>I (a,())) λa=>(if A0 (0<=a.1)&&A0 (a.1<=(a.2.1.size:Int)) then let e:=(a.2.1.extract (0)<|AK a.1);I ((e,A1,()),()) else U)))
def ab2:Ent:=(172,U,⟨[.int .i64,.fz .mixed],[.str,.bool],Xx⟩)
def ax2:SQ Tryz.prog ab2:=sk (v:=t1<|t1<|t1<|.two (t1<|.one<|.loop aeY)<|.two (t1<|.one<|.loop aaC) .nil) (fn:=Tryz.f172) nB<|kC anO<|kC aro kN
def ake:Cx:=cX [LU,fP,NC,Xo,Tz,Zl,aAO,Sj,qU,ab2] [(85,85)] [(34,41)]
def az6:OKC Tryz.prog ake AF:=okc mixed<|gC Lj<|gC ae4<|gC Od<|gC pO<|gC cS<|gC mD<|gC aio<|gC Ys<|gC aiU<|gC ax2<|AJ
def VY(x:Y1×Y3×A2):Option ((Y1×List Frame×A2)×A2):=(IU (x.1,())).bind λc=>let i:=(A0<|x.2.1.2.2.2.2.2.2.1<=c.1.1.2.1);(if i then(cB (3,x.2)).bind λj=>I ((x.1,j.1),()) else(I8 (c.1.1.2.2.2.1,x.2.1.2.2.2.1,x.2.1.2.2.2.2.1,())).bind λd=>if Ah (!(A0<|0<=d.1.1)) ((Jg (c.1.1.2.2.2.2.1,x.2.1.2.2.2.1,x.2.1.2.2.2.2.1,())).isSome) then let k:=((A0<|0<=d.1.1)||(A0<|0<=((Jg (c.1.1.2.2.2.2.1,x.2.1.2.2.2.1,x.2.1.2.2.2.2.1,())).getD ((0,()),())).1.1));(if k then(Nd (x.1,())).bind λl=>(cB (2,x.2)).bind λm=>I ((l.1.1,m.1),()) else let n:=(A0<|x.2.1.2.2.2.1=x.1.1);(if n then I ((x.1,([]:List Frame),()),()) else(Ri (x.1.2.2.2.2.1,x.2.1.2.2.2.1,x.2.1.2.2.2.2.1,())).bind λe=>(B8 (X:=Y1×Y3×Y1×Int×A2) (λa=>if inb a.2.2.2.1 a.1.2.2.2.2.1.length then if !decide ((rd (dfl .half) a.1.2.2.2.2.1 a.2.2.2.1).to=a.2.1.2.2.2.2.2.1) then I ((a.1,([]:List Frame),()),()) else if !decide ((rd (dfl .half) a.1.2.2.2.2.1 a.2.2.2.1).un=a.2.1.2.2.2.2.2.2.1) then I ((a.1,([]:List Frame),()),()) else if !decide ((rd (dfl .half) a.1.2.2.2.2.1 a.2.2.2.1).sz=a.2.1.2.2.2.2.2.2.2.1) then I ((a.1,([]:List Frame),()),()) else(Yq ((rd (dfl .half) a.1.2.2.2.2.1 a.2.2.2.1).got,a.2.1.2.2.2.2.2.2.2.2,())).bind λb=>(Xx ((rd (dfl .half) (Bn a.1.2.2.2.2.1 (AK a.2.2.2.1)<|AG.mk ((rd (dfl .half) a.1.2.2.2.2.1 a.2.2.2.1).fr) ((rd (dfl .half) a.1.2.2.2.2.1 a.2.2.2.1).nu) ((rd (dfl .half) a.1.2.2.2.2.1 a.2.2.2.1).to) ((rd (dfl .half) a.1.2.2.2.2.1 a.2.2.2.1).un) ((rd (dfl .half) a.1.2.2.2.2.1 a.2.2.2.1).sz) b.1.1) a.2.2.2.1).sz,(rd (dfl .half) (Bn a.1.2.2.2.2.1 (AK a.2.2.2.1)<|AG.mk ((rd (dfl .half) a.1.2.2.2.2.1 a.2.2.2.1).fr) ((rd (dfl .half) a.1.2.2.2.2.1 a.2.2.2.1).nu) ((rd (dfl .half) a.1.2.2.2.2.1 a.2.2.2.1).to) ((rd (dfl .half) a.1.2.2.2.2.1 a.2.2.2.1).un) ((rd (dfl .half) a.1.2.2.2.2.1 a.2.2.2.1).sz) b.1.1) a.2.2.2.1).got,())).bind λf=>if !f.1.2.1 then I (((a.1.1,a.1.2.1,a.1.2.2.1,a.1.2.2.2.1,(Bn a.1.2.2.2.2.1 (AK a.2.2.2.1)<|AG.mk ((rd (dfl .half) a.1.2.2.2.2.1 a.2.2.2.1).fr) ((rd (dfl .half) a.1.2.2.2.2.1 a.2.2.2.1).nu) ((rd (dfl .half) a.1.2.2.2.2.1 a.2.2.2.1).to) ((rd (dfl .half) a.1.2.2.2.2.1 a.2.2.2.1).un) ((rd (dfl .half) a.1.2.2.2.2.1 a.2.2.2.1).sz) b.1.1),()),([]:List Frame),()),()) else if A0 (0<=a.2.2.2.1)&&A0 (a.2.2.2.1<=((Bn a.1.2.2.2.2.1 (AK a.2.2.2.1)<|AG.mk ((rd (dfl .half) a.1.2.2.2.2.1 a.2.2.2.1).fr) ((rd (dfl .half) a.1.2.2.2.2.1 a.2.2.2.1).nu) ((rd (dfl .half) a.1.2.2.2.2.1 a.2.2.2.1).to) ((rd (dfl .half) a.1.2.2.2.2.1 a.2.2.2.1).un) ((rd (dfl .half) a.1.2.2.2.2.1 a.2.2.2.1).sz) b.1.1).length:Int)) then if Ab (([]:List AG).length+(BH (AK a.2.2.2.1)<|Bn a.1.2.2.2.2.1 (AK a.2.2.2.1)<|AG.mk ((rd (dfl .half) a.1.2.2.2.2.1 a.2.2.2.1).fr) ((rd (dfl .half) a.1.2.2.2.2.1 a.2.2.2.1).nu) ((rd (dfl .half) a.1.2.2.2.2.1 a.2.2.2.1).to) ((rd (dfl .half) a.1.2.2.2.2.1 a.2.2.2.1).un) ((rd (dfl .half) a.1.2.2.2.2.1 a.2.2.2.1).sz) b.1.1).length) then if A0 (0<=(w64<|a.2.2.2.1+1))&&A0 ((w64<|a.2.2.2.1+1)<=((Bn a.1.2.2.2.2.1 (AK a.2.2.2.1)<|AG.mk ((rd (dfl .half) a.1.2.2.2.2.1 a.2.2.2.1).fr) ((rd (dfl .half) a.1.2.2.2.2.1 a.2.2.2.1).nu) ((rd (dfl .half) a.1.2.2.2.2.1 a.2.2.2.1).to) ((rd (dfl .half) a.1.2.2.2.2.1 a.2.2.2.1).un) ((rd (dfl .half) a.1.2.2.2.2.1 a.2.2.2.1).sz) b.1.1).length:Int)) then if Ab ((([]:List AG)++(BH (AK a.2.2.2.1)<|Bn a.1.2.2.2.2.1 (AK a.2.2.2.1)<|AG.mk ((rd (dfl .half) a.1.2.2.2.2.1 a.2.2.2.1).fr) ((rd (dfl .half) a.1.2.2.2.2.1 a.2.2.2.1).nu) ((rd (dfl .half) a.1.2.2.2.2.1 a.2.2.2.1).to) ((rd (dfl .half) a.1.2.2.2.2.1 a.2.2.2.1).un) ((rd (dfl .half) a.1.2.2.2.2.1 a.2.2.2.1).sz) b.1.1)).length+(Bp (AK<|w64<|a.2.2.2.1+1)<|Bn a.1.2.2.2.2.1 (AK a.2.2.2.1)<|AG.mk ((rd (dfl .half) a.1.2.2.2.2.1 a.2.2.2.1).fr) ((rd (dfl .half) a.1.2.2.2.2.1 a.2.2.2.1).nu) ((rd (dfl .half) a.1.2.2.2.2.1 a.2.2.2.1).to) ((rd (dfl .half) a.1.2.2.2.2.1 a.2.2.2.1).un) ((rd (dfl .half) a.1.2.2.2.2.1 a.2.2.2.1).sz) b.1.1).length) then(M9 ((a.2.1.2.2.2.1,a.2.1.2.2.2.2.1,a.2.1.2.2.2.2.2.1,a.2.1.2.2.2.2.2.2.1,f.1.1,()),())).bind λg=>if A0 ((B [116,97,107,101,32]).size+g.1.1.size<=4611686018427387904) then(O0 ((a.1.1,a.1.2.1,a.1.2.2.1,a.1.2.2.2.1,((([]:List AG)++(BH (AK a.2.2.2.1)<|Bn a.1.2.2.2.2.1 (AK a.2.2.2.1)<|AG.mk ((rd (dfl .half) a.1.2.2.2.2.1 a.2.2.2.1).fr) ((rd (dfl .half) a.1.2.2.2.2.1 a.2.2.2.1).nu) ((rd (dfl .half) a.1.2.2.2.2.1 a.2.2.2.1).to) ((rd (dfl .half) a.1.2.2.2.2.1 a.2.2.2.1).un) ((rd (dfl .half) a.1.2.2.2.2.1 a.2.2.2.1).sz) b.1.1))++(Bp (AK<|w64<|a.2.2.2.1+1)<|Bn a.1.2.2.2.2.1 (AK a.2.2.2.1)<|AG.mk ((rd (dfl .half) a.1.2.2.2.2.1 a.2.2.2.1).fr) ((rd (dfl .half) a.1.2.2.2.2.1 a.2.2.2.1).nu) ((rd (dfl .half) a.1.2.2.2.2.1 a.2.2.2.1).to) ((rd (dfl .half) a.1.2.2.2.2.1 a.2.2.2.1).un) ((rd (dfl .half) a.1.2.2.2.2.1 a.2.2.2.1).sz) b.1.1)),()),((B [116,97,107,101,32])++g.1.1),())).bind λh=>if !h.1.2.1 then let o:=((([]:List AG)++(BH (AK a.2.2.2.1)<|Bn a.1.2.2.2.2.1 (AK a.2.2.2.1)<|AG.mk ((rd (dfl .half) a.1.2.2.2.2.1 a.2.2.2.1).fr) ((rd (dfl .half) a.1.2.2.2.2.1 a.2.2.2.1).nu) ((rd (dfl .half) a.1.2.2.2.2.1 a.2.2.2.1).to) ((rd (dfl .half) a.1.2.2.2.2.1 a.2.2.2.1).un) ((rd (dfl .half) a.1.2.2.2.2.1 a.2.2.2.1).sz) b.1.1))++(Bp (AK<|w64<|a.2.2.2.1+1)<|Bn a.1.2.2.2.2.1 (AK a.2.2.2.1)<|AG.mk ((rd (dfl .half) a.1.2.2.2.2.1 a.2.2.2.1).fr) ((rd (dfl .half) a.1.2.2.2.2.1 a.2.2.2.1).nu) ((rd (dfl .half) a.1.2.2.2.2.1 a.2.2.2.1).to) ((rd (dfl .half) a.1.2.2.2.2.1 a.2.2.2.1).un) ((rd (dfl .half) a.1.2.2.2.2.1 a.2.2.2.1).sz) b.1.1));I (((a.1.1,a.1.2.1,a.1.2.2.1,a.1.2.2.2.1,o,()),([]:List Frame),()),()) else(Nd (h.1.1,())).bind λp=>(cB (2,a.2.1,())).bind λq=>I ((p.1.1,q.1),()) else U else U else U else U else U else U)<|(if A0 (e.1.1<0) then if Ab (x.1.2.2.2.2.1.length+([(AG.mk x.2.1.2.2.2.1 x.2.1.2.2.2.2.1 x.2.1.2.2.2.2.2.1 x.2.1.2.2.2.2.2.2.1 x.2.1.2.2.2.2.2.2.2.1 ([]:List AQ))]:List AG).length) then if A0 (3<((x.1.2.2.2.2.1++([(AG.mk x.2.1.2.2.2.1 x.2.1.2.2.2.2.1 x.2.1.2.2.2.2.2.1 x.2.1.2.2.2.2.2.2.1 x.2.1.2.2.2.2.2.2.2.1 ([]:List AQ))]:List AG)).length:Int)) then if A0 (0<=1)&&A0 (1<=((x.1.2.2.2.2.1++([(AG.mk x.2.1.2.2.2.1 x.2.1.2.2.2.2.1 x.2.1.2.2.2.2.2.1 x.2.1.2.2.2.2.2.2.1 x.2.1.2.2.2.2.2.2.2.1 ([]:List AQ))]:List AG)).length:Int)) then let r:=(w64<|((Bp (AK 1)<|x.1.2.2.2.2.1++([(AG.mk x.2.1.2.2.2.1 x.2.1.2.2.2.2.1 x.2.1.2.2.2.2.2.1 x.2.1.2.2.2.2.2.2.1 x.2.1.2.2.2.2.2.2.2.1 ([]:List AQ))]:List AG)).length:Int) - 1);I (.inr ((x.1.1,x.1.2.1,x.1.2.2.1,x.1.2.2.2.1,(Bp (AK 1)<|x.1.2.2.2.2.1++([(AG.mk x.2.1.2.2.2.1 x.2.1.2.2.2.2.1 x.2.1.2.2.2.2.2.1 x.2.1.2.2.2.2.2.2.1 x.2.1.2.2.2.2.2.2.2.1 ([]:List AQ))]:List AG)),()),x.2.1,(0,A3,noB,0,([]:List AG),()),r,())) else U else let s:=(w64<|((x.1.2.2.2.2.1++([(AG.mk x.2.1.2.2.2.1 x.2.1.2.2.2.2.1 x.2.1.2.2.2.2.2.1 x.2.1.2.2.2.2.2.2.1 x.2.1.2.2.2.2.2.2.2.1 ([]:List AQ))]:List AG)).length:Int) - 1);I (.inr ((x.1.1,x.1.2.1,x.1.2.2.1,x.1.2.2.2.1,(x.1.2.2.2.2.1++([(AG.mk x.2.1.2.2.2.1 x.2.1.2.2.2.2.1 x.2.1.2.2.2.2.2.1 x.2.1.2.2.2.2.2.2.1 x.2.1.2.2.2.2.2.2.2.1 ([]:List AQ))]:List AG)),()),x.2.1,(0,A3,noB,0,([]:List AG),()),s,())) else U else I (.inr (x.1,x.2.1,(0,A3,noB,0,([]:List AG),()),e.1)))))) else U)
def xi:Ent:=(136,U,⟨[Z1,Z4],[Z14,.fz .frame],VY⟩)
def asQ:SQ Tryz.prog xi:=sk (v:=t1<|t1<|t1<|t1<|.join [(2,Z20),(3,Z5),(4,Z20),(7,.int .i64)] .nil .nil) (fn:=Tryz.f136) az6 kN
def af1:Cx:=cX [LU,JL,LL,pt,xi,NC,Xo,aS] [] [(70,77)]
def air:OKC Tryz.prog af1 AF:=okc mixed<|gC Lj<|gC Jt<|gC Mj<|gC acM<|gC asQ<|gC Od<|gC pO<|gC kP<|AJ
def Rc(x:Y1×Y3×A2):Option ((Y1×List Frame×A2)×A2):=(I2 (x.1,())).bind λf=>if !f.1.1 then I (((0,A3,noB,0,([]:List AG),()),([]:List Frame),()),()) else(Hc (x.1,())).bind λa=>if !x.1.2.1 then I ((a.1.1,([]:List Frame),()),()) else(SI x.2).bind λg=>if !g.1.1 then I ((a.1.1,([]:List Frame),()),()) else if !decide (x.2.1.2.2.1=x.1.1) then I ((a.1.1,([]:List Frame),()),()) else if A0 (x.2.1.1=1) then(VY (a.1.1,x.2)).bind λe=>(Hc (e.1.1,())).bind λh=>I ((h.1.1,e.1.2),()) else if A0 (x.2.1.1=2) then(IU (x.1,())).bind λb=>(I8 (b.1.1.2.2.2.1,x.2.1.2.2.2.1,x.2.1.2.2.2.2.1,())).bind λc=>(B8 (X:=Y3×Y1×Y1×Bool×A2) (λd=>if d.2.2.2.1 then(PV ((B [108,101,116]),d.1.2.2.2.1,d.1.2.2.2.2.1,d.1.2.2.2.2.2.2.1,())).bind λi=>(O0 (d.2.2.1,i.1)).bind λj=>I ((j.1.1,([]:List Frame),()),()) else I ((d.2.2.1,([]:List Frame),()),()))<|(if A0 (0<=c.1.1) then if inb c.1.1 b.1.1.2.2.2.1.length then if Ah (A0<|(rd (dfl .note) b.1.1.2.2.2.1 c.1.1).to=x.2.1.2.2.2.2.2.1) (inb c.1.1 b.1.1.2.2.2.1.length) then I (.inr (x.2.1,(0,A3,noB,0,([]:List AG),()),a.1.1,((A0<|(rd (dfl .note) b.1.1.2.2.2.1 c.1.1).to=x.2.1.2.2.2.2.2.1)&&(A0<|(rd (dfl .note) b.1.1.2.2.2.1 c.1.1).un=x.2.1.2.2.2.2.2.2.1)),())) else U else U else if Ah A3 (inb c.1.1 b.1.1.2.2.2.1.length) then I (.inr (x.2.1,(0,A3,noB,0,([]:List AG),()),a.1.1,A3,())) else U)) else I ((a.1.1,([]:List Frame),()),())
def zk:Ent:=(97,U,⟨[Z14,Z4],[Z14,.fz .frame],Rc⟩)
def azQ:SQ Tryz.prog zk:=sk (v:=t1<|t1<|t1<|t1<|.two (t1<|.one<|t1<|t1<|t1<|.two (t1<|t1<|.join [(3,Z5),(4,Z20),(6,Z20),(78,.bool)] .nil .nil) .nil) .nil) (fn:=Tryz.f97) air kN
def aqE:Cx:=cX [l9] [] []
def yo:OKC Tryz.prog aqE AF:=okc mixed<|gC aab<|AJ
def ZJ(x:Y2×List Frame×Int×Int×A2):Rnd (Y2×List Frame×Int×Int×A2) (A2) (Y2×A2):=if A0 (x.2.2.2.1<x.2.2.1) then if inb x.2.2.2.1 x.2.1.length then let d:=(rd (dfl .frame) x.2.1 x.2.2.2.1).ki;let a:=(rd (dfl .frame) x.2.1 x.2.2.2.1).src;let b:=(rd (dfl .frame) x.2.1 x.2.2.2.1).dst;let e:=(rd (dfl .frame) x.2.1 x.2.2.2.1).fr;let f:=(rd (dfl .frame) x.2.1 x.2.2.2.1).nu;let g:=(rd (dfl .frame) x.2.1 x.2.2.2.1).to;let h:=(rd (dfl .frame) x.2.1 x.2.2.2.1).un;let i:=(rd (dfl .frame) x.2.1 x.2.2.2.1).sz;let j:=(rd (dfl .frame) x.2.1 x.2.2.2.1).mix;let k:=(rd (dfl .frame) x.2.1 x.2.2.2.1).da;if A0 ((x.1.2.2.2.1.length:Int)<30) then(Oa ((d,a,b,e,f,g,h,i,j,k,()),())).bind λc=>if Ab (x.1.2.2.2.1.length+([(AR.mk a b (BA c.1.1) A3)]:List AR).length) then I (.inl ((x.1.1,x.1.2.1,x.1.2.2.1,(x.1.2.2.2.1++([(AR.mk a b (BA c.1.1) A3)]:List AR)),x.1.2.2.2.2),x.2.1,x.2.2.1,(w64<|x.2.2.2.1+1),())) else U else I (.inl (x.1,x.2.1,x.2.2.1,(w64<|x.2.2.2.1+1),())) else U else I (.inr<|.inr (x.1,()))
def Zh:=AZ ZJ
def zY:Loop:=⟨[(0,Z2),(6,.sl .frame),(7,.int .i64),(8,.int .i64)],[(0,Z2)],0,[],Zh⟩
def axB:LF Tryz.f98 [0] [1,0,0] zY:=sq (v:= .nil) yo (b:=ZJ) kN
def N2(x:Y2×List Frame×A2):Option ((A2)×(Y2×A2)):=(AS (Zh (x.1,x.2.1,(x.2.1.length:Int),0,())) (λ_=>U) λa=>I ((),a))
def pB:Ent:=(98,U,⟨[Z2,.fz .frame],[],N2⟩)
def acR:SQ Tryz.prog pB:=sk (v:=t1<|.one<|.loop zY) (fn:=Tryz.f98) yo<|kC axB kN
def aqA:Cx:=cX [Ev,aat,yL,zk,pB] [] [(137,141)]
def azd:OKC Tryz.prog aqA AF:=okc mixed<|gC FD<|gC agA<|gC anQ<|gC azQ<|gC acR<|AJ
def Rj(x:Y2×Y3×A2):Option ((Bool×A2)×(Y2×A2)):=(By (x.2.1.2.2.2.2.1,0,(w64<|(x.1.2.2.2.1.length:Int) - 1),())).bind λj=>if !j.1.1 then I ((A3,()),(x.1,())) else if inb x.2.1.2.2.2.2.1 x.1.2.2.2.1.length then let d:=(rd (dfl .Ad) x.1.2.2.2.1 x.2.1.2.2.2.2.1).src;let e:=(rd (dfl .Ad) x.1.2.2.2.1 x.2.1.2.2.2.2.1).dst;let b:=(rd (dfl .Ad) x.1.2.2.2.1 x.2.1.2.2.2.2.1).data;let i:=(rd (dfl .Ad) x.1.2.2.2.1 x.2.1.2.2.2.2.1).sp;if A0 (x.2.1.1=5) then(Uv (x.1.2.2.2.1,x.2.1.2.2.2.2.1,())).bind λk=>I ((A1,()),((x.1.1,x.1.2.1,x.1.2.2.1,k.1.1,x.1.2.2.2.2),())) else if A0 (x.2.1.1=6) then(By (x.2.1.2.2.2.2.2.1,0,(w64<|(b.size:Int) - 1),())).bind λl=>if !l.1.1 then I ((A3,()),(x.1,())) else if i then I ((A3,()),(x.1,())) else(By (x.2.1.2.2.2.2.2.2.1,1,255,())).bind λm=>if !m.1.1 then I ((A3,()),(x.1,())) else if Ab b.size then if inb x.2.1.2.2.2.2.2.1 ((BB b).length) then if inb x.2.1.2.2.2.2.2.1 ((BB b).length) then let n:=(DY .u8 (rd (dfl .u8) (BB b) x.2.1.2.2.2.2.2.1)<|w8 x.2.1.2.2.2.2.2.2.1);(if inb x.2.1.2.2.2.2.1 x.1.2.2.2.1.length then let g:=(BA<|Bn (BB b) (AK x.2.1.2.2.2.2.2.1) n);(if inb x.2.1.2.2.2.2.1 ((Bn x.1.2.2.2.1 (AK x.2.1.2.2.2.2.1)<|AR.mk ((rd (dfl .Ad) x.1.2.2.2.1 x.2.1.2.2.2.2.1).src) ((rd (dfl .Ad) x.1.2.2.2.1 x.2.1.2.2.2.2.1).dst) g<|(rd (dfl .Ad) x.1.2.2.2.1 x.2.1.2.2.2.2.1).sp).length) then I ((A1,()),((x.1.1,x.1.2.1,x.1.2.2.1,(Bn (Bn x.1.2.2.2.1 (AK x.2.1.2.2.2.2.1)<|AR.mk ((rd (dfl .Ad) x.1.2.2.2.1 x.2.1.2.2.2.2.1).src) ((rd (dfl .Ad) x.1.2.2.2.1 x.2.1.2.2.2.2.1).dst) g<|(rd (dfl .Ad) x.1.2.2.2.1 x.2.1.2.2.2.2.1).sp) (AK x.2.1.2.2.2.2.1)<|AR.mk ((rd (dfl .Ad) (Bn x.1.2.2.2.1 (AK x.2.1.2.2.2.2.1)<|AR.mk ((rd (dfl .Ad) x.1.2.2.2.1 x.2.1.2.2.2.2.1).src) ((rd (dfl .Ad) x.1.2.2.2.1 x.2.1.2.2.2.2.1).dst) g<|(rd (dfl .Ad) x.1.2.2.2.1 x.2.1.2.2.2.2.1).sp) x.2.1.2.2.2.2.1).src) ((rd (dfl .Ad) (Bn x.1.2.2.2.1 (AK x.2.1.2.2.2.2.1)<|AR.mk ((rd (dfl .Ad) x.1.2.2.2.1 x.2.1.2.2.2.2.1).src) ((rd (dfl .Ad) x.1.2.2.2.1 x.2.1.2.2.2.2.1).dst) g<|(rd (dfl .Ad) x.1.2.2.2.1 x.2.1.2.2.2.2.1).sp) x.2.1.2.2.2.2.1).dst) ((rd (dfl .Ad) (Bn x.1.2.2.2.1 (AK x.2.1.2.2.2.2.1)<|AR.mk ((rd (dfl .Ad) x.1.2.2.2.1 x.2.1.2.2.2.2.1).src) ((rd (dfl .Ad) x.1.2.2.2.1 x.2.1.2.2.2.2.1).dst) g<|(rd (dfl .Ad) x.1.2.2.2.1 x.2.1.2.2.2.2.1).sp) x.2.1.2.2.2.2.1).data) A1),x.1.2.2.2.2),())) else U) else U) else U else U else U else if A0 (x.2.1.1=4) then if inb (if e<d then e else d) x.1.2.2.1.length then if !(rd (dfl .bool) x.1.2.2.1<|if e<d then e else d) then I ((A3,()),(x.1,())) else(B8 (X:=Y2×Y12×A2) (λc=>if Ab c.2.1.2.2.1.size then(X4 ((BB c.2.1.2.2.1),())).bind λh=>(B8 (X:=Y2×Y12×Y3×Bool×A2) (λa=>if a.2.2.2.1 then if inb a.2.1.2.1 a.1.2.1.length then(Rc (((rd (dfl .AL) a.1.2.1 a.2.1.2.1).id,(rd (dfl .AL) a.1.2.1 a.2.1.2.1).up,(rd (dfl .AL) a.1.2.1 a.2.1.2.1).log,(rd (dfl .AL) a.1.2.1 a.2.1.2.1).fo,(rd (dfl .AL) a.1.2.1 a.2.1.2.1).AM,()),a.2.2.1,())).bind λf=>if inb a.2.1.2.1 a.1.2.1.length then(N2 ((a.1.1,(Bn a.1.2.1 (AK a.2.1.2.1)<|AA.mk f.1.1.1 f.1.1.2.1 f.1.1.2.2.1 f.1.1.2.2.2.1 f.1.1.2.2.2.2.1),a.1.2.2),f.1.2)).bind λo=>I ((A1,()),o.2) else U else U else I ((A1,()),(a.1,())))<|(if h.1.2.1 then I (.inr (c.1,c.2.1,h.1.1,((A0<|h.1.1.2.1=c.2.1.1)&&(A0<|h.1.1.2.2.1=c.2.1.2.1)),())) else I (.inr (c.1,c.2.1,h.1.1,A3,())))) else U)<|(if A0 (x.2.1.2.2.2.2.2.2.1=0) then(Uv (x.1.2.2.2.1,x.2.1.2.2.2.2.1,())).bind λp=>I (.inr ((x.1.1,x.1.2.1,x.1.2.2.1,p.1.1,x.1.2.2.2.2),(d,e,b,i,()),())) else I (.inr (x.1,(d,e,b,i,()),())))) else U else I ((A1,()),(x.1,())) else U
def x8:Ent:=(55,U,⟨[Z2,Z4],[.bool],Rj⟩)
def ak7:SQ Tryz.prog x8:=sk (v:=t1<|t1<|t1<|.two (t1<|.one<|t1<|t1<|t1<|t1<|t1<|.two (t1<|.join [(0,Z2),(5,Z36)] .nil<|t1<|.join [(0,Z2),(5,Z36),(7,Z5),(142,.bool)] .nil .nil) .nil) .nil) (fn:=Tryz.f55) azd kN
def anS:Cx:=cX [LL,Xo,Zl] [] []
def ar8:OKC Tryz.prog anS AF:=okc mixed<|gC Mj<|gC pO<|gC mD<|AJ
def OI(x:Y1×A4×A2):Option ((Y1×Bool×A2)×A2):=(O0 x).bind λa=>if !a.1.2.1 then(Hc (x.1,())).bind λb=>I ((b.1.1,A3,()),()) else(Nd (a.1.1,())).bind λc=>(Hc c.1).bind λd=>I ((d.1.1,A1,()),())
def Vo:Ent:=(140,U,⟨[Z14,.str],[Z1,.bool],OI⟩)
def eH:SQ Tryz.prog Vo:=sk (v:= .nil) (fn:=Tryz.f140) ar8 kN
def arx:Cx:=cX [LU,JL,LL,Vo,Tz] [] []
def akS:OKC Tryz.prog arx AF:=okc mixed<|gC Lj<|gC Jt<|gC Mj<|gC eH<|gC cS<|AJ
def Uo(x:Y1×Int×Int×A4×A2):Option ((Y1×Int×A2)×A2):=(I2 (x.1,())).bind λd=>if !d.1.1 then I (((0,A3,noB,0,([]:List AG),()),0,()),()) else if !x.1.2.1 then(Hc (x.1,())).bind λe=>I ((e.1.1,0,()),()) else(IU (x.1,())).bind λb=>(M9 ((x.1.1,b.1.1.2.2.1,x.2),())).bind λc=>if A0 ((B [111,119,110,32]).size+c.1.1.size<=4611686018427387904) then(OI (x.1,((B [111,119,110,32])++c.1.1),())).bind λa=>if !a.1.2.1 then I ((a.1.1,0,()),()) else I ((a.1.1,b.1.1.2.2.1,()),()) else U
def rU:Ent:=(99,U,⟨[Z14,.int .i64,.int .i64,.str],[Z1,.int .i64],Uo⟩)
def aq2:SQ Tryz.prog rU:=sk (v:= .nil) (fn:=Tryz.f99) akS kN
def arH:Cx:=cX [LU,JL,LL,Vo,Q8] [] []
def ajp:OKC Tryz.prog arH AF:=okc mixed<|gC Lj<|gC Jt<|gC Mj<|gC eH<|gC Si<|AJ
def Tk(x:Y1×A2):Option ((Y1×Bool×A2)×A2):=(I2 x).bind λb=>if !b.1.1 then I (((0,A3,noB,0,([]:List AG),()),A3,()),()) else if !x.1.2.1 then(Hc x).bind λc=>I ((c.1.1,A3,()),()) else(IU x).bind λd=>(Iu ((w64<|d.1.1.2.1+1),())).bind λa=>if A0 ((B [116,105,109,101,32]).size+a.1.1.size<=4611686018427387904) then(OI (x.1,((B [116,105,109,101,32])++a.1.1),())).bind λe=>I (e.1,()) else U
def tb:Ent:=(100,U,⟨[Z14],[Z1,.bool],Tk⟩)
def awz:SQ Tryz.prog tb:=sk (v:= .nil) (fn:=Tryz.f100) ajp kN
def awM:Cx:=cX [Ev,bw] [] []
def ab0:OKC Tryz.prog awM AF:=okc mixed<|gC FD<|gC nV<|AJ
def dj(x:A4×List A4×Int×A2):Rnd (A4×List A4×Int×A2) (A2) (List A4×A2):=if A0 (x.2.2.1<(x.1.size:Int)) then if A0 (0<=4)&&A0 (4<=4294967296) then if A0 (0<=x.2.2.1)&&A0 (x.2.2.1<=(x.1.size:Int)) then if Ab (x.2.1.length+([(BA<|BH (BX (AK 4)<|dfl .u8).length (BB<|x.1.extract (AK x.2.2.1)<|x.1.size)++Bp (BB<|x.1.extract (AK x.2.2.1)<|x.1.size).length (BX (AK 4)<|dfl .u8))]:List A4).length) then I (.inl (x.1,(x.2.1++([(BA<|BH (BX (AK 4)<|dfl .u8).length (BB<|x.1.extract (AK x.2.2.1)<|x.1.size)++Bp (BB<|x.1.extract (AK x.2.2.1)<|x.1.size).length (BX (AK 4)<|dfl .u8))]:List A4)),(w64<|x.2.2.1+4),())) else U else U else U else I (.inr<|.inr (x.2.1,()))
def jt:=AZ dj
def aeA:Loop:=⟨[(0,.str),(3,.row 9 .str),(4,.int .i64)],[(3,.row 9 .str)],0,[],jt⟩
def anY:LF Tryz.f175 [] [1,1,1,0,1,0,0] aeA:=sq (v:= .nil) ab0 (b:=dj) kN
def dG(x:A4×A2):Option ((List A4×A2)×A2):=(By ((x.1.size:Int),1,24,())).bind λa=>if !a.1.1 then I ((([]:List A4),()),()) else(AS (jt (x.1,([]:List A4),0,())) (λ_=>U) λb=>(RU b).bind λc=>I (c.1,()))
def aBf:Ent:=(175,U,⟨[.str],[.row 9 .str],dG⟩)
def atF:SQ Tryz.prog aBf:=sk (v:=t1<|t1<|t1<|.two (t1<|.one<|.loop aeA) .nil) (fn:=Tryz.f175) ab0<|kC anY kN
def ans:Cx:=cX [aBf,nN,kr] [] []
def rF:OKC Tryz.prog ans AF:=okc mixed<|gC atF<|gC uS<|gC xv<|AJ
def TS(x:List A4×A4×List Int×Int×Int×A2):Rnd (List A4×A4×List Int×Int×Int×A2) (A2) (A4×A2):=if A0 (x.2.2.2.2.1<x.2.2.2.1) then if inb x.2.2.2.2.1 x.2.2.1.length then let a:=(rd (dfl .int) x.2.2.1 x.2.2.2.2.1);(if A0 (x.2.2.2.2.1=0) then if inb a x.1.length then I (.inl (x.1,(rd (dfl .str) x.1 a),x.2.2.1,x.2.2.2.1,(w64<|x.2.2.2.2.1+1),())) else U else if inb a x.1.length then(U2 (x.2.1,(rd (dfl .str) x.1 a),())).bind λb=>I (.inl (x.1,b.1.1,x.2.2.1,x.2.2.2.1,(w64<|x.2.2.2.2.1+1),())) else U) else U else I (.inr<|.inr (x.2.1,()))
def SX:=AZ TS
def tk:Loop:=⟨[(5,.row 9 .str),(6,.str),(14,.row 3 .int),(15,.int .i64),(16,.int .i64)],[(6,.str)],0,[],SX⟩
def auh:LF Tryz.f144 [] [1,1,1,0,1,0,0] tk:=sq (v:= .nil) rF (b:=TS) kN
def W4(x:A4×Int×A2):Option ((A4×A2)×A2):=(dG (x.1,())).bind λa=>(US ((a.1.1.length:Int),x.2)).bind λb=>(AS (SX (a.1.1,noB,b.1.1,(b.1.1.length:Int),0,())) (λ_=>U) λc=>I (c,()))
def sY:Ent:=(144,U,⟨[.str,.int .i64],[.str],W4⟩)
def ael:SQ Tryz.prog sY:=sk (v:=t1<|t1<|t1<|.two (t1<|.one<|.loop tk) .nil) (fn:=Tryz.f144) rF<|kC auh kN
def amq:Cx:=cX [LU,Ev,JL,NC,eT,sY] [] []
def amH:OKC Tryz.prog amq AF:=okc mixed<|gC Lj<|gC FD<|gC Jt<|gC Od<|gC wL<|gC ael<|AJ
def TU(x:Y1×Int×Int×Int×A2):Option ((Y3×Bool×A2)×A2):=(I2 (x.1,())).bind λe=>if !e.1.1 then I (((0,0,0,0,0,0,0,0,0,noB,()),A3,()),()) else if !x.1.2.1 then I (((0,0,0,0,0,0,0,0,0,noB,()),A3,()),()) else(By (x.2.2.2.1,0,999,())).bind λf=>if !f.1.1 then I (((0,0,0,0,0,0,0,0,0,noB,()),A3,()),()) else(IU (x.1,())).bind λa=>(I8 (a.1.1.2.2.2.1,x.2.1,x.2.2.1,())).bind λb=>if A0 (b.1.1<0) then I (((0,0,0,0,0,0,0,0,0,noB,()),A3,()),()) else if inb b.1.1 a.1.1.2.2.2.1.length then let g:=(rd (dfl .note) a.1.1.2.2.2.1 b.1.1).fr;let h:=(rd (dfl .note) a.1.1.2.2.2.1 b.1.1).nu;let c:=(rd (dfl .note) a.1.1.2.2.2.1 b.1.1).to;let i:=(rd (dfl .note) a.1.1.2.2.2.1 b.1.1).un;let d:=(rd (dfl .note) a.1.1.2.2.2.1 b.1.1).tx;(J5 (x.1.1,c,())).bind λj=>(W4 (d,x.2.2.2)).bind λk=>I (((1,x.1.1,j.1.1,g,h,c,i,(d.size:Int),x.2.2.2.1,k.1),A1,()),()) else U
def aa7:Ent:=(101,U,⟨[Z14,.int .i64,.int .i64,.int .i64],[Z4,.bool],TU⟩)
def akU:SQ Tryz.prog aa7:=sk (v:= .nil) (fn:=Tryz.f101) amH kN
def afH:Cx:=cX [Ra,WT] [] []
def ajz:OKC Tryz.prog afH AF:=okc mixed<|gC TC<|gC gr<|AJ
def Zr(x:Y7×Int×A2):Option ((Y7×A2)×A2):=(Nr (x.1,())).bind λc=>if !c.1.1 then I (((noB,0,()),()),()) else if A0 (0<=(w64<|x.1.2.1+(if 0<(if(w64<|(x.1.1.size:Int) - x.1.2.1)<x.2.1 then(w64<|(x.1.1.size:Int) - x.1.2.1) else x.2.1) then(if(w64<|(x.1.1.size:Int) - x.1.2.1)<x.2.1 then(w64<|(x.1.1.size:Int) - x.1.2.1) else x.2.1) else 0)))&&A0 ((w64<|x.1.2.1+(if 0<(if(w64<|(x.1.1.size:Int) - x.1.2.1)<x.2.1 then(w64<|(x.1.1.size:Int) - x.1.2.1) else x.2.1) then(if(w64<|(x.1.1.size:Int) - x.1.2.1)<x.2.1 then(w64<|(x.1.1.size:Int) - x.1.2.1) else x.2.1) else 0))<=(x.1.1.size:Int)) then let b:=(x.1.1.extract (0)<|AK<|w64<|x.1.2.1+(if 0<(if(w64<|(x.1.1.size:Int) - x.1.2.1)<x.2.1 then(w64<|(x.1.1.size:Int) - x.1.2.1) else x.2.1) then(if(w64<|(x.1.1.size:Int) - x.1.2.1)<x.2.1 then(w64<|(x.1.1.size:Int) - x.1.2.1) else x.2.1) else 0));(P2 (b,())).bind λa=>if A0 (0<=a.1.2.1)&&A0 (a.1.2.1<=(b.size:Int)) then let d:=(b.extract (0)<|AK a.1.2.1);I (((d,a.1.2),()),()) else U else U
def aBa:Ent:=(145,U,⟨[Z15,.int .i64],[Z15],Zr⟩)
def amE:SQ Tryz.prog aBa:=sk (v:= .nil) (fn:=Tryz.f145) ajz kN
def avs:Cx:=cX [JL,aBa] [] []
def aq8:OKC Tryz.prog avs AF:=okc mixed<|gC Jt<|gC amE<|AJ
def Uj(x:Y1×Int×A2):Option ((Y1×A2)×A2):=(I2 (x.1,())).bind λb=>if !b.1.1 then I (((0,A3,noB,0,([]:List AG),()),()),()) else(Zr ((x.1.2.2.1,x.1.2.2.2.1,()),x.2)).bind λa=>I (((x.1.1,A3,a.1.1.1,a.1.1.2.1,([]:List AG),()),()),())
def aeN:Ent:=(102,U,⟨[Z14,.int .i64],[Z1],Uj⟩)
def aoB:SQ Tryz.prog aeN:=sk (v:= .nil) (fn:=Tryz.f102) aq8 kN
def afn:Cx:=cX [JL,LL] [] []
def axw:OKC Tryz.prog afn AF:=okc mixed<|gC Jt<|gC Mj<|AJ
def Sw(x:Y1×A2):Option ((Y1×A2)×A2):=(I2 x).bind λb=>if !b.1.1 then I (((0,A3,noB,0,([]:List AG),()),()),()) else(Hc x).bind λa=>I (((a.1.1.1,A1,a.1.1.2.2),()),())
def xC:Ent:=(103,U,⟨[Z14],[Z1],Sw⟩)
def akz:SQ Tryz.prog xC:=sk (v:= .nil) (fn:=Tryz.f103) axw kN
def akV:Cx:=cX [LU,JL,LL,NC,aS,Vo] [] [(29,30)]
def aqs:OKC Tryz.prog akV AF:=okc mixed<|gC Lj<|gC Jt<|gC Mj<|gC Od<|gC kP<|gC eH<|AJ
def So(x:Y1×Int×Int×A2):Option ((Y1×Y5×Bool×A2)×A2):=(I2 (x.1,())).bind λd=>if !d.1.1 then I (((0,A3,noB,0,([]:List AG),()),(0,0,0,0,noB,()),A3,()),()) else(IU (x.1,())).bind λa=>(I8 (a.1.1.2.2.2.2.2.1,x.2)).bind λb=>if(!x.1.2.1)||(A0<|b.1.1<0) then(Hc (x.1,())).bind λe=>I ((e.1.1,(0,0,0,0,noB,()),A3,()),()) else if inb b.1.1 a.1.1.2.2.2.2.2.1.length then(PV ((B [101,97,116]),x.2.1,x.2.2.1,(rd (dfl .note) a.1.1.2.2.2.2.2.1 b.1.1).un,())).bind λf=>(OI (x.1,f.1)).bind λc=>if !c.1.2.1 then I ((c.1.1,(0,0,0,0,noB,()),A3,()),()) else if inb b.1.1 a.1.1.2.2.2.2.2.1.length then let g:=(rd (dfl .note) a.1.1.2.2.2.2.2.1 b.1.1).fr;let h:=(rd (dfl .note) a.1.1.2.2.2.2.2.1 b.1.1).nu;let i:=(rd (dfl .note) a.1.1.2.2.2.2.2.1 b.1.1).to;let j:=(rd (dfl .note) a.1.1.2.2.2.2.2.1 b.1.1).un;let k:=(rd (dfl .note) a.1.1.2.2.2.2.2.1 b.1.1).tx;I ((c.1.1,(g,h,i,j,k,()),A1,()),()) else U else U
def vP:Ent:=(104,U,⟨[Z14,.int .i64,.int .i64],[Z1,Z8,.bool],So⟩)
def amg:SQ Tryz.prog vP:=sk (v:= .nil) (fn:=Tryz.f104) aqs kN
def avb:Cx:=cX [LU,JL,LL,p6,p8] [] []
def axt:OKC Tryz.prog avb AF:=okc mixed<|gC Lj<|gC Jt<|gC Mj<|gC acH<|gC ady<|AJ
def Ud(x:Y1×A2):Option ((Y1×Bool×A2)×A2):=(I2 x).bind λc=>if !c.1.1 then I (((0,A3,noB,0,([]:List AG),()),A3,()),()) else(Hc x).bind λa=>if !x.1.2.1 then I ((a.1.1,A3,()),()) else(IU x).bind λd=>(Ry d.1).bind λe=>(Pr ((x.1.2.2.1,x.1.2.2.2.1,()),e.1)).bind λb=>I (((a.1.1.1,a.1.1.2.1,b.1.1.1,b.1.1.2.1,a.1.1.2.2.2.2),b.1.2),())
def abd:Ent:=(105,U,⟨[Z14],[Z1,.bool],Ud⟩)
def afz:SQ Tryz.prog abd:=sk (v:= .nil) (fn:=Tryz.f105) axt kN
def ayQ:Cx:=cX [JL,LL,Zl] [] [(15,22)]
def auK:OKC Tryz.prog ayQ AF:=okc mixed<|gC Jt<|gC Mj<|gC mD<|AJ
def T7(x:Y1×A2):Option ((Y1×Bool×A2)×A2):=(I2 x).bind λb=>if !b.1.1 then I (((0,A3,noB,0,([]:List AG),()),A3,()),()) else(Hc x).bind λa=>if(!x.1.2.1)||(A0<|x.1.2.2.2.1=(x.1.2.2.1.size:Int)) then I ((a.1.1,A3,()),()) else(Nd a.1).bind λc=>I ((c.1.1,A1,()),())
def aAg:Ent:=(106,U,⟨[Z14],[Z14,.bool],T7⟩)
def ak3:SQ Tryz.prog aAg:=sk (v:= .nil) (fn:=Tryz.f106) auK kN
def ahj:Cx:=cX [JN,pB,rU,tb,aa7,aeN,xC,vP,abd,aAg] [] []
def ayU:OKC Tryz.prog ahj AF:=okc mixed<|gC KX<|gC acR<|gC aq2<|gC awz<|gC akU<|gC aoB<|gC akz<|gC amg<|gC afz<|gC ak3<|AJ
def Pj(x:Y2×Y3×A2):Option ((Bool×A2)×(Y2×A2)):=(FT (x.2.1.2.1,())).bind λj=>if !j.1.1 then I ((A3,()),(x.1,())) else if inb x.2.1.2.1 x.1.2.1.length then let e:=(rd (dfl .AL) x.1.2.1 x.2.1.2.1).id;let a:=(rd (dfl .AL) x.1.2.1 x.2.1.2.1).up;let f:=(rd (dfl .AL) x.1.2.1 x.2.1.2.1).log;let g:=(rd (dfl .AL) x.1.2.1 x.2.1.2.1).fo;let h:=(rd (dfl .AL) x.1.2.1 x.2.1.2.1).AM;(B8 (X:=Y2×Y3×Y1×Bool×A2) (λc=>if inb c.2.1.2.1 c.1.2.1.length then I (c.2.2.2,((c.1.1,(Bn c.1.2.1 (AK c.2.1.2.1)<|AA.mk c.2.2.1.1 c.2.2.1.2.1 c.2.2.1.2.2.1 c.2.2.1.2.2.2.1 c.2.2.1.2.2.2.2.1),c.1.2.2),())) else U)<|(if A0 (x.2.1.1=1) then if A0 (6<=(x.1.2.2.2.2.1.length:Int)) then I (.inl ((A3,()),(x.1,()))) else(Uo ((e,a,f,g,h,()),x.2.1.2.2.2.2.2.2.2)).bind λi=>if A0 (i.1.2.1=0) then I (.inl ((A3,()),(x.1,()))) else if Ab (x.1.2.2.2.2.1.length+([(A7.mk x.2.1.2.1 i.1.2.1 x.2.1.2.2.2.2.2.2.2.1 x.2.1.2.2.2.2.2.2.2.2.1 x.2.1.2.2.2.2.2.2.2.2.2.1)]:List A7).length) then I (.inr ((x.1.1,x.1.2.1,x.1.2.2.1,x.1.2.2.2.1,(x.1.2.2.2.2.1++([(A7.mk x.2.1.2.1 i.1.2.1 x.2.1.2.2.2.2.2.2.2.1 x.2.1.2.2.2.2.2.2.2.2.1 x.2.1.2.2.2.2.2.2.2.2.2.1)]:List A7)),x.1.2.2.2.2.2),x.2.1,i.1.1,A1,())) else U else if A0 (x.2.1.1=2) then(Tk ((e,a,f,g,h,()),())).bind λk=>I (.inr (x.1,x.2.1,k.1)) else if A0 (x.2.1.1=3) then(TU ((e,a,f,g,h,()),x.2.1.2.2.1,x.2.1.2.2.2.1,x.2.1.2.2.2.2.2.1,())).bind λb=>if b.1.2.1 then(N2 (x.1,([(Frame.mk b.1.1.1 b.1.1.2.1 b.1.1.2.2.1 b.1.1.2.2.2.1 b.1.1.2.2.2.2.1 b.1.1.2.2.2.2.2.1 b.1.1.2.2.2.2.2.2.1 b.1.1.2.2.2.2.2.2.2.1 b.1.1.2.2.2.2.2.2.2.2.1 b.1.1.2.2.2.2.2.2.2.2.2.1)]:List Frame),())).bind λl=>I (.inr (l.2.1,x.2.1,(e,a,f,g,h,()),b.1.2)) else I (.inr (x.1,x.2.1,(e,a,f,g,h,()),b.1.2)) else if A0 (x.2.1.1=7) then(Uj ((e,a,f,g,h,()),x.2.1.2.2.2.2.2.2.1,())).bind λm=>I (.inr (x.1,x.2.1,m.1.1,a,())) else if A0 (x.2.1.1=8) then(Sw ((e,a,f,g,h,()),())).bind λn=>I (.inr (x.1,x.2.1,n.1.1,(!a),())) else if A0 (x.2.1.1=11) then if A0 (6<=(x.1.2.2.2.2.2.1.length:Int)) then I (.inl ((A3,()),(x.1,()))) else(So ((e,a,f,g,h,()),x.2.1.2.2.1,x.2.1.2.2.2.1,())).bind λd=>if !d.1.2.2.1 then I (.inl ((A3,()),(x.1,()))) else if Ab (x.1.2.2.2.2.2.1.length+([(A7.mk d.1.2.1.1 d.1.2.1.2.1 d.1.2.1.2.2.1 d.1.2.1.2.2.2.1 d.1.2.1.2.2.2.2.1)]:List A7).length) then I (.inr ((x.1.1,x.1.2.1,x.1.2.2.1,x.1.2.2.2.1,x.1.2.2.2.2.1,(x.1.2.2.2.2.2.1++([(A7.mk d.1.2.1.1 d.1.2.1.2.1 d.1.2.1.2.2.1 d.1.2.1.2.2.2.1 d.1.2.1.2.2.2.2.1)]:List A7)),()),x.2.1,d.1.1,A1,())) else U else if A0 (x.2.1.1=12) then(Ud ((e,a,f,g,h,()),())).bind λo=>I (.inr (x.1,x.2.1,o.1)) else if A0 (x.2.1.1=13) then(T7 ((e,a,f,g,h,()),())).bind λp=>I (.inr (x.1,x.2.1,p.1)) else I (.inr (x.1,x.2.1,(e,a,f,g,h,()),A3,())))) else U
def adj:Ent:=(56,U,⟨[Z2,Z4],[.bool],Pj⟩)
def ata:SQ Tryz.prog adj:=sk (v:=t1<|t1<|t1<|t1<|.join [(0,Z2),(3,Z27),(5,Z37),(6,.bool)] .nil .nil) (fn:=Tryz.f56) ayU kN
def al4:Cx:=cX [ach,uk,x8,adj] [] [(28,30)]
def arD:OKC Tryz.prog al4 AF:=okc mixed<|gC awl<|gC anw<|gC ak7<|gC ata<|AJ
def XJ(x:Y2×Y3×A2):Option ((Y2×Bool×A2)×A2):=(MQ (x.1,())).bind λc=>(B8 (X:=Y2×Y2×Y2×Bool×A2) (λb=>if(!b.2.2.2.1)||(A0<|b.1.1=99999) then(MQ (b.1,())).bind λm=>I ((m.1.1,A3,()),()) else(MQ (((w64<|b.2.2.1.1+1),b.2.2.1.2),())).bind λn=>I ((n.1.1,A1,()),()))<|(B8 (X:=Y2×Y3×Y2×Y2×Int×Bool×A2) (λa=>if a.2.2.2.2.2.1 then(XH (a.2.2.2.1,a.2.1,())).bind λd=>I (.inr (a.1,a.2.2.1,d.2.1,d.1)) else let e:=(A0<|a.2.2.2.2.1=4);(if e then if e then(Rj (a.2.2.2.1,a.2.1,())).bind λf=>I (.inr (a.1,a.2.2.1,f.2.1,f.1)) else(Pj (a.2.2.2.1,a.2.1,())).bind λg=>I (.inr (a.1,a.2.2.1,g.2.1,g.1)) else let h:=(A0<|a.2.2.2.2.1=5);(if h then if h then(Rj (a.2.2.2.1,a.2.1,())).bind λi=>I (.inr (a.1,a.2.2.1,i.2.1,i.1)) else(Pj (a.2.2.2.1,a.2.1,())).bind λj=>I (.inr (a.1,a.2.2.1,j.2.1,j.1)) else let o:=(A0<|a.2.2.2.2.1=6);(if o then(Rj (a.2.2.2.1,a.2.1,())).bind λk=>I (.inr (a.1,a.2.2.1,k.2.1,k.1)) else(Pj (a.2.2.2.1,a.2.1,())).bind λl=>I<|.inr (a.1,a.2.2.1,l.2.1,l.1)))))<|(if A0 (x.2.1.1=9) then I (.inr (x.1,x.2.1,(0,([]:List AA),([]:List Bool),([]:List AR),([]:List A7),([]:List A7),()),c.1.1,x.2.1.1,(A0<|x.2.1.1=9),())) else I (.inr (x.1,x.2.1,(0,([]:List AA),([]:List Bool),([]:List AR),([]:List A7),([]:List A7),()),c.1.1,x.2.1.1,(A0<|x.2.1.1=10),())))))
def aaT:Ent:=(31,U,⟨[Z30,Z4],[Z3,.bool],XJ⟩)
def am2:SQ Tryz.prog aaT:=sk (v:=t1<|t1<|t1<|.join [(2,Z29),(4,Z2),(6,Z2),(7,.bool)] (t1<|.one<|.join [(2,Z29),(3,Z27),(4,Z2),(6,Z2),(11,.int .i64),(14,.bool)] .nil .nil) .nil) (fn:=Tryz.f31) arD kN
def apR:Cx:=cX [ju,aaT] [] []
def ami:OKC Tryz.prog apR AF:=okc mixed<|gC tL<|gC am2<|AJ
def Fe(x:Y2×Y3×A2):Option ((Y2×Bool×A2)×A2):=(Pg (x.1,())).bind λa=>if !a.1.1 then I (((0,([]:List AA),([]:List Bool),([]:List AR),([]:List A7),([]:List A7),()),A3,()),()) else(XJ x).bind λb=>I (b.1,())
def MV:Ent:=(13,U,⟨[Z30,Z4],[Z3,.bool],Fe⟩)
def NE:SQ Tryz.prog MV:=sk (v:= .nil) (fn:=Tryz.f13) ami kN
def apu:Cx:=cX [] [] []
def aAc:OKC Tryz.prog apu AF:=okc mixed<|AJ
def V2(x:List A7×List A7×Int×A2):Rnd (List A7×List A7×Int×A2) (Bool×A2) (A2):=if A0 (x.2.2.1<(x.1.length:Int)) then if inb x.2.2.1 x.1.length then if inb x.2.2.1 x.2.1.length then if !(OS ((rd (dfl .note) x.1 x.2.2.1).fr) ((rd (dfl .note) x.1 x.2.2.1).nu) ((rd (dfl .note) x.1 x.2.2.1).to) ((rd (dfl .note) x.1 x.2.2.1).un) ((rd (dfl .note) x.1 x.2.2.1).tx) ((rd (dfl .note) x.2.1 x.2.2.1).fr) ((rd (dfl .note) x.2.1 x.2.2.1).nu) ((rd (dfl .note) x.2.1 x.2.2.1).to) ((rd (dfl .note) x.2.1 x.2.2.1).un)<|(rd (dfl .note) x.2.1 x.2.2.1).tx) then I (.inr<|.inl (A3,())) else I (.inl (x.1,x.2.1,(w64<|x.2.2.1+1),())) else U else U else I (.inr<|.inr ())
def fv:=AZ V2
def zI:Loop:=⟨[(0,.sl .note),(1,.sl .note),(5,.int .i64)],[],0,[(4,.bool)],fv⟩
def azl:LF Tryz.f17 [] [1,1,0,1,0,0] zI:=sq (v:= .nil) aAc (b:=V2) kN
def L5(x:List A7×List A7×A2):Option ((Bool×A2)×A2):=if !decide ((x.1.length:Int)=(x.2.1.length:Int)) then I ((A3,()),()) else(AS (fv (x.1,x.2.1,0,())) (λa=>I (a,())) λa=>I ((A1,()),()))
def nJ:Ent:=(17,U,⟨[.fz .note,.fz .note],[.bool],L5⟩)
def aAf:SQ Tryz.prog nJ:=sk (v:=t1<|t1<|.two (t1<|.one<|.loop zI) .nil) (fn:=Tryz.f17) aAc<|kC azl kN
def atI:Cx:=cX [] [] []
def gw:OKC Tryz.prog atI AF:=okc mixed<|AJ
def RD(x:List AG×List AG×Int×Int×A2):Rnd (List AG×List AG×Int×Int×A2) (Bool×A2) (List AG×List AG×Int×A2):=if inb x.2.2.1 x.1.length then if A0 (x.2.2.2.1<(((rd (dfl .half) x.1 x.2.2.1).got).length:Int)) then if inb x.2.2.1 x.1.length then if inb x.2.2.2.1 (((rd (dfl .half) x.1 x.2.2.1).got).length) then if inb x.2.2.1 x.2.1.length then if inb x.2.2.2.1 (((rd (dfl .half) x.2.1 x.2.2.1).got).length) then if !(A0 ((rd (dfl .mixed) ((rd (dfl .half) x.1 x.2.2.1).got) x.2.2.2.1).nu=(rd (dfl .mixed) ((rd (dfl .half) x.2.1 x.2.2.1).got) x.2.2.2.1).nu)&&(A0 ((rd (dfl .mixed) ((rd (dfl .half) x.1 x.2.2.1).got) x.2.2.2.1).da=(rd (dfl .mixed) ((rd (dfl .half) x.2.1 x.2.2.1).got) x.2.2.2.1).da)&&A1)) then I (.inr<|.inl (A3,())) else I (.inl (x.1,x.2.1,x.2.2.1,(w64<|x.2.2.2.1+1),())) else U else U else U else U else I (.inr<|.inr (x.1,x.2.1,x.2.2.1,())) else U
def l7:=AZ RD
def tP:Loop:=⟨[(0,.sl .half),(1,.sl .half),(5,.int .i64),(6,.int .i64)],[(0,.sl .half),(1,.sl .half),(5,.int .i64)],2,[(4,.bool)],l7⟩
def avY:LF Tryz.f40 [] [1,1,0,1,0,0,1,0,0,1,1,0,0] tP:=sq (v:= .nil) gw (b:=RD) kN
def Qf(x:List AG×List AG×Int×A2):Rnd (List AG×List AG×Int×A2) (Bool×A2) (A2):=if A0 (x.2.2.1<(x.1.length:Int)) then if inb x.2.2.1 x.1.length then if inb x.2.2.1 x.2.1.length then if !decide ((rd (dfl .half) x.1 x.2.2.1).fr=(rd (dfl .half) x.2.1 x.2.2.1).fr) then I (.inr<|.inl (A3,())) else if inb x.2.2.1 x.1.length then if inb x.2.2.1 x.2.1.length then if !decide ((rd (dfl .half) x.1 x.2.2.1).nu=(rd (dfl .half) x.2.1 x.2.2.1).nu) then I (.inr<|.inl (A3,())) else if inb x.2.2.1 x.1.length then if inb x.2.2.1 x.2.1.length then if !decide ((rd (dfl .half) x.1 x.2.2.1).to=(rd (dfl .half) x.2.1 x.2.2.1).to) then I (.inr<|.inl (A3,())) else if inb x.2.2.1 x.1.length then if inb x.2.2.1 x.2.1.length then if !decide ((rd (dfl .half) x.1 x.2.2.1).un=(rd (dfl .half) x.2.1 x.2.2.1).un) then I (.inr<|.inl (A3,())) else if inb x.2.2.1 x.1.length then if inb x.2.2.1 x.2.1.length then if !decide ((rd (dfl .half) x.1 x.2.2.1).sz=(rd (dfl .half) x.2.1 x.2.2.1).sz) then I (.inr<|.inl (A3,())) else if inb x.2.2.1 x.1.length then if inb x.2.2.1 x.2.1.length then if !decide ((((rd (dfl .half) x.1 x.2.2.1).got).length:Int)=(((rd (dfl .half) x.2.1 x.2.2.1).got).length:Int)) then I (.inr<|.inl (A3,())) else(AS (l7 (x.1,x.2.1,x.2.2.1,0,())) (λa=>I<|.inr<|.inl a) λa=>I<|.inl (a.1,a.2.1,(w64<|a.2.2.1+1),())) else U else U else U else U else U else U else U else U else U else U else U else U else I (.inr<|.inr ())
def nD:=AZ Qf
def uG:Loop:=⟨[(0,.sl .half),(1,.sl .half),(5,.int .i64)],[],0,[(4,.bool)],nD⟩
def akG:LF Tryz.f40 [] [1,1,0,1,0,0] uG:=sq (v:=t1<|.two (.one<|t1<|t1<|.one<|.loop tP) .nil) gw (b:=Qf)<|kC avY kN
def Mf(x:List AG×List AG×A2):Option ((Bool×A2)×A2):=if !decide ((x.1.length:Int)=(x.2.1.length:Int)) then I ((A3,()),()) else(AS (nD (x.1,x.2.1,0,())) (λa=>I (a,())) λa=>I ((A1,()),()))
def qQ:Ent:=(40,U,⟨[.fz .half,.fz .half],[.bool],Mf⟩)
def ayC:SQ Tryz.prog qQ:=sk (v:=t1<|t1<|.two (t1<|.one<|.loop uG) .nil) (fn:=Tryz.f40) gw<|kC akG kN
def awu:Cx:=cX [qQ] [] [(25,29)]
def anC:OKC Tryz.prog awu AF:=okc mixed<|gC ayC<|AJ
def LQ(x:Y1×Y1×A2):Option ((Bool×A2)×A2):=if A0 (x.1.1=x.2.1.1) then if A0 (x.1.2.1=x.2.1.2.1) then if Ah (A0 (x.1.2.2.1=x.2.1.2.2.1)&&(A0 (x.1.2.2.2.1=x.2.1.2.2.2.1)&&A1)) ((Mf (x.1.2.2.2.2.1,x.2.1.2.2.2.2)).isSome) then let a:=((A0 (x.1.2.2.1=x.2.1.2.2.1)&&(A0 (x.1.2.2.2.1=x.2.1.2.2.2.1)&&A1))&&(((Mf (x.1.2.2.2.2.1,x.2.1.2.2.2.2)).getD ((A3,()),())).1.1));I ((a,()),()) else U else if Ah A3 ((Mf (x.1.2.2.2.2.1,x.2.1.2.2.2.2)).isSome) then I ((A3,()),()) else U else if Ah A3 ((Mf (x.1.2.2.2.2.1,x.2.1.2.2.2.2)).isSome) then I ((A3,()),()) else U
def Sk:Ent:=(18,U,⟨[Z14,Z14],[.bool],LQ⟩)
def XG:SQ Tryz.prog Sk:=sk (v:= .nil) (fn:=Tryz.f18) anC kN
def apl:Cx:=cX [nJ,Sk] [] []
def bS:OKC Tryz.prog apl AF:=okc mixed<|gC aAf<|gC XG<|AJ
def Tt(x:Y2×Y2×Int×A2):Rnd (Y2×Y2×Int×A2) (Bool×A2) (A2):=if A0 (x.2.2.1<(x.1.2.2.2.1.length:Int)) then if inb x.2.2.1 x.1.2.2.2.1.length then if inb x.2.2.1 x.2.1.2.2.2.1.length then if !(A0 ((rd (dfl .Ad) x.1.2.2.2.1 x.2.2.1).src=(rd (dfl .Ad) x.2.1.2.2.2.1 x.2.2.1).src)&&(A0 ((rd (dfl .Ad) x.1.2.2.2.1 x.2.2.1).dst=(rd (dfl .Ad) x.2.1.2.2.2.1 x.2.2.1).dst)&&(A0 ((rd (dfl .Ad) x.1.2.2.2.1 x.2.2.1).data=(rd (dfl .Ad) x.2.1.2.2.2.1 x.2.2.1).data)&&(A0 ((rd (dfl .Ad) x.1.2.2.2.1 x.2.2.1).sp=(rd (dfl .Ad) x.2.1.2.2.2.1 x.2.2.1).sp)&&A1)))) then I (.inr<|.inl (A3,())) else I (.inl (x.1,x.2.1,(w64<|x.2.2.1+1),())) else U else U else I (.inr<|.inr ())
def lU:=AZ Tt
def abw:Loop:=⟨[(2,Z29),(3,Z29),(7,.int .i64)],[],4,[(4,.bool)],lU⟩
def aoj:LF Tryz.f14 [] [1,1,1,1,0,1,0,0] abw:=sq (v:= .nil) bS (b:=Tt) kN
def S2(x:Y2×Y2×Int×A2):Rnd (Y2×Y2×Int×A2) (Bool×A2) (Y2×Y2×A2):=if A0 (x.2.2.1<(x.1.2.2.1.length:Int)) then if inb x.2.2.1 x.1.2.2.1.length then if inb x.2.2.1 x.2.1.2.2.1.length then if !decide ((rd (dfl .bool) x.1.2.2.1 x.2.2.1)=(rd (dfl .bool) x.2.1.2.2.1 x.2.2.1)) then I (.inr<|.inl (A3,())) else I (.inl (x.1,x.2.1,(w64<|x.2.2.1+1),())) else U else U else I (.inr<|.inr (x.1,x.2.1,()))
def fU:=AZ S2
def wx:Loop:=⟨[(2,Z29),(3,Z29),(6,.int .i64)],[(2,Z29),(3,Z29)],2,[(4,.bool)],fU⟩
def az9:LF Tryz.f14 [] [1,1,1,0,1,0,0] wx:=sq (v:= .nil) bS (b:=S2) kN
def V4(x:Y2×Y2×Int×A2):Rnd (Y2×Y2×Int×A2) (Bool×A2) (Y2×Y2×A2):=if A0 (x.2.2.1<(x.1.2.1.length:Int)) then if inb x.2.2.1 x.1.2.1.length then if inb x.2.2.1 x.2.1.2.1.length then(LQ (((rd (dfl .AL) x.1.2.1 x.2.2.1).id,(rd (dfl .AL) x.1.2.1 x.2.2.1).up,(rd (dfl .AL) x.1.2.1 x.2.2.1).log,(rd (dfl .AL) x.1.2.1 x.2.2.1).fo,(rd (dfl .AL) x.1.2.1 x.2.2.1).AM,()),((rd (dfl .AL) x.2.1.2.1 x.2.2.1).id,(rd (dfl .AL) x.2.1.2.1 x.2.2.1).up,(rd (dfl .AL) x.2.1.2.1 x.2.2.1).log,(rd (dfl .AL) x.2.1.2.1 x.2.2.1).fo,(rd (dfl .AL) x.2.1.2.1 x.2.2.1).AM,()),())).bind λa=>if !a.1.1 then I (.inr<|.inl (A3,())) else I (.inl (x.1,x.2.1,(w64<|x.2.2.1+1),())) else U else U else I (.inr<|.inr (x.1,x.2.1,()))
def j0:=AZ V4
def sC:Loop:=⟨[(2,Z29),(3,Z29),(5,.int .i64)],[(2,Z29),(3,Z29)],0,[(4,.bool)],j0⟩
def ajv:LF Tryz.f14 [] [1,1,0,1,0,0] sC:=sq (v:= .nil) bS (b:=V4) kN
def DZ(x:Y2×Y2×A2):Option ((Bool×A2)×A2):=if !decide (x.1.1=x.2.1.1) then I ((A3,()),()) else if !decide ((x.1.2.1.length:Int)=(x.2.1.2.1.length:Int)) then I ((A3,()),()) else if !decide ((x.1.2.2.1.length:Int)=(x.2.1.2.2.1.length:Int)) then I ((A3,()),()) else if !decide ((x.1.2.2.2.1.length:Int)=(x.2.1.2.2.2.1.length:Int)) then I ((A3,()),()) else(L5 (x.1.2.2.2.2.1,x.2.1.2.2.2.2.1,())).bind λd=>if !d.1.1 then I ((A3,()),()) else(L5 (x.1.2.2.2.2.2.1,x.2.1.2.2.2.2.2)).bind λe=>if !e.1.1 then I ((A3,()),()) else(AS (j0 (x.1,x.2.1,0,())) (λa=>I (a,())) λa=>(AS (fU (a.1,a.2.1,0,())) (λb=>I (b,())) λb=>(AS (lU (b.1,b.2.1,0,())) (λc=>I (c,())) λc=>I ((A1,()),()))))
def MK:Ent:=(14,U,⟨[Z30,Z30],[.bool],DZ⟩)
def Nn:SQ Tryz.prog MK:=sk (v:=t1<|t1<|.two (t1<|.one<|.loop sC)<|.two (t1<|.one<|.loop wx)<|.two (t1<|.one<|.loop abw) .nil) (fn:=Tryz.f14) bS<|kC ajv<|kC az9<|kC aoj kN
end Go.VS
end
