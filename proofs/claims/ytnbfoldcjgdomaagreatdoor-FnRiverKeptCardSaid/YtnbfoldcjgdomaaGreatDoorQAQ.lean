/- Part 7. -/
import Derived.Test.YtnbfoldcjgdomaaGreatDoorQAP
open Bool renaming false->A0,true->Y
open Decidable renaming decide->U
open Int renaming tdiv->B1,tmod->BL,toNat->AM
open List renaming drop->Br,length->j8,replicate->BS,set->Bq,take->BR
open Option renaming none->G,some->I
set_option linter.all false
noncomputable section
namespace Go.VS
open Go Go.Proofs Tryz
set_option linter.unusedVariables false
set_option maxRecDepth 100000
def VB:y7 Lc:=soX (fn:=f67) (l:=5) (g:=9) ain aIn rfl aIn ayL ayK
def aey:Cx:=cX [Ld,aBG,J3,Lc] [] []
def ah9:y9 aey:=aIe<|gC Mg<|gC aer<|gC Ji<|gC VB<|AI
def VO(x:Y10×D):Option (D×Y10×D):=(Cg (x.1.1,4,())).bind λc=>(gT (c.2.1,([(B [97]),(B [104,101,108,108,111]),(B [97,32,108,111,110,103,101,114,32,109,101,115,115,97,103,101]),(B [97,98,99,100]),(B [49,50,51,52,53,54,55,56]),(B [106,117,115,116,32,116,119,101,110,116,121,45,102,111,117,114,32,98,121,116,101,115,32,33,33]),(B [109,105,120,101,100,32,98,108,111,99,107,115])]:List A1),())).bind λb=>(BT (X:=Y10×Int×A1×D) (λa=>if inb a.2.1 a.1.2.2.1.length then(GC (((rd aIh a.1.2.2.1 a.2.1).id,(rd aIh a.1.2.2.1 a.2.1).up,(rd aIh a.1.2.2.1 a.2.1).log,(rd aIh a.1.2.2.1 a.2.1).fo,(rd aIh a.1.2.2.1 a.2.1).AJ,()),())).bind λf=>(Cg (a.1.1,4,())).bind λd=>(Cg (d.2.1,12,())).bind λe=>(Fq ((e.2.1,a.1.2),(1,a.2.1,0,0,0,0,0,d.1.1,(w64<|(w64<|f.1.1.2.1+1)+e.1.1),a.2.2),())).bind λg=>I ((),g.2) else G)<|(if U (24<(b.1.1.size:Int)) then if U (0<=24)&&U (24<=(b.1.1.size:Int)) then let h:=(b.1.1.extract (0)<|AM 24);I (.inr ((b.2.1,x.1.2),c.1.1,h,())) else G else I (.inr ((b.2.1,x.1.2),c.1.1,b.1))))
def uU:Ent:=(38,G,⟨[Z22],[],VO⟩)
def acK:y7 uU:=sk (v:=t1<|t1<|.join [(0,Z24),(2,j6),(3,.str)] .nil .nil) (fn:=f38) ah9 kN
def adz:Cx:=cX [Ld,Lc] [] [(12,18)]
def vu:y9 adz:=aIe<|gC Mg<|gC VB<|AI
def sA(x:Y10×aIj):Rnd (Y10×aIj) D (Y10×D):=if(U<|x.2.2.2.1<x.2.1)&&(U<|0<(j8 x.1.2.2.2.2.1:Int)) then(BT (X:=Y10×Int×Int×Int×Y6×D) (λe=>(BT (X:=Y10×Int×Int×Int×Y6×D) (λc=>(BT (X:=Y10×Int×Int×Int×Y6×Bool×D) (λb=>if b.2.2.2.2.2.1 then(Cg (b.1.1,17,())).bind λg=>(Cg (g.2.1,255,())).bind λh=>(Fq ((h.2.1,b.1.2),(b.2.2.2.2.1.1,b.2.2.2.2.1.2.1,b.2.2.2.2.1.2.2.1,b.2.2.2.2.1.2.2.2.1,b.2.2.2.2.1.2.2.2.2.1,g.1.1,(w64<|1+h.1.1),b.2.2.2.2.1.2.2.2.2.2.2.2),())).bind λo=>I (.inl (o.2.1,b.2.1,b.2.2.1,(w64<|b.2.2.2.1+1),())) else I (.inl (b.1,b.2.1,b.2.2.1,(w64<|b.2.2.2.1+1),())))<|(if U (c.2.2.2.2.1.1=6) then(Cg (c.1.1,2,())).bind λi=>I (.inr ((i.2.1,c.1.2),c.2.1,c.2.2.1,c.2.2.2.1,c.2.2.2.2.1,(U<|i.1.1=0),())) else I (.inr (c.1,c.2.1,c.2.2.1,c.2.2.2.1,c.2.2.2.2.1,A0,())))))<|(Fq (e.1,e.2.2.2.2)).bind λf=>if !f.1.1 then(Fq (f.2.1,(5,0,0,0,0,0,0,0,0,noB,()),())).bind λp=>I (.inr (p.2.1,e.2)) else I (.inr (f.2.1,e.2))))<|(BT (X:=Y10×Int×Int×Int×Y6×Bool×D) (λa=>if a.2.2.2.2.2.1 then(Cg (a.1.1,5,())).bind λd=>if U (d.1.1=0) then I (.inr ((d.2.1,a.1.2),a.2.1,a.2.2.1,a.2.2.2.1,(5,a.2.2.2.2.1.2),())) else if U (d.1.1=1) then I (.inr ((d.2.1,a.1.2),a.2.1,a.2.2.1,a.2.2.2.1,(a.2.2.2.2.1.1,a.2.2.2.2.1.2.1,a.2.2.2.2.1.2.2.1,a.2.2.2.2.1.2.2.2.1,a.2.2.2.2.1.2.2.2.2.1,a.2.2.2.2.1.2.2.2.2.2.1,1,a.2.2.2.2.1.2.2.2.2.2.2.2),())) else if U (d.1.1=2) then(Cg (d.2.1,(j8 a.1.2.2.2.2.1:Int),())).bind λj=>(Cg (j.2.1,17,())).bind λk=>(Cg (k.2.1,255,())).bind λl=>I (.inr ((l.2.1,a.1.2),a.2.1,a.2.2.1,a.2.2.2.1,(6,a.2.2.2.2.1.2.1,a.2.2.2.2.1.2.2.1,a.2.2.2.2.1.2.2.2.1,j.1.1,k.1.1,(w64<|1+l.1.1),a.2.2.2.2.1.2.2.2.2.2.2.2),())) else(Cg (d.2.1,(j8 a.1.2.2.2.2.1:Int),())).bind λm=>I (.inr ((m.2.1,a.1.2),a.2.1,a.2.2.1,a.2.2.2.1,(a.2.2.2.2.1.1,a.2.2.2.2.1.2.1,a.2.2.2.2.1.2.2.1,a.2.2.2.2.1.2.2.2.1,m.1.1,a.2.2.2.2.1.2.2.2.2.2),())) else I (.inr (a.1,a.2.1,a.2.2.1,a.2.2.2.1,a.2.2.2.2.1,())))<|(if U (0<x.2.2.1) then(Cg (x.1.1,x.2.2.1,())).bind λn=>I (.inr ((n.2.1,x.1.2),x.2.1,x.2.2.1,x.2.2.2.1,(4,0,0,0,0,0,0,0,0,noB,()),(U<|n.1.1=0),())) else I (.inr (x.1,x.2.1,x.2.2.1,x.2.2.2.1,(4,0,0,0,0,0,0,0,0,noB,()),A0,()))))) else I (.inr<|.inr (x.1,()))
def ac9:=AT sA
def acM:Loop:=⟨[(0,Z24),(1,j6),(2,j6),(6,j6)],[(0,Z24)],0,[],ac9⟩
def adl:LF f69 [0] [1,0,0] acM:=sq (v:=t1<|.two (.one<|t1<|.join [(0,Z24),(1,j6),(2,j6),(6,j6),(7,Z25)] (.join [(0,Z24),(1,j6),(2,j6),(6,j6),(7,Z25),(33,.bool)] .nil .nil)<|.join [(0,Z24),(1,j6),(2,j6),(6,j6),(7,Z25)] .nil<|.join [(0,Z24),(1,j6),(2,j6),(6,j6),(7,Z25),(102,.bool)] .nil .nil) .nil) vu (b:=sA) kN
def Nu(x:Y10×aIf):Option (D×Y10×D):=(AN (ac9 (x.1,x.2.1,x.2.2.1,0,())) (λ_=>G) λa=>I ((),a))
def cy:Ent:=(69,G,⟨[Z22,j6,j6],[],Nu⟩)
def rK:y7 cy:=sk (v:=t1<|.one<|.loop acM) (fn:=f69) vu<|kC adl kN
def aem:Cx:=cX [Ld,J3] [] []
def xN:y9 aem:=aIe<|gC Mg<|gC Ji<|AI
def sV(x:Y10×Y4×aIf):Rnd (Y10×Y4×aIf) (Y10×Int×Y4×Bool×D) (Y10×Y4×D):=if U (x.2.2.2.1<4) then if inb x.2.2.1 x.1.2.2.1.length then(GC (((rd aIh x.1.2.2.1 x.2.2.1).id,(rd aIh x.1.2.2.1 x.2.2.1).up,(rd aIh x.1.2.2.1 x.2.2.1).log,(rd aIh x.1.2.2.1 x.2.2.1).fo,(rd aIh x.1.2.2.1 x.2.2.1).AJ,()),())).bind λa=>if U (0<(j8 a.1.1.2.2.2.1:Int)) then(Cg (x.1.1,(j8 a.1.1.2.2.2.1:Int),())).bind λb=>if inb b.1.1 a.1.1.2.2.2.1.length then let c:=(rd y5 a.1.1.2.2.2.1 b.1.1).fr;let d:=(rd y5 a.1.1.2.2.2.1 b.1.1).nu;let e:=(rd y5 a.1.1.2.2.2.1 b.1.1).to;let f:=(rd y5 a.1.1.2.2.2.1 b.1.1).un;let g:=(rd y5 a.1.1.2.2.2.1 b.1.1).tx;I (.inr<|.inl ((b.2.1,x.1.2),x.2.2.1,(c,d,e,f,g,()),Y,())) else G else let h:=(BL (w64<|x.2.2.1+1) 4);I (.inl (x.1,x.2.1,h,(w64<|x.2.2.2.1+1),())) else G else I (.inr<|.inr (x.1,x.2.1,()))
def acD:=AT sV
def acZ:Loop:=⟨[(0,Z24),(3,Z5),(5,j6),(6,j6)],[(0,Z24),(3,Z5)],0,[(0,Z24),(2,j6),(3,Z5),(4,.bool)],acD⟩
def aea:LF f99 [0] [1,1,0,1,0,0] acZ:=sq (v:= .nil) xN (b:=sV) kN
def dC(x:Y10×D):Option ((Int×Y4×Bool×D)×Y10×D):=(Cg (x.1.1,4,())).bind λb=>(AN (acD ((b.2.1,x.1.2),(0,0,0,0,noB,()),b.1.1,0,())) (λa=>I (a.2,(a.1,()))) λa=>I ((0,(0,0,0,0,noB,()),A0,()),(a.1,())))
def wW:Ent:=(99,G,⟨[Z22],[j6,Z6,.bool],dC⟩)
def adI:y7 wW:=sk (v:=t1<|t1<|.two (t1<|.one<|.loop acZ) .nil) (fn:=f99) xN<|kC aea kN
def ady:Cx:=cX [Ld,Lc,cy,wW] [] []
def vt:y9 ady:=aIe<|gC Mg<|gC VB<|gC rK<|gC adI<|AI
def s9(x:Y10×Int×Int×Int×Y4×aIf):Rnd (Y10×Int×Int×Int×Y4×aIf) D (Y10×aIf):=if U (x.2.2.2.2.2.2.1<x.2.1) then(Fq (x.1,(3,x.2.2.2.1,x.2.2.2.2.1.1,x.2.2.2.2.1.2.1,0,(w64<|x.2.2.2.2.2.1+x.2.2.2.2.2.2.1),0,0,0,noB,()),())).bind λa=>let b:=(w64<|x.2.2.2.2.2.2.1+1);I (.inl (a.2.1,x.2.1,x.2.2.1,x.2.2.2.1,x.2.2.2.2.1,x.2.2.2.2.2.1,b,())) else I (.inr<|.inr (x.1,x.2.1,x.2.2.1,()))
def ac8:=AT s9
def acL:Loop:=⟨[(0,Z24),(1,j6),(2,j6),(6,j6),(7,Z5),(9,j6),(10,j6)],[(0,Z24),(1,j6),(2,j6)],0,[],ac8⟩
def adk:LF f68 [0] [1,1,1,0,1,0,0] acL:=sq (v:= .nil) vt (b:=s9) kN
def Pl(x:Y10×aIf):Option (D×Y10×D):=(dC (x.1,())).bind λa=>if !a.1.2.2.1 then I ((),a.2) else(Cg (a.2.1.1,2,())).bind λc=>(Cg (c.2.1,40,())).bind λd=>(AN (ac8 ((d.2.1,a.2.1.2),x.2.1,x.2.2.1,a.1.1,a.1.2.1,(w64<|c.1.1 * d.1.1),0,())) (λ_=>G) λb=>(Cg (b.1.1,(w64<|b.2.1+4),())).bind λe=>(Nu ((e.2.1,b.1.2),e.1.1,b.2.2)).bind λf=>I ((),f.2))
def sR:Ent:=(68,G,⟨[Z22,j6,j6],[],Pl⟩)
def ac7:y7 sR:=sk (v:=t1<|t1<|t1<|.two (t1<|.one<|.loop acL) .nil) (fn:=f68) vt<|kC adk kN
def aen:Cx:=cX [Ld,Lc,sR,cy] [] [(89,96)]
def VN:y9 aen:=aIe<|gC Mg<|gC VB<|gC ac7<|gC rK<|AI
def sX(x:Y10×aIf):Rnd (Y10×aIf) D (Y10×D):=if U (0<x.2.2.1) then(Fq (x.1,(2,x.2.1,0,0,0,0,0,0,0,noB,()),())).bind λa=>I (.inl (a.2.1,x.2.1,(w64<|x.2.2.1 - 1),())) else I (.inr<|.inr (x.1,()))
def acF:=AT sX
def acb:Loop:=⟨[(0,Z24),(5,j6),(6,j6)],[(0,Z24)],5,[],acF⟩
def aeV:LF f70 [0] [1,1,1,1,0,1,0,1,1,1,0,1,0,0] acb:=sq (v:= .nil) VN (b:=sX) kN
def sY(x:Y10×aIj):Rnd (Y10×aIj) D (Y10×v7):=if U (x.2.2.2.1<x.2.2.1) then(Fq (x.1,(4,0,0,0,x.2.2.2.1,0,1,0,0,noB,()),())).bind λa=>I (.inl (a.2.1,x.2.1,x.2.2.1,(w64<|x.2.2.2.1+1),())) else I (.inr<|.inr (x.1,x.2.1,()))
def acG:=AT sY
def acd:Loop:=⟨[(0,Z24),(2,j6),(3,j6),(4,j6)],[(0,Z24),(2,j6)],2,[],acG⟩
def aeX:LF f70 [0] [1,1,0,1,0,0,1,0,0,1,1,0,0] acd:=sq (v:= .nil) VN (b:=sY) kN
def sW(x:Y10×aIf):Rnd (Y10×aIf) D (Y10×D):=if(U<|x.2.2.1<12)&&(U<|x.2.1<(j8 x.1.2.2.2.2.1:Int)) then(Fq (x.1,(4,0,0,0,x.2.1,0,0,0,0,noB,()),())).bind λa=>I (.inl (a.2.1,x.2.1,(w64<|x.2.2.1+1),())) else I (.inr<|.inr (x.1,()))
def acE:=AT sW
def aca:Loop:=⟨[(0,Z24),(7,j6),(8,j6)],[(0,Z24)],7,[],acE⟩
def aeT:LF f70 [0] [1,1,1,1,1,1,1,0,1,0,0] aca:=sq (v:= .nil) VN (b:=sW) kN
def sZ(x:Y10×v7):Rnd (Y10×v7) D (Y10×D):=(Cg (x.1.1,2,())).bind λa=>if U (x.2.1<(w64<|1+a.1.1)) then let c:=(j8 x.1.2.2.2.2.1:Int);(AN (acG ((a.2.1,x.1.2),x.2.1,c,0,())) (λ_=>I<|.inr<|.inl ()) λb=>I<|.inl (b.1,(w64<|b.2.1+1),())) else I (.inr<|.inr ((a.2.1,x.1.2),()))
def acH:=AT sZ
def ace:Loop:=⟨[(0,Z24),(2,j6)],[(0,Z24)],0,[],acH⟩
def aeb:LF f70 [0] [1,1,0,1,0,0] ace:=sq (v:=t1<|.two (.one<|t1<|t1<|.one<|.loop acd) .nil) VN (b:=sZ)<|kC aeX kN
def dD(x:Y10×D):Option (D×Y10×D):=(Nu (x.1,40,0,())).bind λg=>(Pl (g.2.1,6,0,())).bind λh=>(AN (acH (h.2.1,0,())) (λ_=>G) λb=>(Cg (b.1.1,4,())).bind λc=>(BT (X:=Y10×D) (λd=>let i:=(j8 d.1.2.2.2.2.1:Int);(Pl (d.1,6,0,())).bind λj=>(AN (acE (j.2.1,i,0,())) (λ_=>G) λk=>(Nu (k.1,40,0,())).bind λl=>I ((),l.2)))<|(Cg (c.2.1,3,())).bind λa=>if U (a.1.1=0) then(Cg (a.2.1,40,())).bind λe=>(Fq ((e.2.1,b.1.2),(7,c.1.1,0,0,0,0,e.1.1,0,0,noB,()),())).bind λm=>(Fq (m.2.1,(8,c.1.1,0,0,0,0,0,0,0,noB,()),())).bind λn=>I (.inr n.2) else if U (a.1.1=1) then(Cg (a.2.1,9,())).bind λf=>(AN (acF ((f.2.1,b.1.2),c.1.1,f.1)) (λ_=>G) λo=>I<|.inr o) else I (.inr ((a.2.1,b.1.2),()))))
def vz:Ent:=(70,G,⟨[Z22],[],dD⟩)
def adJ:y7 vz:=sk (v:=t1<|t1<|.two (t1<|.one<|.loop ace)<|t1<|.join [(0,Z24)] (t1<|.one<|t1<|t1<|t1<|.two (t1<|.one<|.loop acb) .nil)<|t1<|t1<|.two (t1<|.one<|.loop aca) .nil) (fn:=f70) VN<|kC aeb<|kC aeV<|kC aeT kN
def ael:Cx:=cX [Ld,uU,J3,Lc,sR,cy,vz] [] []
def xM:y9 ael:=aIe<|gC Mg<|gC acK<|gC Ji<|gC VB<|gC ac7<|gC rK<|gC adJ<|AI
def sU(x:Y10×v7):Rnd (Y10×v7) D (Y10×D):=if U (x.2.1<4) then(Pl (x.1,7,0,())).bind λa=>(Nu (a.2.1,20,0,())).bind λb=>I (.inl (b.2.1,(w64<|x.2.1+1),())) else I (.inr<|.inr (x.1,()))
def acC:=AT sU
def acY:Loop:=⟨[(0,Z24),(8,j6)],[(0,Z24)],1,[],acC⟩
def aeZ:LF f39 [0] [1,1,0,1,1,1,1,1,1,1,1,1,1,1,1,1,1,1,1,1,1,1,1,1,0,0] acY:=sq (v:= .nil) xM (b:=sU) kN
def dB(x:Y10×v7):Option (D×Y10×D):=(Cg (x.1.1,4,())).bind λj=>(Cg (j.2.1,24,())).bind λg=>(BT (X:=Y10×Int×Int×Int×Bool×D) (λa=>if a.2.2.2.2.1 then(VO (a.1,())).bind λE=>I ((),E.2) else(BT (X:=Y10×Int×Int×Int×Bool×D) (λd=>if d.2.2.2.2.1 then(Cg (d.1.1,7,())).bind λl=>(Pl ((l.2.1,d.1.2),(w64<|1+l.1.1),d.2.1,())).bind λF=>I ((),F.2) else(BT (X:=Y10×Int×Int×Int×Bool×D) (λf=>if f.2.2.2.2.1 then(Cg (f.1.1,20,())).bind λm=>(Nu ((m.2.1,f.1.2),(w64<|1+m.1.1),f.2.1,())).bind λH=>I ((),H.2) else(BT (X:=Y10×Int×Int×Bool×D) (λc=>if c.2.2.2.1 then(Fq (c.1,(2,c.2.1,0,0,0,0,0,0,0,noB,()),())).bind λJ=>I ((),J.2) else let K:=(U<|c.2.2.1=13);(if K then(Cg (c.1.1,50,())).bind λn=>(Fq ((n.2.1,c.1.2),(7,c.2.1,0,0,0,0,n.1.1,0,0,noB,()),())).bind λL=>I ((),L.2) else(BT (X:=Y10×Int×Int×Bool×D) (λe=>if e.2.2.2.1 then(Fq (e.1,(8,e.2.1,0,0,0,0,0,0,0,noB,()),())).bind λM=>I ((),M.2) else let N:=(U<|e.2.2.1=16);(if N then(Cg (e.1.1,2,())).bind λo=>(Cg (o.2.1,3,())).bind λp=>(Fq ((p.2.1,e.1.2),((w64<|9+o.1.1),p.1.1,0,0,0,0,0,0,0,noB,()),())).bind λO=>I ((),O.2) else(BT (X:=Y10×Int×Int×Bool×D) (λb=>if b.2.2.2.1 then if inb b.2.1 b.1.2.2.1.length then(GC (((rd aIh b.1.2.2.1 b.2.1).id,(rd aIh b.1.2.2.1 b.2.1).up,(rd aIh b.1.2.2.1 b.2.1).log,(rd aIh b.1.2.2.1 b.2.1).fo,(rd aIh b.1.2.2.1 b.2.1).AJ,()),())).bind λh=>if U (0<(j8 h.1.1.2.2.2.2.2.1:Int)) then(Cg (b.1.1,(j8 h.1.1.2.2.2.2.2.1:Int),())).bind λi=>if inb i.1.1 h.1.1.2.2.2.2.2.1.length then let P:=(rd y5 h.1.1.2.2.2.2.2.1 i.1.1).fr;let Q:=(rd y5 h.1.1.2.2.2.2.2.1 i.1.1).nu;let v55:=(rd y5 h.1.1.2.2.2.2.2.1 i.1.1).to;let v56:=(rd y5 h.1.1.2.2.2.2.2.1 i.1.1).un;let v57:=(rd y5 h.1.1.2.2.2.2.2.1 i.1.1).tx;(Fq ((i.2.1,b.1.2),(11,b.2.1,P,Q,0,0,0,0,0,noB,()),())).bind λR=>I ((),R.2) else G else I ((),(b.1,())) else G else let S:=(U<|b.2.2.1=19);(if S then(Cg (b.1.1,2,())).bind λq=>(Fq ((q.2.1,b.1.2),((w64<|12+q.1.1),b.2.1,0,0,0,0,0,0,0,noB,()),())).bind λT=>I ((),T.2) else(BT (X:=Y10×Bool×D) (λk=>if k.2.1 then(dD (k.1,())).bind λV=>I ((),V.2) else(AN (acC (k.1,0,())) (λ_=>G) λW=>I ((),W))) (let r:=(U<|b.2.2.1=20);(if r then I (.inr (b.1,r,())) else let s:=(U<|b.2.2.1=21);(if s then I (.inr (b.1,s,())) else let Y:=(U<|b.2.2.1=22);I (.inr (b.1,Y,())))))))) (let t:=(U<|e.2.2.1=17);(if t then I (.inr (e.1,e.2.1,e.2.2.1,t,())) else let Z:=(U<|e.2.2.1=18);I (.inr (e.1,e.2.1,e.2.2.1,Z,()))))))) (let u:=(U<|c.2.2.1=14);(if u then I (.inr (c.1,c.2.1,c.2.2.1,u,())) else let v40:=(U<|c.2.2.1=15);I (.inr (c.1,c.2.1,c.2.2.1,v40,()))))))) (let v:=(U<|f.2.2.2.1=11);(if v then I (.inr (f.1,f.2.2.1,f.2.2.2.1,v,())) else let v31:=(U<|f.2.2.2.1=12);I (.inr (f.1,f.2.2.1,f.2.2.2.1,v31,())))))) (let w:=(U<|d.2.2.2.1=9);(if w then I (.inr (d.1,d.2.1,d.2.2.1,d.2.2.2.1,w,())) else let v24:=(U<|d.2.2.2.1=10);I (.inr (d.1,d.2.1,d.2.2.1,d.2.2.2.1,v24,())))))) (let y:=(U<|a.2.2.2.1=3);(if y then I (.inr (a.1,a.2.1,a.2.2.1,a.2.2.2.1,y,())) else let z:=(U<|a.2.2.2.1=4);(if z then I (.inr (a.1,a.2.1,a.2.2.1,a.2.2.2.1,z,())) else let A:=(U<|a.2.2.2.1=5);(if A then I (.inr (a.1,a.2.1,a.2.2.1,a.2.2.2.1,A,())) else let B:=(U<|a.2.2.2.1=6);(if B then I (.inr (a.1,a.2.1,a.2.2.1,a.2.2.2.1,B,())) else let C:=(U<|a.2.2.2.1=7);(if C then I (.inr (a.1,a.2.1,a.2.2.1,a.2.2.2.1,C,())) else let v17:=(U<|a.2.2.2.1=8);I (.inr (a.1,a.2.1,a.2.2.1,a.2.2.2.1,v17,()))))))))))<|(if U (g.1.1=0) then I (.inr ((g.2.1,x.1.2),x.2.1,j.1.1,g.1.1,(U<|g.1.1=0),())) else if U (g.1.1=1) then I (.inr ((g.2.1,x.1.2),x.2.1,j.1.1,g.1.1,(U<|g.1.1=1),())) else I (.inr ((g.2.1,x.1.2),x.2.1,j.1.1,g.1.1,(U<|g.1.1=2),()))))
def wV:Ent:=(39,G,⟨[Z22,j6],[],dB⟩)
def adH:y7 wV:=sk (v:=t1<|t1<|.one<|.join [(0,Z24),(1,j6),(4,j6),(18,j6),(27,.bool)] .nil<|t1<|.join [(0,Z24),(1,j6),(4,j6),(18,j6),(33,.bool)] .nil<|t1<|.join [(0,Z24),(1,j6),(4,j6),(18,j6),(49,.bool)] .nil<|t1<|.join [(0,Z24),(4,j6),(18,j6),(61,.bool)] .nil<|t1<|t1<|t1<|.join [(0,Z24),(4,j6),(18,j6),(79,.bool)] .nil<|t1<|t1<|t1<|.join [(0,Z24),(4,j6),(18,j6),(102,.bool)] .nil<|t1<|t1<|t1<|.join [(0,Z24),(153,.bool)] .nil<|t1<|t1<|.one<|.loop acY) (fn:=f39) xM<|kC aeZ kN
def akY:Cx:=cX [Ld,uW,uU,wV] [] []
def aB3:y9 akY:=aIe<|gC Mg<|gC acO<|gC acK<|gC adH<|AI
def vO(x:Y0×Y11×aIf):Rnd (Y0×Y11×aIf) D (Y0×Y11×D):=if U (0<x.2.2.2.1) then(dB ((x.1,x.2.1.2),x.2.2.1,())).bind λa=>I (.inl (a.2.1.1,((),a.2.1.2),x.2.2.1,(w64<|x.2.2.2.1 - 1),())) else I (.inr<|.inr (x.1,((),x.2.1.2),()))
def vf:=AT vO
def yJ:Loop:=⟨[(0,Z23),(5,Z28),(6,j6),(7,j6)],[(0,Z23),(5,Z28)],0,[],vf⟩
def ajP:LF f21 [0] [1,1,1,1,0,1,0,0] yJ:=sq (v:= .nil) aB3 (b:=vO) kN
def gS(x:Y0×v7):Option ((Y11×D)×Y0×D):=(S2 ()).bind λa=>(Cg (x.1,5,())).bind λb=>if inb b.1.1 (([0,0,3,6,12]:List Int).length) then let f:=(rd aIk ([0,0,3,6,12]:List Int) b.1.1);(VO ((b.2.1,a.1.1.1,a.1.1.2.1,a.1.1.2.2.1,a.1.1.2.2.2.1,a.1.1.2.2.2.2.1,a.1.1.2.2.2.2.2.1,([]:List Event),()),())).bind λc=>(Cg (c.2.1.1,x.2)).bind λd=>(AN (vf (d.2.1,((),c.2.1.2),f,d.1)) (λ_=>G) λe=>I ((((),e.2.1.2),()),(e.1,()))) else G
def aBF:Ent:=(21,G,⟨[Z0,j6],[Z28],gS⟩)
def aeq:y7 aBF:=sk (v:=t1<|t1<|t1<|t1<|.two (t1<|.one<|.loop yJ) .nil) (fn:=f21) aB3<|kC ajP kN
def adX:Cx:=cX [aC4,Ld,aBF] [] []
def ae3:y9 adX:=aIe<|gC afi<|gC Mg<|gC aeq<|AI
def Pj(x:List Int×D):Option ((List Event×D)×D):=(iH x).bind λc=>(Cg (c.1.1,60,())).bind λa=>if U (a.1.1=0) then(Cg (a.2.1,2,())).bind λb=>if U (0<=(w64<|2000+b.1.1))&&U ((w64<|2000+b.1.1)<=4294967296) then I (((BS (AM<|w64<|2000+b.1.1)<|dfl .CR),()),()) else G else(gS (a.2.1,26,())).bind λd=>I (d.1.1.2.2.2.2.2.2.2,())
def cN:Ent:=(7,G,⟨[.fz .u8],[.row 38 .CR],Pj⟩)
def rI:y7 cN:=sk (v:= .nil) (fn:=f7) ae3 kN
def ako:Cx:=cX [Ia,H7,Kc,Wz] [] [(57,64)]
def Wh:y9 ako:=aIe<|gC J2<|gC Ha<|gC LX<|gC dk<|AI
def fX(x:Y2×v7):Rnd (Y2×v7) (Bool×D) D:=if U (x.2.1<(j8 x.1.2.2.2.2.2.1:Int)) then if inb x.2.1 x.1.2.2.2.2.2.1.length then(O8 (((rd y5 x.1.2.2.2.2.2.1 x.2.1).fr,(rd y5 x.1.2.2.2.2.2.1 x.2.1).nu,(rd y5 x.1.2.2.2.2.2.1 x.2.1).to,(rd y5 x.1.2.2.2.2.2.1 x.2.1).un,(rd y5 x.1.2.2.2.2.2.1 x.2.1).tx,()),())).bind λa=>if !a.1.1 then I (.inr<|.inl (A0,())) else I (.inl (x.1,(w64<|x.2.1+1),())) else G else I (.inr<|.inr ())
def tQ:=AT fX
def y0:Loop:=⟨[(1,Z29),(7,j6)],[],6,[(2,.bool)],tQ⟩
def ajo:LF f41 [] [1,1,1,1,1,0,1,0,0] y0:=sq (v:= .nil) Wh (b:=fX) kN
def fY(x:Y2×v7):Rnd (Y2×v7) (Bool×D) (Y2×D):=if U (x.2.1<(j8 x.1.2.2.2.2.1:Int)) then if inb x.2.1 x.1.2.2.2.2.1.length then(O8 (((rd y5 x.1.2.2.2.2.1 x.2.1).fr,(rd y5 x.1.2.2.2.2.1 x.2.1).nu,(rd y5 x.1.2.2.2.2.1 x.2.1).to,(rd y5 x.1.2.2.2.2.1 x.2.1).un,(rd y5 x.1.2.2.2.2.1 x.2.1).tx,()),())).bind λa=>if !a.1.1 then I (.inr<|.inl (A0,())) else I (.inl (x.1,(w64<|x.2.1+1),())) else G else I (.inr<|.inr (x.1,()))
def tT:=AT fY
def y6:Loop:=⟨[(1,Z29),(6,j6)],[(1,Z29)],4,[(2,.bool)],tT⟩
def ajp:LF f41 [] [1,1,1,1,0,1,0,0] y6:=sq (v:= .nil) Wh (b:=fY) kN
def fZ(x:Y2×v7):Rnd (Y2×v7) (Bool×D) (Y2×D):=if U (x.2.1<(j8 x.1.2.2.2.1:Int)) then if inb x.2.1 x.1.2.2.2.1.length then let a:=(rd aIl x.1.2.2.2.1 x.2.1).src;let b:=(rd aIl x.1.2.2.2.1 x.2.1).dst;let c:=(rd aIl x.1.2.2.2.1 x.2.1).data;let f:=(rd aIl x.1.2.2.2.1 x.2.1).sp;(FW (a,())).bind λd=>if !d.1.1 then I (.inr<|.inl (A0,())) else(FW (b,())).bind λe=>if !e.1.1 then I (.inr<|.inl (A0,())) else if !decide ((w64<|a - b)=1) then if !decide ((w64<|b - a)=1) then I (.inr<|.inl (A0,())) else if U (40<(c.size:Int)) then I (.inr<|.inl (A0,())) else I (.inl (x.1,(w64<|x.2.1+1),())) else if U (40<(c.size:Int)) then I (.inr<|.inl (A0,())) else I (.inl (x.1,(w64<|x.2.1+1),())) else G else I (.inr<|.inr (x.1,()))
def sg:=AT fZ
def yA:Loop:=⟨[(1,Z29),(4,j6)],[(1,Z29)],2,[(2,.bool)],sg⟩
def ajt:LF f41 [] [1,1,1,0,1,0,0] yA:=sq (v:= .nil) Wh (b:=fZ) kN
def fa(x:Y2×v7):Rnd (Y2×v7) (Bool×D) (Y2×D):=if U (x.2.1<(j8 x.1.2.1:Int)) then if inb x.2.1 x.1.2.1.length then(J5 (((rd aIh x.1.2.1 x.2.1).id,(rd aIh x.1.2.1 x.2.1).up,(rd aIh x.1.2.1 x.2.1).log,(rd aIh x.1.2.1 x.2.1).fo,(rd aIh x.1.2.1 x.2.1).AJ,()),())).bind λa=>if Ag (!(!a.1.1)) (inb x.2.1 x.1.2.1.length) then if(!a.1.1)||(!decide ((rd aIh x.1.2.1 x.2.1).id=x.2.1)) then I (.inr<|.inl (A0,())) else I (.inl (x.1,(w64<|x.2.1+1),())) else G else G else I (.inr<|.inr (x.1,()))
def si:=AT fa
def yB:Loop:=⟨[(1,Z29),(3,j6)],[(1,Z29)],0,[(2,.bool)],si⟩
def ajX:LF f41 [] [1,1,0,1,0,0] yB:=sq (v:= .nil) Wh (b:=fa) kN
def Q1(x:Y2×D):Option ((Bool×D)×D):=(DF (x.1.1,0,99999,())).bind λe=>if !e.1.1 then I ((A0,()),()) else if !decide ((j8 x.1.2.1:Int)=4) then I ((A0,()),()) else if !decide ((j8 x.1.2.2.1:Int)=3) then I ((A0,()),()) else if U (30<(j8 x.1.2.2.2.1:Int)) then I ((A0,()),()) else if U (6<(j8 x.1.2.2.2.2.1:Int)) then I ((A0,()),()) else if U (6<(j8 x.1.2.2.2.2.2.1:Int)) then I ((A0,()),()) else(AN (si (x.1,0,())) (λa=>I (a,())) λa=>(AN (sg (a.1,0,())) (λb=>I (b,())) λb=>(AN (tT (b.1,0,())) (λc=>I (c,())) λc=>(AN (tQ (c.1,0,())) (λd=>I (d,())) λd=>I ((Y,()),())))))
def aBM:Ent:=(41,G,⟨[Z30],[.bool],Q1⟩)
def afK:y7 aBM:=sk (v:=t1<|t1<|.two (t1<|.one<|.loop yB)<|.two (t1<|.one<|.loop yA)<|.two (t1<|.one<|.loop y6)<|.two (t1<|.one<|.loop y0) .nil) (fn:=f41) Wh<|kC ajX<|kC ajt<|kC ajp<|kC ajo kN
def akc:Cx:=cX [Mn] [] []
def aB5:y9 akc:=aIe<|gC Nw<|AI
def gA(x:Y2×Y2×Y2×v7):Rnd (Y2×Y2×Y2×v7) D (Y2×Y2×D):=if U (x.2.2.2.1<(j8 x.1.2.1:Int)) then if inb x.2.2.2.1 x.1.2.1.length then(H6 (((rd aIh x.1.2.1 x.2.2.2.1).id,(rd aIh x.1.2.1 x.2.2.2.1).up,(rd aIh x.1.2.1 x.2.2.2.1).log,(rd aIh x.1.2.1 x.2.2.2.1).fo,(rd aIh x.1.2.1 x.2.2.2.1).AJ,()),())).bind λa=>if Ab (x.2.2.1.2.1.length+([(A7.mk a.1.1.1 a.1.1.2.1 a.1.1.2.2.1 a.1.1.2.2.2.1 a.1.1.2.2.2.2.1)]:List A7).length) then I (.inl (x.1,x.2.1,(x.2.2.1.1,(x.2.2.1.2.1++([(A7.mk a.1.1.1 a.1.1.2.1 a.1.1.2.2.1 a.1.1.2.2.2.1 a.1.1.2.2.2.2.1)]:List A7)),x.2.2.1.2.2),(w64<|x.2.2.2.1+1),())) else G else G else I (.inr<|.inr (x.2.1,x.2.2.1,()))
def dE:=AT gA
def yL:Loop:=⟨[(1,Z29),(2,Z2),(3,Z2),(4,j6)],[(2,Z2),(3,Z2)],0,[],dE⟩
def ajR:LF f42 [] [1,1,0,1,0,0] yL:=sq (v:= .nil) aB5 (b:=gA) kN
def Pz(x:Y2×D):Option ((Y2×D)×D):=if Ab (([]:List Bool).length+x.1.2.2.1.length) then if Ab (([]:List AK).length+x.1.2.2.2.1.length) then if Ab (([]:List A3).length+x.1.2.2.2.2.1.length) then if Ab (([]:List A3).length+x.1.2.2.2.2.2.1.length) then(AN (dE (x.1,(0,([]:List A7),([]:List Bool),([]:List AK),([]:List A3),([]:List A3),()),(x.1.1,([]:List A7),(([]:List Bool)++x.1.2.2.1),(([]:List AK)++x.1.2.2.2.1),(([]:List A3)++x.1.2.2.2.2.1),(([]:List A3)++x.1.2.2.2.2.2.1),()),0,())) (λ_=>G) λa=>I (a.2,())) else G else G else G else G
def aBH:Ent:=(42,G,⟨[Z30],[Z3],Pz⟩)
def aes:y7 aBH:=sk (v:=t1<|t1<|.two (t1<|.one<|.loop yL) .nil) (fn:=f42) aB5<|kC ajR kN
def akp:Cx:=cX [aBM,aBH,aCZ] [] []
def aop:y9 akp:=aIe<|gC afK<|gC aes<|gC ahs<|AI
def O4(x:Y2×Y6×D):Option ((Y2×Bool×D)×D):=(Q1 (x.1,())).bind λb=>if !b.1.1 then I (((0,([]:List A7),([]:List Bool),([]:List AK),([]:List A3),([]:List A3),()),A0,()),()) else if U (99999<=x.1.1) then(Pz (x.1,())).bind λc=>I ((c.1.1,A0,()),()) else(Pz (x.1,())).bind λd=>(X3 (d.1.1,x.2)).bind λa=>if !a.1.2.1 then(Pz (x.1,())).bind λe=>I ((e.1.1,A0,()),()) else(Pz (a.1.1,())).bind λf=>I ((f.1.1,Y,()),())
def aBN:Ent:=(23,G,⟨[Z30,Z13],[Z3,.bool],O4⟩)
def afL:y7 aBN:=sk (v:= .nil) (fn:=f23) aop kN
def ahH:Cx:=cX [uW,aBN] [] []
def yQ:y9 ahH:=aIe<|gC acO<|gC afL<|AI
def dj(x:List Event×Y2×Y2×v7):Rnd (List Event×Y2×Y2×v7) D (Y2×Y2×D):=if U (x.2.2.2.1<(j8 x.1:Int)) then if inb x.2.2.2.1 x.1.length then(O4 (x.2.2.1,((rd aIu x.1 x.2.2.2.1).ki,(rd aIu x.1 x.2.2.2.1).at_,(rd aIu x.1 x.2.2.2.1).fr,(rd aIu x.1 x.2.2.2.1).nu,(rd aIu x.1 x.2.2.2.1).wo,(rd aIu x.1 x.2.2.2.1).mix,(rd aIu x.1 x.2.2.2.1).kp,(rd aIu x.1 x.2.2.2.1).to,(rd aIu x.1 x.2.2.2.1).un,(rd aIu x.1 x.2.2.2.1).tx,()),())).bind λa=>I (.inl (x.1,x.2.1,a.1.1,(w64<|x.2.2.2.1+1),())) else G else I (.inr<|.inr (x.2.1,x.2.2.1,()))
def cS:=AT dj
def ve:Loop:=⟨[(0,.sl .CR),(2,Z2),(3,Z2),(4,j6)],[(2,Z2),(3,Z2)],0,[],cS⟩
def agR:LF f8 [] [1,1,1,0,1,0,0] ve:=sq (v:= .nil) yQ (b:=dj) kN
def SA(x:List Event×D):Option ((Y2×D)×D):=(S2 ()).bind λa=>if U (2000<(j8 x.1:Int)) then I (a.1,()) else(AN (cS (x.1,(0,([]:List A7),([]:List Bool),([]:List AK),([]:List A3),([]:List A3),()),a.1.1,0,())) (λ_=>G) λb=>I (b.2,()))
def fH:Ent:=(8,G,⟨[.fz .CR],[Z3],SA⟩)
def rq:y7 fH:=sk (v:=t1<|t1<|t1<|.two (t1<|.one<|.loop ve) .nil) (fn:=f8) yQ<|kC agR kN
def ada:Cx:=cX [] [] []
def adx:y9 ada:=aIe<|AI
def cZ(x:List A7×D):Option ((List A7×D)×D):=if U ((j8 x.1:Int)=0) then I ((([]:List A7),()),()) else if U (0<=(j8 x.1:Int))&&U ((j8 x.1:Int)<=4294967296) then I (((BR (BS (AM (j8 x.1:Int))<|dfl .AP).length x.1++Br x.1.length (BS (AM (j8 x.1:Int))<|dfl .AP)),()),()) else G
def ad3:Ent:=(52,G,⟨[.fz .AP],[.row 48 .AP],cZ⟩)
def ad5:y7 ad3:=sk (v:= .nil) (fn:=f52) adx kN
def aeK:Cx:=cX [] [] []
def afa:y9 aeK:=aIe<|AI
def dQ(x:List Bool×D):Option ((List Bool×D)×D):=if U ((j8 x.1:Int)=0) then I ((([]:List Bool),()),()) else if U (0<=(j8 x.1:Int))&&U ((j8 x.1:Int)<=4294967296) then I (((BR (BS (AM (j8 x.1:Int))<|dfl .bool).length x.1++Br x.1.length (BS (AM (j8 x.1:Int))<|dfl .bool)),()),()) else G
def wC:Ent:=(53,G,⟨[.fz .bool],[.row 4 .bool],dQ⟩)
def adE:y7 wC:=sk (v:= .nil) (fn:=f53) afa kN
def adZ:Cx:=cX [] [] []
def adw:y9 adZ:=aIe<|AI
def cY(x:List AK×D):Option ((List AK×D)×D):=if U ((j8 x.1:Int)=0) then I ((([]:List AK),()),()) else if U (0<=(j8 x.1:Int))&&U ((j8 x.1:Int)<=4294967296) then I (((BR (BS (AM (j8 x.1:Int))<|dfl .Af).length x.1++Br x.1.length (BS (AM (j8 x.1:Int))<|dfl .Af)),()),()) else G
def ad2:Ent:=(54,G,⟨[.fz .Af],[.row 52 .Af],cY⟩)
def ad4:y7 ad2:=sk (v:= .nil) (fn:=f54) adw kN
def aeL:Cx:=cX [] [] []
def afb:y9 aeL:=aIe<|AI
def Nz(x:List A3×D):Option ((List A3×D)×D):=if U ((j8 x.1:Int)=0) then I ((([]:List A3),()),()) else if U (0<=(j8 x.1:Int))&&U ((j8 x.1:Int)<=4294967296) then I (((BR (BS (AM (j8 x.1:Int))<|dfl .note).length x.1++Br x.1.length (BS (AM (j8 x.1:Int))<|dfl .note)),()),()) else G
def td:Ent:=(55,G,⟨[.fz .note],[.row 54 .note],Nz⟩)
def acI:y7 td:=sk (v:= .nil) (fn:=f55) afb kN
def aeN:Cx:=cX [] [] []
def afd:y9 aeN:=aIe<|AI
def sa(x:List AG×D):Option ((List AG×D)×D):=if U ((j8 x.1:Int)=0) then I ((([]:List AG),()),()) else if U (0<=(j8 x.1:Int))&&U ((j8 x.1:Int)<=4294967296) then I (((BR (BS (AM (j8 x.1:Int))<|dfl .half).length x.1++Br x.1.length (BS (AM (j8 x.1:Int))<|dfl .half)),()),()) else G
def xI:Ent:=(91,G,⟨[.fz .half],[.row 97 .half],sa⟩)
def adG:y7 xI:=sk (v:= .nil) (fn:=f91) afd kN
def ae2:Cx:=cX [] [] []
def aeS:y9 ae2:=aIe<|AI
def sQ(x:List AQ×D):Option ((List AQ×D)×D):=if U ((j8 x.1:Int)=0) then I ((([]:List AQ),()),()) else if U (0<=(j8 x.1:Int))&&U ((j8 x.1:Int)<=4294967296) then I (((BR (BS (AM (j8 x.1:Int))<|dfl .mixed).length x.1++Br x.1.length (BS (AM (j8 x.1:Int))<|dfl .mixed)),()),()) else G
def vr:Ent:=(92,G,⟨[.fz .mixed],[.row 127 .mixed],sQ⟩)
def ad8:y7 vr:=sk (v:= .nil) (fn:=f92) aeS kN
def afs:Cx:=cX [xI,vr] [] []
def xS:y9 afs:=aIe<|gC adG<|gC ad8<|AI
def dN(x:Y1×Y1×aIf):Rnd (Y1×Y1×aIf) D (Y1×Y1×D):=if U (x.2.2.2.1<x.2.2.1) then if inb x.2.2.2.1 x.2.1.2.2.2.2.1.length then(sQ ((rd aIi x.2.1.2.2.2.2.1 x.2.2.2.1).got,())).bind λa=>if inb x.2.2.2.1 x.2.1.2.2.2.2.1.length then I (.inl (x.1,(x.2.1.1,x.2.1.2.1,x.2.1.2.2.1,x.2.1.2.2.2.1,(Bq x.2.1.2.2.2.2.1 (AM x.2.2.2.1)<|AG.mk ((rd aIi x.2.1.2.2.2.2.1 x.2.2.2.1).fr) ((rd aIi x.2.1.2.2.2.2.1 x.2.2.2.1).nu) ((rd aIi x.2.1.2.2.2.2.1 x.2.2.2.1).to) ((rd aIi x.2.1.2.2.2.2.1 x.2.2.2.1).un) ((rd aIi x.2.1.2.2.2.2.1 x.2.2.2.1).sz) a.1.1),()),x.2.2.1,(w64<|x.2.2.2.1+1),())) else G else G else I (.inr<|.inr (x.1,x.2.1,()))
def rU:=AT dN
def vj:Loop:=⟨[(2,Z20),(3,Z20),(12,j6),(13,j6)],[(2,Z20),(3,Z20)],0,[],rU⟩
def af5:LF f56 [] [1,1,1,0,1,0,0] vj:=sq (v:= .nil) xS (b:=dN) kN
def I2(x:Y1×D):Option ((Y1×D)×D):=(sa x.1.2.2.2.2).bind λa=>(AN (rU ((0,A0,noB,0,([]:List AG),()),(x.1.1,x.1.2.1,x.1.2.2.1,x.1.2.2.2.1,a.1),(j8 a.1.1:Int),0,())) (λ_=>G) λb=>I (b.2,()))
def LY:Ent:=(56,G,⟨[Z12],[Z1],I2⟩)
def Me:y7 LY:=sk (v:=t1<|t1<|t1<|.two (t1<|.one<|.loop vj) .nil) (fn:=f56) xS<|kC af5 kN
def ahP:Cx:=cX [ad3,wC,ad2,td,LY] [] []
def yR:y9 ahP:=aIe<|gC ad5<|gC adE<|gC ad4<|gC acI<|gC Me<|AI
def dm(x:Y2×Y2×aIf):Rnd (Y2×Y2×aIf) D (Y2×Y2×D):=if U (x.2.2.2.1<x.2.2.1) then if inb x.2.2.2.1 x.2.1.2.1.length then(I2 (((rd aIh x.2.1.2.1 x.2.2.2.1).id,(rd aIh x.2.1.2.1 x.2.2.2.1).up,(rd aIh x.2.1.2.1 x.2.2.2.1).log,(rd aIh x.2.1.2.1 x.2.2.2.1).fo,(rd aIh x.2.1.2.1 x.2.2.2.1).AJ,()),())).bind λa=>if inb x.2.2.2.1 x.2.1.2.1.length then I (.inl (x.1,(x.2.1.1,(Bq x.2.1.2.1 (AM x.2.2.2.1)<|A7.mk a.1.1.1 a.1.1.2.1 a.1.1.2.2.1 a.1.1.2.2.2.1 a.1.1.2.2.2.2.1),x.2.1.2.2),x.2.2.1,(w64<|x.2.2.2.1+1),())) else G else G else I (.inr<|.inr (x.1,x.2.1,()))
def cW:=AT dm
def wb:Loop:=⟨[(2,Z2),(3,Z2),(25,j6),(26,j6)],[(2,Z2),(3,Z2)],0,[],cW⟩
def ag7:LF f28 [] [1,1,0,1,0,0] wb:=sq (v:= .nil) yR (b:=dm) kN
def Jm(x:Y2×D):Option ((Y2×D)×D):=(cZ (x.1.2.1,())).bind λa=>(dQ (x.1.2.2.1,())).bind λb=>(cY (x.1.2.2.2.1,())).bind λc=>(Nz (x.1.2.2.2.2.1,())).bind λd=>(Nz x.1.2.2.2.2.2).bind λe=>(AN (cW ((0,([]:List A7),([]:List Bool),([]:List AK),([]:List A3),([]:List A3),()),(x.1.1,a.1.1,b.1.1,c.1.1,d.1.1,e.1),(j8 a.1.1:Int),0,())) (λ_=>G) λf=>I (f.2,()))
def fI:Ent:=(28,G,⟨[Z30],[Z3],Jm⟩)
def rr:y7 fI:=sk (v:=t1<|t1<|.two (t1<|.one<|.loop wb) .nil) (fn:=f28) yR<|kC ag7 kN
def arc:Cx:=cX [] [] [(11,13)]
def auZ:y9 arc:=aIe<|AI
def C8(x:aIj):Option ((Bool×D)×D):=let a:=((U<|x.2.1<=x.1)&&(U<|x.1<=x.2.2.1));I ((a,()),())
def FJ:Ent:=(49,G,⟨[j6,j6,j6],[.bool],C8⟩)
def FY:y7 FJ:=sk (v:= .nil) (fn:=f49) auZ kN
def ao8:Cx:=cX [FJ] [] []
def apy:y9 ao8:=aIe<|gC FY<|AI
def FX(x:v7):Option ((Bool×D)×D):=(C8 (x.1,0,3,())).bind λa=>I (a.1,())
def J4:Ent:=(51,G,⟨[j6],[.bool],FX⟩)
def Jj:y7 J4:=sk (v:= .nil) (fn:=f51) apy kN
def aeO:Cx:=cX [J4] [] []
def afe:y9 aeO:=aIe<|gC Jj<|AI
def tX(x:v7):Option ((Y1×D)×D):=(FX x).bind λa=>if !a.1.1 then I (((0,A0,noB,0,([]:List AG),()),()),()) else I (((x.1,Y,noB,0,([]:List AG),()),()),())
def xJ:Ent:=(44,G,⟨[j6],[Z1],tX⟩)
def ad9:y7 xJ:=sk (v:= .nil) (fn:=f44) afe kN
def afx:Cx:=cX [fI,xJ] [] []
def xT:y9 afx:=aIe<|gC rr<|gC ad9<|AI
def VX(x:Y2×Y2×v7):Rnd (Y2×Y2×v7) D (Y2×Y2×D):=if U (x.2.2.1<4) then(tX x.2.2).bind λa=>if Ab (x.2.1.2.1.length+([(A7.mk a.1.1.1 a.1.1.2.1 a.1.1.2.2.1 a.1.1.2.2.2.1 a.1.1.2.2.2.2.1)]:List A7).length) then if U (0<x.2.2.1) then if Ab (x.2.1.2.2.1.length+([Y]:List Bool).length) then I (.inl (x.1,(x.2.1.1,(x.2.1.2.1++([(A7.mk a.1.1.1 a.1.1.2.1 a.1.1.2.2.1 a.1.1.2.2.2.1 a.1.1.2.2.2.2.1)]:List A7)),(x.2.1.2.2.1++([Y]:List Bool)),x.2.1.2.2.2),(w64<|x.2.2.1+1),())) else G else I (.inl (x.1,(x.2.1.1,(x.2.1.2.1++([(A7.mk a.1.1.1 a.1.1.2.1 a.1.1.2.2.1 a.1.1.2.2.2.1 a.1.1.2.2.2.2.1)]:List A7)),x.2.1.2.2),(w64<|x.2.2.1+1),())) else G else I (.inr<|.inr (x.1,x.2.1,()))
def cH:=AT VX
def vn:Loop:=⟨[(0,Z2),(1,Z2),(2,j6)],[(0,Z2),(1,Z2)],0,[],cH⟩
def af7:LF f24 [] [1,1,0,1,0,0] vn:=sq (v:= .nil) xT (b:=VX) kN
def du(x:D):Option ((Y2×D)×D):=(AN (cH ((0,([]:List A7),([]:List Bool),([]:List AK),([]:List A3),([]:List A3),()),(0,([]:List A7),([]:List Bool),([]:List AK),([]:List A3),([]:List A3),()),0,())) (λ_=>G) λa=>(Jm a.2).bind λb=>I (b.1,()))
def xi:Ent:=(24,G,⟨[],[Z3],du⟩)
def adR:y7 xi:=sk (v:=t1<|t1<|.two (t1<|.one<|.loop vn) .nil) (fn:=f24) xT<|kC af7 kN
def anf:Cx:=cX [FJ] [] [(20,29)]
def aq4:y9 anf:=aIe<|gC FY<|AI
def iW(x:Y2×Y6×D):Option ((Bool×D)×Y2×D):=(C8 (x.2.1.2.1,0,(w64<|(j8 x.1.2.2.1:Int) - 1),())).bind λa=>if Ag (!(!a.1.1)) (inb x.2.1.2.1 x.1.2.2.1.length) then if(!a.1.1)||(U<|(rd aIw x.1.2.2.1 x.2.1.2.1)=(U<|x.2.1.1=9)) then I ((A0,()),(x.1,())) else if inb x.2.1.2.1 x.1.2.2.1.length then I ((Y,()),((x.1.1,x.1.2.1,(Bq x.1.2.2.1 (AM x.2.1.2.1)<|U<|x.2.1.1=9),x.1.2.2.2),())) else G else G
def aCL:Ent:=(45,G,⟨[Z2,Z13],[.bool],iW⟩)
def ago:y7 aCL:=sk (v:= .nil) (fn:=f45) aq4 kN
def ahQ:Cx:=cX [] [] []
def aix:y9 ahQ:=aIe<|AI
def Vv(x:List AK×v7):Option ((List AK×D)×D):=if U (0<=x.2.1)&&U (x.2.1<=(j8 x.1:Int)) then if Ab (([]:List AK).length+(BR (AM x.2.1) x.1).length) then if U (0<=(w64<|x.2.1+1))&&U ((w64<|x.2.1+1)<=(j8 x.1:Int)) then if Ab ((([]:List AK)++(BR (AM x.2.1) x.1)).length+(Br (AM<|w64<|x.2.1+1) x.1).length) then I ((((([]:List AK)++(BR (AM x.2.1) x.1))++(Br (AM<|w64<|x.2.1+1) x.1)),()),()) else G else G else G else G
def yi:Ent:=(78,G,⟨[.fz .Af,j6],[.row 52 .Af],Vv⟩)
def adn:y7 yi:=sk (v:= .nil) (fn:=f78) aix kN
def ai5:Cx:=cX [J4] [] []
def aku:y9 ai5:=aIe<|gC Jj<|AI
def IZ(x:aIf):Option ((v7)×D):=(BT (X:=Int×Int×Bool×D) (λa=>if a.2.2.1 then I (((-1),()),()) else if U (a.1<a.2.1) then I (((w64<|a.1+1),()),()) else I (((w64<|a.1 - 1),()),()))<|(FX (x.1,())).bind λb=>if !b.1.1 then I (.inr (x.1,x.2.1,Y,())) else(FX x.2).bind λc=>if !c.1.1 then I (.inr (x.1,x.2.1,Y,())) else I (.inr (x.1,x.2.1,(U<|x.1=x.2.1),())))
def WL:Ent:=(33,G,⟨[j6,j6],[j6],IZ⟩)
def ck:y7 WL:=sk (v:=t1<|.two (.one<|.join [(0,j6),(1,j6),(5,.bool)] .nil .nil) .nil) (fn:=f33) aku kN
def akM:Cx:=cX [WL,FJ,J4] [] [(56,63),(82,89)]
def aoV:y9 akM:=aIe<|gC ck<|gC FY<|gC Jj<|AI
def Wb(x:Y6×D):Option ((Bool×D)×D):=(FX (x.1.2.1,())).bind λb=>if !b.1.1 then I ((A0,()),()) else(FX (x.1.2.2.1,())).bind λc=>if !c.1.1 then I ((A0,()),()) else(FX (x.1.2.2.2.1,())).bind λd=>if !d.1.1 then I ((A0,()),()) else(FX (x.1.2.2.2.2.2.1,())).bind λe=>if !e.1.1 then I ((A0,()),()) else(C8 (x.1.2.2.2.2.1,1,99,())).bind λf=>if !f.1.1 then I ((A0,()),()) else(C8 (x.1.2.2.2.2.2.2.1,1,999,())).bind λg=>if !g.1.1 then I ((A0,()),()) else if U (x.1.1=1) then(C8 (x.1.2.2.2.2.2.2.2.1,1,24,())).bind λh=>if h.1.1 then(C8 (x.1.2.2.2.2.2.2.2.2.1,0,999,())).bind λi=>if i.1.1 then if Ag (U<|(x.1.2.2.2.2.2.2.2.2.2.1.size:Int)=4) ((IZ (x.1.2.1,x.1.2.2.2.2.2.1,())).isSome) then let j:=((U<|(x.1.2.2.2.2.2.2.2.2.2.1.size:Int)=4)&&(U<|x.1.2.2.1=((IZ (x.1.2.1,x.1.2.2.2.2.2.1,())).getD ((0,()),())).1.1));I ((j,()),()) else G else if Ag A0 ((IZ (x.1.2.1,x.1.2.2.2.2.2.1,())).isSome) then I ((A0,()),()) else G else if Ag A0 ((IZ (x.1.2.1,x.1.2.2.2.2.2.1,())).isSome) then I ((A0,()),()) else G else(BT (X:=Y6×Bool×D) (λa=>if a.2.1 then if U (a.1.2.2.2.2.2.2.2.1=0) then if U (a.1.2.2.2.2.2.2.2.2.1=0) then if Ag (U<|a.1.2.2.2.2.2.2.2.2.2.1=noB) ((IZ (a.1.2.2.1,a.1.2.2.2.2.2.1,())).isSome) then let k:=((U<|a.1.2.2.2.2.2.2.2.2.2.1=noB)&&(U<|a.1.2.1=((IZ (a.1.2.2.1,a.1.2.2.2.2.2.1,())).getD ((0,()),())).1.1));I ((k,()),()) else G else if Ag A0 ((IZ (a.1.2.2.1,a.1.2.2.2.2.2.1,())).isSome) then I ((A0,()),()) else G else if Ag A0 ((IZ (a.1.2.2.1,a.1.2.2.2.2.2.1,())).isSome) then I ((A0,()),()) else G else I ((A0,()),()))<|(if U (x.1.1=2) then I (.inr (x.1,(U<|x.1.1=2),())) else I (.inr (x.1,(U<|x.1.1=3),()))))
def jK:Ent:=(115,G,⟨[Z13],[.bool],Wb⟩)
def wT:y7 jK:=sk (v:=t1<|t1<|.two (t1<|.one<|t1<|t1<|.join [(1,Z14),(65,.bool)] .nil .nil) .nil) (fn:=f115) aoV kN
def ai8:Cx:=cX [] [] []
def aAV:y9 ai8:=aIe<|AI
def fG(x:Int×List Int×aIf):Rnd (Int×List Int×aIf) D (v7):=if U (x.2.2.2.1<x.2.2.1) then if inb x.2.2.2.1 x.2.1.length then let a:=(rd aIp x.2.1 x.2.2.2.1);let b:=(BL (w64<|x.1+(w64<|(w64 a) * (w64<|(BL x.2.2.2.1 1000)+1))) 65521);I (.inl (b,x.2.1,x.2.2.1,(w64<|x.2.2.2.1+1),())) else G else I (.inr<|.inr (x.1,()))
def cw:=AT fG
def xf:Loop:=⟨[(3,j6),(6,.sl .u8),(7,j6),(8,j6)],[(3,j6)],0,[],cw⟩
def aiU:LF f150 [] [1,1,0,1,0,0] xf:=sq (v:= .nil) aAV (b:=fG) kN
def WJ(x:List Int×D):Option ((v7)×D):=(AN (cw (0,x.1,(j8 x.1:Int),0,())) (λ_=>G) λa=>I (a,()))
def aAP:Ent:=(150,G,⟨[.fz .u8],[j6],WJ⟩)
def aei:y7 aAP:=sk (v:=t1<|t1<|.two (t1<|.one<|.loop xf) .nil) (fn:=f150) aAV<|kC aiU kN
def aeJ:Cx:=cX [] [] []
def ag6:y9 aeJ:=aIe<|AI
def dP(x:List Int×D):Option ((List Int×D)×D):=if U ((j8 x.1:Int)=0) then I ((([]:List Int),()),()) else if U (0<=(j8 x.1:Int))&&U ((j8 x.1:Int)<=4294967296) then I (((BR (BS (AM (j8 x.1:Int))<|dfl .u8).length x.1++Br x.1.length (BS (AM (j8 x.1:Int))<|dfl .u8)),()),()) else G
def wB:Ent:=(151,G,⟨[.fz .u8],[.row 5 .u8],dP⟩)
def adD:y7 wB:=sk (v:= .nil) (fn:=f151) ag6 kN
def ah8:Cx:=cX [jK,aAP,wB] [] []
def aj7:y9 ah8:=aIe<|gC wT<|gC aei<|gC adD<|AI
def Ps(x:Y6×D):Option ((List Int×D)×D):=(Wb x).bind λc=>if !c.1.1 then I ((([]:List Int),()),()) else(BT (X:=List Int×D) (λb=>(WJ b).bind λa=>if Ab (b.1.length+([(w8<|w64<|B1 a.1.1 256),(w8<|BL a.1.1 256)]:List Int).length) then(dP ((b.1++([(w8<|w64<|B1 a.1.1 256),(w8<|BL a.1.1 256)]:List Int)),())).bind λd=>I (d.1,()) else G)<|(if U (x.1.1=1) then if Ab (([(w8 x.1.1),(w8 x.1.2.1),(w8 x.1.2.2.1),(w8 x.1.2.2.2.1),(w8 x.1.2.2.2.2.1),(w8 x.1.2.2.2.2.2.1),(w8<|w64<|B1 x.1.2.2.2.2.2.2.1 256),(w8<|BL x.1.2.2.2.2.2.2.1 256)]:List Int).length+([(w8 x.1.2.2.2.2.2.2.2.1),(w8<|w64<|B1 x.1.2.2.2.2.2.2.2.2.1 256),(w8<|BL x.1.2.2.2.2.2.2.2.2.1 256)]:List Int).length) then if Ab ((([(w8 x.1.1),(w8 x.1.2.1),(w8 x.1.2.2.1),(w8 x.1.2.2.2.1),(w8 x.1.2.2.2.2.1),(w8 x.1.2.2.2.2.2.1),(w8<|w64<|B1 x.1.2.2.2.2.2.2.1 256),(w8<|BL x.1.2.2.2.2.2.2.1 256)]:List Int)++([(w8 x.1.2.2.2.2.2.2.2.1),(w8<|w64<|B1 x.1.2.2.2.2.2.2.2.2.1 256),(w8<|BL x.1.2.2.2.2.2.2.2.2.1 256)]:List Int)).length+(BC x.1.2.2.2.2.2.2.2.2.2.1).length) then I (.inr (((([(w8 x.1.1),(w8 x.1.2.1),(w8 x.1.2.2.1),(w8 x.1.2.2.2.1),(w8 x.1.2.2.2.2.1),(w8 x.1.2.2.2.2.2.1),(w8<|w64<|B1 x.1.2.2.2.2.2.2.1 256),(w8<|BL x.1.2.2.2.2.2.2.1 256)]:List Int)++([(w8 x.1.2.2.2.2.2.2.2.1),(w8<|w64<|B1 x.1.2.2.2.2.2.2.2.2.1 256),(w8<|BL x.1.2.2.2.2.2.2.2.2.1 256)]:List Int))++(BC x.1.2.2.2.2.2.2.2.2.2.1)),())) else G else G else I (.inr (([(w8 x.1.1),(w8 x.1.2.1),(w8 x.1.2.2.1),(w8 x.1.2.2.2.1),(w8 x.1.2.2.2.2.1),(w8 x.1.2.2.2.2.2.1),(w8<|w64<|B1 x.1.2.2.2.2.2.2.1 256),(w8<|BL x.1.2.2.2.2.2.2.1 256)]:List Int),()))))
def uq:Ent:=(114,G,⟨[Z13],[.row 5 .u8],Ps⟩)
def ad1:y7 uq:=sk (v:=t1<|t1<|t1<|.join [(3,.row 5 .u8)] .nil .nil) (fn:=f114) aj7 kN
def aeQ:Cx:=cX [uq] [] [(9,11)]
def afg:y9 aeQ:=aIe<|gC ad1<|AI
def dY(x:List Int×D):Option ((Y6×Bool×D)×D):=if(!decide ((j8 x.1:Int)=10))&&(!decide ((j8 x.1:Int)=17)) then I (((0,0,0,0,0,0,0,0,0,noB,()),A0,()),()) else if inb 0 x.1.length then if inb 1 x.1.length then if inb 2 x.1.length then if inb 3 x.1.length then if inb 4 x.1.length then if inb 5 x.1.length then if inb 6 x.1.length then if inb 7 x.1.length then let b:=(w64<|rd aIp x.1 0);let c:=(w64<|rd aIp x.1 1);let d:=(w64<|rd aIp x.1 2);let e:=(w64<|rd aIp x.1 3);let f:=(w64<|rd aIp x.1 4);let g:=(w64<|rd aIp x.1 5);let h:=(w64<|(w64<|256 * (w64<|rd aIp x.1 6))+(w64<|rd aIp x.1 7));(BT (X:=List Int×Y6×Y6×D) (λa=>(Ps a.2.2).bind λi=>if !decide ((BJ i.1.1)=(BJ a.1)) then I (((0,0,0,0,0,0,0,0,0,noB,()),A0,()),()) else I ((a.2.2.1,Y,()),()))<|(if U ((j8 x.1:Int)=17) then if inb 8 x.1.length then let j:=(w64<|rd aIp x.1 8);(if inb 9 x.1.length then if inb 10 x.1.length then let k:=(w64<|(w64<|256 * (w64<|rd aIp x.1 9))+(w64<|rd aIp x.1 10));(if(U (0<=15)&&U (15<=(j8 x.1:Int)))&&(U (0<=11)&&U (11<=15)) then let l:=(BJ<|Br (AM 11)<|BR (AM 15) x.1);I (.inr (x.1,(0,0,0,0,0,0,0,0,0,noB,()),(b,c,d,e,f,g,h,j,k,l,()),())) else G) else G else G) else G else I (.inr (x.1,(0,0,0,0,0,0,0,0,0,noB,()),(b,c,d,e,f,g,h,0,0,noB,()),())))) else G else G else G else G else G else G else G else G
def xL:Ent:=(79,G,⟨[.fz .u8],[Z13,.bool],dY⟩)
def adB:y7 xL:=sk (v:=t1<|t1<|t1<|.join [(0,.sl .u8),(2,Z14),(4,Z14)] .nil .nil) (fn:=f79) afg kN
def adY:Cx:=cX [] [] []
def adv:y9 adY:=aIe<|AI
def Rw(x:List A1×D):Option ((List A1×D)×D):=if U ((j8 x.1:Int)=0) then I ((([]:List A1),()),()) else if U (0<=(j8 x.1:Int))&&U ((j8 x.1:Int)<=4294967296) then I (((BR (BS (AM (j8 x.1:Int))<|dfl .str).length x.1++Br x.1.length (BS (AM (j8 x.1:Int))<|dfl .str)),()),()) else G
def cO:Ent:=(93,G,⟨[.fz .str],[.row 9 .str],Rw⟩)
def rJ:y7 cO:=sk (v:= .nil) (fn:=f93) adv kN
def akB:Cx:=cX [FJ] [] [(11,18)]
def aBD:y9 akB:=aIe<|gC FY<|AI
def fh(x:A1×aIf):Rnd (A1×aIf) (Int×Bool×D) (v7):=if U (x.2.2.1<(x.1.size:Int)) then if inb x.2.2.1 x.1.size then(C8 ((w64<|bt x.1 x.2.2.1),48,57,())).bind λa=>if !a.1.1 then I (.inr<|.inl (0,A0,())) else if inb x.2.2.1 x.1.size then let b:=(w64<|(w64<|10 * x.2.1)+(w64<|w8<|(bt x.1 x.2.2.1) - 48));I (.inl (x.1,b,(w64<|x.2.2.1+1),())) else G else G else I (.inr<|.inr (x.2.1,()))
def tB:=AT fh
def yw:Loop:=⟨[(0,.str),(4,j6),(5,j6)],[(4,j6)],0,[(2,j6),(3,.bool)],tB⟩
def aj9:LF f94 [] [1,1,1,0,1,0,0] yw:=sq (v:= .nil) aBD (b:=fh) kN
def Q3(x:A1×D):Option ((Int×Bool×D)×D):=(C8 ((x.1.size:Int),1,5,())).bind λb=>if Ag (!(!b.1.1)) (inb 0 x.1.size) then if(!b.1.1)||((U<|(bt x.1 0)=48)&&(U<|1<(x.1.size:Int))) then I ((0,A0,()),()) else(AN (tB (x.1,0,0,())) (λa=>I (a,())) λa=>I ((a.1,Y,()),())) else G
def gz:Ent:=(94,G,⟨[.str],[j6,.bool],Q3⟩)
def tA:y7 gz:=sk (v:=t1<|t1<|t1<|.two (t1<|.one<|.loop yw) .nil) (fn:=f94) aBD<|kC aj9 kN
def ahU:Cx:=cX [FJ,cO,gz] [] [(26,29),(38,41)]
def uv:y9 ahU:=aIe<|gC FY<|gC rJ<|gC tA<|AI
def dr(x:A1×List A1×aIf):Rnd (A1×List A1×aIf) D (A1×List A1×aIf):=if U (x.2.2.2.1<(x.1.size:Int)) then if Ag (U<|x.2.2.2.1<(w64<|x.2.2.1+3)) (inb x.2.2.2.1 x.1.size) then if(U<|x.2.2.2.1<(w64<|x.2.2.1+3))&&(!decide ((bt x.1 x.2.2.2.1)=58)) then I (.inl (x.1,x.2.1,x.2.2.1,(w64<|x.2.2.2.1+1),())) else I (.inr<|.inr x) else G else if Ag A0 (inb x.2.2.2.1 x.1.size) then I (.inr<|.inr x) else G
def s6:=AT dr
def wE:Loop:=⟨[(0,.str),(4,.row 9 .str),(5,j6),(6,j6)],[(0,.str),(4,.row 9 .str),(5,j6),(6,j6)],2,[],s6⟩
def agL:LF f62 [] [1,1,1,0,0,0,1,0,1,0,0,0] wE:=sq (v:= .nil) uv (b:=dr) kN
def S4(x:A1×List A1×v7):Rnd (A1×List A1×v7) D (List A1×v7):=if U (x.2.2.1<(x.1.size:Int)) then(AN (s6 (x.1,x.2.1,x.2.2.1,x.2.2)) (λ_=>I<|.inr<|.inl ()) λa=>(if Ag (!(U<|(a.1.size:Int)<=a.2.2.2.1)) (inb a.2.2.2.1 a.1.size) then if(U<|(a.1.size:Int)<=a.2.2.2.1)||(!decide ((bt a.1 a.2.2.2.1)=58)) then I (.inr<|.inr (a.2.1,a.2.2.1,())) else if(U (0<=a.2.2.2.1)&&U (a.2.2.2.1<=(a.1.size:Int)))&&(U (0<=a.2.2.1)&&U (a.2.2.1<=a.2.2.2.1)) then(Q3 ((a.1.extract (AM a.2.2.1)<|AM a.2.2.2.1),())).bind λc=>let b:=(w64<|(w64<|a.2.2.2.1+1)+c.1.1);(if !c.1.2.1 then I (.inr<|.inr (a.2.1,a.2.2.1,())) else(C8 (c.1.1,1,60,())).bind λd=>if !d.1.1 then I (.inr<|.inr (a.2.1,a.2.2.1,())) else if U ((a.1.size:Int)<=b) then I (.inr<|.inr (a.2.1,a.2.2.1,())) else if inb b a.1.size then if !decide ((bt a.1 b)=59) then I (.inr<|.inr (a.2.1,a.2.2.1,())) else if(U (0<=b)&&U (b<=(a.1.size:Int)))&&(U (0<=(w64<|a.2.2.2.1+1))&&U ((w64<|a.2.2.2.1+1)<=b)) then if Ab (a.2.1.length+([(a.1.extract (AM<|w64<|a.2.2.2.1+1)<|AM b)]:List A1).length) then I (.inl (a.1,(a.2.1++([(a.1.extract (AM<|w64<|a.2.2.2.1+1)<|AM b)]:List A1)),(w64<|b+1),())) else G else G else G) else G else G)) else I (.inr<|.inr x.2)
def s7:=AT S4
def wF:Loop:=⟨[(0,.str),(4,.row 9 .str),(5,j6)],[(4,.row 9 .str),(5,j6)],0,[],s7⟩
def ag9:LF f62 [] [1,1,1,0,0,0] wF:=sq (v:=t1<|.one<|t1<|.two (.one<|.loop wE) .nil) uv (b:=S4)<|kC agL kN
def Pp(x:A1×D):Option ((List A1×v7)×D):=(AN (s7 (x.1,([]:List A1),0,())) (λ_=>G) λa=>(Rw (a.1,())).bind λb=>I ((b.1.1,a.2),()))
def fK:Ent:=(62,G,⟨[.str],[.row 9 .str,j6],Pp⟩)
def rz:y7 fK:=sk (v:=t1<|t1<|t1<|.two (.one<|.loop wF) .nil) (fn:=f62) uv<|kC ag9 kN
def ah7:Cx:=cX [J4] [] []
def aj6:y9 ah7:=aIe<|gC Jj<|AI
def fC(x:v7):Option ((Y3×D)×D):=(FX x).bind λa=>if !a.1.1 then I (((0,0,0,([]:List A3),([]:List Mark),([]:List A3),()),()),()) else I (((x.1,0,1,([]:List A3),([]:List Mark),([]:List A3),()),()),())
def yN:Ent:=(95,G,⟨[j6],[Z4],fC⟩)
def adi:y7 yN:=sk (v:= .nil) (fn:=f95) aj6 kN
def ao7:Cx:=cX [] [] [(21,24)]
def aBx:y9 ao7:=aIe<|AI
def gi(x:Int×Int×List Mark×aIf):Rnd (Int×Int×List Mark×aIf) (v7) D:=if U (x.2.2.2.2.1<x.2.2.2.1) then if inb x.2.2.2.2.1 x.2.2.1.length then let a:=(rd aIo x.2.2.1 x.2.2.2.2.1).mf;let b:=(rd aIo x.2.2.1 x.2.2.2.2.1).mn;let c:=(rd aIo x.2.2.1 x.2.2.2.2.1).mu;if(U<|a=x.1)&&(U<|b=x.2.1) then I (.inr<|.inl x.2.2.2.2) else I (.inl (x.1,x.2.1,x.2.2.1,x.2.2.2.1,(w64<|x.2.2.2.2.1+1),())) else G else I (.inr<|.inr ())
def uA:=AT gi
def zh:Loop:=⟨[(1,j6),(2,j6),(9,.sl .mark),(10,j6),(11,j6)],[],0,[(6,j6)],uA⟩
def anO:LF f153 [] [1,0,1,0,0] zh:=sq (v:= .nil) aBx (b:=gi) kN
def Ke(x:List Mark×aIf):Option ((v7)×D):=(AN (uA (x.2.1,x.2.2.1,x.1,(j8 x.1:Int),0,())) (λa=>I (a,())) λa=>I (((-1),()),()))
def X0:Ent:=(153,G,⟨[.fz .mark,j6,j6],[j6],Ke⟩)
def dp:y7 X0:=sk (v:=t1<|.two (t1<|.one<|.loop zh) .nil) (fn:=f153) aBx<|kC anO kN
def ao1:Cx:=cX [FJ] [] []
def aBt:y9 ao1:=aIe<|gC FY<|AI
def gw(x:A1×v7):Rnd (A1×v7) (Bool×D) (A1×D):=if U (x.2.1<(x.1.size:Int)) then if inb x.2.1 x.1.size then(C8 ((w64<|bt x.1 x.2.1),32,126,())).bind λa=>if !a.1.1 then I (.inr<|.inl (A0,())) else I (.inl (x.1,(w64<|x.2.1+1),())) else G else I (.inr<|.inr (x.1,()))
def uG:=AT gw
def zc:Loop:=⟨[(0,.str),(3,j6)],[(0,.str)],0,[(2,.bool)],uG⟩
def anK:LF f127 [] [1,0,1,0,0] zc:=sq (v:= .nil) aBt (b:=gw) kN
def O9(x:A1×D):Option ((Bool×D)×D):=(AN (uG (x.1,0,())) (λa=>I (a,())) λa=>(C8 ((a.1.size:Int),1,24,())).bind λb=>I (b.1,()))
def aCF:Ent:=(127,G,⟨[.str],[.bool],O9⟩)
def agh:y7 aCF:=sk (v:=t1<|.two (t1<|.one<|.loop zc) .nil) (fn:=f127) aBt<|kC anK kN
def ani:Cx:=cX [FJ,J4,aCF] [] [(22,24)]
def aq7:y9 ani:=aIe<|gC FY<|gC Jj<|gC agh<|AI
def OB(x:Y4×D):Option ((Bool×D)×D):=(FX (x.1.1,())).bind λb=>if b.1.1 then(FX (x.1.2.2.1,())).bind λc=>if c.1.1 then(C8 (x.1.2.1,1,99,())).bind λd=>if d.1.1 then(C8 (x.1.2.2.2.1,1,999,())).bind λa=>if Ag a.1.1 ((O9 x.1.2.2.2.2).isSome) then let e:=(a.1.1&&(((O9 x.1.2.2.2.2).getD ((A0,()),())).1.1));I ((e,()),()) else G else if Ag A0 ((O9 x.1.2.2.2.2).isSome) then I ((A0,()),()) else G else if Ag A0 ((O9 x.1.2.2.2.2).isSome) then I ((A0,()),()) else G else if Ag A0 ((O9 x.1.2.2.2.2).isSome) then I ((A0,()),()) else G
def Si:Ent:=(90,G,⟨[Z6],[.bool],OB⟩)
def VZ:y7 Si:=sk (v:= .nil) (fn:=f90) aq7 kN
def anb:Cx:=cX [] [] [(13,20)]
def aq2:y9 anb:=aIe<|AI
def Lf(x:Int×aIj):Option ((Bool×D)×D):=let a:=((U<|x.1<x.2.2.1)||((U<|x.1=x.2.2.1)&&(U<|x.2.1<x.2.2.2.1)));I ((a,()),())
def X1:Ent:=(200,G,⟨[j6,j6,j6,j6],[.bool],Lf⟩)
def dq:y7 X1:=sk (v:= .nil) (fn:=f200) aq2 kN
def ak9:Cx:=cX [Si,X1] [] [(16,37)]
def aBC:y9 ak9:=aIe<|gC VZ<|gC dq<|AI
def fg(x:List A3×List A3×aIf):Rnd (List A3×List A3×aIf) (Bool×D) D:=if U (x.2.2.2.1<x.2.2.1) then if inb x.2.2.2.1 x.2.1.length then let b:=(rd y5 x.2.1 x.2.2.2.1).fr;let c:=(rd y5 x.2.1 x.2.2.2.1).nu;let d:=(rd y5 x.2.1 x.2.2.2.1).to;let e:=(rd y5 x.2.1 x.2.2.2.1).un;let f:=(rd y5 x.2.1 x.2.2.2.1).tx;(OB ((b,c,d,e,f,()),())).bind λa=>if Ag ((!(!a.1.1))&&(U<|0<x.2.2.2.1)) (inb (w64<|x.2.2.2.1 - 1) x.1.length) then if Ag ((!(!a.1.1))&&(U<|0<x.2.2.2.1)) (inb (w64<|x.2.2.2.1 - 1) x.1.length) then if Ag ((!(!a.1.1))&&(U<|0<x.2.2.2.1)) ((Lf ((rd y5 x.1<|w64<|x.2.2.2.1 - 1).fr,(rd y5 x.1<|w64<|x.2.2.2.1 - 1).nu,b,c,())).isSome) then if(!a.1.1)||((U<|0<x.2.2.2.1)&&(!(((Lf ((rd y5 x.1<|w64<|x.2.2.2.1 - 1).fr,(rd y5 x.1<|w64<|x.2.2.2.1 - 1).nu,b,c,())).getD ((A0,()),())).1.1))) then I (.inr<|.inl (A0,())) else I (.inl (x.1,x.2.1,x.2.2.1,(w64<|x.2.2.2.1+1),())) else G else G else G else G else I (.inr<|.inr ())
def sy:=AT fg
def yv:Loop:=⟨[(0,.sl .note),(5,.sl .note),(6,j6),(7,j6)],[],0,[(2,.bool)],sy⟩
def aj8:LF f163 [] [1,0,1,0,0] yv:=sq (v:= .nil) aBC (b:=fg) kN
def WV(x:List A3×D):Option ((Bool×D)×D):=(AN (sy (x.1,x.1,(j8 x.1:Int),0,())) (λa=>I (a,())) λa=>I ((Y,()),()))
def aBR:Ent:=(163,G,⟨[.fz .note],[.bool],WV⟩)
def af8:y7 aBR:=sk (v:=t1<|.two (t1<|.one<|.loop yv) .nil) (fn:=f163) aBC<|kC aj8 kN
def ao5:Cx:=cX [FJ,J4] [] [(12,14)]
def apx:y9 ao5:=aIe<|gC FY<|gC Jj<|AI
def iT(x:Y5×D):Option ((Bool×D)×D):=(FX (x.1.1,())).bind λb=>if b.1.1 then(C8 (x.1.2.1,1,99,())).bind λa=>if Ag a.1.1 ((C8 (x.1.2.2.1,1,999,())).isSome) then let c:=(a.1.1&&(((C8 (x.1.2.2.1,1,999,())).getD ((A0,()),())).1.1));I ((c,()),()) else G else if Ag A0 ((C8 (x.1.2.2.1,1,999,())).isSome) then I ((A0,()),()) else G
def aCG:Ent:=(201,G,⟨[Z11],[.bool],iT⟩)
def agi:y7 aCG:=sk (v:= .nil) (fn:=f201) apx kN
def akC:Cx:=cX [X1,aCG] [] [(16,37)]
def aAw:y9 akC:=aIe<|gC dq<|gC agi<|AI
def fj(x:List Mark×List Mark×aIf):Rnd (List Mark×List Mark×aIf) (Bool×D) D:=if U (x.2.2.2.1<x.2.2.1) then if inb x.2.2.2.1 x.2.1.length then let b:=(rd aIo x.2.1 x.2.2.2.1).mf;let c:=(rd aIo x.2.1 x.2.2.2.1).mn;let d:=(rd aIo x.2.1 x.2.2.2.1).mu;(iT ((b,c,d,()),())).bind λa=>if Ag ((!(!a.1.1))&&(U<|0<x.2.2.2.1)) (inb (w64<|x.2.2.2.1 - 1) x.1.length) then if Ag ((!(!a.1.1))&&(U<|0<x.2.2.2.1)) (inb (w64<|x.2.2.2.1 - 1) x.1.length) then if Ag ((!(!a.1.1))&&(U<|0<x.2.2.2.1)) ((Lf ((rd aIo x.1<|w64<|x.2.2.2.1 - 1).mf,(rd aIo x.1<|w64<|x.2.2.2.1 - 1).mn,b,c,())).isSome) then if(!a.1.1)||((U<|0<x.2.2.2.1)&&(!(((Lf ((rd aIo x.1<|w64<|x.2.2.2.1 - 1).mf,(rd aIo x.1<|w64<|x.2.2.2.1 - 1).mn,b,c,())).getD ((A0,()),())).1.1))) then I (.inr<|.inl (A0,())) else I (.inl (x.1,x.2.1,x.2.2.1,(w64<|x.2.2.2.1+1),())) else G else G else G else G else I (.inr<|.inr ())
def tC:=AT fj
def yy:Loop:=⟨[(0,.sl .mark),(5,.sl .mark),(6,j6),(7,j6)],[],0,[(2,.bool)],tC⟩
def ajA:LF f164 [] [1,0,1,0,0] yy:=sq (v:= .nil) aAw (b:=fj) kN
def gf(x:List Mark×D):Option ((Bool×D)×D):=(AN (tC (x.1,x.1,(j8 x.1:Int),0,())) (λa=>I (a,())) λa=>I ((Y,()),()))
def aAy:Ent:=(164,G,⟨[.fz .mark],[.bool],gf⟩)
def afA:y7 aAy:=sk (v:=t1<|.two (t1<|.one<|.loop yy) .nil) (fn:=f164) aAw<|kC ajA kN
def apP:Cx:=cX [FJ] [] [(10,23)]
def aqr:y9 apP:=aIe<|gC FY<|AI
def XD(x:Int×Y4×D):Option ((Bool×D)×D):=if Ag (!decide (x.1=x.2.1.2.2.1)) ((C8 (x.1,x.2.1.1,x.2.1.2.2.1,())).isSome) then if Ag ((!decide (x.1=x.2.1.2.2.1))&&(!(((C8 (x.1,x.2.1.1,x.2.1.2.2.1,())).getD ((A0,()),())).1.1))) ((C8 (x.1,x.2.1.2.2.1,x.2.1.1,())).isSome) then let a:=((!decide (x.1=x.2.1.2.2.1))&&((((C8 (x.1,x.2.1.1,x.2.1.2.2.1,())).getD ((A0,()),())).1.1)||(((C8 (x.1,x.2.1.2.2.1,x.2.1.1,())).getD ((A0,()),())).1.1)));I ((a,()),()) else G else G
def aCd:Ent:=(165,G,⟨[j6,Z6],[.bool],XD⟩)
def aiY:y7 aCd:=sk (v:= .nil) (fn:=f165) aqr kN
def ank:Cx:=cX [FJ,J4,X0,aBR,aAy,aCd] [] [(123,127)]
def ig:y9 ank:=aIe<|gC FY<|gC Jj<|gC dp<|gC af8<|gC afA<|gC aiY<|AI
def iE(x:Y3×List A3×aIf):Rnd (Y3×List A3×aIf) (Bool×D) D:=if U (x.2.2.2.1<x.2.2.1) then if inb x.2.2.2.1 x.2.1.length then let bw:=(rd y5 x.2.1 x.2.2.2.1).fr;let V3:=(rd y5 x.2.1 x.2.2.2.1).nu;let bu:=(rd y5 x.2.1 x.2.2.2.1).to;let a:=(rd y5 x.2.1 x.2.2.2.1).un;let aDm:=(rd y5 x.2.1 x.2.2.2.1).tx;(if U (bw=x.1.1) then if U (x.1.2.2.1<=V3) then I (.inr<|.inl (A0,())) else if !decide (bu=x.1.1) then I (.inr<|.inl (A0,())) else if U (x.1.2.1<a) then(Ke (x.1.2.2.2.2.1,bw,V3,())).bind λalq=>if U (alq.1.1<0) then I (.inr<|.inl (A0,())) else I (.inl (x.1,x.2.1,x.2.2.1,(w64<|x.2.2.2.1+1),())) else I (.inl (x.1,x.2.1,x.2.2.1,(w64<|x.2.2.2.1+1),())) else if !decide (bu=x.1.1) then I (.inr<|.inl (A0,())) else if U (x.1.2.1<a) then(Ke (x.1.2.2.2.2.1,bw,V3,())).bind λalp=>if U (alp.1.1<0) then I (.inr<|.inl (A0,())) else I (.inl (x.1,x.2.1,x.2.2.1,(w64<|x.2.2.2.1+1),())) else I (.inl (x.1,x.2.1,x.2.2.1,(w64<|x.2.2.2.1+1),()))) else G else I (.inr<|.inr ())
def uQ:=AT iE
def zG:Loop:=⟨[(1,Z7),(131,.sl .note),(132,j6),(133,j6)],[],4,[(2,.bool)],uQ⟩
def an6:LF f128 [] [1,1,1,1,1,0,1,0,0] zG:=sq (v:= .nil) ig (b:=iE) kN
def iF(x:Y3×List Mark×aIf):Rnd (Y3×List Mark×aIf) (Bool×D) (Y3×D):=if U (x.2.2.2.1<x.2.2.1) then if inb x.2.2.2.1 x.2.1.length then let ale:=(rd aIo x.2.1 x.2.2.2.1).mf;let rF:=(rd aIo x.2.1 x.2.2.2.1).mn;let a:=(rd aIo x.2.1 x.2.2.2.1).mu;if U (ale=x.1.1) then if(U<|x.1.2.2.1<=rF)||(U<|a<=x.1.2.1) then I (.inr<|.inl (A0,())) else I (.inl (x.1,x.2.1,x.2.2.1,(w64<|x.2.2.2.1+1),())) else if U (a<=x.1.2.1) then I (.inr<|.inl (A0,())) else I (.inl (x.1,x.2.1,x.2.2.1,(w64<|x.2.2.2.1+1),())) else G else I (.inr<|.inr (x.1,()))
def uR:=AT iF
def zH:Loop:=⟨[(1,Z7),(104,.sl .mark),(105,j6),(106,j6)],[(1,Z7)],2,[(2,.bool)],uR⟩
def anA:LF f128 [] [1,1,1,1,0,1,0,0] zH:=sq (v:= .nil) ig (b:=iF) kN
def iG(x:Y3×List A3×aIf):Rnd (Y3×List A3×aIf) (Bool×D) (Y3×D):=if U (x.2.2.2.1<x.2.2.1) then if inb x.2.2.2.1 x.2.1.length then let a:=(rd y5 x.2.1 x.2.2.2.1).fr;let b:=(rd y5 x.2.1 x.2.2.2.1).nu;let d:=(rd y5 x.2.1 x.2.2.2.1).to;let c:=(rd y5 x.2.1 x.2.2.2.1).un;let e:=(rd y5 x.2.1 x.2.2.2.1).tx;if U (a=x.1.1) then if U (x.1.2.2.1<=b) then I (.inr<|.inl (A0,())) else if U (c<=x.1.2.1) then I (.inr<|.inl (A0,())) else(XD (x.1.1,(a,b,d,c,e,()),())).bind λf=>if !f.1.1 then I (.inr<|.inl (A0,())) else(Ke (x.1.2.2.2.2.1,a,b,())).bind λg=>if U (0<=g.1.1) then I (.inr<|.inl (A0,())) else I (.inl (x.1,x.2.1,x.2.2.1,(w64<|x.2.2.2.1+1),())) else if U (c<=x.1.2.1) then I (.inr<|.inl (A0,())) else(XD (x.1.1,(a,b,d,c,e,()),())).bind λh=>if !h.1.1 then I (.inr<|.inl (A0,())) else(Ke (x.1.2.2.2.2.1,a,b,())).bind λi=>if U (0<=i.1.1) then I (.inr<|.inl (A0,())) else I (.inl (x.1,x.2.1,x.2.2.1,(w64<|x.2.2.2.1+1),())) else G else I (.inr<|.inr (x.1,()))
def uS:=AT iG
def zI:Loop:=⟨[(1,Z7),(60,.sl .note),(61,j6),(62,j6)],[(1,Z7)],0,[(2,.bool)],uS⟩
def anS:LF f128 [] [1,1,1,0,1,0,0] zI:=sq (v:= .nil) ig (b:=iG) kN
def QA(x:Y3×D):Option ((Bool×D)×D):=(FX (x.1.1,())).bind λb=>if !b.1.1 then I ((A0,()),()) else(C8 (x.1.2.1,0,999,())).bind λc=>if !c.1.1 then I ((A0,()),()) else(C8 (x.1.2.2.1,1,100,())).bind λd=>if !d.1.1 then I ((A0,()),()) else if U (6<(j8 x.1.2.2.2.1:Int)) then I ((A0,()),()) else if U (12<(j8 x.1.2.2.2.2.1:Int)) then I ((A0,()),()) else if U (6<(j8 x.1.2.2.2.2.2.1:Int)) then I ((A0,()),()) else(WV (x.1.2.2.2.1,())).bind λe=>if !e.1.1 then I ((A0,()),()) else(gf (x.1.2.2.2.2.1,())).bind λf=>if !f.1.1 then I ((A0,()),()) else(WV x.1.2.2.2.2.2).bind λg=>if !g.1.1 then I ((A0,()),()) else(AN (uS (x.1,x.1.2.2.2.1,(j8 x.1.2.2.2.1:Int),0,())) (λa=>I (a,())) λa=>(AN (uR (a.1,a.1.2.2.2.2.1,(j8 a.1.2.2.2.2.1:Int),0,())) (λV2=>I (V2,())) λV2=>(AN (uQ (V2.1,V2.1.2.2.2.2.2.1,(V2.1.2.2.2.2.2.1.length:Int),0,())) (λaDk=>I (aDk,())) λaDk=>I ((Y,()),()))))
def kE:Ent:=(128,G,⟨[Z8],[.bool],QA⟩)
def xd:y7 kE:=sk (v:=t1<|t1<|t1<|.two (t1<|.one<|.loop zI)<|.two (t1<|.one<|.loop zH)<|.two (t1<|.one<|.loop zG) .nil) (fn:=f128) ig<|kC anS<|kC anA<|kC an6 kN
def akF:Cx:=cX [] [] []
def jO:y9 akF:=aIe<|AI
def fp(x:Int×Y3×Y3×List Mark×aIf):Rnd (Int×Y3×Y3×List Mark×aIf) D (Y3×Y3×D):=if U (x.2.2.2.2.2.1<x.2.2.2.2.1) then if inb x.2.2.2.2.2.1 x.2.2.2.1.length then let b:=(rd aIo x.2.2.2.1 x.2.2.2.2.2.1).mf;let c:=(rd aIo x.2.2.2.1 x.2.2.2.2.2.1).mn;let a:=(rd aIo x.2.2.2.1 x.2.2.2.2.2.1).mu;if U (x.1<a) then if Ab (x.2.2.1.2.2.2.2.1.length+([(Mark.mk b c a)]:List Mark).length) then I (.inl (x.1,x.2.1,(x.2.2.1.1,x.2.2.1.2.1,x.2.2.1.2.2.1,x.2.2.1.2.2.2.1,(x.2.2.1.2.2.2.2.1++([(Mark.mk b c a)]:List Mark)),x.2.2.1.2.2.2.2.2),x.2.2.2.1,x.2.2.2.2.1,(w64<|x.2.2.2.2.2.1+1),())) else G else I (.inl (x.1,x.2.1,x.2.2.1,x.2.2.2.1,x.2.2.2.2.1,(w64<|x.2.2.2.2.2.1+1),())) else G else I (.inr<|.inr (x.2.1,x.2.2.1,()))
def sb:=AT fp
def z6:Loop:=⟨[(1,j6),(4,Z9),(5,Z31),(37,.sl .mark),(38,j6),(39,j6)],[(4,Z9),(5,Z31)],2,[],sb⟩
def ajL:LF f203 [] [1,1,1,0,1,0,0] z6:=sq (v:= .nil) jO (b:=fp) kN
def fq(x:Int×Y3×Y3×Y3×List A3×aIf):Rnd (Int×Y3×Y3×Y3×List A3×aIf) D (Int×Y3×Y3×Y3×D):=if U (x.2.2.2.2.2.2.1<x.2.2.2.2.2.1) then if inb x.2.2.2.2.2.2.1 x.2.2.2.2.1.length then let b:=(rd y5 x.2.2.2.2.1 x.2.2.2.2.2.2.1).fr;let c:=(rd y5 x.2.2.2.2.1 x.2.2.2.2.2.2.1).nu;let d:=(rd y5 x.2.2.2.2.1 x.2.2.2.2.2.2.1).to;let a:=(rd y5 x.2.2.2.2.1 x.2.2.2.2.2.2.1).un;let e:=(rd y5 x.2.2.2.2.1 x.2.2.2.2.2.2.1).tx;if U (x.1<a) then if Ab (x.2.2.2.1.2.2.2.1.length+([(A3.mk b c d a e)]:List A3).length) then I (.inl (x.1,x.2.1,x.2.2.1,(x.2.2.2.1.1,x.2.2.2.1.2.1,x.2.2.2.1.2.2.1,(x.2.2.2.1.2.2.2.1++([(A3.mk b c d a e)]:List A3)),x.2.2.2.1.2.2.2.2),x.2.2.2.2.1,x.2.2.2.2.2.1,(w64<|x.2.2.2.2.2.2.1+1),())) else G else I (.inl (x.1,x.2.1,x.2.2.1,x.2.2.2.1,x.2.2.2.2.1,x.2.2.2.2.2.1,(w64<|x.2.2.2.2.2.2.1+1),())) else G else I (.inr<|.inr (x.1,x.2.1,x.2.2.1,x.2.2.2.1,()))
def sd:=AT fq
def z7:Loop:=⟨[(1,j6),(2,Z7),(4,Z9),(5,Z31),(19,.sl .note),(20,j6),(21,j6)],[(1,j6),(2,Z7),(4,Z9),(5,Z31)],0,[],sd⟩
def ajB:LF f203 [] [1,1,0,1,0,0] z7:=sq (v:= .nil) jO (b:=fq) kN
def gq(x:Y3×v7):Option ((Y3×D)×D):=(AN (sd (x.2.1,x.1,(0,0,0,([]:List A3),([]:List Mark),([]:List A3),()),(x.1.1,x.2.1,x.1.2.2.1,([]:List A3),([]:List Mark),x.1.2.2.2.2.2),x.1.2.2.2.1,(j8 x.1.2.2.2.1:Int),0,())) (λ_=>G) λa=>(AN (sb (a.1,a.2.2.1,a.2.2.2.1,a.2.1.2.2.2.2.1,(j8 a.2.1.2.2.2.2.1:Int),0,())) (λ_=>G) λb=>I (b.2,())))
def aAz:Ent:=(203,G,⟨[Z8,j6],[Z8],gq⟩)
def afF:y7 aAz:=sk (v:=t1<|t1<|.two (t1<|.one<|.loop z7)<|.two (t1<|.one<|.loop z6) .nil) (fn:=f203) jO<|kC ajB<|kC ajL kN
def apR:Cx:=cX [aAz] [] [(12,15),(24,27)]
def aqt:y9 apR:=aIe<|gC afF<|AI
def X6(x:Y3×A1×v7):Option ((Y3×Bool×D)×D):=let a:=((U<|x.2.1=(B [116,105,109,101]))&&(U<|x.1.2.1<x.2.2.1));(if a then(gq (x.1,x.2.2)).bind λb=>I ((b.1.1,Y,()),()) else let c:=((U<|x.2.1=(B [110,101,120,116]))&&(U<|x.1.2.2.1<x.2.2.1));(if c then I (((x.1.1,x.1.2.1,x.2.2.1,x.1.2.2.2),Y,()),()) else I ((x.1,A0,()),())))
def aCe:Ent:=(167,G,⟨[Z8,.str,j6],[Z8,.bool],X6⟩)
def aia:y7 aCe:=sk (v:= .nil) (fn:=f167) aqt kN
def aha:Cx:=cX [Si,SW] [] []
def aj1:y9 aha:=aIe<|gC VZ<|gC VF<|AI
def Mj(x:Y4×D):Option ((A1×D)×D):=(OB x).bind λe=>if !e.1.1 then I ((noB,()),()) else(J6 (x.1.1,())).bind λa=>if U (a.1.1.size+(B [32]).size<=4611686018427387904) then(J6 (x.1.2.1,())).bind λb=>if U ((a.1.1++(B [32])).size+b.1.1.size<=4611686018427387904) then if U (((a.1.1++(B [32]))++b.1.1).size+(B [32]).size<=4611686018427387904) then(J6 (x.1.2.2.1,())).bind λc=>if U ((((a.1.1++(B [32]))++b.1.1)++(B [32])).size+c.1.1.size<=4611686018427387904) then if U (((((a.1.1++(B [32]))++b.1.1)++(B [32]))++c.1.1).size+(B [32]).size<=4611686018427387904) then(J6 (x.1.2.2.2.1,())).bind λd=>if U ((((((a.1.1++(B [32]))++b.1.1)++(B [32]))++c.1.1)++(B [32])).size+d.1.1.size<=4611686018427387904) then if U (((((((a.1.1++(B [32]))++b.1.1)++(B [32]))++c.1.1)++(B [32]))++d.1.1).size+(B [32]).size<=4611686018427387904) then if U ((((((((a.1.1++(B [32]))++b.1.1)++(B [32]))++c.1.1)++(B [32]))++d.1.1)++(B [32])).size+x.1.2.2.2.2.1.size<=4611686018427387904) then let f:=((((((((a.1.1++(B [32]))++b.1.1)++(B [32]))++c.1.1)++(B [32]))++d.1.1)++(B [32]))++x.1.2.2.2.2.1);I ((f,()),()) else G else G else G else G else G else G else G else G
def W3:Ent:=(120,G,⟨[Z6],[.str],Mj⟩)
def cK:y7 W3:=sk (v:= .nil) (fn:=f120) aj1 kN
def ahz:Cx:=cX [gz] [] []
def aAT:y9 ahz:=aIe<|gC tA<|AI
def fA(x:List Int×List A1×aIf):Rnd (List Int×List A1×aIf) (List Int×Bool×D) (List Int×D):=if U (x.2.2.2.1<x.2.2.1) then if inb x.2.2.2.1 x.2.1.length then let b:=(rd aIr x.2.1 x.2.2.2.1);(Q3 (b,())).bind λa=>if !a.1.2.1 then I (.inr<|.inl (([]:List Int),A0,())) else if Ab (x.1.length+([a.1.1]:List Int).length) then I (.inl ((x.1++([a.1.1]:List Int)),x.2.1,x.2.2.1,(w64<|x.2.2.2.1+1),())) else G else G else I (.inr<|.inr (x.1,()))
def sP:=AT fA
def wj:Loop:=⟨[(4,.row 3 .int),(9,.sl .str),(10,j6),(11,j6)],[(4,.row 3 .int)],0,[(2,.row 3 .int),(3,.bool)],sP⟩
def ahk:LF f170 [] [1,1,0,1,0,0] wj:=sq (v:= .nil) aAT (b:=fA) kN
def SJ(x:List A1×D):Option ((List Int×Bool×D)×D):=(AN (sP (([]:List Int),x.1,(j8 x.1:Int),0,())) (λa=>I (a,())) λa=>I ((a.1,Y,()),()))
def vJ:Ent:=(170,G,⟨[.fz .str],[.row 3 .int,.bool],SJ⟩)
def vi:y7 vJ:=sk (v:=t1<|t1<|.two (t1<|.one<|.loop wj) .nil) (fn:=f170) aAT<|kC ahk kN
def ai4:Cx:=cX [Si,W3,vJ,yc] [] [(43,46)]
def akt:y9 ai4:=aIe<|gC VZ<|gC cK<|gC vi<|gC adb<|AI
def WC(x:A1×D):Option ((Y4×Bool×D)×D):=(ux (x.1,(B [32]),5,())).bind λb=>if !decide ((j8 b.1.1:Int)=5) then I (((0,0,0,0,noB,()),A0,()),()) else if U (0<=4)&&U (4<=(j8 b.1.1:Int)) then(SJ ((BR (AM 4) b.1.1),())).bind λa=>if !a.1.2.1 then I (((0,0,0,0,noB,()),A0,()),()) else if inb 0 a.1.1.length then if inb 1 a.1.1.length then if inb 2 a.1.1.length then if inb 3 a.1.1.length then if inb 4 b.1.1.length then(OB (((rd aIk a.1.1 0),(rd aIk a.1.1 1),(rd aIk a.1.1 2),(rd aIk a.1.1 3),(rd aIr b.1.1 4),()),())).bind λc=>if Ag (!(!c.1.1)) ((Mj (((rd aIk a.1.1 0),(rd aIk a.1.1 1),(rd aIk a.1.1 2),(rd aIk a.1.1 3),(rd aIr b.1.1 4),()),())).isSome) then if(!c.1.1)||(!decide (((Mj (((rd aIk a.1.1 0),(rd aIk a.1.1 1),(rd aIk a.1.1 2),(rd aIk a.1.1 3),(rd aIr b.1.1 4),()),())).getD ((noB,()),())).1.1=x.1)) then I (((0,0,0,0,noB,()),A0,()),()) else I ((((rd aIk a.1.1 0),(rd aIk a.1.1 1),(rd aIk a.1.1 2),(rd aIk a.1.1 3),(rd aIr b.1.1 4),()),Y,()),()) else G else G else G else G else G else G else G
def aAO:Ent:=(168,G,⟨[.str],[Z6,.bool],WC⟩)
def aeh:y7 aAO:=sk (v:= .nil) (fn:=f168) akt kN
def ao4:Cx:=cX [] [] [(21,24)]
def aBv:y9 ao4:=aIe<|AI
def ga(x:Int×Int×List A3×aIf):Rnd (Int×Int×List A3×aIf) (v7) D:=if U (x.2.2.2.2.1<x.2.2.2.1) then if inb x.2.2.2.2.1 x.2.2.1.length then let a:=(rd y5 x.2.2.1 x.2.2.2.2.1).fr;let b:=(rd y5 x.2.2.1 x.2.2.2.2.1).nu;let c:=(rd y5 x.2.2.1 x.2.2.2.2.1).to;let d:=(rd y5 x.2.2.1 x.2.2.2.2.1).un;let e:=(rd y5 x.2.2.1 x.2.2.2.2.1).tx;if(U<|a=x.1)&&(U<|b=x.2.1) then I (.inr<|.inl x.2.2.2.2) else I (.inl (x.1,x.2.1,x.2.2.1,x.2.2.2.1,(w64<|x.2.2.2.2.1+1),())) else G else I (.inr<|.inr ())
def uI:=AT ga
def zf:Loop:=⟨[(1,j6),(2,j6),(9,.sl .note),(10,j6),(11,j6)],[],0,[(6,j6)],uI⟩
def anM:LF f37 [] [1,0,1,0,0] zf:=sq (v:= .nil) aBv (b:=ga) kN
def H5(x:List A3×aIf):Option ((v7)×D):=(AN (uI (x.2.1,x.2.2.1,x.1,(j8 x.1:Int),0,())) (λa=>I (a,())) λa=>I (((-1),()),()))
def Lg:Ent:=(37,G,⟨[.fz .note,j6,j6],[j6],H5⟩)
def Mf:y7 Lg:=sk (v:=t1<|.two (t1<|.one<|.loop zf) .nil) (fn:=f37) aBv<|kC anM kN
def ao3:Cx:=cX [X1] [] [(11,25)]
def aBu:y9 ao3:=aIe<|gC dq<|AI
def gx(x:List A3×Y4×v7):Rnd (List A3×Y4×v7) D (List A3×Y4×v7):=if Ag (U<|x.2.2.1<(j8 x.1:Int)) (inb x.2.2.1 x.1.length) then if Ag (U<|x.2.2.1<(j8 x.1:Int)) (inb x.2.2.1 x.1.length) then if Ag (U<|x.2.2.1<(j8 x.1:Int)) ((Lf ((rd y5 x.1 x.2.2.1).fr,(rd y5 x.1 x.2.2.1).nu,x.2.1.1,x.2.1.2.1,())).isSome) then if(U<|x.2.2.1<(j8 x.1:Int))&&(((Lf ((rd y5 x.1 x.2.2.1).fr,(rd y5 x.1 x.2.2.1).nu,x.2.1.1,x.2.1.2.1,())).getD ((A0,()),())).1.1) then I (.inl (x.1,x.2.1,(w64<|x.2.2.1+1),())) else I (.inr<|.inr x) else G else G else G
def uH:=AT gx
def ze:Loop:=⟨[(0,.sl .note),(3,Z5),(5,j6)],[(0,.sl .note),(3,Z5),(5,j6)],0,[],uH⟩
def anL:LF f206 [] [1,1,0,0,0] ze:=sq (v:= .nil) aBu (b:=gx) kN
def Q9(x:List A3×Y4×D):Option ((List A3×D)×D):=(AN (uH (x.1,x.2.1,0,())) (λ_=>G) λa=>(if U (0<=a.2.2.1)&&U (a.2.2.1<=(j8 a.1:Int)) then if Ab (([]:List A3).length+(BR (AM a.2.2.1) a.1).length) then if Ab ((([]:List A3)++(BR (AM a.2.2.1) a.1)).length+([(A3.mk a.2.1.1 a.2.1.2.1 a.2.1.2.2.1 a.2.1.2.2.2.1 a.2.1.2.2.2.2.1)]:List A3).length) then if U (0<=a.2.2.1)&&U (a.2.2.1<=(j8 a.1:Int)) then if Ab (((([]:List A3)++(BR (AM a.2.2.1) a.1))++([(A3.mk a.2.1.1 a.2.1.2.1 a.2.1.2.2.1 a.2.1.2.2.2.1 a.2.1.2.2.2.2.1)]:List A3)).length+(Br (AM a.2.2.1) a.1).length) then I (((((([]:List A3)++(BR (AM a.2.2.1) a.1))++([(A3.mk a.2.1.1 a.2.1.2.1 a.2.1.2.2.1 a.2.1.2.2.2.1 a.2.1.2.2.2.2.1)]:List A3))++(Br (AM a.2.2.1) a.1)),()),()) else G else G else G else G else G))
def k8:Ent:=(206,G,⟨[.fz .note,Z6],[.row 54 .note],Q9⟩)
def wi:y7 k8:=sk (v:=t1<|t1<|.two (.one<|.loop ze) .nil) (fn:=f206) aBu<|kC anL kN
def ao6:Cx:=cX [X1] [] [(11,25)]
def aBw:y9 ao6:=aIe<|gC dq<|AI
def gh(x:List Mark×Y5×v7):Rnd (List Mark×Y5×v7) D (List Mark×Y5×v7):=if Ag (U<|x.2.2.1<(j8 x.1:Int)) (inb x.2.2.1 x.1.length) then if Ag (U<|x.2.2.1<(j8 x.1:Int)) (inb x.2.2.1 x.1.length) then if Ag (U<|x.2.2.1<(j8 x.1:Int)) ((Lf ((rd aIo x.1 x.2.2.1).mf,(rd aIo x.1 x.2.2.1).mn,x.2.1.1,x.2.1.2.1,())).isSome) then if(U<|x.2.2.1<(j8 x.1:Int))&&(((Lf ((rd aIo x.1 x.2.2.1).mf,(rd aIo x.1 x.2.2.1).mn,x.2.1.1,x.2.1.2.1,())).getD ((A0,()),())).1.1) then I (.inl (x.1,x.2.1,(w64<|x.2.2.1+1),())) else I (.inr<|.inr x) else G else G else G
def u9:=AT gh
def zg:Loop:=⟨[(0,.sl .mark),(3,Z10),(5,j6)],[(0,.sl .mark),(3,Z10),(5,j6)],0,[],u9⟩
def anN:LF f209 [] [1,1,0,0,0] zg:=sq (v:= .nil) aBw (b:=gh) kN
def Sb(x:List Mark×Y5×D):Option ((List Mark×D)×D):=(AN (u9 (x.1,x.2.1,0,())) (λ_=>G) λa=>(if U (0<=a.2.2.1)&&U (a.2.2.1<=(j8 a.1:Int)) then if Ab (([]:List Mark).length+(BR (AM a.2.2.1) a.1).length) then if Ab ((([]:List Mark)++(BR (AM a.2.2.1) a.1)).length+([(Mark.mk a.2.1.1 a.2.1.2.1 a.2.1.2.2.1)]:List Mark).length) then if U (0<=a.2.2.1)&&U (a.2.2.1<=(j8 a.1:Int)) then if Ab (((([]:List Mark)++(BR (AM a.2.2.1) a.1))++([(Mark.mk a.2.1.1 a.2.1.2.1 a.2.1.2.2.1)]:List Mark)).length+(Br (AM a.2.2.1) a.1).length) then I (((((([]:List Mark)++(BR (AM a.2.2.1) a.1))++([(Mark.mk a.2.1.1 a.2.1.2.1 a.2.1.2.2.1)]:List Mark))++(Br (AM a.2.2.1) a.1)),()),()) else G else G else G else G else G))
def k9:Ent:=(209,G,⟨[.fz .mark,Z11],[.row 56 .mark],Sb⟩)
def wm:y7 k9:=sk (v:=t1<|t1<|.two (.one<|.loop zg) .nil) (fn:=f209) aBw<|kC anN kN
def anh:Cx:=cX [Lg,Si,X0,k8,k9] [] []
def aq6:y9 anh:=aIe<|gC Mf<|gC VZ<|gC dp<|gC wi<|gC wm<|AI
def Wl(x:Y3×Y4×D):Option ((Y3×Bool×D)×D):=(OB x.2).bind λa=>if !a.1.1 then I ((x.1,A0,()),()) else if U (x.2.1.2.2.2.1<=x.1.2.1) then I ((x.1,A0,()),()) else(H5 (x.1.2.2.2.1,x.2.1.1,x.2.1.2.1,())).bind λb=>if U (0<=b.1.1) then I ((x.1,A0,()),()) else(H5 (x.1.2.2.2.2.2.1,x.2.1.1,x.2.1.2.1,())).bind λc=>if U (0<=c.1.1) then I ((x.1,A0,()),()) else(Ke (x.1.2.2.2.2.1,x.2.1.1,x.2.1.2.1,())).bind λd=>if U (0<=d.1.1) then I ((x.1,A0,()),()) else if U (12<(w64<|(w64<|(j8 x.1.2.2.2.1:Int)+(j8 x.1.2.2.2.2.1:Int))+1)) then I ((x.1,A0,()),()) else if U (x.2.1.2.2.1=x.1.1) then(Q9 (x.1.2.2.2.2.2.1,x.2)).bind λe=>(Sb (x.1.2.2.2.2.1,(x.2.1.1,x.2.1.2.1,x.2.1.2.2.2.1,()),())).bind λf=>I (((x.1.1,x.1.2.1,x.1.2.2.1,x.1.2.2.2.1,f.1.1,e.1),Y,()),()) else(Q9 (x.1.2.2.2.1,x.2)).bind λg=>I (((x.1.1,x.1.2.1,x.1.2.2.1,g.1.1,x.1.2.2.2.2),Y,()),())
def aCN:Ent:=(205,G,⟨[Z8,Z6],[Z8,.bool],Wl⟩)
def agq:y7 aCN:=sk (v:= .nil) (fn:=f205) aq6 kN
def anZ:Cx:=cX [Lg,aCN,k8] [] [(19,23),(38,42),(59,66)]
def aq0:y9 anZ:=aIe<|gC Mf<|gC agq<|gC wi<|AI
def Wy(x:Y3×A1×Y4×D):Option ((Y3×Bool×D)×D):=(BT (X:=A1×Y3×Y4×Y3×Bool×D) (λa=>if a.2.2.2.2.1 then let c:=(w64<|a.2.1.2.2.1+1);(Wl ((a.2.1.1,a.2.1.2.1,c,a.2.1.2.2.2),a.2.2.1,())).bind λd=>I (d.1,()) else let e:=((U<|a.1=(B [116,97,107,101]))&&(!decide (a.2.2.1.1=a.2.1.1)));(if e then(Wl (a.2.1,a.2.2.1,())).bind λf=>I (f.1,()) else(H5 (a.2.1.2.2.2.1,a.2.2.1.1,a.2.2.1.2.1,())).bind λb=>if Ag (!(U<|0<=b.1.1)) ((H5 (a.2.1.2.2.2.2.2.1,a.2.2.1.1,a.2.2.1.2.1,())).isSome) then let g:=((U<|0<=b.1.1)||(U<|0<=((H5 (a.2.1.2.2.2.2.2.1,a.2.2.1.1,a.2.2.1.2.1,())).getD ((0,()),())).1.1));(if g then I ((a.2.1,A0,()),()) else let h:=(U<|a.1=(B [104,101,108,100]));(if h then(Q9 (a.2.1.2.2.2.1,a.2.2.1,())).bind λi=>I (((a.2.1.1,a.2.1.2.1,a.2.1.2.2.1,i.1.1,a.2.1.2.2.2.2),Y,()),()) else let j:=(U<|a.1=(B [105,110,98,111,120]));(if j then(Q9 (a.2.1.2.2.2.2.2.1,a.2.2.1,())).bind λk=>I (((a.2.1.1,a.2.1.2.1,a.2.1.2.2.1,a.2.1.2.2.2.1,a.2.1.2.2.2.2.1,k.1),Y,()),()) else I ((a.2.1,A0,()),())))) else G))<|(if U (x.2.1=(B [111,119,110])) then let l:=((U<|x.2.2.1.1=x.1.1)&&(U<|x.2.2.1.2.1=x.1.2.2.1));I (.inr (x.2.1,x.1,x.2.2.1,(0,0,0,([]:List A3),([]:List Mark),([]:List A3),()),l,())) else I (.inr (x.2.1,x.1,x.2.2.1,(0,0,0,([]:List A3),([]:List Mark),([]:List A3),()),A0,()))))
def aCI:Ent:=(169,G,⟨[Z8,.str,Z6],[Z8,.bool],Wy⟩)
def agk:y7 aCI:=sk (v:=t1<|.two (.one<|.join [(1,.str),(3,Z7),(5,Z5),(6,Z9),(8,.bool)] .nil .nil) .nil) (fn:=f169) aq0 kN
def akA:Cx:=cX [] [] []
def aos:y9 akA:=aIe<|AI
def SO(x:List A3×v7):Option ((List A3×D)×D):=if U (0<=x.2.1)&&U (x.2.1<=(j8 x.1:Int)) then if Ab (([]:List A3).length+(BR (AM x.2.1) x.1).length) then if U (0<=(w64<|x.2.1+1))&&U ((w64<|x.2.1+1)<=(j8 x.1:Int)) then if Ab ((([]:List A3)++(BR (AM x.2.1) x.1)).length+(Br (AM<|w64<|x.2.1+1) x.1).length) then I ((((([]:List A3)++(BR (AM x.2.1) x.1))++(Br (AM<|w64<|x.2.1+1) x.1)),()),()) else G else G else G else G
def aBS:Ent:=(208,G,⟨[.fz .note,j6],[.row 54 .note],SO⟩)
def af9:y7 aBS:=sk (v:= .nil) (fn:=f208) aos kN
def ana:Cx:=cX [Lg,X0,aBS,k9] [] [(41,49),(70,78),(90,91)]
def aq1:y9 ana:=aIe<|gC Mf<|gC dp<|gC af9<|gC wm<|AI
def Wj(x:Y3×A1×Y5×D):Option ((Y3×Bool×D)×D):=(H5 (x.1.2.2.2.1,x.2.2.1.1,x.2.2.1.2.1,())).bind λc=>(H5 (x.1.2.2.2.2.2.1,x.2.2.1.1,x.2.2.1.2.1,())).bind λd=>(Ke (x.1.2.2.2.2.1,x.2.2.1.1,x.2.2.1.2.1,())).bind λe=>(BT (X:=A1×Y3×Y5×Y3×Int×Int×Bool×Bool×D) (λa=>if a.2.2.2.2.2.2.2.1 then(SO (a.2.1.2.2.2.1,a.2.2.2.2.1,())).bind λf=>(Sb (a.2.1.2.2.2.2.1,a.2.2.1,())).bind λg=>I (((a.2.1.1,a.2.1.2.1,a.2.1.2.2.1,f.1.1,g.1.1,a.2.1.2.2.2.2.2),Y,()),()) else(BT (X:=A1×Y3×Y5×Y3×Int×Bool×Bool×D) (λb=>if b.2.2.2.2.2.2.1 then(SO (b.2.1.2.2.2.2.2.1,b.2.2.2.2.1,())).bind λh=>I (((b.2.1.1,b.2.1.2.1,b.2.1.2.2.1,b.2.1.2.2.2.1,b.2.1.2.2.2.2.1,h.1),Y,()),()) else let i:=((U<|b.1=(B [109,97,114,107]))&&(!b.2.2.2.2.2.1));(if i then(Sb (b.2.1.2.2.2.2.1,b.2.2.1,())).bind λj=>I (((b.2.1.1,b.2.1.2.1,b.2.1.2.2.1,b.2.1.2.2.2.1,j.1.1,b.2.1.2.2.2.2.2),Y,()),()) else I ((b.2.1,A0,()),())))<|(if U (a.1=(B [101,97,116])) then if Ag (U<|0<=a.2.2.2.2.2.1) (inb a.2.2.2.2.2.1 a.2.1.2.2.2.2.2.1.length) then let k:=((U<|0<=a.2.2.2.2.2.1)&&(U<|(rd y5 a.2.1.2.2.2.2.2.1 a.2.2.2.2.2.1).un=a.2.2.1.2.2.1));I (.inr (a.1,a.2.1,a.2.2.1,a.2.2.2.1,a.2.2.2.2.2.1,a.2.2.2.2.2.2.1,k,())) else G else if Ag A0 (inb a.2.2.2.2.2.1 a.2.1.2.2.2.2.2.1.length) then I (.inr (a.1,a.2.1,a.2.2.1,a.2.2.2.1,a.2.2.2.2.2.1,a.2.2.2.2.2.2.1,A0,())) else G)))<|(if U (x.2.1=(B [108,101,116])) then if Ag (U<|0<=c.1.1) (inb c.1.1 x.1.2.2.2.1.length) then let l:=((U<|0<=c.1.1)&&(U<|(rd y5 x.1.2.2.2.1 c.1.1).un=x.2.2.1.2.2.1));I (.inr (x.2.1,x.1,x.2.2.1,(0,0,0,([]:List A3),([]:List Mark),([]:List A3),()),c.1.1,d.1.1,(U<|0<=e.1.1),l,())) else G else if Ag A0 (inb c.1.1 x.1.2.2.2.1.length) then I (.inr (x.2.1,x.1,x.2.2.1,(0,0,0,([]:List A3),([]:List Mark),([]:List A3),()),c.1.1,d.1.1,(U<|0<=e.1.1),A0,())) else G))
def aCJ:Ent:=(172,G,⟨[Z8,.str,Z11],[Z8,.bool],Wj⟩)
def agl:y7 aCJ:=sk (v:=t1<|t1<|t1<|.two (.one<|.join [(1,.str),(3,Z7),(5,Z10),(6,Z9),(8,j6),(9,j6),(10,.bool),(33,.bool)] .nil<|t1<|.join [(1,.str),(3,Z7),(5,Z10),(6,Z9),(9,j6),(10,.bool),(62,.bool)] .nil .nil) .nil) (fn:=f172) aq1 kN
def aov:Cx:=cX [gz,aC3,aCe,aAO,aCI,vJ,zL,aCJ] [] [(69,71)]
def aqu:y9 aov:=aIe<|gC tA<|gC afh<|gC aia<|gC aeh<|gC agk<|gC vi<|gC aeC<|gC agl<|AI
def X7(x:Y3×A1×D):Option ((Y3×Bool×D)×D):=(Wp (x.2.1,(B [32]),())).bind λc=>if !c.1.2.2.1 then I ((x.1,A0,()),()) else(BT (X:=Y3×Y3×A1×A1×A1×Bool×D) (λa=>if a.2.2.2.2.2.1 then(Q3 (a.2.2.2.1,())).bind λf=>if f.1.2.1 then(X6 (a.1,a.2.2.1,f.1.1,())).bind λn=>I (n.1,()) else I ((a.1,A0,()),()) else(BT (X:=Y3×Y3×A1×A1×A1×Bool×D) (λb=>if b.2.2.2.2.2.1 then(WC (b.2.2.2.1,())).bind λg=>if g.1.2.1 then(Wy (b.1,b.2.2.1,g.1.1,())).bind λo=>I (o.1,()) else I ((b.1,A0,()),()) else(BT (X:=Y3×Y3×A1×A1×Bool×D) (λe=>if e.2.2.2.2.1 then(fw (e.2.2.2.1,(B [32]),())).bind λp=>(SJ p.1).bind λd=>if d.1.2.1&&(U<|(j8 d.1.1:Int)=3) then if inb 0 d.1.1.length then if inb 1 d.1.1.length then if inb 2 d.1.1.length then(Wj (e.1,e.2.2.1,((rd aIk d.1.1 0),(rd aIk d.1.1 1),(rd aIk d.1.1 2),()),())).bind λq=>I (q.1,()) else G else G else G else I ((e.1,A0,()),()) else I ((e.1,A0,()),())) (let h:=(U<|b.2.2.2.2.1=(B [108,101,116]));(if h then I (.inr (b.1,b.2.1,b.2.2.1,b.2.2.2.1,h,())) else let i:=(U<|b.2.2.2.2.1=(B [101,97,116]));(if i then I (.inr (b.1,b.2.1,b.2.2.1,b.2.2.2.1,i,())) else let r:=(U<|b.2.2.2.2.1=(B [109,97,114,107]));I (.inr (b.1,b.2.1,b.2.2.1,b.2.2.2.1,r,()))))))) (let j:=(U<|a.2.2.2.2.1=(B [111,119,110]));(if j then I (.inr (a.1,a.2.1,a.2.2.1,a.2.2.2.1,a.2.2.2.2.1,j,())) else let k:=(U<|a.2.2.2.2.1=(B [116,97,107,101]));(if k then I (.inr (a.1,a.2.1,a.2.2.1,a.2.2.2.1,a.2.2.2.2.1,k,())) else let l:=(U<|a.2.2.2.2.1=(B [104,101,108,100]));(if l then I (.inr (a.1,a.2.1,a.2.2.1,a.2.2.2.1,a.2.2.2.2.1,l,())) else let s:=(U<|a.2.2.2.2.1=(B [105,110,98,111,120]));I (.inr (a.1,a.2.1,a.2.2.1,a.2.2.2.1,a.2.2.2.2.1,s,())))))))) (let m:=(U<|c.1.1=(B [116,105,109,101]));(if m then I (.inr (x.1,(0,0,0,([]:List A3),([]:List Mark),([]:List A3),()),c.1.1,c.1.2.1,c.1.1,m,())) else let t:=(U<|c.1.1=(B [110,101,120,116]));I (.inr (x.1,(0,0,0,([]:List A3),([]:List Mark),([]:List A3),()),c.1.1,c.1.2.1,c.1.1,t,())))))
def aCf:Ent:=(129,G,⟨[Z8,.str],[Z8,.bool],X7⟩)
def aib:y7 aCf:=sk (v:=t1<|t1<|t1<|.two (t1<|.one<|.join [(2,Z7),(4,Z9),(6,.str),(7,.str),(24,.str),(25,.bool)] .nil<|t1<|.join [(2,Z7),(4,Z9),(6,.str),(7,.str),(24,.str),(40,.bool)] .nil<|t1<|.join [(2,Z7),(4,Z9),(6,.str),(7,.str),(57,.bool)] .nil .nil) .nil) (fn:=f129) aqu kN
def aeM:Cx:=cX [] [] []
def afc:y9 aeM:=aIe<|AI
def tG(x:List Mark×D):Option ((List Mark×D)×D):=if U ((j8 x.1:Int)=0) then I ((([]:List Mark),()),()) else if U (0<=(j8 x.1:Int))&&U ((j8 x.1:Int)<=4294967296) then I (((BR (BS (AM (j8 x.1:Int))<|dfl .mark).length x.1++Br x.1.length (BS (AM (j8 x.1:Int))<|dfl .mark)),()),()) else G
def xH:Ent:=(173,G,⟨[.fz .mark],[.row 56 .mark],tG⟩)
def adF:y7 xH:=sk (v:= .nil) (fn:=f173) afc kN
def ai0:Cx:=cX [td,xH] [] []
def ak1:y9 ai0:=aIe<|gC acI<|gC adF<|AI
def SK(x:Y3×D):Option ((Y3×D)×D):=(Nz (x.1.2.2.2.1,())).bind λa=>(tG (x.1.2.2.2.2.1,())).bind λb=>(Nz x.1.2.2.2.2.2).bind λc=>I (((x.1.1,x.1.2.1,x.1.2.2.1,a.1.1,b.1.1,c.1),()),())
def aAL:Ent:=(130,G,⟨[Z8],[Z4],SK⟩)
def aed:y7 aAL:=sk (v:= .nil) (fn:=f130) ak1 kN
def aog:Cx:=cX [kE,aCf,aAL] [] [(22,24)]
def aq8:y9 aog:=aIe<|gC xd<|gC aib<|gC aed<|AI
def Sg(x:Y3×A1×D):Option ((Y3×Bool×D)×D):=(QA (x.1,())).bind λb=>if !b.1.1 then I (((0,0,0,([]:List A3),([]:List Mark),([]:List A3),()),A0,()),()) else(SK (x.1,())).bind λc=>(X7 (c.1.1,x.2)).bind λa=>if Ag (!(!a.1.2.1)) ((QA (a.1.1,())).isSome) then if(!a.1.2.1)||(!(((QA (a.1.1,())).getD ((A0,()),())).1.1)) then(SK (x.1,())).bind λd=>I ((d.1.1,A0,()),()) else(SK (a.1.1,())).bind λe=>I ((e.1.1,Y,()),()) else G
def kF:Ent:=(96,G,⟨[Z8,.str],[Z4,.bool],Sg⟩)
def xe:y7 kF:=sk (v:= .nil) (fn:=f96) aq8 kN
def aof:Cx:=cX [J4,yN,kF] [] []
def aC0:y9 aof:=aIe<|gC Jj<|gC adi<|gC xe<|AI
def Wa(x:Y3×Y3×List A1×aIf):Rnd (Y3×Y3×List A1×aIf) (Y3×Bool×D) (Y3×Y3×D):=if U (x.2.2.2.2.1<x.2.2.2.1) then if inb x.2.2.2.2.1 x.2.2.1.length then let b:=(rd aIr x.2.2.1 x.2.2.2.2.1);(Sg (x.2.1,b,())).bind λa=>if !a.1.2.1 then I (.inr<|.inl ((0,0,0,([]:List A3),([]:List Mark),([]:List A3),()),A0,())) else I (.inl (x.1,a.1.1,x.2.2.1,x.2.2.2.1,(w64<|x.2.2.2.2.1+1),())) else G else I (.inr<|.inr (x.1,x.2.1,()))
def uT:=AT Wa
def zJ:Loop:=⟨[(4,Z9),(6,Z9),(17,.sl .str),(18,j6),(19,j6)],[(4,Z9),(6,Z9)],0,[(4,Z9),(5,.bool)],uT⟩
def amz:LF f63 [] [1,1,1,0,1,0,0] zJ:=sq (v:= .nil) aC0 (b:=Wa) kN
def ia(x:Int×List A1×D):Option ((Y3×Bool×D)×D):=(FX (x.1,())).bind λb=>if !b.1.1 then I (((0,0,0,([]:List A3),([]:List Mark),([]:List A3),()),A0,()),()) else(fC (x.1,())).bind λc=>(AN (uT ((0,0,0,([]:List A3),([]:List Mark),([]:List A3),()),c.1.1,x.2.1,(j8 x.2.1:Int),0,())) (λa=>I (a,())) λa=>I ((a.2.1,Y,()),()))
def aCO:Ent:=(63,G,⟨[j6,.fz .str],[Z4,.bool],ia⟩)
def agy:y7 aCO:=sk (v:=t1<|t1<|t1<|.two (t1<|.one<|.loop zJ) .nil) (fn:=f63) aC0<|kC amz kN
def ak8:Cx:=cX [fK,aCO] [] []
def aor:y9 ak8:=aIe<|gC rz<|gC agy<|AI
def Jl(x:Int×A1×D):Option ((Y3×Bool×D)×D):=(Pp x.2).bind λa=>(ia (x.1,a.1.1,())).bind λb=>I (b.1,())
def We:Ent:=(32,G,⟨[j6,.str],[Z4,.bool],Jl⟩)
def dA:y7 We:=sk (v:= .nil) (fn:=f32) aor kN
def akG:Cx:=cX [FJ,fK] [] [(12,18),(41,44)]
def aoT:y9 akG:=aIe<|gC FY<|gC rz<|AI
def O1(x:Y7×D):Option ((Bool×D)×D):=if Ag (!(U<|2400<(x.1.1.size:Int))) ((C8 (x.1.2.1,0,(x.1.1.size:Int),())).isSome) then if(U<|2400<(x.1.1.size:Int))||(!(((C8 (x.1.2.1,0,(x.1.1.size:Int),())).getD ((A0,()),())).1.1)) then I ((A0,()),()) else(Pp (x.1.1,())).bind λa=>if U (0<=x.1.2.1)&&U (x.1.2.1<=(x.1.1.size:Int)) then(Pp ((x.1.1.extract (0)<|AM x.1.2.1),())).bind λb=>let c:=((U<|a.1.2.1=(x.1.1.size:Int))&&(U<|b.1.2.1=x.1.2.1));I ((c,()),()) else G else G
def SY:Ent:=(59,G,⟨[Z15],[.bool],O1⟩)
def VW:y7 SY:=sk (v:= .nil) (fn:=f59) aoT kN
def ao9:Cx:=cX [FJ,J4] [] [(54,57)]
def kH:y9 ao9:=aIe<|gC FY<|gC Jj<|AI
def gk(x:Y9×Y8×List AQ×Int×Int×List AQ×aIf):Rnd (Y9×Y8×List AQ×Int×Int×List AQ×aIf) (Bool×D) (Y9×List AQ×aIf):=if U (x.2.2.2.2.2.2.2.1<x.2.2.2.2.2.2.1) then if inb x.2.2.2.2.2.2.2.1 x.2.2.2.2.2.1.length then let a:=(rd aIt x.2.2.2.2.2.1 x.2.2.2.2.2.2.2.1).nu;let b:=(rd aIt x.2.2.2.2.2.1 x.2.2.2.2.2.2.2.1).da;if U (a=x.2.1.1) then I (.inr<|.inl (A0,())) else I (.inl (x.1,x.2.1,x.2.2.1,x.2.2.2.1,x.2.2.2.2.1,x.2.2.2.2.2.1,x.2.2.2.2.2.2.1,(w64<|x.2.2.2.2.2.2.2.1+1),())) else G else I (.inr<|.inr (x.1,x.2.2.1,x.2.2.2.1,x.2.2.2.2.1,()))
def uB:=AT gk
def zj:Loop:=⟨[(1,Z17),(4,Z32),(42,.sl .mixed),(43,j6),(44,j6),(62,.sl .mixed),(63,j6),(64,j6)],[(1,Z17),(42,.sl .mixed),(43,j6),(44,j6)],2,[(2,.bool)],uB⟩
def an9:LF f60 [] [1,1,0,1,0,0,1,1,0,0,1,1,1,0,0] zj:=sq (v:= .nil) kH (b:=gk) kN
def gn(x:Y9×List AQ×aIf):Rnd (Y9×List AQ×aIf) (Bool×D) D:=if U (x.2.2.2.1<x.2.2.1) then if inb x.2.2.2.1 x.2.1.length then let b:=(rd aIt x.2.1 x.2.2.2.1).nu;let c:=(rd aIt x.2.1 x.2.2.2.1).da;(C8 (b,0,999,())).bind λd=>if(!d.1.1)||(!decide ((c.size:Int)=4)) then I (.inr<|.inl (A0,())) else if U (0<=x.2.2.2.1)&&U (x.2.2.2.1<=(j8 x.1.2.2.2.2.2.1:Int)) then(AN (uB (x.1,(b,c,()),x.2.1,x.2.2.1,x.2.2.2.1,(BR (AM x.2.2.2.1) x.1.2.2.2.2.2.1),((BR (AM x.2.2.2.1) x.1.2.2.2.2.2.1).length:Int),0,())) (λa=>I<|.inr<|.inl a) λa=>I<|.inl (a.1,a.2.1,a.2.2.1,(w64<|a.2.2.2.1+1),())) else G else G else I (.inr<|.inr ())
def uC:=AT gn
def zk:Loop:=⟨[(1,Z17),(42,.sl .mixed),(43,j6),(44,j6)],[],0,[(2,.bool)],uC⟩
def anP:LF f60 [] [1,1,0,1,0,0] zk:=sq (v:=t1<|t1<|.two (.one<|t1<|t1<|t1<|.one<|.loop zj) .nil) kH (b:=gn)<|kC an9 kN
def iU(x:Y9×D):Option ((Bool×D)×D):=(FX (x.1.1,())).bind λb=>if !b.1.1 then I ((A0,()),()) else(FX (x.1.2.2.1,())).bind λc=>if !c.1.1 then I ((A0,()),()) else(C8 (x.1.2.1,1,99,())).bind λd=>if !d.1.1 then I ((A0,()),()) else(C8 (x.1.2.2.2.1,1,999,())).bind λe=>if !e.1.1 then I ((A0,()),()) else(C8 (x.1.2.2.2.2.1,1,24,())).bind λf=>if !f.1.1 then I ((A0,()),()) else if U (14<(j8 x.1.2.2.2.2.2.1:Int)) then I ((A0,()),()) else(AN (uC (x.1,x.1.2.2.2.2.2.1,(j8 x.1.2.2.2.2.2.1:Int),0,())) (λa=>I (a,())) λa=>I ((Y,()),()))
def aCH:Ent:=(60,G,⟨[Z18],[.bool],iU⟩)
def agj:y7 aCH:=sk (v:=t1<|t1<|.two (t1<|.one<|.loop zk) .nil) (fn:=f60) kH<|kC anP kN
def aoA:Cx:=cX [] [] [(21,24)]
def aBy:y9 aoA:=aIe<|AI
def WW(x:Int×Int×List AG×aIf):Rnd (Int×Int×List AG×aIf) (v7) D:=if U (x.2.2.2.2.1<x.2.2.2.1) then if inb x.2.2.2.2.1 x.2.2.1.length then let a:=(rd aIi x.2.2.1 x.2.2.2.2.1).fr;let b:=(rd aIi x.2.2.1 x.2.2.2.2.1).nu;let c:=(rd aIi x.2.2.1 x.2.2.2.2.1).to;let d:=(rd aIi x.2.2.1 x.2.2.2.2.1).un;let e:=(rd aIi x.2.2.1 x.2.2.2.2.1).sz;let f:=(rd aIi x.2.2.1 x.2.2.2.2.1).got;if(U<|a=x.1)&&(U<|b=x.2.1) then I (.inr<|.inl x.2.2.2.2) else I (.inl (x.1,x.2.1,x.2.2.1,x.2.2.2.1,(w64<|x.2.2.2.2.1+1),())) else G else I (.inr<|.inr ())
def uD:=AT WW
def zm:Loop:=⟨[(1,j6),(2,j6),(9,.sl .half),(10,j6),(11,j6)],[],0,[(6,j6)],uD⟩
def anQ:LF f61 [] [1,0,1,0,0] zm:=sq (v:= .nil) aBy (b:=WW) kN
def Sd(x:List AG×aIf):Option ((v7)×D):=(AN (uD (x.2.1,x.2.2.1,x.1,(j8 x.1:Int),0,())) (λa=>I (a,())) λa=>I (((-1),()),()))
def kB:Ent:=(61,G,⟨[.fz .half,j6,j6],[j6],Sd⟩)
def xU:y7 kB:=sk (v:=t1<|.two (t1<|.one<|.loop zm) .nil) (fn:=f61) aBy<|kC anQ kN
def ai6:Cx:=cX [We,J4,SY,aCH,kB] [] [(61,62),(76,84)]
def aAU:y9 ai6:=aIe<|gC dA<|gC Jj<|gC VW<|gC agj<|gC xU<|AI
def eH(x:Y1×List AG×aIf):Rnd (Y1×List AG×aIf) (Bool×D) D:=if U (x.2.2.2.1<x.2.2.1) then if inb x.2.2.2.1 x.2.1.length then let a:=(rd aIi x.2.1 x.2.2.2.1).fr;let b:=(rd aIi x.2.1 x.2.2.2.1).nu;let d:=(rd aIi x.2.1 x.2.2.2.1).to;let e:=(rd aIi x.2.1 x.2.2.2.1).un;let f:=(rd aIi x.2.1 x.2.2.2.1).sz;let g:=(rd aIi x.2.1 x.2.2.2.1).got;(iU ((a,b,d,e,f,g,()),())).bind λc=>if Ag (!(!c.1.1)) ((Sd (x.1.2.2.2.2.1,a,b,())).isSome) then if(!c.1.1)||(U<|((Sd (x.1.2.2.2.2.1,a,b,())).getD ((0,()),())).1.1<x.2.2.2.1) then I (.inr<|.inl (A0,())) else I (.inl (x.1,x.2.1,x.2.2.1,(w64<|x.2.2.2.1+1),())) else G else G else I (.inr<|.inr ())
def cn:=AT eH
def xY:Loop:=⟨[(1,Z19),(65,.sl .half),(66,j6),(67,j6)],[],0,[(2,.bool)],cn⟩
def aiS:LF f31 [] [1,1,1,1,1,0,1,0,0] xY:=sq (v:= .nil) aAU (b:=eH) kN
def I0(x:Y1×D):Option ((Bool×D)×D):=(BT (X:=Y1×D) (λa=>(Jl (a.1.1,a.1.2.2.1,())).bind λc=>if U (0<=a.1.2.2.2.1)&&U (a.1.2.2.2.1<=(a.1.2.2.1.size:Int)) then(Jl (a.1.1,(a.1.2.2.1.extract (0)<|AM a.1.2.2.2.1),())).bind λd=>if(!c.1.2.1)||(!d.1.2.1) then I ((A0,()),()) else(AN (cn (a.1,a.1.2.2.2.2.1,(j8 a.1.2.2.2.2.1:Int),0,())) (λb=>I (b,())) λb=>I ((Y,()),())) else G)<|(FX (x.1.1,())).bind λe=>if !e.1.1 then I (.inl ((A0,()),())) else(O1 ((x.1.2.2.1,x.1.2.2.2.1,()),())).bind λf=>if !f.1.1 then I (.inl ((A0,()),())) else if U (3<(j8 x.1.2.2.2.2.1:Int)) then I (.inl ((A0,()),())) else if !x.1.2.1 then if U (0<(j8 x.1.2.2.2.2.1:Int)) then I (.inl ((A0,()),())) else I (.inr x) else I (.inr x))
def Jo:Ent:=(31,G,⟨[Z12],[.bool],I0⟩)
def KZ:y7 Jo:=sk (v:=t1<|.join [(1,Z19)] .nil<|t1<|t1<|t1<|.two (t1<|.one<|.loop xY) .nil) (fn:=f31) aAU<|kC aiS kN
def ah5:Cx:=cX [Jo,We] [] []
def aj4:y9 ah5:=aIe<|gC KZ<|gC dA<|AI
def Gw(x:Y1×D):Option ((Y3×D)×D):=(I0 x).bind λa=>if !a.1.1 then I (((0,0,0,([]:List A3),([]:List Mark),([]:List A3),()),()),()) else(Jl (x.1.1,x.1.2.2.1,())).bind λb=>I ((b.1.1,()),())
def Ka:Ent:=(14,G,⟨[Z12],[Z4],Gw⟩)
def LW:y7 Ka:=sk (v:= .nil) (fn:=f14) aj4 kN
def apN:Cx:=cX [FJ] [] []
def aqq:y9 apN:=aIe<|gC FY<|AI
def XK(x:A1×D):Option ((Bool×D)×D):=(C8 ((x.1.size:Int),1,60,())).bind λa=>I (a.1,())
def kb:Ent:=(160,G,⟨[.str],[.bool],XK⟩)
def yu:y7 kb:=sk (v:= .nil) (fn:=f160) aqq kN
def ao2:Cx:=cX [SW] [] []
def apw:y9 ao2:=aIe<|gC VF<|AI
def Q8(x:A1×D):Option ((A1×D)×D):=(J6 ((x.1.size:Int),())).bind λa=>if U (a.1.1.size+(B [58]).size<=4611686018427387904) then if U ((a.1.1++(B [58])).size+x.1.size<=4611686018427387904) then if U (((a.1.1++(B [58]))++x.1).size+(B [59]).size<=4611686018427387904) then let b:=(((a.1.1++(B [58]))++x.1)++(B [59]));I ((b,()),()) else G else G else G
def jz:Ent:=(161,G,⟨[.str],[.str],Q8⟩)
def wh:y7 jz:=sk (v:= .nil) (fn:=f161) apw kN
def ahV:Cx:=cX [SY,kb,jz] [] [(23,25)]
def yT:y9 ahV:=aIe<|gC VW<|gC yu<|gC wh<|AI
def S5(x:Y7×Y7×A1×List A1×aIf):Rnd (Y7×Y7×A1×List A1×aIf) (Y7×Bool×D) (Y7×Y7×A1×D):=if U (x.2.2.2.2.2.1<x.2.2.2.2.1) then if inb x.2.2.2.2.2.1 x.2.2.2.1.length then let a:=(rd aIr x.2.2.2.1 x.2.2.2.2.2.1);(XK (a,())).bind λc=>if(!c.1.1)||(U<|2400<(x.2.2.1.size:Int)) then I (.inr<|.inl (x.1,A0,())) else(Q8 (a,())).bind λb=>if U (x.2.2.1.size+b.1.1.size<=4611686018427387904) then I (.inl (x.1,x.2.1,(x.2.2.1++b.1.1),x.2.2.2.1,x.2.2.2.2.1,(w64<|x.2.2.2.2.2.1+1),())) else G else G else I (.inr<|.inr (x.1,x.2.1,x.2.2.1,()))
def Rx:=AT S5
def wG:Loop:=⟨[(2,Z21),(4,Z21),(6,.str),(13,.sl .str),(14,j6),(15,j6)],[(2,Z21),(4,Z21),(6,.str)],0,[(4,Z21),(5,.bool)],Rx⟩
def agA:LF f124 [] [1,1,1,0,1,0,0] wG:=sq (v:= .nil) yT (b:=S5) kN
def SD(x:Y7×List A1×D):Option ((Y7×Bool×D)×D):=(O1 (x.1,())).bind λb=>if !b.1.1 then I (((noB,0,()),A0,()),()) else(AN (Rx (x.1,(noB,0,()),noB,x.2.1,(j8 x.2.1:Int),0,())) (λa=>I (a,())) λa=>(if U (2400<(a.2.2.1.size:Int)) then I ((a.1,A0,()),()) else I (((a.2.2.1,(a.2.2.1.size:Int),()),Y,()),())))
def uo:Ent:=(124,G,⟨[Z15,.fz .str],[Z15,.bool],SD⟩)
def ad0:y7 uo:=sk (v:=t1<|t1<|t1<|.two (t1<|.one<|.loop wG) .nil) (fn:=f124) yT<|kC agA kN
def ahR:Cx:=cX [SW] [] []
def aiy:y9 ahR:=aIe<|gC VF<|AI
def Po(x:A1×aIj):Option ((A1×D)×D):=if U (x.1.size+(B [32]).size<=4611686018427387904) then(J6 (x.2.1,())).bind λa=>if U ((x.1++(B [32])).size+a.1.1.size<=4611686018427387904) then if U (((x.1++(B [32]))++a.1.1).size+(B [32]).size<=4611686018427387904) then(J6 (x.2.2.1,())).bind λb=>if U ((((x.1++(B [32]))++a.1.1)++(B [32])).size+b.1.1.size<=4611686018427387904) then if U (((((x.1++(B [32]))++a.1.1)++(B [32]))++b.1.1).size+(B [32]).size<=4611686018427387904) then(J6 x.2.2.2).bind λc=>if U ((((((x.1++(B [32]))++a.1.1)++(B [32]))++b.1.1)++(B [32])).size+c.1.1.size<=4611686018427387904) then let d:=((((((x.1++(B [32]))++a.1.1)++(B [32]))++b.1.1)++(B [32]))++c.1.1);I ((d,()),()) else G else G else G else G else G else G
def fJ:Ent:=(118,G,⟨[.str,j6,j6,j6],[.str],Po⟩)
def ru:y7 fJ:=sk (v:= .nil) (fn:=f118) aiy kN
def ai7:Cx:=cX [cO,fJ,W3,SW,kE] [] []
def gH:y9 ai7:=aIe<|gC rJ<|gC ru<|gC cK<|gC VF<|gC xd<|AI
def fD(x:List A1×List A3×aIf):Rnd (List A1×List A3×aIf) D (List A1×D):=if U (x.2.2.2.1<x.2.2.1) then if inb x.2.2.2.1 x.2.1.length then let rF:=(rd y5 x.2.1 x.2.2.2.1).fr;let a:=(rd y5 x.2.1 x.2.2.2.1).nu;let ald:=(rd y5 x.2.1 x.2.2.2.1).to;let b:=(rd y5 x.2.1 x.2.2.2.1).un;let alc:=(rd y5 x.2.1 x.2.2.2.1).tx;(Mj ((rF,a,ald,b,alc,()),())).bind λqt=>if U ((B [105,110,98,111,120,32]).size+qt.1.1.size<=4611686018427387904) then if Ab (x.1.length+([((B [105,110,98,111,120,32])++qt.1.1)]:List A1).length) then I (.inl ((x.1++([((B [105,110,98,111,120,32])++qt.1.1)]:List A1)),x.2.1,x.2.2.1,(w64<|x.2.2.2.1+1),())) else G else G else G else I (.inr<|.inr (x.1,()))
def cq:=AT fD
def xa:Loop:=⟨[(3,.row 9 .str),(66,.sl .note),(67,j6),(68,j6)],[(3,.row 9 .str)],4,[],cq⟩
def ahn:LF f125 [] [1,1,1,1,1,1,1,0,1,0,0] xa:=sq (v:= .nil) gH (b:=fD) kN
def fE(x:Y3×List A1×List A3×aIf):Rnd (Y3×List A1×List A3×aIf) D (Y3×List A1×D):=if U (x.2.2.2.2.1<x.2.2.2.1) then if inb x.2.2.2.2.1 x.2.2.1.length then let b:=(rd y5 x.2.2.1 x.2.2.2.2.1).fr;let c:=(rd y5 x.2.2.1 x.2.2.2.2.1).nu;let d:=(rd y5 x.2.2.1 x.2.2.2.2.1).to;let e:=(rd y5 x.2.2.1 x.2.2.2.2.1).un;let f:=(rd y5 x.2.2.1 x.2.2.2.2.1).tx;(Mj ((b,c,d,e,f,()),())).bind λa=>if U ((B [104,101,108,100,32]).size+a.1.1.size<=4611686018427387904) then if Ab (x.2.1.length+([((B [104,101,108,100,32])++a.1.1)]:List A1).length) then I (.inl (x.1,(x.2.1++([((B [104,101,108,100,32])++a.1.1)]:List A1)),x.2.2.1,x.2.2.2.1,(w64<|x.2.2.2.2.1+1),())) else G else G else G else I (.inr<|.inr (x.1,x.2.1,()))
def cr:=AT fE
def xb:Loop:=⟨[(1,Z7),(3,.row 9 .str),(52,.sl .note),(53,j6),(54,j6)],[(1,Z7),(3,.row 9 .str)],2,[],cr⟩
def ahr:LF f125 [] [1,1,1,1,1,1,0,1,0,0] xb:=sq (v:= .nil) gH (b:=fE) kN
def fF(x:Y3×List A1×List Mark×aIf):Rnd (Y3×List A1×List Mark×aIf) D (Y3×List A1×D):=if U (x.2.2.2.2.1<x.2.2.2.1) then if inb x.2.2.2.2.1 x.2.2.1.length then let b:=(rd aIo x.2.2.1 x.2.2.2.2.1).mf;let c:=(rd aIo x.2.2.1 x.2.2.2.2.1).mn;let d:=(rd aIo x.2.2.1 x.2.2.2.2.1).mu;(Po ((B [109,97,114,107]),b,c,d,())).bind λa=>if Ab (x.2.1.length+([a.1.1]:List A1).length) then I (.inl (x.1,(x.2.1++([a.1.1]:List A1)),x.2.2.1,x.2.2.2.1,(w64<|x.2.2.2.2.1+1),())) else G else G else I (.inr<|.inr (x.1,x.2.1,()))
def ct:=AT fF
def xc:Loop:=⟨[(1,Z7),(3,.row 9 .str),(34,.sl .mark),(35,j6),(36,j6)],[(1,Z7),(3,.row 9 .str)],0,[],ct⟩
def aiT:LF f125 [] [1,1,1,1,1,0,1,0,0] xc:=sq (v:= .nil) gH (b:=fF) kN
def WI(x:Y3×D):Option ((List A1×D)×D):=(QA x).bind λg=>if !g.1.1 then I ((([]:List A1),()),()) else(BT (X:=Y3×List A1×D) (λa=>(BT (X:=Y3×List A1×D) (λb=>(AN (ct (b.1,b.2.1,b.1.2.2.2.2.1,(j8 b.1.2.2.2.2.1:Int),0,())) (λ_=>G) λc=>(AN (cr (c.1,c.2.1,c.1.2.2.2.1,(j8 c.1.2.2.2.1:Int),0,())) (λ_=>G) λd=>(AN (cq (d.2.1,d.1.2.2.2.2.2.1,(j8 d.1.2.2.2.2.2.1:Int),0,())) (λ_=>G) λqz=>(Rw qz).bind λrH=>I (rH.1,())))))<|(if U (1<a.1.2.2.1) then(J6 (a.1.2.2.1,())).bind λe=>if U ((B [110,101,120,116,32]).size+e.1.1.size<=4611686018427387904) then if Ab (a.2.1.length+([((B [110,101,120,116,32])++e.1.1)]:List A1).length) then I (.inr (a.1,(a.2.1++([((B [110,101,120,116,32])++e.1.1)]:List A1)),())) else G else G else I (.inr a))))<|(if U (0<x.1.2.1) then(J6 (x.1.2.1,())).bind λf=>if U ((B [116,105,109,101,32]).size+f.1.1.size<=4611686018427387904) then if Ab ([((B [116,105,109,101,32])++f.1.1)]:List A1).length then I (.inr (x.1,([((B [116,105,109,101,32])++f.1.1)]:List A1),())) else G else G else I (.inr (x.1,([]:List A1),()))))
def vL:Ent:=(125,G,⟨[Z8],[.row 9 .str],WI⟩)
def vq:y7 vL:=sk (v:=t1<|t1<|t1<|.join [(1,Z7),(3,.row 9 .str)] .nil<|.join [(1,Z7),(3,.row 9 .str)] .nil<|.two (t1<|.one<|.loop xc)<|.two (t1<|.one<|.loop xb)<|.two (t1<|.one<|.loop xa) .nil) (fn:=f125) gH<|kC aiT<|kC ahr<|kC ahn kN
def ai2:Cx:=cX [SY,kb,jz] [] [(14,21)]
def ak3:y9 ai2:=aIe<|gC VW<|gC yu<|gC wh<|AI
def SM(x:Y7×A1×D):Option ((Y7×Bool×D)×D):=(O1 (x.1,())).bind λc=>if !c.1.1 then I (((noB,0,()),A0,()),()) else(XK x.2).bind λa=>if Ag (!(!a.1.1)) ((Q8 x.2).isSome) then if(!a.1.1)||(U<|2400<(w64<|(x.1.1.size:Int)+((((Q8 x.2).getD ((noB,()),())).1.1).size:Int))) then I ((x.1,A0,()),()) else(Q8 x.2).bind λb=>if U (x.1.1.size+b.1.1.size<=4611686018427387904) then I ((((x.1.1++b.1.1),x.1.2),Y,()),()) else G else G
def aAN:Ent:=(156,G,⟨[Z15,.str],[Z15,.bool],SM⟩)
def aeg:y7 aAN:=sk (v:= .nil) (fn:=f156) ak3 kN
def aqK:Cx:=cX [We,kF,uo,vL,aAN] [] []
def arb:y9 aqK:=aIe<|gC dA<|gC xe<|gC ad0<|gC vq<|gC aeg<|AI
def OE(x:Y1×A1×D):Option ((Y1×Bool×D)×D):=(Jl (x.1.1,x.1.2.2.1,())).bind λb=>(Sg (b.1.1,x.2)).bind λe=>if !e.1.2.1 then I ((x.1,A0,()),()) else(SM ((x.1.2.2.1,x.1.2.2.2.1,()),x.2)).bind λc=>(BT (X:=Y1×Y1×Y7×Bool×D) (λa=>if !a.2.2.2.1 then I ((a.1,A0,()),()) else I (((a.1.1,a.1.2.1,a.2.2.1.1,a.2.2.1.2.1,a.1.2.2.2.2),Y,()),()))<|(if !c.1.2.1 then(WI (b.1.1,())).bind λf=>(SD ((x.1.2.2.1,x.1.2.2.2.1,()),f.1)).bind λd=>if !d.1.2.1 then I (.inl ((x.1,A0,()),())) else(SM (d.1.1,x.2)).bind λg=>I (.inr (x.1,(0,A0,noB,0,([]:List AG),()),g.1)) else I (.inr (x.1,(0,A0,noB,0,([]:List AG),()),c.1))))
def Xk:Ent:=(117,G,⟨[Z12,.str],[Z12,.bool],OE⟩)
def vU:y7 Xk:=sk (v:=t1<|t1<|t1<|t1<|.join [(2,Z19),(4,Z20),(10,Z21),(11,.bool)] .nil .nil) (fn:=f117) arb kN
def afv:Cx:=cX [SY] [] []
def agz:y9 afv:=aIe<|gC VW<|AI
def dt(x:Y7×D):Option ((Y7×D)×D):=(O1 x).bind λa=>if !a.1.1 then I (((noB,0,()),()),()) else I (((x.1.1,(x.1.1.size:Int),()),()),())
def xh:Ent:=(162,G,⟨[Z15],[Z15],dt⟩)
def adQ:y7 xh:=sk (v:= .nil) (fn:=f162) agz kN
def aoB:Cx:=cX [xh] [] []
def apz:y9 aoB:=aIe<|gC adQ<|AI
def OA(x:Y1×D):Option ((Y1×D)×D):=(dt ((x.1.2.2.1,x.1.2.2.2.1,()),())).bind λa=>I (((x.1.1,x.1.2.1,a.1.1.1,a.1.1.2.1,x.1.2.2.2.2),()),())
def ic:Ent:=(126,G,⟨[Z12],[Z12],OA⟩)
def uE:y7 ic:=sk (v:= .nil) (fn:=f126) apz kN
def ang:Cx:=cX [] [] []
def aq5:y9 ang:=aIe<|AI
def iY(x:Int×Y6×D):Option ((List Frame×D)×D):=I ((([(Frame.mk x.1 x.2.1.2.2.1 x.2.1.2.1 x.2.1.2.2.2.1 x.2.1.2.2.2.2.1 x.2.1.2.2.2.2.2.1 x.2.1.2.2.2.2.2.2.1 0 0 noB)]:List Frame),()),())
def aCM:Ent:=(152,G,⟨[j6,Z13],[.row 111 .frame],iY⟩)
def agp:y7 aCM:=sk (v:= .nil) (fn:=f152) aq5 kN
def aqn:Cx:=cX [] [(28,28)] []
def aCz:y9 aqn:=aIe<|AI
def XM(x:Y8×List AQ×List AQ×aIf):Rnd (Y8×List AQ×List AQ×aIf) D (Y8×List AQ×D):=if U (x.2.2.2.2.1<x.2.2.2.1) then if inb x.2.2.2.2.1 x.2.2.1.length then let a:=(rd aIt x.2.2.1 x.2.2.2.2.1).nu;let b:=(rd aIt x.2.2.1 x.2.2.2.2.1).da;if !decide (a=x.1.1) then if Ab (x.2.1.length+([(AQ.mk a b)]:List AQ).length) then I (.inl (x.1,(x.2.1++([(AQ.mk a b)]:List AQ)),x.2.2.1,x.2.2.2.1,(w64<|x.2.2.2.2.1+1),())) else G else I (.inl (x.1,x.2.1,x.2.2.1,x.2.2.2.1,(w64<|x.2.2.2.2.1+1),())) else G else I (.inr<|.inr (x.1,x.2.1,()))
def fl:=AT XM
def aBY:Loop:=⟨[(3,Z32),(5,.row 127 .mixed),(8,.sl .mixed),(9,j6),(10,j6)],[(3,Z32),(5,.row 127 .mixed)],0,[],fl⟩
def aqP:LF f154 [] [1,1,0,1,0,0] aBY:=sq (v:= .nil) aCz (b:=XM) kN
def Xh(x:List AQ×Y8×D):Option ((List AQ×D)×D):=(AN (fl (x.2.1,([]:List AQ),x.1,(j8 x.1:Int),0,())) (λ_=>G) λa=>(if U (14<=(j8 a.2.1:Int)) then if U (0<=1)&&U (1<=(j8 a.2.1:Int)) then if Ab ((Br (AM 1) a.2.1).length+([(AQ.mk a.1.1 a.1.2.1)]:List AQ).length) then I ((((Br (AM 1) a.2.1)++([(AQ.mk a.1.1 a.1.2.1)]:List AQ)),()),()) else G else G else if Ab (a.2.1.length+([(AQ.mk a.1.1 a.1.2.1)]:List AQ).length) then I (((a.2.1++([(AQ.mk a.1.1 a.1.2.1)]:List AQ)),()),()) else G))
def aDK:Ent:=(154,G,⟨[.fz .mixed,Z16],[.row 127 .mixed],Xh⟩)
def ajH:y7 aDK:=sk (v:=t1<|t1<|.two (t1<|.one<|.loop aBY) .nil) (fn:=f154) aCz<|kC aqP kN
def apQ:Cx:=cX [FJ] [] [(8,9)]
def aqs:y9 apQ:=aIe<|gC FY<|AI
def X5(x:aIf):Option ((Bool×D)×D):=(C8 (x.1,1,6,())).bind λa=>if Ag a.1.1 ((C8 (x.2.1,0,999,())).isSome) then let b:=(a.1.1&&(((C8 (x.2.1,0,999,())).getD ((A0,()),())).1.1));I ((b,()),()) else G
def kc:Ent:=(196,G,⟨[j6,j6],[.bool],X5⟩)
def yx:y7 kc:=sk (v:= .nil) (fn:=f196) aqs kN
def ai3:Cx:=cX [FJ] [] []
def aks:y9 ai3:=aIe<|gC FY<|AI
def Py(x:v7):Option ((v7)×D):=(C8 (x.1,0,65535,())).bind λa=>if !a.1.1 then I ((0,()),()) else let b:=(BL (w64<|(w64<|25173 * x.1)+13849) 65536);I ((b,()),())
def vK:Ent:=(197,G,⟨[j6],[j6],Py⟩)
def vo:y7 vK:=sk (v:= .nil) (fn:=f197) aks kN
def ahb:Cx:=cX [kc,vK] [] []
def uw:y9 ahb:=aIe<|gC yx<|gC vo<|AI
def xV(x:Int×List Int×aIj):Rnd (Int×List Int×aIj) (v7) (v7):=if U (x.2.2.2.2.1<=x.1) then if inb x.2.2.2.2.1 x.2.1.length then let a:=(w64<|x.2.2.2.1+(rd aIk x.2.1 x.2.2.2.2.1));(if U (x.2.2.1<a) then I (.inr<|.inl x.2.2.2.2) else I (.inl (x.1,x.2.1,x.2.2.1,a,(w64<|x.2.2.2.2.1+1),()))) else G else I (.inr<|.inr (x.1,()))
def cL:=AT xV
def wQ:Loop:=⟨[(0,j6),(5,.row 3 .int),(8,j6),(9,j6),(10,j6)],[(0,j6)],2,[(4,j6)],cL⟩
def agN:LF f198 [] [1,1,1,1,1,1,1,1,0,1,0,0] wQ:=sq (v:= .nil) uw (b:=xV) kN
def xW(x:Int×Int×List Int×aIf):Rnd (Int×Int×List Int×aIf) D (Int×Int×List Int×v7):=if U (x.2.2.2.2.1<=x.1) then if !decide ((w64<|x.2.2.2.2.1 * (w64<|x.2.2.2.2.1 - 1))=0) then if Ab (x.2.2.1.length+([(w64<|B1 60<|w64<|x.2.2.2.2.1 * (w64<|x.2.2.2.2.1 - 1))]:List Int).length) then if inb x.2.2.2.2.1 ((x.2.2.1++([(w64<|B1 60<|w64<|x.2.2.2.2.1 * (w64<|x.2.2.2.2.1 - 1))]:List Int)).length) then let a:=(w64<|x.2.2.2.1+(rd aIk (x.2.2.1++([(w64<|B1 60<|w64<|x.2.2.2.2.1 * (w64<|x.2.2.2.2.1 - 1))]:List Int)) x.2.2.2.2.1));I (.inl (x.1,x.2.1,(x.2.2.1++([(w64<|B1 60<|w64<|x.2.2.2.2.1 * (w64<|x.2.2.2.2.1 - 1))]:List Int)),a,(w64<|x.2.2.2.2.1+1),())) else G else G else G else I (.inr<|.inr (x.1,x.2.1,x.2.2.1,x.2.2.2.1,()))
def cM:=AT xW
def wR:Loop:=⟨[(0,j6),(1,j6),(5,.row 3 .int),(6,j6),(7,j6)],[(0,j6),(1,j6),(5,.row 3 .int),(6,j6)],0,[],cM⟩
def agE:LF f198 [] [1,1,1,1,1,0,1,0,0] wR:=sq (v:= .nil) uw (b:=xW) kN
def eG(x:aIf):Option ((v7)×D):=(X5 x).bind λc=>if !c.1.1 then I ((0,()),()) else if U (x.2.1<x.1) then I ((1,()),()) else if !decide (x.1=0) then if inb 1 (([0,(w64<|(w64<|B1 60 x.1)+10)]:List Int).length) then let d:=(rd aIk ([0,(w64<|(w64<|B1 60 x.1)+10)]:List Int) 1);(AN (cM (x.1,x.2.1,([0,(w64<|(w64<|B1 60 x.1)+10)]:List Int),d,2,())) (λ_=>G) (λa=>(Py ((w64<|(w64<|31 * a.2.1)+a.1),())).bind λe=>(Py e.1).bind λf=>if !decide (a.2.2.2.1=0) then let g:=(BL (w64<|B1 f.1.1 16) a.2.2.2.1);(AN (cL (a.1,a.2.2.1,g,0,1,())) (λb=>I (b,())) λb=>I (b,())) else G)) else G else G
def ym:Ent:=(198,G,⟨[j6,j6],[j6],eG⟩)
def adu:y7 ym:=sk (v:=t1<|t1<|t1<|t1<|t1<|.two (t1<|.one<|.loop wR)<|t1<|t1<|.two (t1<|.one<|.loop wQ) .nil) (fn:=f198) uw<|kC agE<|kC agN kN
def afu:Cx:=cX [] [] []
def ahG:y9 afu:=aIe<|AI
def uF(x:List Int×D):Option ((List Int×D)×D):=if U ((j8 x.1:Int)=0) then I ((([]:List Int),()),()) else if U (0<=(j8 x.1:Int))&&U ((j8 x.1:Int)<=4294967296) then I (((BR (BS (AM (j8 x.1:Int))<|dfl .int).length x.1++Br x.1.length (BS (AM (j8 x.1:Int))<|dfl .int)),()),()) else G
def xg:Ent:=(199,G,⟨[.fz .int],[.row 3 .int],uF⟩)
def adP:y7 xg:=sk (v:= .nil) (fn:=f199) ahG kN
def aoy:Cx:=cX [kc,vK,ym,xg] [] []
def XQ:y9 aoy:=aIe<|gC yx<|gC vo<|gC adu<|gC adP<|AI
def Wn(x:Int×List Bool×aIj):Rnd (Int×List Bool×aIj) D (Int×List Bool×aIj):=if inb x.2.2.2.2.1 x.2.1.length then if rd aIw x.2.1 x.2.2.2.2.1 then if !decide (x.1=0) then let a:=(BL (w64<|x.2.2.2.2.1+1) x.1);I (.inl (x.1,x.2.1,x.2.2.1,x.2.2.2.1,a,())) else G else I (.inr<|.inr x) else G
def eF:=AT Wn
def aAl:Loop:=⟨[(0,j6),(5,.abx 192 .bool),(6,j6),(7,j6),(8,j6)],[(0,j6),(5,.abx 192 .bool),(6,j6),(7,j6),(8,j6)],2,[],eF⟩
def ape:LF f158 [] [1,1,1,1,1,0,1,0,0,1,0,0,1,1,0,0,0] aAl:=sq (v:= .nil) XQ (b:=Wn) kN
def jo(x:List Int×List Bool×v7):Rnd (List Int×List Bool×v7) D (List Int×D):=if U (x.2.2.1<6) then if inb x.2.2.1 x.2.1.length&&inb x.2.2.1 6 then let a:=(rd aIw x.2.1 x.2.2.1);(if a then if Ab (x.1.length+([x.2.2.1]:List Int).length) then I (.inl ((x.1++([x.2.2.1]:List Int)),x.2.1,(w64<|x.2.2.1+1),())) else G else I (.inl (x.1,x.2.1,(w64<|x.2.2.1+1),()))) else G else I (.inr<|.inr (x.1,()))
def uf:=AT jo
def aAk:Loop:=⟨[(9,.row 3 .int),(47,.arr .bool),(48,j6)],[(9,.row 3 .int)],4,[],uf⟩
def apb:LF f158 [] [1,1,1,1,1,1,1,0,1,0,0] aAk:=sq (v:= .nil) XQ (b:=jo) kN
def jq(x:Int×List Bool×aIf):Rnd (Int×List Bool×aIf) D (List Bool×D):=if U (0<x.2.2.2.1) then(Py (x.2.2.1,())).bind λb=>if !decide (x.1=0) then let c:=(BL (w64<|B1 b.1.1 16) x.1);(AN (eF (x.1,x.2.1,b.1.1,x.2.2.2.1,c,())) (λ_=>I<|.inr<|.inl ()) λa=>(if inb a.2.2.2.2.1 a.2.1.length then I (.inl (a.1,(Bq a.2.1 (AM a.2.2.2.2.1) Y),a.2.2.1,(w64<|a.2.2.2.1 - 1),())) else G)) else G else I (.inr<|.inr (x.2.1,()))
def ug:=AT jq
def aAm:Loop:=⟨[(0,j6),(5,.abx 192 .bool),(6,j6),(7,j6)],[(5,.abx 192 .bool)],0,[],ug⟩
def apo:LF f158 [] [1,1,1,1,1,0,1,0,0] aAm:=sq (v:=t1<|.two (.one<|t1<|t1<|.two (.one<|.loop aAl) .nil) .nil) XQ (b:=jq)<|kC ape kN
def XA(x:aIf):Option ((List Int×D)×D):=(X5 x).bind λa=>if !a.1.1 then I ((([]:List Int),()),()) else if U (x.2.1<x.1) then I ((([x.2.1]:List Int),()),()) else(Py ((w64<|(w64<|7 * x.2.1)+1),())).bind λb=>(eG x).bind λc=>(AN (ug (x.1,(BS 6<|dfl .bool),b.1.1,c.1)) (λ_=>G) λd=>(AN (uf (([]:List Int),d.1,0,())) (λ_=>G) λe=>(uF e).bind λf=>I (f.1,())))
def ke:Ent:=(158,G,⟨[j6,j6],[.row 3 .int],XA⟩)
def yY:y7 ke:=sk (v:=t1<|t1<|t1<|t1<|t1<|.two (t1<|.one<|.loop aAm)<|t1<|.two (t1<|.one<|.loop aAk) .nil) (fn:=f158) XQ<|kC apo<|kC apb kN
def apL:Cx:=cX [] [] []
def aCs:y9 apL:=aIe<|AI
def aBT(x:A1×List Int×aIf):Rnd (A1×List Int×aIf) D (List Int×D):=if U (x.2.2.2.1<x.2.2.1) then if inb x.2.2.2.1 x.2.1.length then if inb x.2.2.2.1 x.1.size then if inb x.2.2.2.1 x.2.1.length then let a:=(Dw .u8 (rd aIp x.2.1 x.2.2.2.1)<|bt x.1 x.2.2.2.1);I (.inl (x.1,(Bq x.2.1 (AM x.2.2.2.1) a),x.2.2.1,(w64<|x.2.2.2.1+1),())) else G else G else G else I (.inr<|.inr (x.2.1,()))
def uY:=AT aBT
def aAZ:Loop:=⟨[(1,.str),(5,.Ch 5 .u8),(10,j6),(11,j6)],[(5,.Ch 5 .u8)],0,[],uY⟩
def apj:LF f159 [] [1,1,0,1,0,0] aAZ:=sq (v:= .nil) aCs (b:=aBT) kN
def XB(x:A1×A1×D):Option ((A1×D)×D):=if Ab x.1.size then(AN (uY (x.2.1,(BC x.1),((BC x.1).length:Int),0,())) (λ_=>G) λa=>I (((BJ a.1),()),())) else G
def ka:Ent:=(159,G,⟨[.str,.str],[.str],XB⟩)
def yt:y7 ka:=sk (v:=t1<|t1<|.two (t1<|.one<|.loop aAZ) .nil) (fn:=f159) aCs<|kC apj kN
def akK:Cx:=cX [FJ,ke,ka] [] [(31,34)]
def iB:y9 akK:=aIe<|gC FY<|gC yY<|gC yt<|AI
def WE(x:Int×List AQ×List A1×Bool×A1×Int×Int×List AQ×Int×Int×List Int×aIf):Rnd (Int×List AQ×List A1×Bool×A1×Int×Int×List AQ×Int×Int×List Int×aIf) D (Int×List AQ×List A1×Bool×A1×Int×Int×List AQ×aIf):=if U (x.2.2.2.2.2.2.2.2.2.2.2.2.1<x.2.2.2.2.2.2.2.2.2.2.2.1) then if inb x.2.2.2.2.2.2.2.2.2.2.2.2.1 x.2.2.2.2.2.2.2.2.2.2.1.length then let V4:=(rd aIk x.2.2.2.2.2.2.2.2.2.2.1 x.2.2.2.2.2.2.2.2.2.2.2.2.1);(if inb V4 x.2.2.1.length then if U ((rd aIr x.2.2.1 V4)=noB) then let amO:=(w64<|x.2.2.2.2.2.2.1+1);I (.inl (x.1,x.2.1,x.2.2.1,x.2.2.2.1,x.2.2.2.2.1,V4,amO,x.2.2.2.2.2.2.2.1,x.2.2.2.2.2.2.2.2.1,x.2.2.2.2.2.2.2.2.2.1,x.2.2.2.2.2.2.2.2.2.2.1,x.2.2.2.2.2.2.2.2.2.2.2.1,(w64<|x.2.2.2.2.2.2.2.2.2.2.2.2.1+1),())) else if inb V4 x.2.2.1.length then(XB (x.2.2.2.2.1,(rd aIr x.2.2.1 V4),())).bind λalw=>I (.inl (x.1,x.2.1,x.2.2.1,x.2.2.2.1,alw.1.1,x.2.2.2.2.2.1,x.2.2.2.2.2.2.1,x.2.2.2.2.2.2.2.1,x.2.2.2.2.2.2.2.2.1,x.2.2.2.2.2.2.2.2.2.1,x.2.2.2.2.2.2.2.2.2.2.1,x.2.2.2.2.2.2.2.2.2.2.2.1,(w64<|x.2.2.2.2.2.2.2.2.2.2.2.2.1+1),())) else G else G) else G else I (.inr<|.inr (x.1,x.2.1,x.2.2.1,x.2.2.2.1,x.2.2.2.2.1,x.2.2.2.2.2.1,x.2.2.2.2.2.2.1,x.2.2.2.2.2.2.2.1,x.2.2.2.2.2.2.2.2.1,x.2.2.2.2.2.2.2.2.2.1,()))
def dX:=AT WE
def yV:Loop:=⟨[(0,j6),(1,.sl .mixed),(5,.row 9 .str),(6,.bool),(9,.str),(10,j6),(11,j6),(20,.sl .mixed),(21,j6),(22,j6),(41,.row 3 .int),(42,j6),(43,j6)],[(0,j6),(1,.sl .mixed),(5,.row 9 .str),(6,.bool),(9,.str),(10,j6),(11,j6),(20,.sl .mixed),(21,j6),(22,j6)],4,[],dX⟩
def ajr:LF f194 [] [1,1,1,0,1,0,0,1,0,1,1,0,0,1,1,0,0,1,1,1,0,1,0,0] yV:=sq (v:= .nil) iB (b:=WE) kN
def O0(x:Int×List AQ×List A1×Bool×List AQ×aIf):Rnd (Int×List AQ×List A1×Bool×List AQ×aIf) D (Int×List AQ×List A1×Bool×D):=if U (x.2.2.2.2.2.2.1<x.2.2.2.2.2.1) then if inb x.2.2.2.2.2.2.1 x.2.2.2.2.1.length then let aDn:=(rd aIt x.2.2.2.2.1 x.2.2.2.2.2.2.1).nu;let a:=(rd aIt x.2.2.2.2.1 x.2.2.2.2.2.2.1).da;(C8 (aDn,0,999,())).bind λalx=>if(!alx.1.1)||(!decide ((a.size:Int)=4)) then I (.inl (x.1,x.2.1,x.2.2.1,x.2.2.2.1,x.2.2.2.2.1,x.2.2.2.2.2.1,(w64<|x.2.2.2.2.2.2.1+1),())) else(XA (x.1,aDn,())).bind λaDv=>(AN (dX (x.1,x.2.1,x.2.2.1,x.2.2.2.1,a,(-1),0,x.2.2.2.2.1,x.2.2.2.2.2.1,x.2.2.2.2.2.2.1,aDv.1.1,(j8 aDv.1.1:Int),0,())) (λ_=>I<|.inr<|.inl ()) λGb=>(if U (Gb.2.2.2.2.2.2.1=1) then if inb Gb.2.2.2.2.2.1 Gb.2.2.1.length then I (.inl (Gb.1,Gb.2.1,(Bq Gb.2.2.1 (AM Gb.2.2.2.2.2.1) Gb.2.2.2.2.1),Y,Gb.2.2.2.2.2.2.2.1,Gb.2.2.2.2.2.2.2.2.1,(w64<|Gb.2.2.2.2.2.2.2.2.2.1+1),())) else G else I (.inl (Gb.1,Gb.2.1,Gb.2.2.1,Gb.2.2.2.1,Gb.2.2.2.2.2.2.2.1,Gb.2.2.2.2.2.2.2.2.1,(w64<|Gb.2.2.2.2.2.2.2.2.2.1+1),())))) else G else I (.inr<|.inr (x.1,x.2.1,x.2.2.1,x.2.2.2.1,()))
def VY:=AT O0
def yW:Loop:=⟨[(0,j6),(1,.sl .mixed),(5,.row 9 .str),(6,.bool),(20,.sl .mixed),(21,j6),(22,j6)],[(0,j6),(1,.sl .mixed),(5,.row 9 .str),(6,.bool)],2,[],VY⟩
def ajO:LF f194 [] [1,1,1,0,1,0,0,1,0,1,1,0,0] yW:=sq (v:=t1<|t1<|.two (.one<|t1<|t1<|t1<|.two (t1<|.one<|.loop yV) .nil) .nil) iB (b:=O0)<|kC ajr kN
def vX(x:Int×List AQ×List A1×Bool×D):Rnd (Int×List AQ×List A1×Bool×D) D (List A1×D):=if x.2.2.2.1 then(AN (VY (x.1,x.2.1,x.2.2.1,A0,x.2.1,(j8 x.2.1:Int),0,())) (λ_=>I<|.inr<|.inl ()) λam3=>I<|.inl am3) else I (.inr<|.inr (x.2.2.1,()))
def tW:=AT vX
def yX:Loop:=⟨[(0,j6),(1,.sl .mixed),(5,.row 9 .str),(6,.bool)],[(5,.row 9 .str)],0,[],tW⟩
def ajE:LF f194 [] [1,1,1,0,1,0,0] yX:=sq (v:=t1<|.one<|t1<|t1<|.one<|.loop yW) iB (b:=vX)<|kC ajO kN
def gv(x:Int×List AQ×D):Option ((List A1×D)×D):=(C8 (x.1,1,6,())).bind λa=>if !a.1.1 then I ((([]:List A1),()),()) else if U (0<=x.1)&&U (x.1<=4294967296) then(AN (tW (x.1,x.2.1,(BS (AM x.1)<|dfl .str),Y,())) (λ_=>G) λam2=>I (am2,())) else G
def aB1:Ent:=(194,G,⟨[j6,.fz .mixed],[.row 9 .str],gv⟩)
def afH:y7 aB1:=sk (v:=t1<|t1<|t1<|.two (t1<|.one<|.loop yX) .nil) (fn:=f194) iB<|kC ajE kN
def akJ:Cx:=cX [FJ,aB1] [] []
def jQ:y9 akJ:=aIe<|gC FY<|gC afH<|AI
def gF(x:Int×A1×v7):Rnd (Int×A1×v7) (A1×Bool×D) (Int×A1×D):=if U (x.2.2.1<(x.2.1.size:Int)) then if inb x.2.2.1 x.2.1.size then if !decide ((bt x.2.1 x.2.2.1)=0) then I (.inr<|.inl (noB,A0,())) else I (.inl (x.1,x.2.1,(w64<|x.2.2.1+1),())) else G else I (.inr<|.inr (x.1,x.2.1,()))
def tV:=AT gF
def zC:Loop:=⟨[(0,j6),(6,.str),(9,j6)],[(0,j6),(6,.str)],2,[(4,.str),(5,.bool)],tV⟩
def ajN:LF f155 [] [1,1,1,1,0,1,0,0] zC:=sq (v:= .nil) jQ (b:=gF) kN
def WD(x:Int×A1×List A1×aIf):Rnd (Int×A1×List A1×aIf) (A1×Bool×D) (Int×A1×D):=if U (x.2.2.2.2.1<x.2.2.2.1) then if inb x.2.2.2.2.1 x.2.2.1.length then let a:=(rd aIr x.2.2.1 x.2.2.2.2.1);(if U (a=noB) then I (.inr<|.inl (noB,A0,())) else if U (x.2.1.size+a.size<=4611686018427387904) then I (.inl (x.1,(x.2.1++a),x.2.2.1,x.2.2.2.1,(w64<|x.2.2.2.2.1+1),())) else G) else G else I (.inr<|.inr (x.1,x.2.1,()))
def dW:=AT WD
def yU:Loop:=⟨[(0,j6),(6,.str),(18,.row 9 .str),(19,j6),(20,j6)],[(0,j6),(6,.str)],0,[(4,.str),(5,.bool)],dW⟩
def ajD:LF f155 [] [1,1,1,0,1,0,0] yU:=sq (v:= .nil) jQ (b:=WD) kN
def gu(x:Int×List AQ×D):Option ((A1×Bool×D)×D):=(C8 (x.1,1,24,())).bind λd=>if !d.1.1 then I ((noB,A0,()),()) else(gv ((w64<|B1 (w64<|(w64<|x.1+4) - 1) 4),x.2)).bind λc=>(AN (dW (x.1,noB,c.1.1,(j8 c.1.1:Int),0,())) (λb=>I (b,())) λb=>(AN (tV (b.1,b.2.1,b.1,())) (λa=>I (a,())) λa=>(if U (0<=a.1)&&U (a.1<=(a.2.1.size:Int)) then let e:=(a.2.1.extract (0)<|AM a.1);I ((e,Y,()),()) else G)))
def aB0:Ent:=(155,G,⟨[j6,.fz .mixed],[.str,.bool],gu⟩)
def afG:y7 aB0:=sk (v:=t1<|t1<|t1<|.two (t1<|.one<|.loop yU)<|.two (t1<|.one<|.loop zC) .nil) (fn:=f155) jQ<|kC ajD<|kC ajN kN
def ahS:Cx:=cX [Ka,Lg,kB,Xk,W3,ic,aCM,X0,aDK,aB0] [(85,85)] [(34,41)]
def aiz:y9 ahS:=aIe<|gC LW<|gC Mf<|gC xU<|gC vU<|gC cK<|gC uE<|gC agp<|gC dp<|gC ajH<|gC afG<|AI
def Vn(x:Y1×Y6×D):Option ((Y1×List Frame×D)×D):=(Gw (x.1,())).bind λc=>let i:=(U<|x.2.1.2.2.2.2.2.2.1<=c.1.1.2.1);(if i then(iY (3,x.2)).bind λj=>I ((x.1,j.1),()) else(H5 (c.1.1.2.2.2.1,x.2.1.2.2.2.1,x.2.1.2.2.2.2.1,())).bind λd=>if Ag (!(U<|0<=d.1.1)) ((Ke (c.1.1.2.2.2.2.1,x.2.1.2.2.2.1,x.2.1.2.2.2.2.1,())).isSome) then let k:=((U<|0<=d.1.1)||(U<|0<=((Ke (c.1.1.2.2.2.2.1,x.2.1.2.2.2.1,x.2.1.2.2.2.2.1,())).getD ((0,()),())).1.1));(if k then(OA (x.1,())).bind λl=>(iY (2,x.2)).bind λm=>I ((l.1.1,m.1),()) else let n:=(U<|x.2.1.2.2.2.1=x.1.1);(if n then I ((x.1,([]:List Frame),()),()) else(Sd (x.1.2.2.2.2.1,x.2.1.2.2.2.1,x.2.1.2.2.2.2.1,())).bind λe=>(BT (X:=Y1×Y6×Y1×v7) (λa=>if inb a.2.2.2.1 a.1.2.2.2.2.1.length then if !decide ((rd aIi a.1.2.2.2.2.1 a.2.2.2.1).to=a.2.1.2.2.2.2.2.1) then I ((a.1,([]:List Frame),()),()) else if !decide ((rd aIi a.1.2.2.2.2.1 a.2.2.2.1).un=a.2.1.2.2.2.2.2.2.1) then I ((a.1,([]:List Frame),()),()) else if !decide ((rd aIi a.1.2.2.2.2.1 a.2.2.2.1).sz=a.2.1.2.2.2.2.2.2.2.1) then I ((a.1,([]:List Frame),()),()) else(Xh ((rd aIi a.1.2.2.2.2.1 a.2.2.2.1).got,a.2.1.2.2.2.2.2.2.2.2,())).bind λb=>(gu ((rd aIi (Bq a.1.2.2.2.2.1 (AM a.2.2.2.1)<|AG.mk ((rd aIi a.1.2.2.2.2.1 a.2.2.2.1).fr) ((rd aIi a.1.2.2.2.2.1 a.2.2.2.1).nu) ((rd aIi a.1.2.2.2.2.1 a.2.2.2.1).to) ((rd aIi a.1.2.2.2.2.1 a.2.2.2.1).un) ((rd aIi a.1.2.2.2.2.1 a.2.2.2.1).sz) b.1.1) a.2.2.2.1).sz,(rd aIi (Bq a.1.2.2.2.2.1 (AM a.2.2.2.1)<|AG.mk ((rd aIi a.1.2.2.2.2.1 a.2.2.2.1).fr) ((rd aIi a.1.2.2.2.2.1 a.2.2.2.1).nu) ((rd aIi a.1.2.2.2.2.1 a.2.2.2.1).to) ((rd aIi a.1.2.2.2.2.1 a.2.2.2.1).un) ((rd aIi a.1.2.2.2.2.1 a.2.2.2.1).sz) b.1.1) a.2.2.2.1).got,())).bind λf=>if !f.1.2.1 then I (((a.1.1,a.1.2.1,a.1.2.2.1,a.1.2.2.2.1,(Bq a.1.2.2.2.2.1 (AM a.2.2.2.1)<|AG.mk ((rd aIi a.1.2.2.2.2.1 a.2.2.2.1).fr) ((rd aIi a.1.2.2.2.2.1 a.2.2.2.1).nu) ((rd aIi a.1.2.2.2.2.1 a.2.2.2.1).to) ((rd aIi a.1.2.2.2.2.1 a.2.2.2.1).un) ((rd aIi a.1.2.2.2.2.1 a.2.2.2.1).sz) b.1.1),()),([]:List Frame),()),()) else if U (0<=a.2.2.2.1)&&U (a.2.2.2.1<=((Bq a.1.2.2.2.2.1 (AM a.2.2.2.1)<|AG.mk ((rd aIi a.1.2.2.2.2.1 a.2.2.2.1).fr) ((rd aIi a.1.2.2.2.2.1 a.2.2.2.1).nu) ((rd aIi a.1.2.2.2.2.1 a.2.2.2.1).to) ((rd aIi a.1.2.2.2.2.1 a.2.2.2.1).un) ((rd aIi a.1.2.2.2.2.1 a.2.2.2.1).sz) b.1.1).length:Int)) then if Ab (([]:List AG).length+(BR (AM a.2.2.2.1)<|Bq a.1.2.2.2.2.1 (AM a.2.2.2.1)<|AG.mk ((rd aIi a.1.2.2.2.2.1 a.2.2.2.1).fr) ((rd aIi a.1.2.2.2.2.1 a.2.2.2.1).nu) ((rd aIi a.1.2.2.2.2.1 a.2.2.2.1).to) ((rd aIi a.1.2.2.2.2.1 a.2.2.2.1).un) ((rd aIi a.1.2.2.2.2.1 a.2.2.2.1).sz) b.1.1).length) then if U (0<=(w64<|a.2.2.2.1+1))&&U ((w64<|a.2.2.2.1+1)<=((Bq a.1.2.2.2.2.1 (AM a.2.2.2.1)<|AG.mk ((rd aIi a.1.2.2.2.2.1 a.2.2.2.1).fr) ((rd aIi a.1.2.2.2.2.1 a.2.2.2.1).nu) ((rd aIi a.1.2.2.2.2.1 a.2.2.2.1).to) ((rd aIi a.1.2.2.2.2.1 a.2.2.2.1).un) ((rd aIi a.1.2.2.2.2.1 a.2.2.2.1).sz) b.1.1).length:Int)) then if Ab ((([]:List AG)++(BR (AM a.2.2.2.1)<|Bq a.1.2.2.2.2.1 (AM a.2.2.2.1)<|AG.mk ((rd aIi a.1.2.2.2.2.1 a.2.2.2.1).fr) ((rd aIi a.1.2.2.2.2.1 a.2.2.2.1).nu) ((rd aIi a.1.2.2.2.2.1 a.2.2.2.1).to) ((rd aIi a.1.2.2.2.2.1 a.2.2.2.1).un) ((rd aIi a.1.2.2.2.2.1 a.2.2.2.1).sz) b.1.1)).length+(Br (AM<|w64<|a.2.2.2.1+1)<|Bq a.1.2.2.2.2.1 (AM a.2.2.2.1)<|AG.mk ((rd aIi a.1.2.2.2.2.1 a.2.2.2.1).fr) ((rd aIi a.1.2.2.2.2.1 a.2.2.2.1).nu) ((rd aIi a.1.2.2.2.2.1 a.2.2.2.1).to) ((rd aIi a.1.2.2.2.2.1 a.2.2.2.1).un) ((rd aIi a.1.2.2.2.2.1 a.2.2.2.1).sz) b.1.1).length) then(Mj ((a.2.1.2.2.2.1,a.2.1.2.2.2.2.1,a.2.1.2.2.2.2.2.1,a.2.1.2.2.2.2.2.2.1,f.1.1,()),())).bind λg=>if U ((B [116,97,107,101,32]).size+g.1.1.size<=4611686018427387904) then(OE ((a.1.1,a.1.2.1,a.1.2.2.1,a.1.2.2.2.1,((([]:List AG)++(BR (AM a.2.2.2.1)<|Bq a.1.2.2.2.2.1 (AM a.2.2.2.1)<|AG.mk ((rd aIi a.1.2.2.2.2.1 a.2.2.2.1).fr) ((rd aIi a.1.2.2.2.2.1 a.2.2.2.1).nu) ((rd aIi a.1.2.2.2.2.1 a.2.2.2.1).to) ((rd aIi a.1.2.2.2.2.1 a.2.2.2.1).un) ((rd aIi a.1.2.2.2.2.1 a.2.2.2.1).sz) b.1.1))++(Br (AM<|w64<|a.2.2.2.1+1)<|Bq a.1.2.2.2.2.1 (AM a.2.2.2.1)<|AG.mk ((rd aIi a.1.2.2.2.2.1 a.2.2.2.1).fr) ((rd aIi a.1.2.2.2.2.1 a.2.2.2.1).nu) ((rd aIi a.1.2.2.2.2.1 a.2.2.2.1).to) ((rd aIi a.1.2.2.2.2.1 a.2.2.2.1).un) ((rd aIi a.1.2.2.2.2.1 a.2.2.2.1).sz) b.1.1)),()),((B [116,97,107,101,32])++g.1.1),())).bind λh=>if !h.1.2.1 then let o:=((([]:List AG)++(BR (AM a.2.2.2.1)<|Bq a.1.2.2.2.2.1 (AM a.2.2.2.1)<|AG.mk ((rd aIi a.1.2.2.2.2.1 a.2.2.2.1).fr) ((rd aIi a.1.2.2.2.2.1 a.2.2.2.1).nu) ((rd aIi a.1.2.2.2.2.1 a.2.2.2.1).to) ((rd aIi a.1.2.2.2.2.1 a.2.2.2.1).un) ((rd aIi a.1.2.2.2.2.1 a.2.2.2.1).sz) b.1.1))++(Br (AM<|w64<|a.2.2.2.1+1)<|Bq a.1.2.2.2.2.1 (AM a.2.2.2.1)<|AG.mk ((rd aIi a.1.2.2.2.2.1 a.2.2.2.1).fr) ((rd aIi a.1.2.2.2.2.1 a.2.2.2.1).nu) ((rd aIi a.1.2.2.2.2.1 a.2.2.2.1).to) ((rd aIi a.1.2.2.2.2.1 a.2.2.2.1).un) ((rd aIi a.1.2.2.2.2.1 a.2.2.2.1).sz) b.1.1));I (((a.1.1,a.1.2.1,a.1.2.2.1,a.1.2.2.2.1,o,()),([]:List Frame),()),()) else(OA (h.1.1,())).bind λp=>(iY (2,a.2.1,())).bind λq=>I ((p.1.1,q.1),()) else G else G else G else G else G else G)<|(if U (e.1.1<0) then if Ab (x.1.2.2.2.2.1.length+([(AG.mk x.2.1.2.2.2.1 x.2.1.2.2.2.2.1 x.2.1.2.2.2.2.2.1 x.2.1.2.2.2.2.2.2.1 x.2.1.2.2.2.2.2.2.2.1 ([]:List AQ))]:List AG).length) then if U (3<((x.1.2.2.2.2.1++([(AG.mk x.2.1.2.2.2.1 x.2.1.2.2.2.2.1 x.2.1.2.2.2.2.2.1 x.2.1.2.2.2.2.2.2.1 x.2.1.2.2.2.2.2.2.2.1 ([]:List AQ))]:List AG)).length:Int)) then if U (0<=1)&&U (1<=((x.1.2.2.2.2.1++([(AG.mk x.2.1.2.2.2.1 x.2.1.2.2.2.2.1 x.2.1.2.2.2.2.2.1 x.2.1.2.2.2.2.2.2.1 x.2.1.2.2.2.2.2.2.2.1 ([]:List AQ))]:List AG)).length:Int)) then let r:=(w64<|((Br (AM 1)<|x.1.2.2.2.2.1++([(AG.mk x.2.1.2.2.2.1 x.2.1.2.2.2.2.1 x.2.1.2.2.2.2.2.1 x.2.1.2.2.2.2.2.2.1 x.2.1.2.2.2.2.2.2.2.1 ([]:List AQ))]:List AG)).length:Int) - 1);I (.inr ((x.1.1,x.1.2.1,x.1.2.2.1,x.1.2.2.2.1,(Br (AM 1)<|x.1.2.2.2.2.1++([(AG.mk x.2.1.2.2.2.1 x.2.1.2.2.2.2.1 x.2.1.2.2.2.2.2.1 x.2.1.2.2.2.2.2.2.1 x.2.1.2.2.2.2.2.2.2.1 ([]:List AQ))]:List AG)),()),x.2.1,(0,A0,noB,0,([]:List AG),()),r,())) else G else let s:=(w64<|((x.1.2.2.2.2.1++([(AG.mk x.2.1.2.2.2.1 x.2.1.2.2.2.2.1 x.2.1.2.2.2.2.2.1 x.2.1.2.2.2.2.2.2.1 x.2.1.2.2.2.2.2.2.2.1 ([]:List AQ))]:List AG)).length:Int) - 1);I (.inr ((x.1.1,x.1.2.1,x.1.2.2.1,x.1.2.2.2.1,(x.1.2.2.2.2.1++([(AG.mk x.2.1.2.2.2.1 x.2.1.2.2.2.2.1 x.2.1.2.2.2.2.2.1 x.2.1.2.2.2.2.2.2.1 x.2.1.2.2.2.2.2.2.2.1 ([]:List AQ))]:List AG)),()),x.2.1,(0,A0,noB,0,([]:List AG),()),s,())) else G else I (.inr (x.1,x.2.1,(0,A0,noB,0,([]:List AG),()),e.1)))))) else G)
def yj:Ent:=(116,G,⟨[Z1,Z13],[Z12,.fz .frame],Vn⟩)
def ado:y7 yj:=sk (v:=t1<|t1<|t1<|t1<|.join [(2,Z20),(3,Z14),(4,Z20),(7,j6)] .nil .nil) (fn:=f116) aiz kN
def ag1:Cx:=cX [Ka,Jo,Lg,LY,jK,yj,Xk,fJ] [] [(70,77)]
def ah3:y9 ag1:=aIe<|gC LW<|gC KZ<|gC Mf<|gC Me<|gC wT<|gC ado<|gC vU<|gC ru<|AI
def S7(x:Y1×Y6×D):Option ((Y1×List Frame×D)×D):=(I0 (x.1,())).bind λf=>if !f.1.1 then I (((0,A0,noB,0,([]:List AG),()),([]:List Frame),()),()) else(I2 (x.1,())).bind λa=>if !x.1.2.1 then I ((a.1.1,([]:List Frame),()),()) else(Wb x.2).bind λg=>if !g.1.1 then I ((a.1.1,([]:List Frame),()),()) else if !decide (x.2.1.2.2.1=x.1.1) then I ((a.1.1,([]:List Frame),()),()) else if U (x.2.1.1=1) then(Vn (a.1.1,x.2)).bind λe=>(I2 (e.1.1,())).bind λh=>I ((h.1.1,e.1.2),()) else if U (x.2.1.1=2) then(Gw (x.1,())).bind λb=>(H5 (b.1.1.2.2.2.1,x.2.1.2.2.2.1,x.2.1.2.2.2.2.1,())).bind λc=>(BT (X:=Y6×Y1×Y1×Bool×D) (λd=>if d.2.2.2.1 then(Po ((B [108,101,116]),d.1.2.2.2.1,d.1.2.2.2.2.1,d.1.2.2.2.2.2.2.1,())).bind λi=>(OE (d.2.2.1,i.1)).bind λj=>I ((j.1.1,([]:List Frame),()),()) else I ((d.2.2.1,([]:List Frame),()),()))<|(if U (0<=c.1.1) then if inb c.1.1 b.1.1.2.2.2.1.length then if Ag (U<|(rd y5 b.1.1.2.2.2.1 c.1.1).to=x.2.1.2.2.2.2.2.1) (inb c.1.1 b.1.1.2.2.2.1.length) then I (.inr (x.2.1,(0,A0,noB,0,([]:List AG),()),a.1.1,((U<|(rd y5 b.1.1.2.2.2.1 c.1.1).to=x.2.1.2.2.2.2.2.1)&&(U<|(rd y5 b.1.1.2.2.2.1 c.1.1).un=x.2.1.2.2.2.2.2.2.1)),())) else G else G else if Ag A0 (inb c.1.1 b.1.1.2.2.2.1.length) then I (.inr (x.2.1,(0,A0,noB,0,([]:List AG),()),a.1.1,A0,())) else G)) else I ((a.1.1,([]:List Frame),()),())
def xO:Ent:=(80,G,⟨[Z12,Z13],[Z12,.fz .frame],S7⟩)
def adV:y7 xO:=sk (v:=t1<|t1<|t1<|t1<|.two (t1<|.one<|t1<|t1<|t1<|.two (t1<|t1<|.join [(3,Z14),(4,Z20),(6,Z20),(78,.bool)] .nil .nil) .nil) .nil) (fn:=f80) ah3 kN
def aqJ:Cx:=cX [uq] [] []
def aCx:y9 aqJ:=aIe<|gC ad1<|AI
def XW(x:Y2×List Frame×aIf):Rnd (Y2×List Frame×aIf) D (Y2×D):=if U (x.2.2.2.1<x.2.2.1) then if inb x.2.2.2.1 x.2.1.length then let d:=(rd aIs x.2.1 x.2.2.2.1).ki;let a:=(rd aIs x.2.1 x.2.2.2.1).src;let b:=(rd aIs x.2.1 x.2.2.2.1).dst;let e:=(rd aIs x.2.1 x.2.2.2.1).fr;let f:=(rd aIs x.2.1 x.2.2.2.1).nu;let g:=(rd aIs x.2.1 x.2.2.2.1).to;let h:=(rd aIs x.2.1 x.2.2.2.1).un;let i:=(rd aIs x.2.1 x.2.2.2.1).sz;let j:=(rd aIs x.2.1 x.2.2.2.1).mix;let k:=(rd aIs x.2.1 x.2.2.2.1).da;if U ((j8 x.1.2.2.2.1:Int)<30) then(Ps ((d,a,b,e,f,g,h,i,j,k,()),())).bind λc=>if Ab (x.1.2.2.2.1.length+([(AK.mk a b (BJ c.1.1) A0)]:List AK).length) then I (.inl ((x.1.1,x.1.2.1,x.1.2.2.1,(x.1.2.2.2.1++([(AK.mk a b (BJ c.1.1) A0)]:List AK)),x.1.2.2.2.2),x.2.1,x.2.2.1,(w64<|x.2.2.2.1+1),())) else G else I (.inl (x.1,x.2.1,x.2.2.1,(w64<|x.2.2.2.1+1),())) else G else I (.inr<|.inr (x.1,()))
def ff:=AT XW
def aBV:Loop:=⟨[(0,Z2),(6,.sl .frame),(7,j6),(8,j6)],[(0,Z2)],0,[],ff⟩
def aqN:LF f81 [0] [1,0,0] aBV:=sq (v:= .nil) aCx (b:=XW) kN
def OD(x:Y2×List Frame×D):Option (D×Y2×D):=(AN (ff (x.1,x.2.1,(j8 x.2.1:Int),0,())) (λ_=>G) λa=>I ((),a))
def lC:Ent:=(81,G,⟨[Z2,.fz .frame],[],OD⟩)
def zd:y7 lC:=sk (v:=t1<|.one<|.loop aBV) (fn:=f81) aCx<|kC aqN kN
def ai1:Cx:=cX [FJ,yi,xL,xO,lC] [] [(137,141)]
def ak2:y9 ai1:=aIe<|gC FY<|gC adn<|gC adB<|gC adV<|gC zd<|AI
def SL(x:Y2×Y6×D):Option ((Bool×D)×Y2×D):=(C8 (x.2.1.2.2.2.2.1,0,(w64<|(j8 x.1.2.2.2.1:Int) - 1),())).bind λj=>if !j.1.1 then I ((A0,()),(x.1,())) else if inb x.2.1.2.2.2.2.1 x.1.2.2.2.1.length then let d:=(rd aIl x.1.2.2.2.1 x.2.1.2.2.2.2.1).src;let e:=(rd aIl x.1.2.2.2.1 x.2.1.2.2.2.2.1).dst;let b:=(rd aIl x.1.2.2.2.1 x.2.1.2.2.2.2.1).data;let i:=(rd aIl x.1.2.2.2.1 x.2.1.2.2.2.2.1).sp;if U (x.2.1.1=5) then(Vv (x.1.2.2.2.1,x.2.1.2.2.2.2.1,())).bind λk=>I ((Y,()),((x.1.1,x.1.2.1,x.1.2.2.1,k.1.1,x.1.2.2.2.2),())) else if U (x.2.1.1=6) then(C8 (x.2.1.2.2.2.2.2.1,0,(w64<|(b.size:Int) - 1),())).bind λl=>if !l.1.1 then I ((A0,()),(x.1,())) else if i then I ((A0,()),(x.1,())) else(C8 (x.2.1.2.2.2.2.2.2.1,1,255,())).bind λm=>if !m.1.1 then I ((A0,()),(x.1,())) else if Ab b.size then if inb x.2.1.2.2.2.2.2.1 ((BC b).length) then if inb x.2.1.2.2.2.2.2.1 ((BC b).length) then let n:=(Dw .u8 (rd aIp (BC b) x.2.1.2.2.2.2.2.1)<|w8 x.2.1.2.2.2.2.2.2.1);(if inb x.2.1.2.2.2.2.1 x.1.2.2.2.1.length then let g:=(BJ<|Bq (BC b) (AM x.2.1.2.2.2.2.2.1) n);(if inb x.2.1.2.2.2.2.1 ((Bq x.1.2.2.2.1 (AM x.2.1.2.2.2.2.1)<|AK.mk ((rd aIl x.1.2.2.2.1 x.2.1.2.2.2.2.1).src) ((rd aIl x.1.2.2.2.1 x.2.1.2.2.2.2.1).dst) g<|(rd aIl x.1.2.2.2.1 x.2.1.2.2.2.2.1).sp).length) then I ((Y,()),((x.1.1,x.1.2.1,x.1.2.2.1,(Bq (Bq x.1.2.2.2.1 (AM x.2.1.2.2.2.2.1)<|AK.mk ((rd aIl x.1.2.2.2.1 x.2.1.2.2.2.2.1).src) ((rd aIl x.1.2.2.2.1 x.2.1.2.2.2.2.1).dst) g<|(rd aIl x.1.2.2.2.1 x.2.1.2.2.2.2.1).sp) (AM x.2.1.2.2.2.2.1)<|AK.mk ((rd aIl (Bq x.1.2.2.2.1 (AM x.2.1.2.2.2.2.1)<|AK.mk ((rd aIl x.1.2.2.2.1 x.2.1.2.2.2.2.1).src) ((rd aIl x.1.2.2.2.1 x.2.1.2.2.2.2.1).dst) g<|(rd aIl x.1.2.2.2.1 x.2.1.2.2.2.2.1).sp) x.2.1.2.2.2.2.1).src) ((rd aIl (Bq x.1.2.2.2.1 (AM x.2.1.2.2.2.2.1)<|AK.mk ((rd aIl x.1.2.2.2.1 x.2.1.2.2.2.2.1).src) ((rd aIl x.1.2.2.2.1 x.2.1.2.2.2.2.1).dst) g<|(rd aIl x.1.2.2.2.1 x.2.1.2.2.2.2.1).sp) x.2.1.2.2.2.2.1).dst) ((rd aIl (Bq x.1.2.2.2.1 (AM x.2.1.2.2.2.2.1)<|AK.mk ((rd aIl x.1.2.2.2.1 x.2.1.2.2.2.2.1).src) ((rd aIl x.1.2.2.2.1 x.2.1.2.2.2.2.1).dst) g<|(rd aIl x.1.2.2.2.1 x.2.1.2.2.2.2.1).sp) x.2.1.2.2.2.2.1).data) Y),x.1.2.2.2.2),())) else G) else G) else G else G else G else if U (x.2.1.1=4) then if inb (if e<d then e else d) x.1.2.2.1.length then if !(rd aIw x.1.2.2.1<|if e<d then e else d) then I ((A0,()),(x.1,())) else(BT (X:=Y2×Y12×D) (λc=>if Ab c.2.1.2.2.1.size then(dY ((BC c.2.1.2.2.1),())).bind λh=>(BT (X:=Y2×Y12×Y6×Bool×D) (λa=>if a.2.2.2.1 then if inb a.2.1.2.1 a.1.2.1.length then(S7 (((rd aIh a.1.2.1 a.2.1.2.1).id,(rd aIh a.1.2.1 a.2.1.2.1).up,(rd aIh a.1.2.1 a.2.1.2.1).log,(rd aIh a.1.2.1 a.2.1.2.1).fo,(rd aIh a.1.2.1 a.2.1.2.1).AJ,()),a.2.2.1,())).bind λf=>if inb a.2.1.2.1 a.1.2.1.length then(OD ((a.1.1,(Bq a.1.2.1 (AM a.2.1.2.1)<|A7.mk f.1.1.1 f.1.1.2.1 f.1.1.2.2.1 f.1.1.2.2.2.1 f.1.1.2.2.2.2.1),a.1.2.2),f.1.2)).bind λo=>I ((Y,()),o.2) else G else G else I ((Y,()),(a.1,())))<|(if h.1.2.1 then I (.inr (c.1,c.2.1,h.1.1,((U<|h.1.1.2.1=c.2.1.1)&&(U<|h.1.1.2.2.1=c.2.1.2.1)),())) else I (.inr (c.1,c.2.1,h.1.1,A0,())))) else G)<|(if U (x.2.1.2.2.2.2.2.2.1=0) then(Vv (x.1.2.2.2.1,x.2.1.2.2.2.2.1,())).bind λp=>I (.inr ((x.1.1,x.1.2.1,x.1.2.2.1,p.1.1,x.1.2.2.2.2),(d,e,b,i,()),())) else I (.inr (x.1,(d,e,b,i,()),())))) else G else I ((Y,()),(x.1,())) else G
def aAM:Ent:=(46,G,⟨[Z2,Z13],[.bool],SL⟩)
def aef:y7 aAM:=sk (v:=t1<|t1<|t1<|.two (t1<|.one<|t1<|t1<|t1<|t1<|t1<|.two (t1<|.join [(0,Z2),(5,Z33)] .nil<|t1<|.join [(0,Z2),(5,Z33),(7,Z14),(142,.bool)] .nil .nil) .nil) .nil) (fn:=f46) ak2 kN
def akD:Cx:=cX [LY,Xk,ic] [] []
def aot:y9 akD:=aIe<|gC Me<|gC vU<|gC uE<|AI
def O5(x:Y1×A1×D):Option ((Y1×Bool×D)×D):=(OE x).bind λa=>if !a.1.2.1 then(I2 (x.1,())).bind λb=>I ((b.1.1,A0,()),()) else(OA (a.1.1,())).bind λc=>(I2 c.1).bind λd=>I ((d.1.1,Y,()),())
def hY:Ent:=(119,G,⟨[Z12,.str],[Z1,.bool],O5⟩)
def tD:y7 hY:=sk (v:= .nil) (fn:=f119) aot kN
def ahc:Cx:=cX [Ka,Jo,LY,hY,W3] [] []
def aj2:y9 ahc:=aIe<|gC LW<|gC KZ<|gC Me<|gC tD<|gC cK<|AI
def Vy(x:Y1×Int×Int×A1×D):Option ((Y1×v7)×D):=(I0 (x.1,())).bind λd=>if !d.1.1 then I (((0,A0,noB,0,([]:List AG),()),0,()),()) else if !x.1.2.1 then(I2 (x.1,())).bind λe=>I ((e.1.1,0,()),()) else(Gw (x.1,())).bind λb=>(Mj ((x.1.1,b.1.1.2.2.1,x.2),())).bind λc=>if U ((B [111,119,110,32]).size+c.1.1.size<=4611686018427387904) then(O5 (x.1,((B [111,119,110,32])++c.1.1),())).bind λa=>if !a.1.2.1 then I ((a.1.1,0,()),()) else I ((a.1.1,b.1.1.2.2.1,()),()) else G
def yn:Ent:=(82,G,⟨[Z12,j6,j6,.str],[Z1,j6],Vy⟩)
def adf:y7 yn:=sk (v:= .nil) (fn:=f82) aj2 kN
def afy:Cx:=cX [Ka,Jo,LY,hY,SW] [] []
def ah0:y9 afy:=aIe<|gC LW<|gC KZ<|gC Me<|gC tD<|gC VF<|AI
def Va(x:Y1×D):Option ((Y1×Bool×D)×D):=(I0 x).bind λb=>if !b.1.1 then I (((0,A0,noB,0,([]:List AG),()),A0,()),()) else if !x.1.2.1 then(I2 x).bind λc=>I ((c.1.1,A0,()),()) else(Gw x).bind λd=>(J6 ((w64<|d.1.1.2.1+1),())).bind λa=>if U ((B [116,105,109,101,32]).size+a.1.1.size<=4611686018427387904) then(O5 (x.1,((B [116,105,109,101,32])++a.1.1),())).bind λe=>I (e.1,()) else G
def xj:Ent:=(83,G,⟨[Z12],[Z1,.bool],Va⟩)
def adS:y7 xj:=sk (v:= .nil) (fn:=f83) ah0 kN
def anj:Cx:=cX [FJ,cO] [] []
def aBz:y9 anj:=aIe<|gC FY<|gC rJ<|AI
def iD(x:A1×List A1×v7):Rnd (A1×List A1×v7) D (List A1×D):=if U (x.2.2.1<(x.1.size:Int)) then if U (0<=4)&&U (4<=4294967296) then if U (0<=x.2.2.1)&&U (x.2.2.1<=(x.1.size:Int)) then if Ab (x.2.1.length+([(BJ<|BR (BS (AM 4)<|dfl .u8).length (BC<|x.1.extract (AM x.2.2.1)<|x.1.size)++Br (BC<|x.1.extract (AM x.2.2.1)<|x.1.size).length (BS (AM 4)<|dfl .u8))]:List A1).length) then I (.inl (x.1,(x.2.1++([(BJ<|BR (BS (AM 4)<|dfl .u8).length (BC<|x.1.extract (AM x.2.2.1)<|x.1.size)++Br (BC<|x.1.extract (AM x.2.2.1)<|x.1.size).length (BS (AM 4)<|dfl .u8))]:List A1)),(w64<|x.2.2.1+4),())) else G else G else G else I (.inr<|.inr (x.2.1,()))
def uP:=AT iD
def zq:Loop:=⟨[(0,.str),(3,.row 9 .str),(4,j6)],[(3,.row 9 .str)],0,[],uP⟩
def anR:LF f58 [] [1,1,1,0,1,0,0] zq:=sq (v:= .nil) aBz (b:=iD) kN
def Wo(x:A1×D):Option ((List A1×D)×D):=(C8 ((x.1.size:Int),1,24,())).bind λa=>if !a.1.1 then I ((([]:List A1),()),()) else(AN (uP (x.1,([]:List A1),0,())) (λ_=>G) λb=>(Rw b).bind λc=>I (c.1,()))
def kD:Ent:=(58,G,⟨[.str],[.row 9 .str],Wo⟩)
def xX:y7 kD:=sk (v:=t1<|t1<|t1<|.two (t1<|.one<|.loop zq) .nil) (fn:=f58) aBz<|kC anR kN
def akL:Cx:=cX [kD,ke,ka] [] []
def aAx:y9 akL:=aIe<|gC xX<|gC yY<|gC yt<|AI
def WH(x:List A1×A1×List Int×aIf):Rnd (List A1×A1×List Int×aIf) D (A1×D):=if U (x.2.2.2.2.1<x.2.2.2.1) then if inb x.2.2.2.2.1 x.2.2.1.length then let a:=(rd aIk x.2.2.1 x.2.2.2.2.1);(if U (x.2.2.2.2.1=0) then if inb a x.1.length then I (.inl (x.1,(rd aIr x.1 a),x.2.2.1,x.2.2.2.1,(w64<|x.2.2.2.2.1+1),())) else G else if inb a x.1.length then(XB (x.2.1,(rd aIr x.1 a),())).bind λb=>I (.inl (x.1,b.1.1,x.2.2.1,x.2.2.2.1,(w64<|x.2.2.2.2.1+1),())) else G) else G else I (.inr<|.inr (x.2.1,()))
def VL:=AT WH
def yZ:Loop:=⟨[(5,.row 9 .str),(6,.str),(14,.row 3 .int),(15,j6),(16,j6)],[(6,.str)],0,[],VL⟩
def ajF:LF f122 [] [1,1,1,0,1,0,0] yZ:=sq (v:= .nil) aAx (b:=WH) kN
def iC(x:A1×v7):Option ((A1×D)×D):=(Wo (x.1,())).bind λa=>(XA ((j8 a.1.1:Int),x.2)).bind λb=>(AN (VL (a.1.1,noB,b.1.1,(j8 b.1.1:Int),0,())) (λ_=>G) λc=>I (c,()))
def aB2:Ent:=(122,G,⟨[.str,j6],[.str],iC⟩)
def afI:y7 aB2:=sk (v:=t1<|t1<|t1<|.two (t1<|.one<|.loop yZ) .nil) (fn:=f122) aAx<|kC ajF kN
def ahd:Cx:=cX [Ka,Jo,WL,Lg,FJ,aB2] [] []
def aj3:y9 ahd:=aIe<|gC LW<|gC KZ<|gC ck<|gC Mf<|gC FY<|gC afI<|AI
def Vz(x:Y1×aIj):Option ((Y6×Bool×D)×D):=(I0 (x.1,())).bind λe=>if !e.1.1 then I (((0,0,0,0,0,0,0,0,0,noB,()),A0,()),()) else if !x.1.2.1 then I (((0,0,0,0,0,0,0,0,0,noB,()),A0,()),()) else(C8 (x.2.2.2.1,0,999,())).bind λf=>if !f.1.1 then I (((0,0,0,0,0,0,0,0,0,noB,()),A0,()),()) else(Gw (x.1,())).bind λa=>(H5 (a.1.1.2.2.2.1,x.2.1,x.2.2.1,())).bind λb=>if U (b.1.1<0) then I (((0,0,0,0,0,0,0,0,0,noB,()),A0,()),()) else if inb b.1.1 a.1.1.2.2.2.1.length then let g:=(rd y5 a.1.1.2.2.2.1 b.1.1).fr;let h:=(rd y5 a.1.1.2.2.2.1 b.1.1).nu;let c:=(rd y5 a.1.1.2.2.2.1 b.1.1).to;let i:=(rd y5 a.1.1.2.2.2.1 b.1.1).un;let d:=(rd y5 a.1.1.2.2.2.1 b.1.1).tx;(IZ (x.1.1,c,())).bind λj=>(iC (d,x.2.2.2)).bind λk=>I (((1,x.1.1,j.1.1,g,h,c,i,(d.size:Int),x.2.2.2.1,k.1),Y,()),()) else G
def yo:Ent:=(84,G,⟨[Z12,j6,j6,j6],[Z13,.bool],Vz⟩)
def adg:y7 yo:=sk (v:= .nil) (fn:=f84) aj3 kN
def ahW:Cx:=cX [SY,fK] [] []
def aj0:y9 ahW:=aIe<|gC VW<|gC rz<|AI
def eE(x:Y7×v7):Option ((Y7×D)×D):=(O1 (x.1,())).bind λc=>if !c.1.1 then I (((noB,0,()),()),()) else if U (0<=(w64<|x.1.2.1+(if 0<(if(w64<|(x.1.1.size:Int) - x.1.2.1)<x.2.1 then(w64<|(x.1.1.size:Int) - x.1.2.1) else x.2.1) then(if(w64<|(x.1.1.size:Int) - x.1.2.1)<x.2.1 then(w64<|(x.1.1.size:Int) - x.1.2.1) else x.2.1) else 0)))&&U ((w64<|x.1.2.1+(if 0<(if(w64<|(x.1.1.size:Int) - x.1.2.1)<x.2.1 then(w64<|(x.1.1.size:Int) - x.1.2.1) else x.2.1) then(if(w64<|(x.1.1.size:Int) - x.1.2.1)<x.2.1 then(w64<|(x.1.1.size:Int) - x.1.2.1) else x.2.1) else 0))<=(x.1.1.size:Int)) then let b:=(x.1.1.extract (0)<|AM<|w64<|x.1.2.1+(if 0<(if(w64<|(x.1.1.size:Int) - x.1.2.1)<x.2.1 then(w64<|(x.1.1.size:Int) - x.1.2.1) else x.2.1) then(if(w64<|(x.1.1.size:Int) - x.1.2.1)<x.2.1 then(w64<|(x.1.1.size:Int) - x.1.2.1) else x.2.1) else 0));(Pp (b,())).bind λa=>if U (0<=a.1.2.1)&&U (a.1.2.1<=(b.size:Int)) then let d:=(b.extract (0)<|AM a.1.2.1);I (((d,a.1.2),()),()) else G else G
def yl:Ent:=(123,G,⟨[Z15,j6],[Z15],eE⟩)
def adt:y7 yl:=sk (v:= .nil) (fn:=f123) aj0 kN
def ag2:Cx:=cX [Jo,yl] [] []
def ah4:y9 ag2:=aIe<|gC KZ<|gC adt<|AI
def Vd(x:Y1×v7):Option ((Y1×D)×D):=(I0 (x.1,())).bind λb=>if !b.1.1 then I (((0,A0,noB,0,([]:List AG),()),()),()) else(eE ((x.1.2.2.1,x.1.2.2.2.1,()),x.2)).bind λa=>I (((x.1.1,A0,a.1.1.1,a.1.1.2.1,([]:List AG),()),()),())
def xP:Ent:=(85,G,⟨[Z12,j6],[Z1],Vd⟩)
def adW:y7 xP:=sk (v:= .nil) (fn:=f85) ah4 kN
def afz:Cx:=cX [Jo,LY] [] []
def ah1:y9 afz:=aIe<|gC KZ<|gC Me<|AI
def Vb(x:Y1×D):Option ((Y1×D)×D):=(I0 x).bind λb=>if !b.1.1 then I (((0,A0,noB,0,([]:List AG),()),()),()) else(I2 x).bind λa=>I (((a.1.1.1,Y,a.1.1.2.2),()),())
def xk:Ent:=(86,G,⟨[Z12],[Z1],Vb⟩)
def adT:y7 xk:=sk (v:= .nil) (fn:=f86) ah1 kN
def ah6:Cx:=cX [Ka,Jo,Lg,LY,fJ,hY] [] [(29,30)]
def aj5:y9 ah6:=aIe<|gC LW<|gC KZ<|gC Mf<|gC Me<|gC ru<|gC tD<|AI
def W0(x:Y1×aIf):Option ((Y1×Y4×Bool×D)×D):=(I0 (x.1,())).bind λd=>if !d.1.1 then I (((0,A0,noB,0,([]:List AG),()),(0,0,0,0,noB,()),A0,()),()) else(Gw (x.1,())).bind λa=>(H5 (a.1.1.2.2.2.2.2.1,x.2)).bind λb=>if(!x.1.2.1)||(U<|b.1.1<0) then(I2 (x.1,())).bind λe=>I ((e.1.1,(0,0,0,0,noB,()),A0,()),()) else if inb b.1.1 a.1.1.2.2.2.2.2.1.length then(Po ((B [101,97,116]),x.2.1,x.2.2.1,(rd y5 a.1.1.2.2.2.2.2.1 b.1.1).un,())).bind λf=>(O5 (x.1,f.1)).bind λc=>if !c.1.2.1 then I ((c.1.1,(0,0,0,0,noB,()),A0,()),()) else if inb b.1.1 a.1.1.2.2.2.2.2.1.length then let g:=(rd y5 a.1.1.2.2.2.2.2.1 b.1.1).fr;let h:=(rd y5 a.1.1.2.2.2.2.2.1 b.1.1).nu;let i:=(rd y5 a.1.1.2.2.2.2.2.1 b.1.1).to;let j:=(rd y5 a.1.1.2.2.2.2.2.1 b.1.1).un;let k:=(rd y5 a.1.1.2.2.2.2.2.1 b.1.1).tx;I ((c.1.1,(g,h,i,j,k,()),Y,()),()) else G else G
def yp:Ent:=(87,G,⟨[Z12,j6,j6],[Z1,Z6,.bool],W0⟩)
def adh:y7 yp:=sk (v:= .nil) (fn:=f87) aj5 kN
def ag0:Cx:=cX [Ka,Jo,LY,uo,vL] [] []
def ah2:y9 ag0:=aIe<|gC LW<|gC KZ<|gC Me<|gC ad0<|gC vq<|AI
def Vc(x:Y1×D):Option ((Y1×Bool×D)×D):=(I0 x).bind λc=>if !c.1.1 then I (((0,A0,noB,0,([]:List AG),()),A0,()),()) else(I2 x).bind λa=>if !x.1.2.1 then I ((a.1.1,A0,()),()) else(Gw x).bind λd=>(WI d.1).bind λe=>(SD ((x.1.2.2.1,x.1.2.2.2.1,()),e.1)).bind λb=>I (((a.1.1.1,a.1.1.2.1,b.1.1.1,b.1.1.2.1,a.1.1.2.2.2.2),b.1.2),())
def xl:Ent:=(88,G,⟨[Z12],[Z1,.bool],Vc⟩)
def adU:y7 xl:=sk (v:= .nil) (fn:=f88) ah2 kN
def aeP:Cx:=cX [Jo,LY,ic] [] [(15,22)]
def aff:y9 aeP:=aIe<|gC KZ<|gC Me<|gC uE<|AI
def VM(x:Y1×D):Option ((Y1×Bool×D)×D):=(I0 x).bind λb=>if !b.1.1 then I (((0,A0,noB,0,([]:List AG),()),A0,()),()) else(I2 x).bind λa=>if(!x.1.2.1)||(U<|x.1.2.2.2.1=(x.1.2.2.1.size:Int)) then I ((a.1.1,A0,()),()) else(OA a.1).bind λc=>I ((c.1.1,Y,()),())
def xK:Ent:=(89,G,⟨[Z12],[Z12,.bool],VM⟩)
def adA:y7 xK:=sk (v:= .nil) (fn:=f89) aff kN
def ane:Cx:=cX [J4,lC,yn,xj,yo,xP,xk,yp,xl,xK] [] []
def aq3:y9 ane:=aIe<|gC Jj<|gC zd<|gC adf<|gC adS<|gC adg<|gC adW<|gC adT<|gC adh<|gC adU<|gC adA<|AI
def Sf(x:Y2×Y6×D):Option ((Bool×D)×Y2×D):=(FX (x.2.1.2.1,())).bind λj=>if !j.1.1 then I ((A0,()),(x.1,())) else if inb x.2.1.2.1 x.1.2.1.length then let e:=(rd aIh x.1.2.1 x.2.1.2.1).id;let a:=(rd aIh x.1.2.1 x.2.1.2.1).up;let f:=(rd aIh x.1.2.1 x.2.1.2.1).log;let g:=(rd aIh x.1.2.1 x.2.1.2.1).fo;let h:=(rd aIh x.1.2.1 x.2.1.2.1).AJ;(BT (X:=Y2×Y6×Y1×Bool×D) (λc=>if inb c.2.1.2.1 c.1.2.1.length then I (c.2.2.2,((c.1.1,(Bq c.1.2.1 (AM c.2.1.2.1)<|A7.mk c.2.2.1.1 c.2.2.1.2.1 c.2.2.1.2.2.1 c.2.2.1.2.2.2.1 c.2.2.1.2.2.2.2.1),c.1.2.2),())) else G)<|(if U (x.2.1.1=1) then if U (6<=(j8 x.1.2.2.2.2.1:Int)) then I (.inl ((A0,()),(x.1,()))) else(Vy ((e,a,f,g,h,()),x.2.1.2.2.2.2.2.2.2)).bind λi=>if U (i.1.2.1=0) then I (.inl ((A0,()),(x.1,()))) else if Ab (x.1.2.2.2.2.1.length+([(A3.mk x.2.1.2.1 i.1.2.1 x.2.1.2.2.2.2.2.2.2.1 x.2.1.2.2.2.2.2.2.2.2.1 x.2.1.2.2.2.2.2.2.2.2.2.1)]:List A3).length) then I (.inr ((x.1.1,x.1.2.1,x.1.2.2.1,x.1.2.2.2.1,(x.1.2.2.2.2.1++([(A3.mk x.2.1.2.1 i.1.2.1 x.2.1.2.2.2.2.2.2.2.1 x.2.1.2.2.2.2.2.2.2.2.1 x.2.1.2.2.2.2.2.2.2.2.2.1)]:List A3)),x.1.2.2.2.2.2),x.2.1,i.1.1,Y,())) else G else if U (x.2.1.1=2) then(Va ((e,a,f,g,h,()),())).bind λk=>I (.inr (x.1,x.2.1,k.1)) else if U (x.2.1.1=3) then(Vz ((e,a,f,g,h,()),x.2.1.2.2.1,x.2.1.2.2.2.1,x.2.1.2.2.2.2.2.1,())).bind λb=>if b.1.2.1 then(OD (x.1,([(Frame.mk b.1.1.1 b.1.1.2.1 b.1.1.2.2.1 b.1.1.2.2.2.1 b.1.1.2.2.2.2.1 b.1.1.2.2.2.2.2.1 b.1.1.2.2.2.2.2.2.1 b.1.1.2.2.2.2.2.2.2.1 b.1.1.2.2.2.2.2.2.2.2.1 b.1.1.2.2.2.2.2.2.2.2.2.1)]:List Frame),())).bind λl=>I (.inr (l.2.1,x.2.1,(e,a,f,g,h,()),b.1.2)) else I (.inr (x.1,x.2.1,(e,a,f,g,h,()),b.1.2)) else if U (x.2.1.1=7) then(Vd ((e,a,f,g,h,()),x.2.1.2.2.2.2.2.2.1,())).bind λm=>I (.inr (x.1,x.2.1,m.1.1,a,())) else if U (x.2.1.1=8) then(Vb ((e,a,f,g,h,()),())).bind λn=>I (.inr (x.1,x.2.1,n.1.1,(!a),())) else if U (x.2.1.1=11) then if U (6<=(j8 x.1.2.2.2.2.2.1:Int)) then I (.inl ((A0,()),(x.1,()))) else(W0 ((e,a,f,g,h,()),x.2.1.2.2.1,x.2.1.2.2.2.1,())).bind λd=>if !d.1.2.2.1 then I (.inl ((A0,()),(x.1,()))) else if Ab (x.1.2.2.2.2.2.1.length+([(A3.mk d.1.2.1.1 d.1.2.1.2.1 d.1.2.1.2.2.1 d.1.2.1.2.2.2.1 d.1.2.1.2.2.2.2.1)]:List A3).length) then I (.inr ((x.1.1,x.1.2.1,x.1.2.2.1,x.1.2.2.2.1,x.1.2.2.2.2.1,(x.1.2.2.2.2.2.1++([(A3.mk d.1.2.1.1 d.1.2.1.2.1 d.1.2.1.2.2.1 d.1.2.1.2.2.2.1 d.1.2.1.2.2.2.2.1)]:List A3)),()),x.2.1,d.1.1,Y,())) else G else if U (x.2.1.1=12) then(Vc ((e,a,f,g,h,()),())).bind λo=>I (.inr (x.1,x.2.1,o.1)) else if U (x.2.1.1=13) then(VM ((e,a,f,g,h,()),())).bind λp=>I (.inr (x.1,x.2.1,p.1)) else I (.inr (x.1,x.2.1,(e,a,f,g,h,()),A0,())))) else G
def aCK:Ent:=(47,G,⟨[Z2,Z13],[.bool],Sf⟩)
def agn:y7 aCK:=sk (v:=t1<|t1<|t1<|t1<|.join [(0,Z2),(3,Z25),(5,Z34),(6,.bool)] .nil .nil) (fn:=f47) aq3 kN
def akE:Cx:=cX [fI,aCL,aAM,aCK] [] [(28,30)]
def aou:y9 akE:=aIe<|gC rr<|gC ago<|gC aef<|gC agn<|AI
def I1(x:Y2×Y6×D):Option ((Y2×Bool×D)×D):=(Jm (x.1,())).bind λc=>(BT (X:=Y2×Y2×Y2×Bool×D) (λb=>if(!b.2.2.2.1)||(U<|b.1.1=99999) then(Jm (b.1,())).bind λm=>I ((m.1.1,A0,()),()) else(Jm (((w64<|b.2.2.1.1+1),b.2.2.1.2),())).bind λn=>I ((n.1.1,Y,()),()))<|(BT (X:=Y2×Y6×Y2×Y2×Int×Bool×D) (λa=>if a.2.2.2.2.2.1 then(iW (a.2.2.2.1,a.2.1,())).bind λd=>I (.inr (a.1,a.2.2.1,d.2.1,d.1)) else let e:=(U<|a.2.2.2.2.1=4);(if e then if e then(SL (a.2.2.2.1,a.2.1,())).bind λf=>I (.inr (a.1,a.2.2.1,f.2.1,f.1)) else(Sf (a.2.2.2.1,a.2.1,())).bind λg=>I (.inr (a.1,a.2.2.1,g.2.1,g.1)) else let h:=(U<|a.2.2.2.2.1=5);(if h then if h then(SL (a.2.2.2.1,a.2.1,())).bind λi=>I (.inr (a.1,a.2.2.1,i.2.1,i.1)) else(Sf (a.2.2.2.1,a.2.1,())).bind λj=>I (.inr (a.1,a.2.2.1,j.2.1,j.1)) else let o:=(U<|a.2.2.2.2.1=6);(if o then(SL (a.2.2.2.1,a.2.1,())).bind λk=>I (.inr (a.1,a.2.2.1,k.2.1,k.1)) else(Sf (a.2.2.2.1,a.2.1,())).bind λl=>I<|.inr (a.1,a.2.2.1,l.2.1,l.1)))))<|(if U (x.2.1.1=9) then I (.inr (x.1,x.2.1,(0,([]:List A7),([]:List Bool),([]:List AK),([]:List A3),([]:List A3),()),c.1.1,x.2.1.1,(U<|x.2.1.1=9),())) else I (.inr (x.1,x.2.1,(0,([]:List A7),([]:List Bool),([]:List AK),([]:List A3),([]:List A3),()),c.1.1,x.2.1.1,(U<|x.2.1.1=10),())))))
def Wf:Ent:=(25,G,⟨[Z30,Z13],[Z3,.bool],I1⟩)
def dO:y7 Wf:=sk (v:=t1<|t1<|t1<|.join [(2,Z29),(4,Z2),(6,Z2),(7,.bool)] (t1<|.one<|.join [(2,Z29),(3,Z25),(4,Z2),(6,Z2),(11,j6),(14,.bool)] .nil .nil) .nil) (fn:=f25) aou kN
def ahY:Cx:=cX [xi,Wf] [] []
def zD:y9 ahY:=aIe<|gC adR<|gC dO<|AI
def eB(x:Y2×Y2×List Event×aIf):Rnd (Y2×Y2×List Event×aIf) D (Y2×Y2×D):=if U (x.2.2.2.2.1<x.2.2.2.1) then if inb x.2.2.2.2.1 x.2.2.1.length then let a:=(rd aIu x.2.2.1 x.2.2.2.2.1).ki;let b:=(rd aIu x.2.2.1 x.2.2.2.2.1).at_;let c:=(rd aIu x.2.2.1 x.2.2.2.2.1).fr;let d:=(rd aIu x.2.2.1 x.2.2.2.2.1).nu;let e:=(rd aIu x.2.2.1 x.2.2.2.2.1).wo;let f:=(rd aIu x.2.2.1 x.2.2.2.2.1).mix;let g:=(rd aIu x.2.2.1 x.2.2.2.2.1).kp;let h:=(rd aIu x.2.2.1 x.2.2.2.2.1).to;let i:=(rd aIu x.2.2.1 x.2.2.2.2.1).un;let j:=(rd aIu x.2.2.1 x.2.2.2.2.1).tx;(I1 (x.2.1,(a,b,c,d,e,f,g,h,i,j,()),())).bind λk=>I (.inl (x.1,k.1.1,x.2.2.1,x.2.2.2.1,(w64<|x.2.2.2.2.1+1),())) else G else I (.inr<|.inr (x.1,x.2.1,()))
def cb:=AT eB
def wN:Loop:=⟨[(2,Z2),(3,Z2),(11,.sl .CR),(12,j6),(13,j6)],[(2,Z2),(3,Z2)],0,[],cb⟩
def agC:LF f9 [] [1,1,1,0,1,0,0] wN:=sq (v:= .nil) zD (b:=eB) kN
def SE(x:List Event×D):Option ((Y2×D)×D):=(du ()).bind λa=>if U (2000<(j8 x.1:Int)) then I (a.1,()) else(AN (cb ((0,([]:List A7),([]:List Bool),([]:List AK),([]:List A3),([]:List A3),()),a.1.1,x.1,(j8 x.1:Int),0,())) (λ_=>G) λb=>I (b.2,()))
def fM:Ent:=(9,G,⟨[.fz .CR],[Z3],SE⟩)
def sC:y7 fM:=sk (v:=t1<|t1<|t1<|.two (t1<|.one<|.loop wN) .nil) (fn:=f9) zD<|kC agC kN
def ak7:Cx:=cX [] [] []
def aBB:y9 ak7:=aIe<|AI
def WB(x:List A3×List A3×v7):Rnd (List A3×List A3×v7) (Bool×D) D:=if U (x.2.2.1<(j8 x.1:Int)) then if inb x.2.2.1 x.1.length then if inb x.2.2.1 x.2.1.length then if !(MU ((rd y5 x.1 x.2.2.1).fr) ((rd y5 x.1 x.2.2.1).nu) ((rd y5 x.1 x.2.2.1).to) ((rd y5 x.1 x.2.2.1).un) ((rd y5 x.1 x.2.2.1).tx) ((rd y5 x.2.1 x.2.2.1).fr) ((rd y5 x.2.1 x.2.2.1).nu) ((rd y5 x.2.1 x.2.2.1).to) ((rd y5 x.2.1 x.2.2.1).un)<|(rd y5 x.2.1 x.2.2.1).tx) then I (.inr<|.inl (A0,())) else I (.inl (x.1,x.2.1,(w64<|x.2.2.1+1),())) else G else G else I (.inr<|.inr ())
def sx:=AT WB
def xp:Loop:=⟨[(0,.sl .note),(1,.sl .note),(5,j6)],[],0,[(4,.bool)],sx⟩
def ajc:LF f18 [] [1,1,0,1,0,0] xp:=sq (v:= .nil) aBB (b:=WB) kN
def Le(x:List A3×List A3×D):Option ((Bool×D)×D):=if !decide ((j8 x.1:Int)=(j8 x.2.1:Int)) then I ((A0,()),()) else(AN (sx (x.1,x.2.1,0,())) (λa=>I (a,())) λa=>I ((Y,()),()))
def iy:Ent:=(18,G,⟨[.fz .note,.fz .note],[.bool],Le⟩)
def wa:y7 iy:=sk (v:=t1<|t1<|.two (t1<|.one<|.loop xp) .nil) (fn:=f18) aBB<|kC ajc kN
def aiR:Cx:=cX [] [] []
def vN:y9 aiR:=aIe<|AI
def Vt(x:List AG×List AG×aIf):Rnd (List AG×List AG×aIf) (Bool×D) (List AG×List AG×v7):=if inb x.2.2.1 x.1.length then if U (x.2.2.2.1<(((rd aIi x.1 x.2.2.1).got).length:Int)) then if inb x.2.2.1 x.1.length then if inb x.2.2.2.1 (((rd aIi x.1 x.2.2.1).got).length) then if inb x.2.2.1 x.2.1.length then if inb x.2.2.2.1 (((rd aIi x.2.1 x.2.2.1).got).length) then if !(U ((rd aIt ((rd aIi x.1 x.2.2.1).got) x.2.2.2.1).nu=(rd aIt ((rd aIi x.2.1 x.2.2.1).got) x.2.2.2.1).nu)&&(U ((rd aIt ((rd aIi x.1 x.2.2.1).got) x.2.2.2.1).da=(rd aIt ((rd aIi x.2.1 x.2.2.1).got) x.2.2.2.1).da)&&Y)) then I (.inr<|.inl (A0,())) else I (.inl (x.1,x.2.1,x.2.2.1,(w64<|x.2.2.2.1+1),())) else G else G else G else G else I (.inr<|.inr (x.1,x.2.1,x.2.2.1,())) else G
def sK:=AT Vt
def wc:Loop:=⟨[(0,.sl .half),(1,.sl .half),(5,j6),(6,j6)],[(0,.sl .half),(1,.sl .half),(5,j6)],2,[(4,.bool)],sK⟩
def ahq:LF f48 [] [1,1,0,1,0,0,1,0,0,1,1,0,0] wc:=sq (v:= .nil) vN (b:=Vt) kN
def Vu(x:List AG×List AG×v7):Rnd (List AG×List AG×v7) (Bool×D) D:=if U (x.2.2.1<(j8 x.1:Int)) then if inb x.2.2.1 x.1.length then if inb x.2.2.1 x.2.1.length then if !decide ((rd aIi x.1 x.2.2.1).fr=(rd aIi x.2.1 x.2.2.1).fr) then I (.inr<|.inl (A0,())) else if inb x.2.2.1 x.1.length then if inb x.2.2.1 x.2.1.length then if !decide ((rd aIi x.1 x.2.2.1).nu=(rd aIi x.2.1 x.2.2.1).nu) then I (.inr<|.inl (A0,())) else if inb x.2.2.1 x.1.length then if inb x.2.2.1 x.2.1.length then if !decide ((rd aIi x.1 x.2.2.1).to=(rd aIi x.2.1 x.2.2.1).to) then I (.inr<|.inl (A0,())) else if inb x.2.2.1 x.1.length then if inb x.2.2.1 x.2.1.length then if !decide ((rd aIi x.1 x.2.2.1).un=(rd aIi x.2.1 x.2.2.1).un) then I (.inr<|.inl (A0,())) else if inb x.2.2.1 x.1.length then if inb x.2.2.1 x.2.1.length then if !decide ((rd aIi x.1 x.2.2.1).sz=(rd aIi x.2.1 x.2.2.1).sz) then I (.inr<|.inl (A0,())) else if inb x.2.2.1 x.1.length then if inb x.2.2.1 x.2.1.length then if !decide ((((rd aIi x.1 x.2.2.1).got).length:Int)=(((rd aIi x.2.1 x.2.2.1).got).length:Int)) then I (.inr<|.inl (A0,())) else(AN (sK (x.1,x.2.1,x.2.2.1,0,())) (λa=>I<|.inr<|.inl a) λa=>I<|.inl (a.1,a.2.1,(w64<|a.2.2.1+1),())) else G else G else G else G else G else G else G else G else G else G else G else G else I (.inr<|.inr ())
def sL:=AT Vu
def we:Loop:=⟨[(0,.sl .half),(1,.sl .half),(5,j6)],[],0,[(4,.bool)],sL⟩
def ahj:LF f48 [] [1,1,0,1,0,0] we:=sq (v:=t1<|.two (.one<|t1<|t1<|.one<|.loop wc) .nil) vN (b:=Vu)<|kC ahq kN
def Px(x:List AG×List AG×D):Option ((Bool×D)×D):=if !decide ((j8 x.1:Int)=(j8 x.2.1:Int)) then I ((A0,()),()) else(AN (sL (x.1,x.2.1,0,())) (λa=>I (a,())) λa=>I ((Y,()),()))
def aAK:Ent:=(48,G,⟨[.fz .half,.fz .half],[.bool],Px⟩)
def ae9:y7 aAK:=sk (v:=t1<|t1<|.two (t1<|.one<|.loop we) .nil) (fn:=f48) vN<|kC ahj kN
def aiQ:Cx:=cX [aAK] [] [(25,29)]
def ak0:y9 aiQ:=aIe<|gC ae9<|AI
def fe(x:Y1×Y1×D):Option ((Bool×D)×D):=if U (x.1.1=x.2.1.1) then if U (x.1.2.1=x.2.1.2.1) then if Ag (U (x.1.2.2.1=x.2.1.2.2.1)&&(U (x.1.2.2.2.1=x.2.1.2.2.2.1)&&Y)) ((Px (x.1.2.2.2.2.1,x.2.1.2.2.2.2)).isSome) then let a:=((U (x.1.2.2.1=x.2.1.2.2.1)&&(U (x.1.2.2.2.1=x.2.1.2.2.2.1)&&Y))&&(((Px (x.1.2.2.2.2.1,x.2.1.2.2.2.2)).getD ((A0,()),())).1.1));I ((a,()),()) else G else if Ag A0 ((Px (x.1.2.2.2.2.1,x.2.1.2.2.2.2)).isSome) then I ((A0,()),()) else G else if Ag A0 ((Px (x.1.2.2.2.2.1,x.2.1.2.2.2.2)).isSome) then I ((A0,()),()) else G
def aAJ:Ent:=(26,G,⟨[Z12,Z12],[.bool],fe⟩)
def ae8:y7 aAJ:=sk (v:= .nil) (fn:=f26) ak0 kN
def ak6:Cx:=cX [iy,aAJ] [] []
def iA:y9 ak6:=aIe<|gC wa<|gC ae8<|AI
def W8(x:Y2×Y2×v7):Rnd (Y2×Y2×v7) (Bool×D) D:=if U (x.2.2.1<(j8 x.1.2.2.2.1:Int)) then if inb x.2.2.1 x.1.2.2.2.1.length then if inb x.2.2.1 x.2.1.2.2.2.1.length then if !(U ((rd aIl x.1.2.2.2.1 x.2.2.1).src=(rd aIl x.2.1.2.2.2.1 x.2.2.1).src)&&(U ((rd aIl x.1.2.2.2.1 x.2.2.1).dst=(rd aIl x.2.1.2.2.2.1 x.2.2.1).dst)&&(U ((rd aIl x.1.2.2.2.1 x.2.2.1).data=(rd aIl x.2.1.2.2.2.1 x.2.2.1).data)&&(U ((rd aIl x.1.2.2.2.1 x.2.2.1).sp=(rd aIl x.2.1.2.2.2.1 x.2.2.1).sp)&&Y)))) then I (.inr<|.inl (A0,())) else I (.inl (x.1,x.2.1,(w64<|x.2.2.1+1),())) else G else G else I (.inr<|.inr ())
def su:=AT W8
def xm:Loop:=⟨[(2,Z29),(3,Z29),(7,j6)],[],4,[(4,.bool)],su⟩
def ajq:LF f10 [] [1,1,1,1,0,1,0,0] xm:=sq (v:= .nil) iA (b:=W8) kN
def W9(x:Y2×Y2×v7):Rnd (Y2×Y2×v7) (Bool×D) (Y2×Y2×D):=if U (x.2.2.1<(j8 x.1.2.2.1:Int)) then if inb x.2.2.1 x.1.2.2.1.length then if inb x.2.2.1 x.2.1.2.2.1.length then if !decide ((rd aIw x.1.2.2.1 x.2.2.1)=(rd aIw x.2.1.2.2.1 x.2.2.1)) then I (.inr<|.inl (A0,())) else I (.inl (x.1,x.2.1,(w64<|x.2.2.1+1),())) else G else G else I (.inr<|.inr (x.1,x.2.1,()))
def sv:=AT W9
def xn:Loop:=⟨[(2,Z29),(3,Z29),(6,j6)],[(2,Z29),(3,Z29)],2,[(4,.bool)],sv⟩
def ajK:LF f10 [] [1,1,1,0,1,0,0] xn:=sq (v:= .nil) iA (b:=W9) kN
def WA(x:Y2×Y2×v7):Rnd (Y2×Y2×v7) (Bool×D) (Y2×Y2×D):=if U (x.2.2.1<(j8 x.1.2.1:Int)) then if inb x.2.2.1 x.1.2.1.length then if inb x.2.2.1 x.2.1.2.1.length then(fe (((rd aIh x.1.2.1 x.2.2.1).id,(rd aIh x.1.2.1 x.2.2.1).up,(rd aIh x.1.2.1 x.2.2.1).log,(rd aIh x.1.2.1 x.2.2.1).fo,(rd aIh x.1.2.1 x.2.2.1).AJ,()),((rd aIh x.2.1.2.1 x.2.2.1).id,(rd aIh x.2.1.2.1 x.2.2.1).up,(rd aIh x.2.1.2.1 x.2.2.1).log,(rd aIh x.2.1.2.1 x.2.2.1).fo,(rd aIh x.2.1.2.1 x.2.2.1).AJ,()),())).bind λa=>if !a.1.1 then I (.inr<|.inl (A0,())) else I (.inl (x.1,x.2.1,(w64<|x.2.2.1+1),())) else G else G else I (.inr<|.inr (x.1,x.2.1,()))
def sw:=AT WA
def xo:Loop:=⟨[(2,Z29),(3,Z29),(5,j6)],[(2,Z29),(3,Z29)],0,[(4,.bool)],sw⟩
def ajb:LF f10 [] [1,1,0,1,0,0] xo:=sq (v:= .nil) iA (b:=WA) kN
def SV(x:Y2×Y2×D):Option ((Bool×D)×D):=if !decide (x.1.1=x.2.1.1) then I ((A0,()),()) else if !decide ((j8 x.1.2.1:Int)=(j8 x.2.1.2.1:Int)) then I ((A0,()),()) else if !decide ((j8 x.1.2.2.1:Int)=(j8 x.2.1.2.2.1:Int)) then I ((A0,()),()) else if !decide ((j8 x.1.2.2.2.1:Int)=(j8 x.2.1.2.2.2.1:Int)) then I ((A0,()),()) else(Le (x.1.2.2.2.2.1,x.2.1.2.2.2.2.1,())).bind λd=>if !d.1.1 then I ((A0,()),()) else(Le (x.1.2.2.2.2.2.1,x.2.1.2.2.2.2.2)).bind λe=>if !e.1.1 then I ((A0,()),()) else(AN (sw (x.1,x.2.1,0,())) (λa=>I (a,())) λa=>(AN (sv (a.1,a.2.1,0,())) (λb=>I (b,())) λb=>(AN (su (b.1,b.2.1,0,())) (λc=>I (c,())) λc=>I ((Y,()),()))))
def gy:Ent:=(10,G,⟨[Z30,Z30],[.bool],SV⟩)
def sr:y7 gy:=sk (v:=t1<|t1<|.two (t1<|.one<|.loop xo)<|.two (t1<|.one<|.loop xn)<|.two (t1<|.one<|.loop xm) .nil) (fn:=f10) iA<|kC ajb<|kC ajK<|kC ajq kN
def aox:Cx:=cX [Si] [] []
def aCo:y9 aox:=aIe<|gC VZ<|AI
def iZ(x:List A3×List A3×aIf):Rnd (List A3×List A3×aIf) (Bool×D) (List A3×D):=if U (x.2.2.2.1<x.2.2.1) then if inb x.2.2.2.1 x.2.1.length then let a:=(rd y5 x.2.1 x.2.2.2.1).fr;let b:=(rd y5 x.2.1 x.2.2.2.1).nu;let c:=(rd y5 x.2.1 x.2.2.2.1).to;let d:=(rd y5 x.2.1 x.2.2.2.1).un;let e:=(rd y5 x.2.1 x.2.2.2.1).tx;(OB ((a,b,c,d,e,()),())).bind λf=>if !f.1.1 then I (.inr<|.inl (A0,())) else I (.inl (x.1,x.2.1,x.2.2.1,(w64<|x.2.2.2.1+1),())) else G else I (.inr<|.inr (x.1,()))
def ub:=AT iZ
def aAi:Loop:=⟨[(0,.sl .note),(5,.sl .note),(6,j6),(7,j6)],[(0,.sl .note)],0,[(2,.bool)],ub⟩
def apn:LF f50 [] [1,0,1,0,0] aAi:=sq (v:= .nil) aCo (b:=iZ) kN
def X9(x:List A3×D):Option ((Bool×D)×D):=(AN (ub (x.1,x.1,(j8 x.1:Int),0,())) (λa=>I (a,())) (λa=>let b:=(U<|(j8 a.1:Int)<=6);I ((b,()),())))
def aCh:Ent:=(50,G,⟨[.fz .note],[.bool],X9⟩)
def aid:y7 aCh:=sk (v:=t1<|.two (t1<|.one<|.loop aAi) .nil) (fn:=f50) aCo<|kC apn kN
def akH:Cx:=cX [Jo,FJ,aCh,J4] [] [(54,56)]
def jP:y9 akH:=aIe<|gC KZ<|gC FY<|gC aid<|gC Jj<|AI
def ft(x:List AK×aIf):Rnd (List AK×aIf) (Bool×D) D:=if U (x.2.2.1<x.2.1) then if inb x.2.2.1 x.1.length then let a:=(rd aIl x.1 x.2.2.1).src;let b:=(rd aIl x.1 x.2.2.1).dst;let c:=(rd aIl x.1 x.2.2.1).data;let f:=(rd aIl x.1 x.2.2.1).sp;(FX (a,())).bind λd=>if !d.1.1 then I (.inr<|.inl (A0,())) else(FX (b,())).bind λe=>if !e.1.1 then I (.inr<|.inl (A0,())) else if !decide ((w64<|a - b)=1) then if !decide ((w64<|b - a)=1) then I (.inr<|.inl (A0,())) else if U (40<(c.size:Int)) then I (.inr<|.inl (A0,())) else I (.inl (x.1,x.2.1,(w64<|x.2.2.1+1),())) else if U (40<(c.size:Int)) then I (.inr<|.inl (A0,())) else I (.inl (x.1,x.2.1,(w64<|x.2.2.1+1),())) else G else I (.inr<|.inr ())
def sf:=AT ft
def zA:Loop:=⟨[(60,.sl .Af),(61,j6),(62,j6)],[],2,[(2,.bool)],sf⟩
def ajM:LF f27 [] [1,1,1,0,1,0,0] zA:=sq (v:= .nil) jP (b:=ft) kN
def fu(x:Y2×List A7×aIf):Rnd (Y2×List A7×aIf) (Bool×D) (Y2×D):=if U (x.2.2.2.1<x.2.2.1) then if inb x.2.2.2.1 x.2.1.length then let a:=(rd aIh x.2.1 x.2.2.2.1).id;let b:=(rd aIh x.2.1 x.2.2.2.1).up;let c:=(rd aIh x.2.1 x.2.2.2.1).log;let d:=(rd aIh x.2.1 x.2.2.2.1).fo;let e:=(rd aIh x.2.1 x.2.2.2.1).AJ;if Ag (!(!decide (a=x.2.2.2.1))) ((I0 ((a,b,c,d,e,()),())).isSome) then if(!decide (a=x.2.2.2.1))||(!(((I0 ((a,b,c,d,e,()),())).getD ((A0,()),())).1.1)) then I (.inr<|.inl (A0,())) else I (.inl (x.1,x.2.1,x.2.2.1,(w64<|x.2.2.2.1+1),())) else G else G else I (.inr<|.inr (x.1,()))
def tU:=AT fu
def zB:Loop:=⟨[(1,Z29),(42,.sl .AP),(43,j6),(44,j6)],[(1,Z29)],0,[(2,.bool)],tU⟩
def ajC:LF f27 [] [1,1,0,1,0,0] zB:=sq (v:= .nil) jP (b:=fu) kN
def Ml(x:Y2×D):Option ((Bool×D)×D):=(C8 (x.1.1,0,99999,())).bind λc=>if !c.1.1 then I ((A0,()),()) else if !decide ((j8 x.1.2.1:Int)=4) then I ((A0,()),()) else if !decide ((j8 x.1.2.2.1:Int)=3) then I ((A0,()),()) else if U (30<(j8 x.1.2.2.2.1:Int)) then I ((A0,()),()) else(X9 (x.1.2.2.2.2.1,())).bind λd=>if !d.1.1 then I ((A0,()),()) else(X9 x.1.2.2.2.2.2).bind λe=>if !e.1.1 then I ((A0,()),()) else(AN (tU (x.1,x.1.2.1,(j8 x.1.2.1:Int),0,())) (λa=>I (a,())) λa=>(AN (sf (a.1.2.2.2.1,(j8 a.1.2.2.2.1:Int),0,())) (λb=>I (b,())) λb=>I ((Y,()),())))
def Wg:Ent:=(27,G,⟨[Z30],[.bool],Ml⟩)
def dV:y7 Wg:=sk (v:=t1<|t1<|.two (t1<|.one<|.loop zB)<|.two (t1<|.one<|.loop zA) .nil) (fn:=f27) jP<|kC ajC<|kC ajM kN
def ahT:Cx:=cX [Wf] [] [(9,12)]
def yS:y9 ahT:=aIe<|gC dO<|AI
def S3(x:Y2×Y2×v7):Rnd (Y2×Y2×v7) D (Y2×Y2×D):=if(U<|x.2.2.1<400)&&(U<|0<(j8 x.1.2.2.2.1:Int)) then(I1 (x.1,(4,0,0,0,0,0,0,0,0,noB,()),())).bind λa=>if !a.1.2.1 then I (.inr<|.inr (x.1,x.2.1,())) else I (.inl (a.1.1,x.2.1,(w64<|x.2.2.1+1),())) else I (.inr<|.inr (x.1,x.2.1,()))
def VE:=AT S3
def wD:Loop:=⟨[(1,Z35),(2,Z2),(3,j6)],[(1,Z29),(2,Z2)],0,[],VE⟩
def ag8:LF f57 [] [1,0,1,0,0] wD:=sq (v:= .nil) yS (b:=S3) kN
def SC(x:Y2×D):Option ((Y2×D)×D):=(AN (VE (x.1,(0,([]:List A7),([]:List Bool),([]:List AK),([]:List A3),([]:List A3),()),0,())) (λ_=>G) λa=>I ((a.1,()),()))
def yk:Ent:=(57,G,⟨[Z30],[Z30],SC⟩)
def adp:y7 yk:=sk (v:=t1<|.two (t1<|.one<|.loop wD) .nil) (fn:=f57) yS<|kC ag8 kN
def apO:Cx:=cX [Ka,Wf,yk,kD] [] []
def XF:y9 apO:=aIe<|gC LW<|gC dO<|gC adp<|gC xX<|AI
def iR(x:Y2×Y2×Int×Y4×List A3×Int×aIj):Rnd (Y2×Y2×Int×Y4×List A3×Int×aIj) D (Y2×Y2×Int×List A3×aIf):=if U (x.2.2.2.2.2.2.2.2.1<x.2.2.2.2.2.2.2.1) then(I1 (x.1,(3,x.2.2.1,x.2.2.2.1.1,x.2.2.2.1.2.1,0,x.2.2.2.2.2.2.2.2.1,0,0,0,noB,()),())).bind λalk=>(SC (alk.1.1,())).bind λalj=>I (.inl (alj.1.1,x.2.1,x.2.2.1,x.2.2.2.1,x.2.2.2.2.1,x.2.2.2.2.2.1,x.2.2.2.2.2.2.1,x.2.2.2.2.2.2.2.1,(w64<|x.2.2.2.2.2.2.2.2.1+1),())) else I (.inr<|.inr (x.1,x.2.1,x.2.2.1,x.2.2.2.2.1,x.2.2.2.2.2.1,x.2.2.2.2.2.2.1,()))
def eh:=AT iR
def aAb:Loop:=⟨[(1,Z29),(2,Z2),(4,j6),(6,Z5),(38,.row 54 .note),(39,j6),(40,j6),(47,j6),(48,j6)],[(1,Z29),(2,Z2),(4,j6),(38,.row 54 .note),(39,j6),(40,j6)],6,[],eh⟩
def apY:LF f29 [] [1,1,1,0,1,0,0,1,0,0,1,0,0,1,1,0,0,1,1,0,0] aAb:=sq (v:= .nil) XF (b:=iR) kN
def Wu(x:Y2×Y2×Int×List A3×aIf):Rnd (Y2×Y2×Int×List A3×aIf) D (Y2×Y2×v7):=if U (x.2.2.2.2.2.1<x.2.2.2.2.1) then if inb x.2.2.2.2.2.1 x.2.2.2.1.length then let amK:=(rd y5 x.2.2.2.1 x.2.2.2.2.2.1).fr;let amJ:=(rd y5 x.2.2.2.1 x.2.2.2.2.2.1).nu;let amI:=(rd y5 x.2.2.2.1 x.2.2.2.2.2.1).to;let b:=(rd y5 x.2.2.2.1 x.2.2.2.2.2.1).un;let a:=(rd y5 x.2.2.2.1 x.2.2.2.2.2.1).tx;(Wo (a,())).bind λalm=>(AN (eh (x.1,x.2.1,x.2.2.1,(amK,amJ,amI,b,a,()),x.2.2.2.1,x.2.2.2.2.1,x.2.2.2.2.2.1,(j8 alm.1.1:Int),0,())) (λ_=>I<|.inr<|.inl ()) λRk=>I<|.inl (Rk.1,Rk.2.1,Rk.2.2.1,Rk.2.2.2.1,Rk.2.2.2.2.1,(w64<|Rk.2.2.2.2.2.1+1),())) else G else I (.inr<|.inr (x.1,x.2.1,x.2.2.1,()))
def eu:=AT Wu
def aAc:Loop:=⟨[(1,Z29),(2,Z2),(4,j6),(38,.row 54 .note),(39,j6),(40,j6)],[(1,Z29),(2,Z2),(4,j6)],4,[],eu⟩
def apa:LF f29 [] [1,1,1,0,1,0,0,1,0,0,1,0,0] aAc:=sq (v:=t1<|t1<|.two (.one<|t1<|t1<|.one<|.loop aAb) .nil) XF (b:=Wu)<|kC apY kN
def Wv(x:Y2×Y2×v7):Rnd (Y2×Y2×v7) D (Y2×Y2×D):=if U (x.2.2.1<4) then if inb x.2.2.1 x.1.2.1.length then(Gw (((rd aIh x.1.2.1 x.2.2.1).id,(rd aIh x.1.2.1 x.2.2.1).up,(rd aIh x.1.2.1 x.2.2.1).log,(rd aIh x.1.2.1 x.2.2.1).fo,(rd aIh x.1.2.1 x.2.2.1).AJ,()),())).bind λcC=>(AN (eu (x.1,x.2.1,x.2.2.1,cC.1.1.2.2.2.1,(j8 cC.1.1.2.2.2.1:Int),0,())) (λ_=>I<|.inr<|.inl ()) λqx=>I<|.inl (qx.1,qx.2.1,(w64<|qx.2.2.1+1),())) else G else I (.inr<|.inr (x.1,x.2.1,()))
def ey:=AT Wv
def aAd:Loop:=⟨[(1,Z29),(2,Z2),(4,j6)],[(1,Z29),(2,Z2)],2,[],ey⟩
def apd:LF f29 [] [1,1,1,0,1,0,0] aAd:=sq (v:=t1<|.two (.one<|t1<|.one<|.loop aAc) .nil) XF (b:=Wv)<|kC apa kN
def Ww(x:Y2×Y2×v7):Rnd (Y2×Y2×v7) D (Y2×Y2×D):=if U (x.2.2.1<4) then(I1 (x.1,(8,x.2.2.1,0,0,0,0,0,0,0,noB,()),())).bind λa=>(I1 (a.1.1,(9,x.2.2.1,0,0,0,0,0,0,0,noB,()),())).bind λb=>I (.inl (b.1.1,x.2.1,(w64<|x.2.2.1+1),())) else I (.inr<|.inr (x.1,x.2.1,()))
def ez:=AT Ww
def aAe:Loop:=⟨[(1,Z35),(2,Z2),(3,j6)],[(1,Z29),(2,Z2)],0,[],ez⟩
def apl:LF f29 [] [1,0,1,0,0] aAe:=sq (v:= .nil) XF (b:=Ww) kN
def XC(x:Y2×D):Option ((Y2×D)×D):=(AN (ez (x.1,(0,([]:List A7),([]:List Bool),([]:List AK),([]:List A3),([]:List A3),()),0,())) (λ_=>G) λa=>(SC (a.1,())).bind λb=>(AN (ey (b.1.1,a.2.1,0,())) (λ_=>G) λam1=>I ((am1.1,()),())))
def aCc:Ent:=(29,G,⟨[Z30],[Z30],XC⟩)
def aiW:y7 aCc:=sk (v:=t1<|.two (t1<|.one<|.loop aAe)<|t1<|.two (t1<|.one<|.loop aAd) .nil) (fn:=f29) XF<|kC apl<|kC apd kN
def ahZ:Cx:=cX [Wg,fI,aCc] [] [(18,20)]
def zE:y9 ahZ:=aIe<|gC dV<|gC rr<|gC aiW<|AI
def Vm(x:Int×Y2×Y2×v7):Rnd (Int×Y2×Y2×v7) D (Y2×Y2×D):=if(U<|x.2.2.2.1<(if 20<x.1 then 20 else x.1))&&(U<|x.2.2.1.1<79999) then(XC (x.2.2.1,())).bind λa=>I (.inl (x.1,x.2.1,a.1.1,(w64<|x.2.2.2.1+1),())) else I (.inr<|.inr (x.2.1,x.2.2.1,()))
def VA:=AT Vm
def wP:Loop:=⟨[(1,j6),(4,Z2),(5,Z35),(6,j6)],[(4,Z2),(5,Z29)],0,[],VA⟩
def agD:LF f11 [] [1,1,1,0,1,0,0] wP:=sq (v:= .nil) zE (b:=Vm) kN
def Pq(x:Y2×v7):Option ((Y2×D)×D):=(Ml (x.1,())).bind λa=>if !a.1.1 then I (((0,([]:List A7),([]:List Bool),([]:List AK),([]:List A3),([]:List A3),()),()),()) else(Jm (x.1,())).bind λb=>(AN (VA (x.2.1,(0,([]:List A7),([]:List Bool),([]:List AK),([]:List A3),([]:List A3),()),b.1.1,0,())) (λ_=>G) λc=>I (c.2,()))
def fN:Ent:=(11,G,⟨[Z30,j6],[Z30],Pq⟩)
def sE:y7 fN:=sk (v:=t1<|t1<|t1<|.two (t1<|.one<|.loop wP) .nil) (fn:=f11) zE<|kC agD kN
def aow:Cx:=cX [Lg] [] []
def aCu:y9 aow:=aIe<|gC Mf<|AI
def iX(x:List A3×List A3×aIf):Rnd (List A3×List A3×aIf) (Bool×D) D:=if U (x.2.2.2.1<x.2.2.1) then if inb x.2.2.2.1 x.2.1.length then let a:=(rd y5 x.2.1 x.2.2.2.1).fr;let b:=(rd y5 x.2.1 x.2.2.2.1).nu;let d:=(rd y5 x.2.1 x.2.2.2.1).to;let e:=(rd y5 x.2.1 x.2.2.2.1).un;let f:=(rd y5 x.2.1 x.2.2.2.1).tx;(H5 (x.1,a,b,())).bind λc=>if U (c.1.1<x.2.2.2.1) then I (.inr<|.inl (A0,())) else I (.inl (x.1,x.2.1,x.2.2.1,(w64<|x.2.2.2.1+1),())) else G else I (.inr<|.inr ())
def ua:=AT iX
def aAh:Loop:=⟨[(0,.sl .note),(5,.sl .note),(6,j6),(7,j6)],[],0,[(2,.bool)],ua⟩
def apm:LF f34 [] [1,0,1,0,0] aAh:=sq (v:= .nil) aCu (b:=iX) kN
def X8(x:List A3×D):Option ((Bool×D)×D):=(AN (ua (x.1,x.1,(j8 x.1:Int),0,())) (λa=>I (a,())) λa=>I ((Y,()),()))
def aCg:Ent:=(34,G,⟨[.fz .note],[.bool],X8⟩)
def aic:y7 aCg:=sk (v:=t1<|.two (t1<|.one<|.loop aAh) .nil) (fn:=f34) aCu<|kC apm kN
def arW:Cx:=cX [] [] []
def aEq:y9 arW:=aIe<|AI
def Xa(x:Y4×List A3×aIf):Rnd (Y4×List A3×aIf) (Bool×D) D:=if U (x.2.2.2.1<x.2.2.1) then if inb x.2.2.2.1 x.2.1.length then let a:=(rd y5 x.2.1 x.2.2.2.1).fr;let b:=(rd y5 x.2.1 x.2.2.2.1).nu;let c:=(rd y5 x.2.1 x.2.2.2.1).to;let d:=(rd y5 x.2.1 x.2.2.2.1).un;let e:=(rd y5 x.2.1 x.2.2.2.1).tx;if MU a b c d e x.1.1 x.1.2.1 x.1.2.2.1 x.1.2.2.2.1 x.1.2.2.2.2.1 then I (.inr<|.inl (Y,())) else I (.inl (x.1,x.2.1,x.2.2.1,(w64<|x.2.2.2.1+1),())) else G else I (.inr<|.inr ())
def iz:=AT Xa
def aCk:Loop:=⟨[(3,Z5),(7,.sl .note),(8,j6),(9,j6)],[],0,[(4,.bool)],iz⟩
def aqy:LF f36 [] [1,0,1,0,0] aCk:=sq (v:= .nil) aEq (b:=Xa) kN
def Kk(x:List A3×Y4×D):Option ((Bool×D)×D):=(AN (iz (x.2.1,x.1,(j8 x.1:Int),0,())) (λa=>I (a,())) λa=>I ((A0,()),()))
def lK:Ent:=(36,G,⟨[.fz .note,Z6],[.bool],Kk⟩)
def aAg:y7 lK:=sk (v:=t1<|.two (t1<|.one<|.loop aCk) .nil) (fn:=f36) aEq<|kC aqy kN
def apM:Cx:=cX [WL] [] []
def aCt:y9 apM:=aIe<|gC ck<|AI
def Wt(x:Y4×List Int×v7):Rnd (Y4×List Int×v7) D (List Int×D):=if !decide (x.2.2.1=x.1.2.2.1) then(IZ (x.2.2.1,x.1.2.2.1,())).bind λa=>if Ab (x.2.1.length+([a.1.1]:List Int).length) then I (.inl (x.1,(x.2.1++([a.1.1]:List Int)),a.1)) else G else I (.inr<|.inr (x.2.1,()))
def ee:=AT Wt
def aAa:Loop:=⟨[(1,Z5),(3,.row 3 .int),(4,j6)],[(3,.row 3 .int)],0,[],ee⟩
def apk:LF f64 [] [1,1,0,1,0,0] aAa:=sq (v:= .nil) aCt (b:=Wt) kN
def XV(x:Y4×D):Option ((List Int×D)×D):=(AN (ee (x.1,([x.1.1]:List Int),x.1.1,())) (λ_=>G) λa=>I (a,()))
def aCb:Ent:=(64,G,⟨[Z6],[.row 3 .int],XV⟩)
def aiV:y7 aCb:=sk (v:=t1<|t1<|.two (t1<|.one<|.loop aAa) .nil) (fn:=f64) aCt<|kC apk kN
def aqL:Cx:=cX [lK,aCb] [] [(16,23),(49,56)]
def aCy:y9 aqL:=aIe<|gC aAg<|gC aiV<|AI
def XL(x:List AE×List AE×Y4×List Int×aIf):Rnd (List AE×List AE×Y4×List Int×aIf) (Bool×D) D:=if U (x.2.2.2.2.2.1<x.2.2.2.2.1) then if inb x.2.2.2.2.2.1 x.2.2.2.1.length then let a:=(rd aIk x.2.2.2.1 x.2.2.2.2.2.1);(if inb a x.1.length then(Kk ((rd aIv x.1 a).held,x.2.2.1,())).bind λc=>if c.1.1 then if inb a x.2.1.length then(Kk ((rd aIv x.2.1 a).held,x.2.2.1,())).bind λb=>if Ag (!b.1.1) (inb a x.1.length) then if b.1.1||(U<|x.2.2.1.2.2.2.1<=(rd aIv x.1 a).ti) then I (.inr<|.inl (Y,())) else I (.inl (x.1,x.2.1,x.2.2.1,x.2.2.2.1,x.2.2.2.2.1,(w64<|x.2.2.2.2.2.1+1),())) else G else G else if Ag (!false) (inb a x.1.length) then if U (x.2.2.1.2.2.2.1<=(rd aIv x.1 a).ti) then I (.inr<|.inl (Y,())) else I (.inl (x.1,x.2.1,x.2.2.1,x.2.2.2.1,x.2.2.2.2.1,(w64<|x.2.2.2.2.2.1+1),())) else G else G) else G else I (.inr<|.inr ())
def vV:=AT XL
def aBW:Loop:=⟨[(1,.sl .keep),(2,.sl .keep),(7,Z5),(26,.row 3 .int),(27,j6),(28,j6)],[],0,[(8,.bool)],vV⟩
def aqO:LF f35 [] [1,1,0,1,0,0] aBW:=sq (v:= .nil) aCy (b:=XL) kN
def XZ(x:Y2×List AE×List AE×Y4×D):Option ((Bool×D)×D):=(Kk (x.1.2.2.2.2.2.1,x.2.2.2)).bind λa=>if Ag (!a.1.1) (inb x.2.2.2.1.2.2.1 x.2.1.length) then if Ag (!a.1.1) ((Kk ((rd aIv x.2.1 x.2.2.2.1.2.2.1).inbox,x.2.2.2)).isSome) then if a.1.1||(((Kk ((rd aIv x.2.1 x.2.2.2.1.2.2.1).inbox,x.2.2.2)).getD ((A0,()),())).1.1) then I ((Y,()),()) else(XV x.2.2.2).bind λb=>(AN (vV (x.2.1,x.2.2.1,x.2.2.2.1,b.1.1,(j8 b.1.1:Int),0,())) (λc=>I (c,())) λc=>I ((A0,()),())) else G else G
def aDJ:Ent:=(35,G,⟨[Z30,.fz .keep,.fz .keep,Z6],[.bool],XZ⟩)
def ajG:y7 aDJ:=sk (v:=t1<|t1<|.two (t1<|.one<|.loop aBW) .nil) (fn:=f35) aCy<|kC aqO kN
def ahX:Cx:=cX [Wg,We,aCg,aDJ,lK,Lg] [] [(131,138)]
def Pu:y9 ahX:=aIe<|gC dV<|gC dA<|gC aic<|gC ajG<|gC aAg<|gC Mf<|AI
def dx(x:Y2×Y3×List AE×Int×Int×List A3×aIf):Rnd (Y2×Y3×List AE×Int×Int×List A3×aIf) (Bool×D) (Y2×Y3×List AE×aIf):=if U (x.2.2.2.2.2.2.2.1<x.2.2.2.2.2.2.1) then if inb x.2.2.2.2.2.2.2.1 x.2.2.2.2.2.1.length then let amC:=(rd y5 x.2.2.2.2.2.1 x.2.2.2.2.2.2.2.1).fr;let amB:=(rd y5 x.2.2.2.2.2.1 x.2.2.2.2.2.2.2.1).nu;let amA:=(rd y5 x.2.2.2.2.2.1 x.2.2.2.2.2.2.2.1).to;let am9:=(rd y5 x.2.2.2.2.2.1 x.2.2.2.2.2.2.2.1).un;let am8:=(rd y5 x.2.2.2.2.2.1 x.2.2.2.2.2.2.2.1).tx;(Kk (x.1.2.2.2.2.1,(amC,amB,amA,am9,am8,()),())).bind λali=>if !ali.1.1 then I (.inr<|.inl (A0,())) else I (.inl (x.1,x.2.1,x.2.2.1,x.2.2.2.1,x.2.2.2.2.1,x.2.2.2.2.2.1,x.2.2.2.2.2.2.1,(w64<|x.2.2.2.2.2.2.2.1+1),())) else G else I (.inr<|.inr (x.1,x.2.1,x.2.2.1,x.2.2.2.1,x.2.2.2.2.1,()))
def rZ:=AT dx
def wI:Loop:=⟨[(1,Z29),(14,Z7),(99,.row 42 .keep),(100,j6),(101,j6),(106,.sl .note),(107,j6),(108,j6)],[(1,Z29),(14,Z7),(99,.row 42 .keep),(100,j6),(101,j6)],8,[(2,.bool)],rZ⟩
def agG:LF f17 [] [1,1,1,1,1,1,0,1,0,0,1,1,0,0,1,0,1,0,0] wI:=sq (v:= .nil) Pu (b:=dx) kN
def dw(x:Y2×List AE×Int×Int×List A3×aIf):Rnd (Y2×List AE×Int×Int×List A3×aIf) (Bool×D) (Y2×List AE×aIf):=if U (x.2.2.2.2.2.2.1<x.2.2.2.2.2.1) then if inb x.2.2.2.2.2.2.1 x.2.2.2.2.1.length then let rB:=(rd y5 x.2.2.2.2.1 x.2.2.2.2.2.2.1).fr;let rA:=(rd y5 x.2.2.2.2.1 x.2.2.2.2.2.2.1).nu;let am7:=(rd y5 x.2.2.2.2.1 x.2.2.2.2.2.2.1).to;let am6:=(rd y5 x.2.2.2.2.1 x.2.2.2.2.2.2.1).un;let am5:=(rd y5 x.2.2.2.2.1 x.2.2.2.2.2.2.1).tx;(Kk (x.1.2.2.2.2.1,(rB,rA,am7,am6,am5,()),())).bind λaDt=>if Ag (!(!aDt.1.1)) ((H5 (x.1.2.2.2.2.2.1,rB,rA,())).isSome) then if(!aDt.1.1)||(U<|0<=((H5 (x.1.2.2.2.2.2.1,rB,rA,())).getD ((0,()),())).1.1) then I (.inr<|.inl (A0,())) else I (.inl (x.1,x.2.1,x.2.2.1,x.2.2.2.1,x.2.2.2.2.1,x.2.2.2.2.2.1,(w64<|x.2.2.2.2.2.2.1+1),())) else G else G else I (.inr<|.inr (x.1,x.2.1,x.2.2.1,x.2.2.2.1,()))
def rY:=AT dw
def wH:Loop:=⟨[(1,Z29),(99,.row 42 .keep),(100,j6),(101,j6),(119,.sl .note),(120,j6),(121,j6)],[(1,Z29),(99,.row 42 .keep),(100,j6),(101,j6)],10,[(2,.bool)],rY⟩
def agF:LF f17 [] [1,1,1,1,1,1,0,1,0,0,1,1,0,0,1,1,1,0,0] wH:=sq (v:= .nil) Pu (b:=dw) kN
def dy(x:Y2×List AE×aIf):Rnd (Y2×List AE×aIf) (Bool×D) D:=if U (x.2.2.2.1<x.2.2.1) then if inb x.2.2.2.1 x.2.1.length then let amH:=(rd aIv x.2.1 x.2.2.2.1).id;let amG:=(rd aIv x.2.1 x.2.2.2.1).ti;let amF:=(rd aIv x.2.1 x.2.2.2.1).nx;let rC:=(rd aIv x.2.1 x.2.2.2.1).held;let amE:=(rd aIv x.2.1 x.2.2.2.1).marks;let amD:=(rd aIv x.2.1 x.2.2.2.1).inbox;(AN (rZ (x.1,(amH,amG,amF,rC,amE,amD,()),x.2.1,x.2.2.1,x.2.2.2.1,rC,(j8 rC:Int),0,())) (λNk=>I<|.inr<|.inl Nk) λNk=>(AN (rY (Nk.1,Nk.2.2.1,Nk.2.2.2.1,Nk.2.2.2.2.1,Nk.2.1.2.2.2.2.2.1,(Nk.2.1.2.2.2.2.2.1.length:Int),0,())) (λRj=>I<|.inr<|.inl Rj) λRj=>I<|.inl (Rj.1,Rj.2.1,Rj.2.2.1,(w64<|Rj.2.2.2.1+1),()))) else G else I (.inr<|.inr ())
def rb:=AT dy
def wJ:Loop:=⟨[(1,Z29),(99,.row 42 .keep),(100,j6),(101,j6)],[],6,[(2,.bool)],rb⟩
def agH:LF f17 [] [1,1,1,1,1,1,0,1,0,0] wJ:=sq (v:=t1<|t1<|.two (.one<|t1<|.two (t1<|.one<|.loop wI)<|t1<|.one<|.loop wH) .nil) Pu (b:=dy)<|kC agG<|kC agF kN
def dz(x:Y2×List AE×List A3×aIf):Rnd (Y2×List AE×List A3×aIf) (Bool×D) (Y2×List AE×D):=if U (x.2.2.2.2.1<x.2.2.2.1) then if inb x.2.2.2.2.1 x.2.2.1.length then let bu:=(rd y5 x.2.2.1 x.2.2.2.2.1).fr;let a:=(rd y5 x.2.2.1 x.2.2.2.2.1).nu;let aDm:=(rd y5 x.2.2.1 x.2.2.2.2.1).to;let b:=(rd y5 x.2.2.1 x.2.2.2.2.1).un;let amL:=(rd y5 x.2.2.1 x.2.2.2.2.1).tx;(Kk (x.1.2.2.2.2.1,(bu,a,aDm,b,amL,()),())).bind λalo=>if !alo.1.1 then I (.inr<|.inl (A0,())) else I (.inl (x.1,x.2.1,x.2.2.1,x.2.2.2.1,(w64<|x.2.2.2.2.1+1),())) else G else I (.inr<|.inr (x.1,x.2.1,()))
def re:=AT dz
def wK:Loop:=⟨[(1,Z29),(3,.row 42 .keep),(87,.sl .note),(88,j6),(89,j6)],[(1,Z29),(3,.row 42 .keep)],4,[(2,.bool)],re⟩
def agI:LF f17 [] [1,1,1,1,1,0,1,0,0] wK:=sq (v:= .nil) Pu (b:=dz) kN
def eA(x:Y2×List AE×List AE×List A3×aIf):Rnd (Y2×List AE×List AE×List A3×aIf) (Bool×D) (Y2×List AE×D):=if U (x.2.2.2.2.2.1<x.2.2.2.2.1) then if inb x.2.2.2.2.2.1 x.2.2.2.1.length then let alb:=(rd y5 x.2.2.2.1 x.2.2.2.2.2.1).fr;let ala:=(rd y5 x.2.2.2.1 x.2.2.2.2.2.1).nu;let amQ:=(rd y5 x.2.2.2.1 x.2.2.2.2.2.1).to;let amP:=(rd y5 x.2.2.2.1 x.2.2.2.2.2.1).un;let a:=(rd y5 x.2.2.2.1 x.2.2.2.2.2.1).tx;(XZ (x.1,x.2.1,x.2.2.1,(alb,ala,amQ,amP,a,()),())).bind λaly=>if !aly.1.1 then I (.inr<|.inl (A0,())) else I (.inl (x.1,x.2.1,x.2.2.1,x.2.2.2.1,x.2.2.2.2.1,(w64<|x.2.2.2.2.2.1+1),())) else G else I (.inr<|.inr (x.1,x.2.1,()))
def rh:=AT eA
def wL:Loop:=⟨[(1,Z29),(3,.row 42 .keep),(4,.row 42 .keep),(73,.sl .note),(74,j6),(75,j6)],[(1,Z29),(3,.row 42 .keep)],2,[(2,.bool)],rh⟩
def agM:LF f17 [] [1,1,1,1,0,1,0,0] wL:=sq (v:= .nil) Pu (b:=eA) kN
def Vl(x:Y2×List AE×List AE×List A7×aIf):Rnd (Y2×List AE×List AE×List A7×aIf) D (Y2×List AE×List AE×D):=if U (x.2.2.2.2.2.1<x.2.2.2.2.1) then if inb x.2.2.2.2.2.1 x.2.2.2.1.length then let e:=(rd aIh x.2.2.2.1 x.2.2.2.2.2.1).id;let f:=(rd aIh x.2.2.2.1 x.2.2.2.2.2.1).up;let c:=(rd aIh x.2.2.2.1 x.2.2.2.2.2.1).log;let d:=(rd aIh x.2.2.2.1 x.2.2.2.2.2.1).fo;let g:=(rd aIh x.2.2.2.1 x.2.2.2.2.2.1).AJ;(Jl (e,c,())).bind λa=>if Ab (x.2.1.length+([(AE.mk a.1.1.1 a.1.1.2.1 a.1.1.2.2.1 a.1.1.2.2.2.1 a.1.1.2.2.2.2.1 a.1.1.2.2.2.2.2.1)]:List AE).length) then if U (0<=d)&&U (d<=(c.size:Int)) then(Jl (e,(c.extract (0)<|AM d),())).bind λb=>if Ab (x.2.2.1.length+([(AE.mk b.1.1.1 b.1.1.2.1 b.1.1.2.2.1 b.1.1.2.2.2.1 b.1.1.2.2.2.2.1 b.1.1.2.2.2.2.2.1)]:List AE).length) then I (.inl (x.1,(x.2.1++([(AE.mk a.1.1.1 a.1.1.2.1 a.1.1.2.2.1 a.1.1.2.2.2.1 a.1.1.2.2.2.2.1 a.1.1.2.2.2.2.2.1)]:List AE)),(x.2.2.1++([(AE.mk b.1.1.1 b.1.1.2.1 b.1.1.2.2.1 b.1.1.2.2.2.1 b.1.1.2.2.2.2.1 b.1.1.2.2.2.2.2.1)]:List AE)),x.2.2.2.1,x.2.2.2.2.1,(w64<|x.2.2.2.2.2.1+1),())) else G else G else G else G else I (.inr<|.inr (x.1,x.2.1,x.2.2.1,()))
def rj:=AT Vl
def wM:Loop:=⟨[(1,Z29),(3,.row 42 .keep),(4,.row 42 .keep),(35,.sl .AP),(36,j6),(37,j6)],[(1,Z29),(3,.row 42 .keep),(4,.row 42 .keep)],0,[],rj⟩
def agB:LF f17 [] [1,1,1,0,1,0,0] wM:=sq (v:= .nil) Pu (b:=Vl) kN
def Nv(x:Y2×D):Option ((Bool×D)×D):=(Ml x).bind λb=>if !b.1.1 then I ((A0,()),()) else(X8 (x.1.2.2.2.2.1,())).bind λc=>if !c.1.1 then I ((A0,()),()) else(X8 x.1.2.2.2.2.2).bind λd=>if !d.1.1 then I ((A0,()),()) else(AN (rj (x.1,([]:List AE),([]:List AE),x.1.2.1,(j8 x.1.2.1:Int),0,())) (λ_=>G) λa=>(AN (rh (a.1,a.2.1,a.2.2.1,a.1.2.2.2.2.1,(j8 a.1.2.2.2.2.1:Int),0,())) (λRm=>I (Rm,())) λRm=>(AN (re (Rm.1,Rm.2.1,Rm.1.2.2.2.2.2.1,(Rm.1.2.2.2.2.2.1.length:Int),0,())) (λV1=>I (V1,())) λV1=>(AN (rb (V1.1,V1.2.1,(V1.2.1.length:Int),0,())) (λaDj=>I (aDj,())) λaDj=>I ((Y,()),())))))
def fL:Ent:=(17,G,⟨[Z30],[.bool],Nv⟩)
def s8:y7 fL:=sk (v:=t1<|t1<|t1<|.two (t1<|.one<|.loop wM)<|.two (t1<|.one<|.loop wL)<|.two (t1<|.one<|.loop wK)<|.two (t1<|.one<|.loop wJ) .nil) (fn:=f17) Pu<|kC agB<|kC agM<|kC agI<|kC agH kN
end Go.VS
end
