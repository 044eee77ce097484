/- Part 7. -/
import Derived.Test.YtcdeafiabojglaaGreatDoorQAP
open Bool renaming false->A0,true->Y
open Decidable renaming decide->U
open Int renaming tdiv->Ay,tmod->BJ,toNat->AJ
open List renaming drop->Bp,length->j8,replicate->BZ,set->Bq,take->BV
open Option renaming none->G,some->I
set_option linter.all false
noncomputable section
namespace Go.VS
open Go Go.Proofs Tryz
set_option linter.unusedVariables false
set_option maxRecDepth 100000
def Ux:y7 Li:=soX (fn:=f44) (l:=5) (g:=9) aiv aHf rfl aHf ay5 ay4
def akG:Cx:=cX [GP] [] []
def aoB:y9 akG:=aG5<|gC Gm<|AI
def Kl(x:Y9×List A1×D):Option ((A1×D)×Y9×D):=(B0 (x.1,(j8 x.2.1:Int),())).bind λa=>if inb a.1.1 x.2.1.length then let b:=(rd aHj x.2.1 a.1.1);I ((b,()),a.2) else G
def SE:Ent:=(74,G,⟨[Z23,.fz .str],[.str],Kl⟩)
def VE:y7 SE:=sk (v:= .nil) (fn:=f74) aoB kN
def afm:Cx:=cX [GP,HP,Li,SE] [] []
def ahn:y9 afm:=aG5<|gC Gm<|gC Hx<|gC Ux<|gC VE<|AI
def VB(x:Y10×D):Option (D×Y10×D):=(B0 (x.1.1,4,())).bind λc=>(Kl (c.2.1,([(B [97]),(B [104,101,108,108,111]),(B [97,32,108,111,110,103,101,114,32,109,101,115,115,97,103,101]),(B [97,98,99,100]),(B [49,50,51,52,53,54,55,56]),(B [106,117,115,116,32,116,119,101,110,116,121,45,102,111,117,114,32,98,121,116,101,115,32,33,33]),(B [109,105,120,101,100,32,98,108,111,99,107,115])]:List A1),())).bind λb=>(BU (X:=Y10×Int×A1×D) (λa=>if inb a.2.1 a.1.2.2.1.length then(FA (((rd aG8 a.1.2.2.1 a.2.1).id,(rd aG8 a.1.2.2.1 a.2.1).up,(rd aG8 a.1.2.2.1 a.2.1).log,(rd aG8 a.1.2.2.1 a.2.1).fo,(rd aG8 a.1.2.2.1 a.2.1).AG,()),())).bind λf=>(B0 (a.1.1,4,())).bind λd=>(B0 (d.2.1,12,())).bind λe=>(FP ((e.2.1,a.1.2),(1,a.2.1,0,0,0,0,0,d.1.1,(w64<|(w64<|f.1.1.2.1+1)+e.1.1),a.2.2),())).bind λg=>I ((),g.2) else G)<|(if U (24<(b.1.1.size:Int)) then if U (0<=24)&&U (24<=(b.1.1.size:Int)) then let h:=(b.1.1.extract (0)<|AJ 24);I (.inr ((b.2.1,x.1.2),c.1.1,h,())) else G else I (.inr ((b.2.1,x.1.2),c.1.1,b.1))))
def sb:Ent:=(41,G,⟨[Z24],[],VB⟩)
def aci:y7 sb:=sk (v:=t1<|t1<|.join [(0,Z26),(2,j6),(3,.str)] .nil .nil) (fn:=f41) ahn kN
def aeT:Cx:=cX [GP,Li] [] [(12,18)]
def uw:y9 aeT:=aG5<|gC Gm<|gC Ux<|AI
def qi(x:Y10×aHc):Rnd (Y10×aHc) D (Y10×D):=if(U<|x.2.2.2.1<x.2.1)&&(U<|0<(j8 x.1.2.2.2.2.1:Int)) then(BU (X:=Y10×Int×Int×Int×Y8×D) (λe=>(BU (X:=Y10×Int×Int×Int×Y8×D) (λc=>(BU (X:=Y10×Int×Int×Int×Y8×Bool×D) (λb=>if b.2.2.2.2.2.1 then(B0 (b.1.1,17,())).bind λg=>(B0 (g.2.1,255,())).bind λh=>(FP ((h.2.1,b.1.2),(b.2.2.2.2.1.1,b.2.2.2.2.1.2.1,b.2.2.2.2.1.2.2.1,b.2.2.2.2.1.2.2.2.1,b.2.2.2.2.1.2.2.2.2.1,g.1.1,(w64<|1+h.1.1),b.2.2.2.2.1.2.2.2.2.2.2.2),())).bind λo=>I (.inl (o.2.1,b.2.1,b.2.2.1,(w64<|b.2.2.2.1+1),())) else I (.inl (b.1,b.2.1,b.2.2.1,(w64<|b.2.2.2.1+1),())))<|(if U (c.2.2.2.2.1.1=6) then(B0 (c.1.1,2,())).bind λi=>I (.inr ((i.2.1,c.1.2),c.2.1,c.2.2.1,c.2.2.2.1,c.2.2.2.2.1,(U<|i.1.1=0),())) else I (.inr (c.1,c.2.1,c.2.2.1,c.2.2.2.1,c.2.2.2.2.1,A0,())))))<|(FP (e.1,e.2.2.2.2)).bind λf=>if !f.1.1 then(FP (f.2.1,(5,0,0,0,0,0,0,0,0,noB,()),())).bind λp=>I (.inr (p.2.1,e.2)) else I (.inr (f.2.1,e.2))))<|(BU (X:=Y10×Int×Int×Int×Y8×Bool×D) (λa=>if a.2.2.2.2.2.1 then(B0 (a.1.1,5,())).bind λd=>if U (d.1.1=0) then I (.inr ((d.2.1,a.1.2),a.2.1,a.2.2.1,a.2.2.2.1,(5,a.2.2.2.2.1.2),())) else if U (d.1.1=1) then I (.inr ((d.2.1,a.1.2),a.2.1,a.2.2.1,a.2.2.2.1,(a.2.2.2.2.1.1,a.2.2.2.2.1.2.1,a.2.2.2.2.1.2.2.1,a.2.2.2.2.1.2.2.2.1,a.2.2.2.2.1.2.2.2.2.1,a.2.2.2.2.1.2.2.2.2.2.1,1,a.2.2.2.2.1.2.2.2.2.2.2.2),())) else if U (d.1.1=2) then(B0 (d.2.1,(j8 a.1.2.2.2.2.1:Int),())).bind λj=>(B0 (j.2.1,17,())).bind λk=>(B0 (k.2.1,255,())).bind λl=>I (.inr ((l.2.1,a.1.2),a.2.1,a.2.2.1,a.2.2.2.1,(6,a.2.2.2.2.1.2.1,a.2.2.2.2.1.2.2.1,a.2.2.2.2.1.2.2.2.1,j.1.1,k.1.1,(w64<|1+l.1.1),a.2.2.2.2.1.2.2.2.2.2.2.2),())) else(B0 (d.2.1,(j8 a.1.2.2.2.2.1:Int),())).bind λm=>I (.inr ((m.2.1,a.1.2),a.2.1,a.2.2.1,a.2.2.2.1,(a.2.2.2.2.1.1,a.2.2.2.2.1.2.1,a.2.2.2.2.1.2.2.1,a.2.2.2.2.1.2.2.2.1,m.1.1,a.2.2.2.2.1.2.2.2.2.2),())) else I (.inr (a.1,a.2.1,a.2.2.1,a.2.2.2.1,a.2.2.2.2.1,())))<|(if U (0<x.2.2.1) then(B0 (x.1.1,x.2.2.1,())).bind λn=>I (.inr ((n.2.1,x.1.2),x.2.1,x.2.2.1,x.2.2.2.1,(4,0,0,0,0,0,0,0,0,noB,()),(U<|n.1.1=0),())) else I (.inr (x.1,x.2.1,x.2.2.1,x.2.2.2.1,(4,0,0,0,0,0,0,0,0,noB,()),A0,()))))) else I (.inr<|.inr (x.1,()))
def ace:=AT qi
def ack:Loop:=⟨[(0,Z26),(1,j6),(2,j6),(6,j6)],[(0,Z26)],0,[],ace⟩
def aeH:LF f43 [0] [1,0,0] ack:=sq (v:=t1<|.two (.one<|t1<|.join [(0,Z26),(1,j6),(2,j6),(6,j6),(7,Z27)] (.join [(0,Z26),(1,j6),(2,j6),(6,j6),(7,Z27),(33,.bool)] .nil .nil)<|.join [(0,Z26),(1,j6),(2,j6),(6,j6),(7,Z27)] .nil<|.join [(0,Z26),(1,j6),(2,j6),(6,j6),(7,Z27),(102,.bool)] .nil .nil) .nil) uw (b:=qi) kN
def Nt(x:Y10×aG7):Option (D×Y10×D):=(AP (ace (x.1,x.2.1,x.2.2.1,0,())) (λ_=>G) λa=>I ((),a))
def cP:Ent:=(43,G,⟨[Z24,j6,j6],[],Nt⟩)
def qO:y7 cP:=sk (v:=t1<|.one<|.loop ack) (fn:=f43) uw<|kC aeH kN
def aez:Cx:=cX [GP,HP] [] []
def wB:y9 aez:=aG5<|gC Gm<|gC Hx<|AI
def qu(x:Y10×Y1×aG7):Rnd (Y10×Y1×aG7) (Y10×Int×Y1×Bool×D) (Y10×Y1×D):=if U (x.2.2.2.1<4) then if inb x.2.2.1 x.1.2.2.1.length then(FA (((rd aG8 x.1.2.2.1 x.2.2.1).id,(rd aG8 x.1.2.2.1 x.2.2.1).up,(rd aG8 x.1.2.2.1 x.2.2.1).log,(rd aG8 x.1.2.2.1 x.2.2.1).fo,(rd aG8 x.1.2.2.1 x.2.2.1).AG,()),())).bind λa=>if U (0<(j8 a.1.1.2.2.2.1:Int)) then(B0 (x.1.1,(j8 a.1.1.2.2.2.1:Int),())).bind λb=>if inb b.1.1 a.1.1.2.2.2.1.length then let c:=(rd aG6 a.1.1.2.2.2.1 b.1.1).fr;let d:=(rd aG6 a.1.1.2.2.2.1 b.1.1).nu;let e:=(rd aG6 a.1.1.2.2.2.1 b.1.1).to;let f:=(rd aG6 a.1.1.2.2.2.1 b.1.1).un;let g:=(rd aG6 a.1.1.2.2.2.1 b.1.1).tx;I (.inr<|.inl ((b.2.1,x.1.2),x.2.2.1,(c,d,e,f,g,()),Y,())) else G else let h:=(BJ (w64<|x.2.2.1+1) 4);I (.inl (x.1,x.2.1,h,(w64<|x.2.2.2.1+1),())) else G else I (.inr<|.inr (x.1,x.2.1,()))
def acX:=AT qu
def ad3:Loop:=⟨[(0,Z26),(3,Z1),(5,j6),(6,j6)],[(0,Z26),(3,Z1)],0,[(0,Z26),(2,j6),(3,Z1),(4,.bool)],acX⟩
def aed:LF f75 [0] [1,1,0,1,0,0] ad3:=sq (v:= .nil) wB (b:=qu) kN
def dA(x:Y10×D):Option ((Int×Y1×Bool×D)×Y10×D):=(B0 (x.1.1,4,())).bind λb=>(AP (acX ((b.2.1,x.1.2),(0,0,0,0,noB,()),b.1.1,0,())) (λa=>I (a.2,(a.1,()))) λa=>I ((0,(0,0,0,0,noB,()),A0,()),(a.1,())))
def vK:Ent:=(75,G,⟨[Z24],[j6,Z2,.bool],dA⟩)
def adm:y7 vK:=sk (v:=t1<|t1<|.two (t1<|.one<|.loop ad3) .nil) (fn:=f75) wB<|kC aed kN
def aeS:Cx:=cX [GP,cP,Li,vK] [] []
def uv:y9 aeS:=aG5<|gC Gm<|gC qO<|gC Ux<|gC adm<|AI
def qh(x:Y10×Int×Int×Int×Y1×aG7):Rnd (Y10×Int×Int×Int×Y1×aG7) D (Y10×aG7):=if U (x.2.2.2.2.2.2.1<x.2.1) then(FP (x.1,(3,x.2.2.2.1,x.2.2.2.2.1.1,x.2.2.2.2.1.2.1,0,(w64<|x.2.2.2.2.2.1+x.2.2.2.2.2.2.1),0,0,0,noB,()),())).bind λa=>let b:=(w64<|x.2.2.2.2.2.2.1+1);I (.inl (a.2.1,x.2.1,x.2.2.1,x.2.2.2.1,x.2.2.2.2.1,x.2.2.2.2.2.1,b,())) else I (.inr<|.inr (x.1,x.2.1,x.2.2.1,()))
def acd:=AT qh
def acj:Loop:=⟨[(0,Z26),(1,j6),(2,j6),(6,j6),(7,Z1),(9,j6),(10,j6)],[(0,Z26),(1,j6),(2,j6)],0,[],acd⟩
def aeG:LF f42 [0] [1,1,1,0,1,0,0] acj:=sq (v:= .nil) uv (b:=qh) kN
def Ns(x:Y10×aG7):Option (D×Y10×D):=(dA (x.1,())).bind λa=>if !a.1.2.2.1 then I ((),a.2) else(B0 (a.2.1.1,2,())).bind λc=>(B0 (c.2.1,40,())).bind λd=>(AP (acd ((d.2.1,a.2.1.2),x.2.1,x.2.2.1,a.1.1,a.1.2.1,(w64<|c.1.1 * d.1.1),0,())) (λ_=>G) λb=>(B0 (b.1.1,(w64<|b.2.1+4),())).bind λe=>(Nt ((e.2.1,b.1.2),e.1.1,b.2.2)).bind λf=>I ((),f.2))
def cO:Ent:=(42,G,⟨[Z24,j6,j6],[],Ns⟩)
def qN:y7 cO:=sk (v:=t1<|t1<|t1<|.two (t1<|.one<|.loop acj) .nil) (fn:=f42) uv<|kC aeG kN
def af0:Cx:=cX [GP,cO,cP,Li] [] [(89,96)]
def VA:y9 af0:=aG5<|gC Gm<|gC qN<|gC qO<|gC Ux<|AI
def qm(x:Y10×aG7):Rnd (Y10×aG7) D (Y10×D):=if U (0<x.2.2.1) then(FP (x.1,(2,x.2.1,0,0,0,0,0,0,0,noB,()),())).bind λa=>I (.inl (a.2.1,x.2.1,(w64<|x.2.2.1 - 1),())) else I (.inr<|.inr (x.1,()))
def acZ:=AT qm
def ad5:Loop:=⟨[(0,Z26),(5,j6),(6,j6)],[(0,Z26)],5,[],acZ⟩
def aea:LF f45 [0] [1,1,1,1,0,1,0,1,1,1,0,1,0,0] ad5:=sq (v:= .nil) VA (b:=qm) kN
def qn(x:Y10×aHc):Rnd (Y10×aHc) D (Y10×v7):=if U (x.2.2.2.1<x.2.2.1) then(FP (x.1,(4,0,0,0,x.2.2.2.1,0,1,0,0,noB,()),())).bind λa=>I (.inl (a.2.1,x.2.1,x.2.2.1,(w64<|x.2.2.2.1+1),())) else I (.inr<|.inr (x.1,x.2.1,()))
def aca:=AT qn
def ad6:Loop:=⟨[(0,Z26),(2,j6),(3,j6),(4,j6)],[(0,Z26),(2,j6)],2,[],aca⟩
def aeb:LF f45 [0] [1,1,0,1,0,0,1,0,0,1,1,0,0] ad6:=sq (v:= .nil) VA (b:=qn) kN
def qv(x:Y10×aG7):Rnd (Y10×aG7) D (Y10×D):=if(U<|x.2.2.1<12)&&(U<|x.2.1<(j8 x.1.2.2.2.2.1:Int)) then(FP (x.1,(4,0,0,0,x.2.1,0,0,0,0,noB,()),())).bind λa=>I (.inl (a.2.1,x.2.1,(w64<|x.2.2.1+1),())) else I (.inr<|.inr (x.1,()))
def acY:=AT qv
def ad4:Loop:=⟨[(0,Z26),(7,j6),(8,j6)],[(0,Z26)],7,[],acY⟩
def aeZ:LF f45 [0] [1,1,1,1,1,1,1,0,1,0,0] ad4:=sq (v:= .nil) VA (b:=qv) kN
def qo(x:Y10×v7):Rnd (Y10×v7) D (Y10×D):=(B0 (x.1.1,2,())).bind λa=>if U (x.2.1<(w64<|1+a.1.1)) then let c:=(j8 x.1.2.2.2.2.1:Int);(AP (aca ((a.2.1,x.1.2),x.2.1,c,0,())) (λ_=>I<|.inr<|.inl ()) λb=>I<|.inl (b.1,(w64<|b.2.1+1),())) else I (.inr<|.inr ((a.2.1,x.1.2),()))
def acb:=AT qo
def ad7:Loop:=⟨[(0,Z26),(2,j6)],[(0,Z26)],0,[],acb⟩
def aee:LF f45 [0] [1,1,0,1,0,0] ad7:=sq (v:=t1<|.two (.one<|t1<|t1<|.one<|.loop ad6) .nil) VA (b:=qo)<|kC aeb kN
def cW(x:Y10×D):Option (D×Y10×D):=(Nt (x.1,40,0,())).bind λg=>(Ns (g.2.1,6,0,())).bind λh=>(AP (acb (h.2.1,0,())) (λ_=>G) λb=>(B0 (b.1.1,4,())).bind λc=>(BU (X:=Y10×D) (λd=>let i:=(j8 d.1.2.2.2.2.1:Int);(Ns (d.1,6,0,())).bind λj=>(AP (acY (j.2.1,i,0,())) (λ_=>G) λk=>(Nt (k.1,40,0,())).bind λl=>I ((),l.2)))<|(B0 (c.2.1,3,())).bind λa=>if U (a.1.1=0) then(B0 (a.2.1,40,())).bind λe=>(FP ((e.2.1,b.1.2),(7,c.1.1,0,0,0,0,e.1.1,0,0,noB,()),())).bind λm=>(FP (m.2.1,(8,c.1.1,0,0,0,0,0,0,0,noB,()),())).bind λn=>I (.inr n.2) else if U (a.1.1=1) then(B0 (a.2.1,9,())).bind λf=>(AP (acZ ((f.2.1,b.1.2),c.1.1,f.1)) (λ_=>G) λo=>I<|.inr o) else I (.inr ((a.2.1,b.1.2),()))))
def vL:Ent:=(45,G,⟨[Z24],[],cW⟩)
def adn:y7 vL:=sk (v:=t1<|t1<|.two (t1<|.one<|.loop ad7)<|t1<|.join [(0,Z26)] (t1<|.one<|t1<|t1<|t1<|.two (t1<|.one<|.loop ad5) .nil)<|t1<|t1<|.two (t1<|.one<|.loop ad4) .nil) (fn:=f45) VA<|kC aee<|kC aea<|kC aeZ kN
def aey:Cx:=cX [GP,HP,sb,cO,cP,Li,vL] [] []
def vC:y9 aey:=aG5<|gC Gm<|gC Hx<|gC aci<|gC qN<|gC qO<|gC Ux<|gC adn<|AI
def qt(x:Y10×v7):Rnd (Y10×v7) D (Y10×D):=if U (x.2.1<4) then(Ns (x.1,7,0,())).bind λa=>(Nt (a.2.1,20,0,())).bind λb=>I (.inl (b.2.1,(w64<|x.2.1+1),())) else I (.inr<|.inr (x.1,()))
def acW:=AT qt
def ad2:Loop:=⟨[(0,Z26),(8,j6)],[(0,Z26)],1,[],acW⟩
def aec:LF f19 [0] [1,1,0,1,1,1,1,1,1,1,1,1,1,1,1,1,1,1,1,1,1,1,1,1,0,0] ad2:=sq (v:= .nil) vC (b:=qt) kN
def VD(x:Y10×v7):Option (D×Y10×D):=(B0 (x.1.1,4,())).bind λj=>(B0 (j.2.1,24,())).bind λg=>(BU (X:=Y10×Int×Int×Int×Bool×D) (λa=>if a.2.2.2.2.1 then(VB (a.1,())).bind λE=>I ((),E.2) else(BU (X:=Y10×Int×Int×Int×Bool×D) (λd=>if d.2.2.2.2.1 then(B0 (d.1.1,7,())).bind λl=>(Ns ((l.2.1,d.1.2),(w64<|1+l.1.1),d.2.1,())).bind λF=>I ((),F.2) else(BU (X:=Y10×Int×Int×Int×Bool×D) (λf=>if f.2.2.2.2.1 then(B0 (f.1.1,20,())).bind λm=>(Nt ((m.2.1,f.1.2),(w64<|1+m.1.1),f.2.1,())).bind λH=>I ((),H.2) else(BU (X:=Y10×Int×Int×Bool×D) (λc=>if c.2.2.2.1 then(FP (c.1,(2,c.2.1,0,0,0,0,0,0,0,noB,()),())).bind λJ=>I ((),J.2) else let K:=(U<|c.2.2.1=13);(if K then(B0 (c.1.1,50,())).bind λn=>(FP ((n.2.1,c.1.2),(7,c.2.1,0,0,0,0,n.1.1,0,0,noB,()),())).bind λL=>I ((),L.2) else(BU (X:=Y10×Int×Int×Bool×D) (λe=>if e.2.2.2.1 then(FP (e.1,(8,e.2.1,0,0,0,0,0,0,0,noB,()),())).bind λM=>I ((),M.2) else let N:=(U<|e.2.2.1=16);(if N then(B0 (e.1.1,2,())).bind λo=>(B0 (o.2.1,3,())).bind λp=>(FP ((p.2.1,e.1.2),((w64<|9+o.1.1),p.1.1,0,0,0,0,0,0,0,noB,()),())).bind λO=>I ((),O.2) else(BU (X:=Y10×Int×Int×Bool×D) (λb=>if b.2.2.2.1 then if inb b.2.1 b.1.2.2.1.length then(FA (((rd aG8 b.1.2.2.1 b.2.1).id,(rd aG8 b.1.2.2.1 b.2.1).up,(rd aG8 b.1.2.2.1 b.2.1).log,(rd aG8 b.1.2.2.1 b.2.1).fo,(rd aG8 b.1.2.2.1 b.2.1).AG,()),())).bind λh=>if U (0<(j8 h.1.1.2.2.2.2.2.1:Int)) then(B0 (b.1.1,(j8 h.1.1.2.2.2.2.2.1:Int),())).bind λi=>if inb i.1.1 h.1.1.2.2.2.2.2.1.length then let P:=(rd aG6 h.1.1.2.2.2.2.2.1 i.1.1).fr;let Q:=(rd aG6 h.1.1.2.2.2.2.2.1 i.1.1).nu;let v55:=(rd aG6 h.1.1.2.2.2.2.2.1 i.1.1).to;let v56:=(rd aG6 h.1.1.2.2.2.2.2.1 i.1.1).un;let v57:=(rd aG6 h.1.1.2.2.2.2.2.1 i.1.1).tx;(FP ((i.2.1,b.1.2),(11,b.2.1,P,Q,0,0,0,0,0,noB,()),())).bind λR=>I ((),R.2) else G else I ((),(b.1,())) else G else let S:=(U<|b.2.2.1=19);(if S then(B0 (b.1.1,2,())).bind λq=>(FP ((q.2.1,b.1.2),((w64<|12+q.1.1),b.2.1,0,0,0,0,0,0,0,noB,()),())).bind λT=>I ((),T.2) else(BU (X:=Y10×Bool×D) (λk=>if k.2.1 then(cW (k.1,())).bind λV=>I ((),V.2) else(AP (acW (k.1,0,())) (λ_=>G) λW=>I ((),W))) (let r:=(U<|b.2.2.1=20);(if r then I (.inr (b.1,r,())) else let s:=(U<|b.2.2.1=21);(if s then I (.inr (b.1,s,())) else let Y:=(U<|b.2.2.1=22);I (.inr (b.1,Y,())))))))) (let t:=(U<|e.2.2.1=17);(if t then I (.inr (e.1,e.2.1,e.2.2.1,t,())) else let Z:=(U<|e.2.2.1=18);I (.inr (e.1,e.2.1,e.2.2.1,Z,()))))))) (let u:=(U<|c.2.2.1=14);(if u then I (.inr (c.1,c.2.1,c.2.2.1,u,())) else let v40:=(U<|c.2.2.1=15);I (.inr (c.1,c.2.1,c.2.2.1,v40,()))))))) (let v:=(U<|f.2.2.2.1=11);(if v then I (.inr (f.1,f.2.2.1,f.2.2.2.1,v,())) else let v31:=(U<|f.2.2.2.1=12);I (.inr (f.1,f.2.2.1,f.2.2.2.1,v31,())))))) (let w:=(U<|d.2.2.2.1=9);(if w then I (.inr (d.1,d.2.1,d.2.2.1,d.2.2.2.1,w,())) else let v24:=(U<|d.2.2.2.1=10);I (.inr (d.1,d.2.1,d.2.2.1,d.2.2.2.1,v24,())))))) (let y:=(U<|a.2.2.2.1=3);(if y then I (.inr (a.1,a.2.1,a.2.2.1,a.2.2.2.1,y,())) else let z:=(U<|a.2.2.2.1=4);(if z then I (.inr (a.1,a.2.1,a.2.2.1,a.2.2.2.1,z,())) else let A:=(U<|a.2.2.2.1=5);(if A then I (.inr (a.1,a.2.1,a.2.2.1,a.2.2.2.1,A,())) else let B:=(U<|a.2.2.2.1=6);(if B then I (.inr (a.1,a.2.1,a.2.2.1,a.2.2.2.1,B,())) else let C:=(U<|a.2.2.2.1=7);(if C then I (.inr (a.1,a.2.1,a.2.2.1,a.2.2.2.1,C,())) else let v17:=(U<|a.2.2.2.1=8);I (.inr (a.1,a.2.1,a.2.2.1,a.2.2.2.1,v17,()))))))))))<|(if U (g.1.1=0) then I (.inr ((g.2.1,x.1.2),x.2.1,j.1.1,g.1.1,(U<|g.1.1=0),())) else if U (g.1.1=1) then I (.inr ((g.2.1,x.1.2),x.2.1,j.1.1,g.1.1,(U<|g.1.1=1),())) else I (.inr ((g.2.1,x.1.2),x.2.1,j.1.1,g.1.1,(U<|g.1.1=2),()))))
def rM:Ent:=(19,G,⟨[Z24,j6],[],VD⟩)
def acV:y7 rM:=sk (v:=t1<|t1<|.one<|.join [(0,Z26),(1,j6),(4,j6),(18,j6),(27,.bool)] .nil<|t1<|.join [(0,Z26),(1,j6),(4,j6),(18,j6),(33,.bool)] .nil<|t1<|.join [(0,Z26),(1,j6),(4,j6),(18,j6),(49,.bool)] .nil<|t1<|.join [(0,Z26),(4,j6),(18,j6),(61,.bool)] .nil<|t1<|t1<|t1<|.join [(0,Z26),(4,j6),(18,j6),(79,.bool)] .nil<|t1<|t1<|t1<|.join [(0,Z26),(4,j6),(18,j6),(102,.bool)] .nil<|t1<|t1<|t1<|.join [(0,Z26),(153,.bool)] .nil<|t1<|t1<|.one<|.loop ad2) (fn:=f19) vC<|kC aec kN
def af1:Cx:=cX [IV] [] []
def afZ:y9 af1:=aG5<|gC JA<|AI
def VI(x:v7):Option ((Y3×D)×D):=(FQ x).bind λa=>if !a.1.1 then I (((0,A0,noB,0,([]:List AD),()),()),()) else I (((x.1,Y,noB,0,([]:List AD),()),()),())
def vM:Ent:=(73,G,⟨[j6],[Z17],VI⟩)
def ado:y7 vM:=sk (v:= .nil) (fn:=f73) afZ kN
def afr:Cx:=cX [vM] [] []
def tQ:y9 afr:=aG5<|gC ado<|AI
def VG(x:Y7×Y7×v7):Rnd (Y7×Y7×v7) D (Y7×Y7×D):=if U ((w64<|x.2.2.1+1)<4) then if Ab (x.2.1.2.2.1.length+([Y]:List Bool).length) then I (.inl (x.1,(x.2.1.1,x.2.1.2.1,(x.2.1.2.2.1++([Y]:List Bool)),x.2.1.2.2.2),(w64<|x.2.2.1+1),())) else G else I (.inr<|.inr (x.1,x.2.1,()))
def qW:=AT VG
def adS:Loop:=⟨[(0,Z18),(1,Z18),(3,j6)],[(0,Z18),(1,Z18)],2,[],qW⟩
def ag3:LF f40 [] [1,1,1,0,1,0,0] adS:=sq (v:= .nil) tQ (b:=VG) kN
def cj(x:Y7×Y7×v7):Rnd (Y7×Y7×v7) D (Y7×Y7×D):=if U (x.2.2.1<4) then(VI x.2.2).bind λa=>if Ab (x.2.1.2.1.length+([(A7.mk a.1.1.1 a.1.1.2.1 a.1.1.2.2.1 a.1.1.2.2.2.1 a.1.1.2.2.2.2.1)]:List A7).length) then I (.inl (x.1,(x.2.1.1,(x.2.1.2.1++([(A7.mk a.1.1.1 a.1.1.2.1 a.1.1.2.2.1 a.1.1.2.2.2.1 a.1.1.2.2.2.2.1)]:List A7)),x.2.1.2.2),(w64<|x.2.2.1+1),())) else G else I (.inr<|.inr (x.1,x.2.1,()))
def qX:=AT cj
def adT:Loop:=⟨[(0,Z18),(1,Z18),(2,j6)],[(0,Z18),(1,Z18)],0,[],qX⟩
def ag8:LF f40 [] [1,1,0,1,0,0] adT:=sq (v:= .nil) tQ (b:=cj) kN
def dK(x:D):Option ((Y7×D)×D):=(AP (qX ((0,([]:List A7),([]:List Bool),([]:List AK),([]:List A3),([]:List A3),()),(0,([]:List A7),([]:List Bool),([]:List AK),([]:List A3),([]:List A3),()),0,())) (λ_=>G) λa=>(AP (qW (a.1,a.2.1,0,())) (λ_=>G) λb=>I (b.2,())))
def wa:Ent:=(40,G,⟨[],[Z19],dK⟩)
def adw:y7 wa:=sk (v:=t1<|t1<|.two (t1<|.one<|.loop adT)<|.two (t1<|.one<|.loop adS) .nil) (fn:=f40) tQ<|kC ag8<|kC ag3 kN
def akF:Cx:=cX [GP,rM,wa,sb] [] []
def aAG:y9 akF:=aG5<|gC Gm<|gC acV<|gC adw<|gC aci<|AI
def tv(x:Y9×Y11×aG7):Rnd (Y9×Y11×aG7) D (Y9×Y11×D):=if U (0<x.2.2.2.1) then(VD ((x.1,x.2.1.2),x.2.2.1,())).bind λa=>I (.inl (a.2.1.1,((),a.2.1.2),x.2.2.1,(w64<|x.2.2.2.1 - 1),())) else I (.inr<|.inr (x.1,((),x.2.1.2),()))
def uh:=AT tv
def xP:Loop:=⟨[(0,Z25),(5,Z30),(6,j6),(7,j6)],[(0,Z25),(5,Z30)],0,[],uh⟩
def akQ:LF f17 [0] [1,1,1,1,0,1,0,0] xP:=sq (v:= .nil) aAG (b:=tv) kN
def Pq(x:Y9×v7):Option ((Y11×D)×Y9×D):=(dK ()).bind λa=>(B0 (x.1,5,())).bind λb=>if inb b.1.1 (([0,0,3,6,12]:List Int).length) then let f:=(rd aHb ([0,0,3,6,12]:List Int) b.1.1);(VB ((b.2.1,a.1.1.1,a.1.1.2.1,a.1.1.2.2.1,a.1.1.2.2.2.1,a.1.1.2.2.2.2.1,a.1.1.2.2.2.2.2.1,([]:List Event),()),())).bind λc=>(B0 (c.2.1.1,x.2)).bind λd=>(AP (uh (d.2.1,((),c.2.1.2),f,d.1)) (λ_=>G) λe=>I ((((),e.2.1.2),()),(e.1,()))) else G
def gH:Ent:=(17,G,⟨[Z23,j6],[Z30],Pq⟩)
def rF:y7 gH:=sk (v:=t1<|t1<|t1<|t1<|.two (t1<|.one<|.loop xP) .nil) (fn:=f17) aAG<|kC akQ kN
def asD:Cx:=cX [] [] [(11,13)]
def ats:y9 asD:=aG5<|AI
def CA(x:aHc):Option ((Bool×D)×D):=let a:=((U<|x.2.1<=x.1)&&(U<|x.1<=x.2.2.1));I ((a,()),())
def FC:Ent:=(37,G,⟨[j6,j6,j6],[.bool],CA⟩)
def FU:y7 FC:=sk (v:= .nil) (fn:=f37) ats kN
def ae6:Cx:=cX [] [] []
def aeW:y9 ae6:=aG5<|AI
def Rk(x:List A1×D):Option ((List A1×D)×D):=if U ((j8 x.1:Int)=0) then I ((([]:List A1),()),()) else if U (0<=(j8 x.1:Int))&&U ((j8 x.1:Int)<=4294967296) then I (((BV (BZ (AJ (j8 x.1:Int))<|dfl .str).length x.1++Bp x.1.length (BZ (AJ (j8 x.1:Int))<|dfl .str)),()),()) else G
def bk:Ent:=(85,G,⟨[.fz .str],[.row 9 .str],Rk⟩)
def qM:y7 bk:=sk (v:= .nil) (fn:=f85) aeW kN
def alE:Cx:=cX [FC] [] [(11,18)]
def aAR:y9 alE:=aG5<|gC FU<|AI
def eu(x:A1×aG7):Rnd (A1×aG7) (Int×Bool×D) (v7):=if U (x.2.2.1<(x.1.size:Int)) then if inb x.2.2.1 x.1.size then(CA ((w64<|bt x.1 x.2.2.1),48,57,())).bind λa=>if !a.1.1 then I (.inr<|.inl (0,A0,())) else if inb x.2.2.1 x.1.size then let b:=(w64<|(w64<|10 * x.2.1)+(w64<|w8<|(bt x.1 x.2.2.1) - 48));I (.inl (x.1,b,(w64<|x.2.2.1+1),())) else G else G else I (.inr<|.inr (x.2.1,()))
def rW:=AT eu
def y6:Loop:=⟨[(0,.str),(4,j6),(5,j6)],[(4,j6)],0,[(2,j6),(3,.bool)],rW⟩
def akg:LF f86 [] [1,1,1,0,1,0,0] y6:=sq (v:= .nil) aAR (b:=eu) kN
def Pv(x:A1×D):Option ((Int×Bool×D)×D):=(CA ((x.1.size:Int),1,5,())).bind λb=>if Ak (!(!b.1.1)) (inb 0 x.1.size) then if(!b.1.1)||((U<|(bt x.1 0)=48)&&(U<|1<(x.1.size:Int))) then I ((0,A0,()),()) else(AP (rW (x.1,0,0,())) (λa=>I (a,())) λa=>I ((a.1,Y,()),())) else G
def gT:Ent:=(86,G,⟨[.str],[j6,.bool],Pv⟩)
def rV:y7 gT:=sk (v:=t1<|t1<|t1<|.two (t1<|.one<|.loop y6) .nil) (fn:=f86) aAR<|kC akg kN
def ahS:Cx:=cX [FC,bk,gT] [] [(26,29),(38,41)]
def tZ:y9 ahS:=aG5<|gC FU<|gC qM<|gC rV<|AI
def dP(x:A1×List A1×aG7):Rnd (A1×List A1×aG7) D (A1×List A1×aG7):=if U (x.2.2.2.1<(x.1.size:Int)) then if Ak (U<|x.2.2.2.1<(w64<|x.2.2.1+3)) (inb x.2.2.2.1 x.1.size) then if(U<|x.2.2.2.1<(w64<|x.2.2.1+3))&&(!decide ((bt x.1 x.2.2.2.1)=58)) then I (.inl (x.1,x.2.1,x.2.2.1,(w64<|x.2.2.2.1+1),())) else I (.inr<|.inr x) else G else if Ak A0 (inb x.2.2.2.1 x.1.size) then I (.inr<|.inr x) else G
def qf:=AT dP
def vS:Loop:=⟨[(0,.str),(4,.row 9 .str),(5,j6),(6,j6)],[(0,.str),(4,.row 9 .str),(5,j6),(6,j6)],2,[],qf⟩
def ahA:LF f60 [] [1,1,1,0,0,0,1,0,1,0,0,0] vS:=sq (v:= .nil) tZ (b:=dP) kN
def Rs(x:A1×List A1×v7):Rnd (A1×List A1×v7) D (List A1×v7):=if U (x.2.2.1<(x.1.size:Int)) then(AP (qf (x.1,x.2.1,x.2.2.1,x.2.2)) (λ_=>I<|.inr<|.inl ()) λa=>(if Ak (!(U<|(a.1.size:Int)<=a.2.2.2.1)) (inb a.2.2.2.1 a.1.size) then if(U<|(a.1.size:Int)<=a.2.2.2.1)||(!decide ((bt a.1 a.2.2.2.1)=58)) then I (.inr<|.inr (a.2.1,a.2.2.1,())) else if(U (0<=a.2.2.2.1)&&U (a.2.2.2.1<=(a.1.size:Int)))&&(U (0<=a.2.2.1)&&U (a.2.2.1<=a.2.2.2.1)) then(Pv ((a.1.extract (AJ a.2.2.1)<|AJ a.2.2.2.1),())).bind λc=>let b:=(w64<|(w64<|a.2.2.2.1+1)+c.1.1);(if !c.1.2.1 then I (.inr<|.inr (a.2.1,a.2.2.1,())) else(CA (c.1.1,1,60,())).bind λd=>if !d.1.1 then I (.inr<|.inr (a.2.1,a.2.2.1,())) else if U ((a.1.size:Int)<=b) then I (.inr<|.inr (a.2.1,a.2.2.1,())) else if inb b a.1.size then if !decide ((bt a.1 b)=59) then I (.inr<|.inr (a.2.1,a.2.2.1,())) else if(U (0<=b)&&U (b<=(a.1.size:Int)))&&(U (0<=(w64<|a.2.2.2.1+1))&&U ((w64<|a.2.2.2.1+1)<=b)) then if Ab (a.2.1.length+([(a.1.extract (AJ<|w64<|a.2.2.2.1+1)<|AJ b)]:List A1).length) then I (.inl (a.1,(a.2.1++([(a.1.extract (AJ<|w64<|a.2.2.2.1+1)<|AJ b)]:List A1)),(w64<|b+1),())) else G else G else G) else G else G)) else I (.inr<|.inr x.2)
def qg:=AT Rs
def vT:Loop:=⟨[(0,.str),(4,.row 9 .str),(5,j6)],[(4,.row 9 .str),(5,j6)],0,[],qg⟩
def agu:LF f60 [] [1,1,1,0,0,0] vT:=sq (v:=t1<|.one<|t1<|.two (.one<|.loop vS) .nil) tZ (b:=Rs)<|kC ahA kN
def Ph(x:A1×D):Option ((List A1×v7)×D):=(AP (qg (x.1,([]:List A1),0,())) (λ_=>G) λa=>(Rk (a.1,())).bind λb=>I ((b.1.1,a.2),()))
def du:Ent:=(60,G,⟨[.str],[.row 9 .str,j6],Ph⟩)
def qe:y7 du:=sk (v:=t1<|t1<|t1<|.two (.one<|.loop vT) .nil) (fn:=f60) tZ<|kC agu kN
def aob:Cx:=cX [FC] [] []
def apq:y9 aob:=aG5<|gC FU<|AI
def Fm(x:v7):Option ((Bool×D)×D):=(CA (x.1,0,3,())).bind λa=>I (a.1,())
def Jr:Ent:=(39,G,⟨[j6],[.bool],Fm⟩)
def Kg:y7 Jr:=sk (v:= .nil) (fn:=f39) apq kN
def ahE:Cx:=cX [Jr] [] []
def ail:y9 ahE:=aG5<|gC Kg<|AI
def dk(x:v7):Option ((Y0×D)×D):=(Fm x).bind λa=>if !a.1.1 then I (((0,0,0,([]:List A3),([]:List Mark),([]:List A3),()),()),()) else I (((x.1,0,1,([]:List A3),([]:List Mark),([]:List A3),()),()),())
def xT:Ent:=(87,G,⟨[j6],[Z0],dk⟩)
def aeF:y7 xT:=sk (v:= .nil) (fn:=f87) ail kN
def aoU:Cx:=cX [FC] [] []
def aBc:y9 aoU:=aG5<|gC FU<|AI
def fZ(x:A1×v7):Rnd (A1×v7) (Bool×D) (A1×D):=if U (x.2.1<(x.1.size:Int)) then if inb x.2.1 x.1.size then(CA ((w64<|bt x.1 x.2.1),32,126,())).bind λa=>if !a.1.1 then I (.inr<|.inl (A0,())) else I (.inl (x.1,(w64<|x.2.1+1),())) else G else I (.inr<|.inr (x.1,()))
def sG:=AT fZ
def yb:Loop:=⟨[(0,.str),(3,j6)],[(0,.str)],0,[(2,.bool)],sG⟩
def ana:LF f95 [] [1,0,1,0,0] yb:=sq (v:= .nil) aBc (b:=fZ) kN
def O9(x:A1×D):Option ((Bool×D)×D):=(AP (sG (x.1,0,())) (λa=>I (a,())) λa=>(CA ((a.1.size:Int),1,24,())).bind λb=>I (b.1,()))
def aAr:Ent:=(95,G,⟨[.str],[.bool],O9⟩)
def agy:y7 aAr:=sk (v:=t1<|.two (t1<|.one<|.loop yb) .nil) (fn:=f95) aBc<|kC ana kN
def ao4:Cx:=cX [FC,Jr,aAr] [] [(22,24)]
def apT:y9 ao4:=aG5<|gC FU<|gC Kg<|gC agy<|AI
def OB(x:Y1×D):Option ((Bool×D)×D):=(Fm (x.1.1,())).bind λb=>if b.1.1 then(Fm (x.1.2.2.1,())).bind λc=>if c.1.1 then(CA (x.1.2.1,1,99,())).bind λd=>if d.1.1 then(CA (x.1.2.2.2.1,1,999,())).bind λa=>if Ak a.1.1 ((O9 x.1.2.2.2.2).isSome) then let e:=(a.1.1&&(((O9 x.1.2.2.2.2).getD ((A0,()),())).1.1));I ((e,()),()) else G else if Ak A0 ((O9 x.1.2.2.2.2).isSome) then I ((A0,()),()) else G else if Ak A0 ((O9 x.1.2.2.2.2).isSome) then I ((A0,()),()) else G else if Ak A0 ((O9 x.1.2.2.2.2).isSome) then I ((A0,()),()) else G
def SY:Ent:=(72,G,⟨[Z2],[.bool],OB⟩)
def VX:y7 SY:=sk (v:= .nil) (fn:=f72) apT kN
def anz:Cx:=cX [] [] [(13,20)]
def apu:y9 anz:=aG5<|AI
def Lo(x:Int×aHc):Option ((Bool×D)×D):=let a:=((U<|x.1<x.2.2.1)||((U<|x.1=x.2.2.1)&&(U<|x.2.1<x.2.2.2.1)));I ((a,()),())
def Wq:Ent:=(200,G,⟨[j6,j6,j6,j6],[.bool],Lo⟩)
def dO:y7 Wq:=sk (v:= .nil) (fn:=f200) apu kN
def alC:Cx:=cX [SY,Wq] [] [(16,37)]
def aAQ:y9 alC:=aG5<|gC VX<|gC dO<|AI
def er(x:List A3×List A3×aG7):Rnd (List A3×List A3×aG7) (Bool×D) D:=if U (x.2.2.2.1<x.2.2.1) then if inb x.2.2.2.1 x.2.1.length then let b:=(rd aG6 x.2.1 x.2.2.2.1).fr;let c:=(rd aG6 x.2.1 x.2.2.2.1).nu;let d:=(rd aG6 x.2.1 x.2.2.2.1).to;let e:=(rd aG6 x.2.1 x.2.2.2.1).un;let f:=(rd aG6 x.2.1 x.2.2.2.1).tx;(OB ((b,c,d,e,f,()),())).bind λa=>if Ak ((!(!a.1.1))&&(U<|0<x.2.2.2.1)) (inb (w64<|x.2.2.2.1 - 1) x.1.length) then if Ak ((!(!a.1.1))&&(U<|0<x.2.2.2.1)) (inb (w64<|x.2.2.2.1 - 1) x.1.length) then if Ak ((!(!a.1.1))&&(U<|0<x.2.2.2.1)) ((Lo ((rd aG6 x.1<|w64<|x.2.2.2.1 - 1).fr,(rd aG6 x.1<|w64<|x.2.2.2.1 - 1).nu,b,c,())).isSome) then if(!a.1.1)||((U<|0<x.2.2.2.1)&&(!(((Lo ((rd aG6 x.1<|w64<|x.2.2.2.1 - 1).fr,(rd aG6 x.1<|w64<|x.2.2.2.1 - 1).nu,b,c,())).getD ((A0,()),())).1.1))) then I (.inr<|.inl (A0,())) else I (.inl (x.1,x.2.1,x.2.2.1,(w64<|x.2.2.2.1+1),())) else G else G else G else G else I (.inr<|.inr ())
def rU:=AT er
def y5:Loop:=⟨[(0,.sl .note),(5,.sl .note),(6,j6),(7,j6)],[],0,[(2,.bool)],rU⟩
def akf:LF f164 [] [1,0,1,0,0] y5:=sq (v:= .nil) aAQ (b:=er) kN
def WM(x:List A3×D):Option ((Bool×D)×D):=(AP (rU (x.1,x.1,(j8 x.1:Int),0,())) (λa=>I (a,())) λa=>I ((Y,()),()))
def aAg:Ent:=(164,G,⟨[.fz .note],[.bool],WM⟩)
def agB:y7 aAg:=sk (v:=t1<|.two (t1<|.one<|.loop y5) .nil) (fn:=f164) aAQ<|kC akf kN
def aoY:Cx:=cX [FC,Jr] [] [(12,14)]
def apo:y9 aoY:=aG5<|gC FU<|gC Kg<|AI
def gw(x:Y2×D):Option ((Bool×D)×D):=(Fm (x.1.1,())).bind λb=>if b.1.1 then(CA (x.1.2.1,1,99,())).bind λa=>if Ak a.1.1 ((CA (x.1.2.2.1,1,999,())).isSome) then let c:=(a.1.1&&(((CA (x.1.2.2.1,1,999,())).getD ((A0,()),())).1.1));I ((c,()),()) else G else if Ak A0 ((CA (x.1.2.2.1,1,999,())).isSome) then I ((A0,()),()) else G
def aAs:Ent:=(201,G,⟨[Z7],[.bool],gw⟩)
def agz:y7 aAs:=sk (v:= .nil) (fn:=f201) apo kN
def alF:Cx:=cX [Wq,aAs] [] [(16,37)]
def aAS:y9 alF:=aG5<|gC dO<|gC agz<|AI
def ey(x:List Mark×List Mark×aG7):Rnd (List Mark×List Mark×aG7) (Bool×D) D:=if U (x.2.2.2.1<x.2.2.1) then if inb x.2.2.2.1 x.2.1.length then let b:=(rd aHg x.2.1 x.2.2.2.1).mf;let c:=(rd aHg x.2.1 x.2.2.2.1).mn;let d:=(rd aHg x.2.1 x.2.2.2.1).mu;(gw ((b,c,d,()),())).bind λa=>if Ak ((!(!a.1.1))&&(U<|0<x.2.2.2.1)) (inb (w64<|x.2.2.2.1 - 1) x.1.length) then if Ak ((!(!a.1.1))&&(U<|0<x.2.2.2.1)) (inb (w64<|x.2.2.2.1 - 1) x.1.length) then if Ak ((!(!a.1.1))&&(U<|0<x.2.2.2.1)) ((Lo ((rd aHg x.1<|w64<|x.2.2.2.1 - 1).mf,(rd aHg x.1<|w64<|x.2.2.2.1 - 1).mn,b,c,())).isSome) then if(!a.1.1)||((U<|0<x.2.2.2.1)&&(!(((Lo ((rd aHg x.1<|w64<|x.2.2.2.1 - 1).mf,(rd aHg x.1<|w64<|x.2.2.2.1 - 1).mn,b,c,())).getD ((A0,()),())).1.1))) then I (.inr<|.inl (A0,())) else I (.inl (x.1,x.2.1,x.2.2.1,(w64<|x.2.2.2.1+1),())) else G else G else G else G else I (.inr<|.inr ())
def rX:=AT ey
def yB:Loop:=⟨[(0,.sl .mark),(5,.sl .mark),(6,j6),(7,j6)],[],0,[(2,.bool)],rX⟩
def akh:LF f165 [] [1,0,1,0,0] yB:=sq (v:= .nil) aAS (b:=ey) kN
def gM(x:List Mark×D):Option ((Bool×D)×D):=(AP (rX (x.1,x.1,(j8 x.1:Int),0,())) (λa=>I (a,())) λa=>I ((Y,()),()))
def aAi:Ent:=(165,G,⟨[.fz .mark],[.bool],gM⟩)
def afa:y7 aAi:=sk (v:=t1<|.two (t1<|.one<|.loop yB) .nil) (fn:=f165) aAS<|kC akh kN
def aqG:Cx:=cX [FC] [] [(10,23)]
def aqa:y9 aqG:=aG5<|gC FU<|AI
def X6(x:Int×Y1×D):Option ((Bool×D)×D):=if Ak (!decide (x.1=x.2.1.2.2.1)) ((CA (x.1,x.2.1.1,x.2.1.2.2.1,())).isSome) then if Ak ((!decide (x.1=x.2.1.2.2.1))&&(!(((CA (x.1,x.2.1.1,x.2.1.2.2.1,())).getD ((A0,()),())).1.1))) ((CA (x.1,x.2.1.2.2.1,x.2.1.1,())).isSome) then let a:=((!decide (x.1=x.2.1.2.2.1))&&((((CA (x.1,x.2.1.1,x.2.1.2.2.1,())).getD ((A0,()),())).1.1)||(((CA (x.1,x.2.1.2.2.1,x.2.1.1,())).getD ((A0,()),())).1.1)));I ((a,()),()) else G else G
def aBu:Ent:=(166,G,⟨[j6,Z2],[.bool],X6⟩)
def ai9:y7 aBu:=sk (v:= .nil) (fn:=f166) aqa kN
def aoa:Cx:=cX [] [] [(21,24)]
def aBF:y9 aoa:=aG5<|AI
def gO(x:Int×Int×List Mark×aG7):Rnd (Int×Int×List Mark×aG7) (v7) D:=if U (x.2.2.2.2.1<x.2.2.2.1) then if inb x.2.2.2.2.1 x.2.2.1.length then let a:=(rd aHg x.2.2.1 x.2.2.2.2.1).mf;let b:=(rd aHg x.2.2.1 x.2.2.2.2.1).mn;let c:=(rd aHg x.2.2.1 x.2.2.2.2.1).mu;if(U<|a=x.1)&&(U<|b=x.2.1) then I (.inr<|.inl x.2.2.2.2) else I (.inl (x.1,x.2.1,x.2.2.1,x.2.2.2.1,(w64<|x.2.2.2.2.1+1),())) else G else I (.inr<|.inr ())
def ss:=AT gO
def yg:Loop:=⟨[(1,j6),(2,j6),(9,.sl .mark),(10,j6),(11,j6)],[],0,[(6,j6)],ss⟩
def ang:LF f167 [] [1,0,1,0,0] yg:=sq (v:= .nil) aBF (b:=gO) kN
def Kj(x:List Mark×aG7):Option ((v7)×D):=(AP (ss (x.2.1,x.2.2.1,x.1,(j8 x.1:Int),0,())) (λa=>I (a,())) λa=>I (((-1),()),()))
def Wp:Ent:=(167,G,⟨[.fz .mark,j6,j6],[j6],Kj⟩)
def dN:y7 Wp:=sk (v:=t1<|.two (t1<|.one<|.loop yg) .nil) (fn:=f167) aBF<|kC ang kN
def ao6:Cx:=cX [FC,Jr,aAg,aAi,aBu,Wp] [] [(123,127)]
def iD:y9 ao6:=aG5<|gC FU<|gC Kg<|gC agB<|gC afa<|gC ai9<|gC dN<|AI
def gE(x:Y0×List A3×aG7):Rnd (Y0×List A3×aG7) (Bool×D) D:=if U (x.2.2.2.1<x.2.2.1) then if inb x.2.2.2.1 x.2.1.length then let bO:=(rd aG6 x.2.1 x.2.2.2.1).fr;let pn:=(rd aG6 x.2.1 x.2.2.2.1).nu;let acM:=(rd aG6 x.2.1 x.2.2.2.1).to;let a:=(rd aG6 x.2.1 x.2.2.2.1).un;let azt:=(rd aG6 x.2.1 x.2.2.2.1).tx;(if U (bO=x.1.1) then if U (x.1.2.2.1<=pn) then I (.inr<|.inl (A0,())) else if !decide (acM=x.1.1) then I (.inr<|.inl (A0,())) else if U (x.1.2.1<a) then(Kj (x.1.2.2.2.2.1,bO,pn,())).bind λamC=>if U (amC.1.1<0) then I (.inr<|.inl (A0,())) else I (.inl (x.1,x.2.1,x.2.2.1,(w64<|x.2.2.2.1+1),())) else I (.inl (x.1,x.2.1,x.2.2.1,(w64<|x.2.2.2.1+1),())) else if !decide (acM=x.1.1) then I (.inr<|.inl (A0,())) else if U (x.1.2.1<a) then(Kj (x.1.2.2.2.2.1,bO,pn,())).bind λamB=>if U (amB.1.1<0) then I (.inr<|.inl (A0,())) else I (.inl (x.1,x.2.1,x.2.2.1,(w64<|x.2.2.2.1+1),())) else I (.inl (x.1,x.2.1,x.2.2.1,(w64<|x.2.2.2.1+1),()))) else G else I (.inr<|.inr ())
def sX:=AT gE
def yp:Loop:=⟨[(1,Z3),(131,.sl .note),(132,j6),(133,j6)],[],4,[(2,.bool)],sX⟩
def alc:LF f114 [] [1,1,1,1,1,0,1,0,0] yp:=sq (v:= .nil) iD (b:=gE) kN
def gF(x:Y0×List Mark×aG7):Rnd (Y0×List Mark×aG7) (Bool×D) (Y0×D):=if U (x.2.2.2.1<x.2.2.1) then if inb x.2.2.2.1 x.2.1.length then let am3:=(rd aHg x.2.1 x.2.2.2.1).mf;let pt:=(rd aHg x.2.1 x.2.2.2.1).mn;let a:=(rd aHg x.2.1 x.2.2.2.1).mu;if U (am3=x.1.1) then if(U<|x.1.2.2.1<=pt)||(U<|a<=x.1.2.1) then I (.inr<|.inl (A0,())) else I (.inl (x.1,x.2.1,x.2.2.1,(w64<|x.2.2.2.1+1),())) else if U (a<=x.1.2.1) then I (.inr<|.inl (A0,())) else I (.inl (x.1,x.2.1,x.2.2.1,(w64<|x.2.2.2.1+1),())) else G else I (.inr<|.inr (x.1,()))
def sY:=AT gF
def yq:Loop:=⟨[(1,Z3),(104,.sl .mark),(105,j6),(106,j6)],[(1,Z3)],2,[(2,.bool)],sY⟩
def anP:LF f114 [] [1,1,1,1,0,1,0,0] yq:=sq (v:= .nil) iD (b:=gF) kN
def gG(x:Y0×List A3×aG7):Rnd (Y0×List A3×aG7) (Bool×D) (Y0×D):=if U (x.2.2.2.1<x.2.2.1) then if inb x.2.2.2.1 x.2.1.length then let a:=(rd aG6 x.2.1 x.2.2.2.1).fr;let b:=(rd aG6 x.2.1 x.2.2.2.1).nu;let d:=(rd aG6 x.2.1 x.2.2.2.1).to;let c:=(rd aG6 x.2.1 x.2.2.2.1).un;let e:=(rd aG6 x.2.1 x.2.2.2.1).tx;if U (a=x.1.1) then if U (x.1.2.2.1<=b) then I (.inr<|.inl (A0,())) else if U (c<=x.1.2.1) then I (.inr<|.inl (A0,())) else(X6 (x.1.1,(a,b,d,c,e,()),())).bind λf=>if !f.1.1 then I (.inr<|.inl (A0,())) else(Kj (x.1.2.2.2.2.1,a,b,())).bind λg=>if U (0<=g.1.1) then I (.inr<|.inl (A0,())) else I (.inl (x.1,x.2.1,x.2.2.1,(w64<|x.2.2.2.1+1),())) else if U (c<=x.1.2.1) then I (.inr<|.inl (A0,())) else(X6 (x.1.1,(a,b,d,c,e,()),())).bind λh=>if !h.1.1 then I (.inr<|.inl (A0,())) else(Kj (x.1.2.2.2.2.1,a,b,())).bind λi=>if U (0<=i.1.1) then I (.inr<|.inl (A0,())) else I (.inl (x.1,x.2.1,x.2.2.1,(w64<|x.2.2.2.1+1),())) else G else I (.inr<|.inr (x.1,()))
def sZ:=AT gG
def yr:Loop:=⟨[(1,Z3),(60,.sl .note),(61,j6),(62,j6)],[(1,Z3)],0,[(2,.bool)],sZ⟩
def ank:LF f114 [] [1,1,1,0,1,0,0] yr:=sq (v:= .nil) iD (b:=gG) kN
def Q0(x:Y0×D):Option ((Bool×D)×D):=(Fm (x.1.1,())).bind λb=>if !b.1.1 then I ((A0,()),()) else(CA (x.1.2.1,0,999,())).bind λc=>if !c.1.1 then I ((A0,()),()) else(CA (x.1.2.2.1,1,100,())).bind λd=>if !d.1.1 then I ((A0,()),()) else if U (6<(j8 x.1.2.2.2.1:Int)) then I ((A0,()),()) else if U (12<(j8 x.1.2.2.2.2.1:Int)) then I ((A0,()),()) else if U (6<(j8 x.1.2.2.2.2.2.1:Int)) then I ((A0,()),()) else(WM (x.1.2.2.2.1,())).bind λe=>if !e.1.1 then I ((A0,()),()) else(gM (x.1.2.2.2.2.1,())).bind λf=>if !f.1.1 then I ((A0,()),()) else(WM x.1.2.2.2.2.2).bind λg=>if !g.1.1 then I ((A0,()),()) else(AP (sZ (x.1,x.1.2.2.2.1,(j8 x.1.2.2.2.1:Int),0,())) (λa=>I (a,())) λa=>(AP (sY (a.1,a.1.2.2.2.2.1,(j8 a.1.2.2.2.2.1:Int),0,())) (λUq=>I (Uq,())) λUq=>(AP (sX (Uq.1,Uq.1.2.2.2.2.2.1,(Uq.1.2.2.2.2.2.1.length:Int),0,())) (λacJ=>I (acJ,())) λacJ=>I ((Y,()),()))))
def ja:Ent:=(114,G,⟨[Z4],[.bool],Q0⟩)
def wW:y7 ja:=sk (v:=t1<|t1<|t1<|.two (t1<|.one<|.loop yr)<|.two (t1<|.one<|.loop yq)<|.two (t1<|.one<|.loop yp) .nil) (fn:=f114) iD<|kC ank<|kC anP<|kC alc kN
def alI:Cx:=cX [] [] []
def ie:y9 alI:=aG5<|AI
def fA(x:Int×Y0×Y0×List Mark×aG7):Rnd (Int×Y0×Y0×List Mark×aG7) D (Y0×Y0×D):=if U (x.2.2.2.2.2.1<x.2.2.2.2.1) then if inb x.2.2.2.2.2.1 x.2.2.2.1.length then let b:=(rd aHg x.2.2.2.1 x.2.2.2.2.2.1).mf;let c:=(rd aHg x.2.2.2.1 x.2.2.2.2.2.1).mn;let a:=(rd aHg x.2.2.2.1 x.2.2.2.2.2.1).mu;if U (x.1<a) then if Ab (x.2.2.1.2.2.2.2.1.length+([(Mark.mk b c a)]:List Mark).length) then I (.inl (x.1,x.2.1,(x.2.2.1.1,x.2.2.1.2.1,x.2.2.1.2.2.1,x.2.2.1.2.2.2.1,(x.2.2.1.2.2.2.2.1++([(Mark.mk b c a)]:List Mark)),x.2.2.1.2.2.2.2.2),x.2.2.2.1,x.2.2.2.2.1,(w64<|x.2.2.2.2.2.1+1),())) else G else I (.inl (x.1,x.2.1,x.2.2.1,x.2.2.2.1,x.2.2.2.2.1,(w64<|x.2.2.2.2.2.1+1),())) else G else I (.inr<|.inr (x.2.1,x.2.2.1,()))
def re:=AT fA
def yD:Loop:=⟨[(1,j6),(4,Z5),(5,Z32),(37,.sl .mark),(38,j6),(39,j6)],[(4,Z5),(5,Z32)],2,[],re⟩
def ajg:LF f203 [] [1,1,1,0,1,0,0] yD:=sq (v:= .nil) ie (b:=fA) kN
def fB(x:Int×Y0×Y0×Y0×List A3×aG7):Rnd (Int×Y0×Y0×Y0×List A3×aG7) D (Int×Y0×Y0×Y0×D):=if U (x.2.2.2.2.2.2.1<x.2.2.2.2.2.1) then if inb x.2.2.2.2.2.2.1 x.2.2.2.2.1.length then let b:=(rd aG6 x.2.2.2.2.1 x.2.2.2.2.2.2.1).fr;let c:=(rd aG6 x.2.2.2.2.1 x.2.2.2.2.2.2.1).nu;let d:=(rd aG6 x.2.2.2.2.1 x.2.2.2.2.2.2.1).to;let a:=(rd aG6 x.2.2.2.2.1 x.2.2.2.2.2.2.1).un;let e:=(rd aG6 x.2.2.2.2.1 x.2.2.2.2.2.2.1).tx;if U (x.1<a) then if Ab (x.2.2.2.1.2.2.2.1.length+([(A3.mk b c d a e)]:List A3).length) then I (.inl (x.1,x.2.1,x.2.2.1,(x.2.2.2.1.1,x.2.2.2.1.2.1,x.2.2.2.1.2.2.1,(x.2.2.2.1.2.2.2.1++([(A3.mk b c d a e)]:List A3)),x.2.2.2.1.2.2.2.2),x.2.2.2.2.1,x.2.2.2.2.2.1,(w64<|x.2.2.2.2.2.2.1+1),())) else G else I (.inl (x.1,x.2.1,x.2.2.1,x.2.2.2.1,x.2.2.2.2.1,x.2.2.2.2.2.1,(w64<|x.2.2.2.2.2.2.1+1),())) else G else I (.inr<|.inr (x.1,x.2.1,x.2.2.1,x.2.2.2.1,()))
def rh:=AT fB
def yE:Loop:=⟨[(1,j6),(2,Z3),(4,Z5),(5,Z32),(19,.sl .note),(20,j6),(21,j6)],[(1,j6),(2,Z3),(4,Z5),(5,Z32)],0,[],rh⟩
def aki:LF f203 [] [1,1,0,1,0,0] yE:=sq (v:= .nil) ie (b:=fB) kN
def fw(x:Y0×v7):Option ((Y0×D)×D):=(AP (rh (x.2.1,x.1,(0,0,0,([]:List A3),([]:List Mark),([]:List A3),()),(x.1.1,x.2.1,x.1.2.2.1,([]:List A3),([]:List Mark),x.1.2.2.2.2.2),x.1.2.2.2.1,(j8 x.1.2.2.2.1:Int),0,())) (λ_=>G) λa=>(AP (re (a.1,a.2.2.1,a.2.2.2.1,a.2.1.2.2.2.2.1,(j8 a.2.1.2.2.2.2.1:Int),0,())) (λ_=>G) λb=>I (b.2,())))
def aAj:Ent:=(203,G,⟨[Z4,j6],[Z4],fw⟩)
def aff:y7 aAj:=sk (v:=t1<|t1<|.two (t1<|.one<|.loop yE)<|.two (t1<|.one<|.loop yD) .nil) (fn:=f203) ie<|kC aki<|kC ajg kN
def apX:Cx:=cX [aAj] [] [(12,15),(24,27)]
def aqc:y9 apX:=aG5<|gC aff<|AI
def X8(x:Y0×A1×v7):Option ((Y0×Bool×D)×D):=let a:=((U<|x.2.1=(B [116,105,109,101]))&&(U<|x.1.2.1<x.2.2.1));(if a then(fw (x.1,x.2.2)).bind λb=>I ((b.1.1,Y,()),()) else let c:=((U<|x.2.1=(B [110,101,120,116]))&&(U<|x.1.2.2.1<x.2.2.1));(if c then I (((x.1.1,x.1.2.1,x.2.2.1,x.1.2.2.2),Y,()),()) else I ((x.1,A0,()),())))
def aBv:Ent:=(169,G,⟨[Z4,.str,j6],[Z4,.bool],X8⟩)
def aiB:y7 aBv:=sk (v:= .nil) (fn:=f169) aqc kN
def ahW:Cx:=cX [SY,SI] [] []
def aif:y9 ahW:=aG5<|gC VX<|gC VC<|AI
def Ml(x:Y1×D):Option ((A1×D)×D):=(OB x).bind λe=>if !e.1.1 then I ((noB,()),()) else(JC (x.1.1,())).bind λa=>if U (a.1.1.size+(B [32]).size<=4611686018427387904) then(JC (x.1.2.1,())).bind λb=>if U ((a.1.1++(B [32])).size+b.1.1.size<=4611686018427387904) then if U (((a.1.1++(B [32]))++b.1.1).size+(B [32]).size<=4611686018427387904) then(JC (x.1.2.2.1,())).bind λc=>if U ((((a.1.1++(B [32]))++b.1.1)++(B [32])).size+c.1.1.size<=4611686018427387904) then if U (((((a.1.1++(B [32]))++b.1.1)++(B [32]))++c.1.1).size+(B [32]).size<=4611686018427387904) then(JC (x.1.2.2.2.1,())).bind λd=>if U ((((((a.1.1++(B [32]))++b.1.1)++(B [32]))++c.1.1)++(B [32])).size+d.1.1.size<=4611686018427387904) then if U (((((((a.1.1++(B [32]))++b.1.1)++(B [32]))++c.1.1)++(B [32]))++d.1.1).size+(B [32]).size<=4611686018427387904) then if U ((((((((a.1.1++(B [32]))++b.1.1)++(B [32]))++c.1.1)++(B [32]))++d.1.1)++(B [32])).size+x.1.2.2.2.2.1.size<=4611686018427387904) then let f:=((((((((a.1.1++(B [32]))++b.1.1)++(B [32]))++c.1.1)++(B [32]))++d.1.1)++(B [32]))++x.1.2.2.2.2.1);I ((f,()),()) else G else G else G else G else G else G else G else G
def Vs:Ent:=(157,G,⟨[Z2],[.str],Ml⟩)
def cI:y7 Vs:=sk (v:= .nil) (fn:=f157) aif kN
def ajU:Cx:=cX [gT] [] []
def zf:y9 ajU:=aG5<|gC rV<|AI
def db(x:List Int×List A1×aG7):Rnd (List Int×List A1×aG7) (List Int×Bool×D) (List Int×D):=if U (x.2.2.2.1<x.2.2.1) then if inb x.2.2.2.1 x.2.1.length then let b:=(rd aHj x.2.1 x.2.2.2.1);(Pv (b,())).bind λa=>if !a.1.2.1 then I (.inr<|.inl (([]:List Int),A0,())) else if Ab (x.1.length+([a.1.1]:List Int).length) then I (.inl ((x.1++([a.1.1]:List Int)),x.2.1,x.2.2.1,(w64<|x.2.2.2.1+1),())) else G else G else I (.inr<|.inr (x.1,()))
def rC:=AT db
def vY:Loop:=⟨[(4,.row 3 .int),(9,.sl .str),(10,j6),(11,j6)],[(4,.row 3 .int)],0,[(2,.row 3 .int),(3,.bool)],rC⟩
def ai3:LF f172 [] [1,1,0,1,0,0] vY:=sq (v:= .nil) zf (b:=db) kN
def S8(x:List A1×D):Option ((List Int×Bool×D)×D):=(AP (rC (([]:List Int),x.1,(j8 x.1:Int),0,())) (λa=>I (a,())) λa=>I ((a.1,Y,()),()))
def uO:Ent:=(172,G,⟨[.fz .str],[.row 3 .int,.bool],S8⟩)
def adW:y7 uO:=sk (v:=t1<|t1<|.two (t1<|.one<|.loop vY) .nil) (fn:=f172) zf<|kC ai3 kN
def aip:Cx:=cX [SY,Vs,uO,xg] [] [(43,46)]
def akx:y9 aip:=aG5<|gC VX<|gC cI<|gC adW<|gC aeA<|AI
def Vv(x:A1×D):Option ((Y1×Bool×D)×D):=(tA (x.1,(B [32]),5,())).bind λb=>if !decide ((j8 b.1.1:Int)=5) then I (((0,0,0,0,noB,()),A0,()),()) else if U (0<=4)&&U (4<=(j8 b.1.1:Int)) then(S8 ((BV (AJ 4) b.1.1),())).bind λa=>if !a.1.2.1 then I (((0,0,0,0,noB,()),A0,()),()) else if inb 0 a.1.1.length then if inb 1 a.1.1.length then if inb 2 a.1.1.length then if inb 3 a.1.1.length then if inb 4 b.1.1.length then(OB (((rd aHb a.1.1 0),(rd aHb a.1.1 1),(rd aHb a.1.1 2),(rd aHb a.1.1 3),(rd aHj b.1.1 4),()),())).bind λc=>if Ak (!(!c.1.1)) ((Ml (((rd aHb a.1.1 0),(rd aHb a.1.1 1),(rd aHb a.1.1 2),(rd aHb a.1.1 3),(rd aHj b.1.1 4),()),())).isSome) then if(!c.1.1)||(!decide (((Ml (((rd aHb a.1.1 0),(rd aHb a.1.1 1),(rd aHb a.1.1 2),(rd aHb a.1.1 3),(rd aHj b.1.1 4),()),())).getD ((noB,()),())).1.1=x.1)) then I (((0,0,0,0,noB,()),A0,()),()) else I ((((rd aHb a.1.1 0),(rd aHb a.1.1 1),(rd aHb a.1.1 2),(rd aHb a.1.1 3),(rd aHj b.1.1 4),()),Y,()),()) else G else G else G else G else G else G else G
def zX:Ent:=(170,G,⟨[.str],[Z2,.bool],Vv⟩)
def aew:y7 zX:=sk (v:= .nil) (fn:=f170) akx kN
def aoX:Cx:=cX [] [] [(21,24)]
def aBe:y9 aoX:=aG5<|AI
def gK(x:Int×Int×List A3×aG7):Rnd (Int×Int×List A3×aG7) (v7) D:=if U (x.2.2.2.2.1<x.2.2.2.1) then if inb x.2.2.2.2.1 x.2.2.1.length then let a:=(rd aG6 x.2.2.1 x.2.2.2.2.1).fr;let b:=(rd aG6 x.2.2.1 x.2.2.2.2.1).nu;let c:=(rd aG6 x.2.2.1 x.2.2.2.2.1).to;let d:=(rd aG6 x.2.2.1 x.2.2.2.2.1).un;let e:=(rd aG6 x.2.2.1 x.2.2.2.2.1).tx;if(U<|a=x.1)&&(U<|b=x.2.1) then I (.inr<|.inl x.2.2.2.2) else I (.inl (x.1,x.2.1,x.2.2.1,x.2.2.2.1,(w64<|x.2.2.2.2.1+1),())) else G else I (.inr<|.inr ())
def sn:=AT gK
def ye:Loop:=⟨[(1,j6),(2,j6),(9,.sl .note),(10,j6),(11,j6)],[],0,[(6,j6)],sn⟩
def ane:LF f153 [] [1,0,1,0,0] ye:=sq (v:= .nil) aBe (b:=gK) kN
def IW(x:List A3×aG7):Option ((v7)×D):=(AP (sn (x.2.1,x.2.2.1,x.1,(j8 x.1:Int),0,())) (λa=>I (a,())) λa=>I (((-1),()),()))
def OC:Ent:=(153,G,⟨[.fz .note,j6,j6],[j6],IW⟩)
def Pd:y7 OC:=sk (v:=t1<|.two (t1<|.one<|.loop ye) .nil) (fn:=f153) aBe<|kC ane kN
def aoW:Cx:=cX [Wq] [] [(11,25)]
def aBd:y9 aoW:=aG5<|gC dO<|AI
def gJ(x:List A3×Y1×v7):Rnd (List A3×Y1×v7) D (List A3×Y1×v7):=if Ak (U<|x.2.2.1<(j8 x.1:Int)) (inb x.2.2.1 x.1.length) then if Ak (U<|x.2.2.1<(j8 x.1:Int)) (inb x.2.2.1 x.1.length) then if Ak (U<|x.2.2.1<(j8 x.1:Int)) ((Lo ((rd aG6 x.1 x.2.2.1).fr,(rd aG6 x.1 x.2.2.1).nu,x.2.1.1,x.2.1.2.1,())).isSome) then if(U<|x.2.2.1<(j8 x.1:Int))&&(((Lo ((rd aG6 x.1 x.2.2.1).fr,(rd aG6 x.1 x.2.2.1).nu,x.2.1.1,x.2.1.2.1,())).getD ((A0,()),())).1.1) then I (.inl (x.1,x.2.1,(w64<|x.2.2.1+1),())) else I (.inr<|.inr x) else G else G else G
def sj:=AT gJ
def yd:Loop:=⟨[(0,.sl .note),(3,Z1),(5,j6)],[(0,.sl .note),(3,Z1),(5,j6)],0,[],sj⟩
def anb:LF f206 [] [1,1,0,0,0] yd:=sq (v:= .nil) aBd (b:=gJ) kN
def Pz(x:List A3×Y1×D):Option ((List A3×D)×D):=(AP (sj (x.1,x.2.1,0,())) (λ_=>G) λa=>(if U (0<=a.2.2.1)&&U (a.2.2.1<=(j8 a.1:Int)) then if Ab (([]:List A3).length+(BV (AJ a.2.2.1) a.1).length) then if Ab ((([]:List A3)++(BV (AJ a.2.2.1) a.1)).length+([(A3.mk a.2.1.1 a.2.1.2.1 a.2.1.2.2.1 a.2.1.2.2.2.1 a.2.1.2.2.2.2.1)]:List A3).length) then if U (0<=a.2.2.1)&&U (a.2.2.1<=(j8 a.1:Int)) then if Ab (((([]:List A3)++(BV (AJ a.2.2.1) a.1))++([(A3.mk a.2.1.1 a.2.1.2.1 a.2.1.2.2.1 a.2.1.2.2.2.1 a.2.1.2.2.2.2.1)]:List A3)).length+(Bp (AJ a.2.2.1) a.1).length) then I (((((([]:List A3)++(BV (AJ a.2.2.1) a.1))++([(A3.mk a.2.1.1 a.2.1.2.1 a.2.1.2.2.1 a.2.1.2.2.2.1 a.2.1.2.2.2.2.1)]:List A3))++(Bp (AJ a.2.2.1) a.1)),()),()) else G else G else G else G else G))
def jW:Ent:=(206,G,⟨[.fz .note,Z2],[.row 59 .note],Pz⟩)
def vX:y7 jW:=sk (v:=t1<|t1<|.two (.one<|.loop yd) .nil) (fn:=f206) aBd<|kC anb kN
def aoZ:Cx:=cX [Wq] [] [(11,25)]
def aBf:y9 aoZ:=aG5<|gC dO<|AI
def gN(x:List Mark×Y2×v7):Rnd (List Mark×Y2×v7) D (List Mark×Y2×v7):=if Ak (U<|x.2.2.1<(j8 x.1:Int)) (inb x.2.2.1 x.1.length) then if Ak (U<|x.2.2.1<(j8 x.1:Int)) (inb x.2.2.1 x.1.length) then if Ak (U<|x.2.2.1<(j8 x.1:Int)) ((Lo ((rd aHg x.1 x.2.2.1).mf,(rd aHg x.1 x.2.2.1).mn,x.2.1.1,x.2.1.2.1,())).isSome) then if(U<|x.2.2.1<(j8 x.1:Int))&&(((Lo ((rd aHg x.1 x.2.2.1).mf,(rd aHg x.1 x.2.2.1).mn,x.2.1.1,x.2.1.2.1,())).getD ((A0,()),())).1.1) then I (.inl (x.1,x.2.1,(w64<|x.2.2.1+1),())) else I (.inr<|.inr x) else G else G else G
def sr:=AT gN
def yf:Loop:=⟨[(0,.sl .mark),(3,Z6),(5,j6)],[(0,.sl .mark),(3,Z6),(5,j6)],0,[],sr⟩
def anf:LF f209 [] [1,1,0,0,0] yf:=sq (v:= .nil) aBf (b:=gN) kN
def SR(x:List Mark×Y2×D):Option ((List Mark×D)×D):=(AP (sr (x.1,x.2.1,0,())) (λ_=>G) λa=>(if U (0<=a.2.2.1)&&U (a.2.2.1<=(j8 a.1:Int)) then if Ab (([]:List Mark).length+(BV (AJ a.2.2.1) a.1).length) then if Ab ((([]:List Mark)++(BV (AJ a.2.2.1) a.1)).length+([(Mark.mk a.2.1.1 a.2.1.2.1 a.2.1.2.2.1)]:List Mark).length) then if U (0<=a.2.2.1)&&U (a.2.2.1<=(j8 a.1:Int)) then if Ab (((([]:List Mark)++(BV (AJ a.2.2.1) a.1))++([(Mark.mk a.2.1.1 a.2.1.2.1 a.2.1.2.2.1)]:List Mark)).length+(Bp (AJ a.2.2.1) a.1).length) then I (((((([]:List Mark)++(BV (AJ a.2.2.1) a.1))++([(Mark.mk a.2.1.1 a.2.1.2.1 a.2.1.2.2.1)]:List Mark))++(Bp (AJ a.2.2.1) a.1)),()),()) else G else G else G else G else G))
def jX:Ent:=(209,G,⟨[.fz .mark,Z7],[.row 95 .mark],SR⟩)
def vZ:y7 jX:=sk (v:=t1<|t1<|.two (.one<|.loop yf) .nil) (fn:=f209) aBf<|kC anf kN
def ao3:Cx:=cX [SY,OC,Wp,jW,jX] [] []
def apS:y9 ao3:=aG5<|gC VX<|gC Pd<|gC dN<|gC vX<|gC vZ<|AI
def Wg(x:Y0×Y1×D):Option ((Y0×Bool×D)×D):=(OB x.2).bind λa=>if !a.1.1 then I ((x.1,A0,()),()) else if U (x.2.1.2.2.2.1<=x.1.2.1) then I ((x.1,A0,()),()) else(IW (x.1.2.2.2.1,x.2.1.1,x.2.1.2.1,())).bind λb=>if U (0<=b.1.1) then I ((x.1,A0,()),()) else(IW (x.1.2.2.2.2.2.1,x.2.1.1,x.2.1.2.1,())).bind λc=>if U (0<=c.1.1) then I ((x.1,A0,()),()) else(Kj (x.1.2.2.2.2.1,x.2.1.1,x.2.1.2.1,())).bind λd=>if U (0<=d.1.1) then I ((x.1,A0,()),()) else if U (12<(w64<|(w64<|(j8 x.1.2.2.2.1:Int)+(j8 x.1.2.2.2.2.1:Int))+1)) then I ((x.1,A0,()),()) else if U (x.2.1.2.2.1=x.1.1) then(Pz (x.1.2.2.2.2.2.1,x.2)).bind λe=>(SR (x.1.2.2.2.2.1,(x.2.1.1,x.2.1.2.1,x.2.1.2.2.2.1,()),())).bind λf=>I (((x.1.1,x.1.2.1,x.1.2.2.1,x.1.2.2.2.1,f.1.1,e.1),Y,()),()) else(Pz (x.1.2.2.2.1,x.2)).bind λg=>I (((x.1.1,x.1.2.1,x.1.2.2.1,g.1.1,x.1.2.2.2.2),Y,()),())
def aBR:Ent:=(205,G,⟨[Z4,Z2],[Z4,.bool],Wg⟩)
def age:y7 aBR:=sk (v:= .nil) (fn:=f205) apS kN
def aof:Cx:=cX [OC,aBR,jW] [] [(19,23),(38,42),(59,66)]
def aps:y9 aof:=aG5<|gC Pd<|gC age<|gC vX<|AI
def We(x:Y0×A1×Y1×D):Option ((Y0×Bool×D)×D):=(BU (X:=A1×Y0×Y1×Y0×Bool×D) (λa=>if a.2.2.2.2.1 then let c:=(w64<|a.2.1.2.2.1+1);(Wg ((a.2.1.1,a.2.1.2.1,c,a.2.1.2.2.2),a.2.2.1,())).bind λd=>I (d.1,()) else let e:=((U<|a.1=(B [116,97,107,101]))&&(!decide (a.2.2.1.1=a.2.1.1)));(if e then(Wg (a.2.1,a.2.2.1,())).bind λf=>I (f.1,()) else(IW (a.2.1.2.2.2.1,a.2.2.1.1,a.2.2.1.2.1,())).bind λb=>if Ak (!(U<|0<=b.1.1)) ((IW (a.2.1.2.2.2.2.2.1,a.2.2.1.1,a.2.2.1.2.1,())).isSome) then let g:=((U<|0<=b.1.1)||(U<|0<=((IW (a.2.1.2.2.2.2.2.1,a.2.2.1.1,a.2.2.1.2.1,())).getD ((0,()),())).1.1));(if g then I ((a.2.1,A0,()),()) else let h:=(U<|a.1=(B [104,101,108,100]));(if h then(Pz (a.2.1.2.2.2.1,a.2.2.1,())).bind λi=>I (((a.2.1.1,a.2.1.2.1,a.2.1.2.2.1,i.1.1,a.2.1.2.2.2.2),Y,()),()) else let j:=(U<|a.1=(B [105,110,98,111,120]));(if j then(Pz (a.2.1.2.2.2.2.2.1,a.2.2.1,())).bind λk=>I (((a.2.1.1,a.2.1.2.1,a.2.1.2.2.1,a.2.1.2.2.2.1,a.2.1.2.2.2.2.1,k.1),Y,()),()) else I ((a.2.1,A0,()),())))) else G))<|(if U (x.2.1=(B [111,119,110])) then let l:=((U<|x.2.2.1.1=x.1.1)&&(U<|x.2.2.1.2.1=x.1.2.2.1));I (.inr (x.2.1,x.1,x.2.2.1,(0,0,0,([]:List A3),([]:List Mark),([]:List A3),()),l,())) else I (.inr (x.2.1,x.1,x.2.2.1,(0,0,0,([]:List A3),([]:List Mark),([]:List A3),()),A0,()))))
def aBM:Ent:=(171,G,⟨[Z4,.str,Z2],[Z4,.bool],We⟩)
def ah1:y7 aBM:=sk (v:=t1<|.two (.one<|.join [(1,.str),(3,Z3),(5,Z1),(6,Z5),(8,.bool)] .nil .nil) .nil) (fn:=f171) aps kN
def alD:Cx:=cX [] [] []
def ans:y9 alD:=aG5<|AI
def SH(x:List A3×v7):Option ((List A3×D)×D):=if U (0<=x.2.1)&&U (x.2.1<=(j8 x.1:Int)) then if Ab (([]:List A3).length+(BV (AJ x.2.1) x.1).length) then if U (0<=(w64<|x.2.1+1))&&U ((w64<|x.2.1+1)<=(j8 x.1:Int)) then if Ab ((([]:List A3)++(BV (AJ x.2.1) x.1)).length+(Bp (AJ<|w64<|x.2.1+1) x.1).length) then I ((((([]:List A3)++(BV (AJ x.2.1) x.1))++(Bp (AJ<|w64<|x.2.1+1) x.1)),()),()) else G else G else G else G
def aAh:Ent:=(208,G,⟨[.fz .note,j6],[.row 59 .note],SH⟩)
def agC:y7 aAh:=sk (v:= .nil) (fn:=f208) ans kN
def anx:Cx:=cX [OC,Wp,aAh,jX] [] [(41,49),(70,78),(90,91)]
def apt:y9 anx:=aG5<|gC Pd<|gC dN<|gC agC<|gC vZ<|AI
def Wf(x:Y0×A1×Y2×D):Option ((Y0×Bool×D)×D):=(IW (x.1.2.2.2.1,x.2.2.1.1,x.2.2.1.2.1,())).bind λc=>(IW (x.1.2.2.2.2.2.1,x.2.2.1.1,x.2.2.1.2.1,())).bind λd=>(Kj (x.1.2.2.2.2.1,x.2.2.1.1,x.2.2.1.2.1,())).bind λe=>(BU (X:=A1×Y0×Y2×Y0×Int×Int×Bool×Bool×D) (λa=>if a.2.2.2.2.2.2.2.1 then(SH (a.2.1.2.2.2.1,a.2.2.2.2.1,())).bind λf=>(SR (a.2.1.2.2.2.2.1,a.2.2.1,())).bind λg=>I (((a.2.1.1,a.2.1.2.1,a.2.1.2.2.1,f.1.1,g.1.1,a.2.1.2.2.2.2.2),Y,()),()) else(BU (X:=A1×Y0×Y2×Y0×Int×Bool×Bool×D) (λb=>if b.2.2.2.2.2.2.1 then(SH (b.2.1.2.2.2.2.2.1,b.2.2.2.2.1,())).bind λh=>I (((b.2.1.1,b.2.1.2.1,b.2.1.2.2.1,b.2.1.2.2.2.1,b.2.1.2.2.2.2.1,h.1),Y,()),()) else let i:=((U<|b.1=(B [109,97,114,107]))&&(!b.2.2.2.2.2.1));(if i then(SR (b.2.1.2.2.2.2.1,b.2.2.1,())).bind λj=>I (((b.2.1.1,b.2.1.2.1,b.2.1.2.2.1,b.2.1.2.2.2.1,j.1.1,b.2.1.2.2.2.2.2),Y,()),()) else I ((b.2.1,A0,()),())))<|(if U (a.1=(B [101,97,116])) then if Ak (U<|0<=a.2.2.2.2.2.1) (inb a.2.2.2.2.2.1 a.2.1.2.2.2.2.2.1.length) then let k:=((U<|0<=a.2.2.2.2.2.1)&&(U<|(rd aG6 a.2.1.2.2.2.2.2.1 a.2.2.2.2.2.1).un=a.2.2.1.2.2.1));I (.inr (a.1,a.2.1,a.2.2.1,a.2.2.2.1,a.2.2.2.2.2.1,a.2.2.2.2.2.2.1,k,())) else G else if Ak A0 (inb a.2.2.2.2.2.1 a.2.1.2.2.2.2.2.1.length) then I (.inr (a.1,a.2.1,a.2.2.1,a.2.2.2.1,a.2.2.2.2.2.1,a.2.2.2.2.2.2.1,A0,())) else G)))<|(if U (x.2.1=(B [108,101,116])) then if Ak (U<|0<=c.1.1) (inb c.1.1 x.1.2.2.2.1.length) then let l:=((U<|0<=c.1.1)&&(U<|(rd aG6 x.1.2.2.2.1 c.1.1).un=x.2.2.1.2.2.1));I (.inr (x.2.1,x.1,x.2.2.1,(0,0,0,([]:List A3),([]:List Mark),([]:List A3),()),c.1.1,d.1.1,(U<|0<=e.1.1),l,())) else G else if Ak A0 (inb c.1.1 x.1.2.2.2.1.length) then I (.inr (x.2.1,x.1,x.2.2.1,(0,0,0,([]:List A3),([]:List Mark),([]:List A3),()),c.1.1,d.1.1,(U<|0<=e.1.1),A0,())) else G))
def aBN:Ent:=(174,G,⟨[Z4,.str,Z7],[Z4,.bool],Wf⟩)
def ah2:y7 aBN:=sk (v:=t1<|t1<|t1<|.two (.one<|.join [(1,.str),(3,Z3),(5,Z6),(6,Z5),(8,j6),(9,j6),(10,.bool),(33,.bool)] .nil<|t1<|.join [(1,.str),(3,Z3),(5,Z6),(6,Z5),(9,j6),(10,.bool),(62,.bool)] .nil .nil) .nil) (fn:=f174) apt kN
def apY:Cx:=cX [gT,aBA,aBv,zX,aBM,uO,yN,aBN] [] [(69,71)]
def aqd:y9 apY:=aG5<|gC rV<|gC agd<|gC aiB<|gC aew<|gC ah1<|gC adW<|gC aef<|gC ah2<|AI
def X2(x:Y0×A1×D):Option ((Y0×Bool×D)×D):=(Wr (x.2.1,(B [32]),())).bind λc=>if !c.1.2.2.1 then I ((x.1,A0,()),()) else(BU (X:=Y0×Y0×A1×A1×A1×Bool×D) (λa=>if a.2.2.2.2.2.1 then(Pv (a.2.2.2.1,())).bind λf=>if f.1.2.1 then(X8 (a.1,a.2.2.1,f.1.1,())).bind λn=>I (n.1,()) else I ((a.1,A0,()),()) else(BU (X:=Y0×Y0×A1×A1×A1×Bool×D) (λb=>if b.2.2.2.2.2.1 then(Vv (b.2.2.2.1,())).bind λg=>if g.1.2.1 then(We (b.1,b.2.2.1,g.1.1,())).bind λo=>I (o.1,()) else I ((b.1,A0,()),()) else(BU (X:=Y0×Y0×A1×A1×Bool×D) (λe=>if e.2.2.2.2.1 then(eS (e.2.2.2.1,(B [32]),())).bind λp=>(S8 p.1).bind λd=>if d.1.2.1&&(U<|(j8 d.1.1:Int)=3) then if inb 0 d.1.1.length then if inb 1 d.1.1.length then if inb 2 d.1.1.length then(Wf (e.1,e.2.2.1,((rd aHb d.1.1 0),(rd aHb d.1.1 1),(rd aHb d.1.1 2),()),())).bind λq=>I (q.1,()) else G else G else G else I ((e.1,A0,()),()) else I ((e.1,A0,()),())) (let h:=(U<|b.2.2.2.2.1=(B [108,101,116]));(if h then I (.inr (b.1,b.2.1,b.2.2.1,b.2.2.2.1,h,())) else let i:=(U<|b.2.2.2.2.1=(B [101,97,116]));(if i then I (.inr (b.1,b.2.1,b.2.2.1,b.2.2.2.1,i,())) else let r:=(U<|b.2.2.2.2.1=(B [109,97,114,107]));I (.inr (b.1,b.2.1,b.2.2.1,b.2.2.2.1,r,()))))))) (let j:=(U<|a.2.2.2.2.1=(B [111,119,110]));(if j then I (.inr (a.1,a.2.1,a.2.2.1,a.2.2.2.1,a.2.2.2.2.1,j,())) else let k:=(U<|a.2.2.2.2.1=(B [116,97,107,101]));(if k then I (.inr (a.1,a.2.1,a.2.2.1,a.2.2.2.1,a.2.2.2.2.1,k,())) else let l:=(U<|a.2.2.2.2.1=(B [104,101,108,100]));(if l then I (.inr (a.1,a.2.1,a.2.2.1,a.2.2.2.1,a.2.2.2.2.1,l,())) else let s:=(U<|a.2.2.2.2.1=(B [105,110,98,111,120]));I (.inr (a.1,a.2.1,a.2.2.1,a.2.2.2.1,a.2.2.2.2.1,s,())))))))) (let m:=(U<|c.1.1=(B [116,105,109,101]));(if m then I (.inr (x.1,(0,0,0,([]:List A3),([]:List Mark),([]:List A3),()),c.1.1,c.1.2.1,c.1.1,m,())) else let t:=(U<|c.1.1=(B [110,101,120,116]));I (.inr (x.1,(0,0,0,([]:List A3),([]:List Mark),([]:List A3),()),c.1.1,c.1.2.1,c.1.1,t,())))))
def aBw:Ent:=(115,G,⟨[Z4,.str],[Z4,.bool],X2⟩)
def aiC:y7 aBw:=sk (v:=t1<|t1<|t1<|.two (t1<|.one<|.join [(2,Z3),(4,Z5),(6,.str),(7,.str),(24,.str),(25,.bool)] .nil<|t1<|.join [(2,Z3),(4,Z5),(6,.str),(7,.str),(24,.str),(40,.bool)] .nil<|t1<|.join [(2,Z3),(4,Z5),(6,.str),(7,.str),(57,.bool)] .nil .nil) .nil) (fn:=f115) aqd kN
def af8:Cx:=cX [] [] []
def agY:y9 af8:=aG5<|AI
def Ny(x:List A3×D):Option ((List A3×D)×D):=if U ((j8 x.1:Int)=0) then I ((([]:List A3),()),()) else if U (0<=(j8 x.1:Int))&&U ((j8 x.1:Int)<=4294967296) then I (((BV (BZ (AJ (j8 x.1:Int))<|dfl .note).length x.1++Bp x.1.length (BZ (AJ (j8 x.1:Int))<|dfl .note)),()),()) else G
def sF:Ent:=(52,G,⟨[.fz .note],[.row 59 .note],Ny⟩)
def ach:y7 sF:=sk (v:= .nil) (fn:=f52) agY kN
def af9:Cx:=cX [] [] []
def agZ:y9 af9:=aG5<|AI
def rZ(x:List Mark×D):Option ((List Mark×D)×D):=if U ((j8 x.1:Int)=0) then I ((([]:List Mark),()),()) else if U (0<=(j8 x.1:Int))&&U ((j8 x.1:Int)<=4294967296) then I (((BV (BZ (AJ (j8 x.1:Int))<|dfl .mark).length x.1++Bp x.1.length (BZ (AJ (j8 x.1:Int))<|dfl .mark)),()),()) else G
def uy:Ent:=(175,G,⟨[.fz .mark],[.row 95 .mark],rZ⟩)
def adj:y7 uy:=sk (v:= .nil) (fn:=f175) agZ kN
def ajV:Cx:=cX [sF,uy] [] []
def akt:y9 ajV:=aG5<|gC ach<|gC adj<|AI
def S9(x:Y0×D):Option ((Y0×D)×D):=(Ny (x.1.2.2.2.1,())).bind λa=>(rZ (x.1.2.2.2.2.1,())).bind λb=>(Ny x.1.2.2.2.2.2).bind λc=>I (((x.1.1,x.1.2.1,x.1.2.2.1,a.1.1,b.1.1,c.1),()),())
def zU:Ent:=(116,G,⟨[Z4],[Z0],S9⟩)
def aes:y7 zU:=sk (v:= .nil) (fn:=f116) akt kN
def ao8:Cx:=cX [ja,aBw,zU] [] [(22,24)]
def apU:y9 ao8:=aG5<|gC wW<|gC aiC<|gC aes<|AI
def SX(x:Y0×A1×D):Option ((Y0×Bool×D)×D):=(Q0 (x.1,())).bind λb=>if !b.1.1 then I (((0,0,0,([]:List A3),([]:List Mark),([]:List A3),()),A0,()),()) else(S9 (x.1,())).bind λc=>(X2 (c.1.1,x.2)).bind λa=>if Ak (!(!a.1.2.1)) ((Q0 (a.1.1,())).isSome) then if(!a.1.2.1)||(!(((Q0 (a.1.1,())).getD ((A0,()),())).1.1)) then(S9 (x.1,())).bind λd=>I ((d.1.1,A0,()),()) else(S9 (a.1.1,())).bind λe=>I ((e.1.1,Y,()),()) else G
def jb:Ent:=(88,G,⟨[Z4,.str],[Z0,.bool],SX⟩)
def wX:y7 jb:=sk (v:= .nil) (fn:=f88) apU kN
def ao7:Cx:=cX [Jr,xT,jb] [] []
def aBI:y9 ao7:=aG5<|gC Kg<|gC aeF<|gC wX<|AI
def WR(x:Y0×Y0×List A1×aG7):Rnd (Y0×Y0×List A1×aG7) (Y0×Bool×D) (Y0×Y0×D):=if U (x.2.2.2.2.1<x.2.2.2.1) then if inb x.2.2.2.2.1 x.2.2.1.length then let b:=(rd aHj x.2.2.1 x.2.2.2.2.1);(SX (x.2.1,b,())).bind λa=>if !a.1.2.1 then I (.inr<|.inl ((0,0,0,([]:List A3),([]:List Mark),([]:List A3),()),A0,())) else I (.inl (x.1,a.1.1,x.2.2.1,x.2.2.2.1,(w64<|x.2.2.2.2.1+1),())) else G else I (.inr<|.inr (x.1,x.2.1,()))
def sa:=AT WR
def yM:Loop:=⟨[(4,Z5),(6,Z5),(17,.sl .str),(18,j6),(19,j6)],[(4,Z5),(6,Z5)],0,[(4,Z5),(5,.bool)],sa⟩
def anl:LF f61 [] [1,1,1,0,1,0,0] yM:=sq (v:= .nil) aBI (b:=WR) kN
def hY(x:Int×List A1×D):Option ((Y0×Bool×D)×D):=(Fm (x.1,())).bind λb=>if !b.1.1 then I (((0,0,0,([]:List A3),([]:List Mark),([]:List A3),()),A0,()),()) else(dk (x.1,())).bind λc=>(AP (sa ((0,0,0,([]:List A3),([]:List Mark),([]:List A3),()),c.1.1,x.2.1,(j8 x.2.1:Int),0,())) (λa=>I (a,())) λa=>I ((a.2.1,Y,()),()))
def aBS:Ent:=(61,G,⟨[j6,.fz .str],[Z0,.bool],hY⟩)
def agl:y7 aBS:=sk (v:=t1<|t1<|t1<|.two (t1<|.one<|.loop yM) .nil) (fn:=f61) aBI<|kC anl kN
def alB:Cx:=cX [du,aBS] [] []
def anr:y9 alB:=aG5<|gC qe<|gC agl<|AI
def Lk(x:Int×A1×D):Option ((Y0×Bool×D)×D):=(Ph x.2).bind λa=>(hY (x.1,a.1.1,())).bind λb=>I (b.1,())
def gS:Ent:=(28,G,⟨[j6,.str],[Z0,.bool],Lk⟩)
def rT:y7 gS:=sk (v:= .nil) (fn:=f28) anr kN
def alJ:Cx:=cX [FC,du] [] [(12,18),(41,44)]
def anv:y9 alJ:=aG5<|gC FU<|gC qe<|AI
def O5(x:Y4×D):Option ((Bool×D)×D):=if Ak (!(U<|2400<(x.1.1.size:Int))) ((CA (x.1.2.1,0,(x.1.1.size:Int),())).isSome) then if(U<|2400<(x.1.1.size:Int))||(!(((CA (x.1.2.1,0,(x.1.1.size:Int),())).getD ((A0,()),())).1.1)) then I ((A0,()),()) else(Ph (x.1.1,())).bind λa=>if U (0<=x.1.2.1)&&U (x.1.2.1<=(x.1.1.size:Int)) then(Ph ((x.1.1.extract (0)<|AJ x.1.2.1),())).bind λb=>let c:=((U<|a.1.2.1=(x.1.1.size:Int))&&(U<|b.1.2.1=x.1.2.1));I ((c,()),()) else G else G
def SN:Ent:=(57,G,⟨[Z9],[.bool],O5⟩)
def V6:y7 SN:=sk (v:= .nil) (fn:=f57) anv kN
def aoc:Cx:=cX [FC,Jr] [] [(54,57)]
def jd:y9 aoc:=aG5<|gC FU<|gC Kg<|AI
def gQ(x:Y6×Y5×List AQ×Int×Int×List AQ×aG7):Rnd (Y6×Y5×List AQ×Int×Int×List AQ×aG7) (Bool×D) (Y6×List AQ×aG7):=if U (x.2.2.2.2.2.2.2.1<x.2.2.2.2.2.2.1) then if inb x.2.2.2.2.2.2.2.1 x.2.2.2.2.2.1.length then let a:=(rd aHl x.2.2.2.2.2.1 x.2.2.2.2.2.2.2.1).nu;let b:=(rd aHl x.2.2.2.2.2.1 x.2.2.2.2.2.2.2.1).da;if U (a=x.2.1.1) then I (.inr<|.inl (A0,())) else I (.inl (x.1,x.2.1,x.2.2.1,x.2.2.2.1,x.2.2.2.2.1,x.2.2.2.2.2.1,x.2.2.2.2.2.2.1,(w64<|x.2.2.2.2.2.2.2.1+1),())) else G else I (.inr<|.inr (x.1,x.2.2.1,x.2.2.2.1,x.2.2.2.2.1,()))
def su:=AT gQ
def yi:Loop:=⟨[(1,Z11),(4,Z33),(42,.sl .mixed),(43,j6),(44,j6),(62,.sl .mixed),(63,j6),(64,j6)],[(1,Z11),(42,.sl .mixed),(43,j6),(44,j6)],2,[(2,.bool)],su⟩
def alf:LF f58 [] [1,1,0,1,0,0,1,1,0,0,1,1,1,0,0] yi:=sq (v:= .nil) jd (b:=gQ) kN
def gR(x:Y6×List AQ×aG7):Rnd (Y6×List AQ×aG7) (Bool×D) D:=if U (x.2.2.2.1<x.2.2.1) then if inb x.2.2.2.1 x.2.1.length then let b:=(rd aHl x.2.1 x.2.2.2.1).nu;let c:=(rd aHl x.2.1 x.2.2.2.1).da;(CA (b,0,999,())).bind λd=>if(!d.1.1)||(!decide ((c.size:Int)=4)) then I (.inr<|.inl (A0,())) else if U (0<=x.2.2.2.1)&&U (x.2.2.2.1<=(j8 x.1.2.2.2.2.2.1:Int)) then(AP (su (x.1,(b,c,()),x.2.1,x.2.2.1,x.2.2.2.1,(BV (AJ x.2.2.2.1) x.1.2.2.2.2.2.1),((BV (AJ x.2.2.2.1) x.1.2.2.2.2.2.1).length:Int),0,())) (λa=>I<|.inr<|.inl a) λa=>I<|.inl (a.1,a.2.1,a.2.2.1,(w64<|a.2.2.2.1+1),())) else G else G else I (.inr<|.inr ())
def sv:=AT gR
def yj:Loop:=⟨[(1,Z11),(42,.sl .mixed),(43,j6),(44,j6)],[],0,[(2,.bool)],sv⟩
def anh:LF f58 [] [1,1,0,1,0,0] yj:=sq (v:=t1<|t1<|.two (.one<|t1<|t1<|t1<|.one<|.loop yi) .nil) jd (b:=gR)<|kC alf kN
def gx(x:Y6×D):Option ((Bool×D)×D):=(Fm (x.1.1,())).bind λb=>if !b.1.1 then I ((A0,()),()) else(Fm (x.1.2.2.1,())).bind λc=>if !c.1.1 then I ((A0,()),()) else(CA (x.1.2.1,1,99,())).bind λd=>if !d.1.1 then I ((A0,()),()) else(CA (x.1.2.2.2.1,1,999,())).bind λe=>if !e.1.1 then I ((A0,()),()) else(CA (x.1.2.2.2.2.1,1,24,())).bind λf=>if !f.1.1 then I ((A0,()),()) else if U (14<(j8 x.1.2.2.2.2.2.1:Int)) then I ((A0,()),()) else(AP (sv (x.1,x.1.2.2.2.2.2.1,(j8 x.1.2.2.2.2.2.1:Int),0,())) (λa=>I (a,())) λa=>I ((Y,()),()))
def aBL:Ent:=(58,G,⟨[Z12],[.bool],gx⟩)
def ah0:y7 aBL:=sk (v:=t1<|t1<|.two (t1<|.one<|.loop yj) .nil) (fn:=f58) jd<|kC anh kN
def aod:Cx:=cX [] [] [(21,24)]
def aBG:y9 aod:=aG5<|AI
def WN(x:Int×Int×List AD×aG7):Rnd (Int×Int×List AD×aG7) (v7) D:=if U (x.2.2.2.2.1<x.2.2.2.1) then if inb x.2.2.2.2.1 x.2.2.1.length then let a:=(rd aHa x.2.2.1 x.2.2.2.2.1).fr;let b:=(rd aHa x.2.2.1 x.2.2.2.2.1).nu;let c:=(rd aHa x.2.2.1 x.2.2.2.2.1).to;let d:=(rd aHa x.2.2.1 x.2.2.2.2.1).un;let e:=(rd aHa x.2.2.1 x.2.2.2.2.1).sz;let f:=(rd aHa x.2.2.1 x.2.2.2.2.1).got;if(U<|a=x.1)&&(U<|b=x.2.1) then I (.inr<|.inl x.2.2.2.2) else I (.inl (x.1,x.2.1,x.2.2.1,x.2.2.2.1,(w64<|x.2.2.2.2.1+1),())) else G else I (.inr<|.inr ())
def sw:=AT WN
def yk:Loop:=⟨[(1,j6),(2,j6),(9,.sl .half),(10,j6),(11,j6)],[],0,[(6,j6)],sw⟩
def ani:LF f59 [] [1,0,1,0,0] yk:=sq (v:= .nil) aBG (b:=WN) kN
def SU(x:List AD×aG7):Option ((v7)×D):=(AP (sw (x.2.1,x.2.2.1,x.1,(j8 x.1:Int),0,())) (λa=>I (a,())) λa=>I (((-1),()),()))
def jY:Ent:=(59,G,⟨[.fz .half,j6,j6],[j6],SU⟩)
def va:y7 jY:=sk (v:=t1<|.two (t1<|.one<|.loop yk) .nil) (fn:=f59) aBG<|kC ani kN
def air:Cx:=cX [gS,Jr,SN,aBL,jY] [] [(61,62),(76,84)]
def zg:y9 air:=aG5<|gC rT<|gC Kg<|gC V6<|gC ah0<|gC va<|AI
def dj(x:Y3×List AD×aG7):Rnd (Y3×List AD×aG7) (Bool×D) D:=if U (x.2.2.2.1<x.2.2.1) then if inb x.2.2.2.1 x.2.1.length then let a:=(rd aHa x.2.1 x.2.2.2.1).fr;let b:=(rd aHa x.2.1 x.2.2.2.1).nu;let d:=(rd aHa x.2.1 x.2.2.2.1).to;let e:=(rd aHa x.2.1 x.2.2.2.1).un;let f:=(rd aHa x.2.1 x.2.2.2.1).sz;let g:=(rd aHa x.2.1 x.2.2.2.1).got;(gx ((a,b,d,e,f,g,()),())).bind λc=>if Ak (!(!c.1.1)) ((SU (x.1.2.2.2.2.1,a,b,())).isSome) then if(!c.1.1)||(U<|((SU (x.1.2.2.2.2.1,a,b,())).getD ((0,()),())).1.1<x.2.2.2.1) then I (.inr<|.inl (A0,())) else I (.inl (x.1,x.2.1,x.2.2.1,(w64<|x.2.2.2.1+1),())) else G else G else I (.inr<|.inr ())
def c9:=AT dj
def wR:Loop:=⟨[(1,Z13),(65,.sl .half),(66,j6),(67,j6)],[],0,[(2,.bool)],c9⟩
def ai4:LF f27 [] [1,1,1,1,1,0,1,0,0] wR:=sq (v:= .nil) zg (b:=dj) kN
def Hv(x:Y3×D):Option ((Bool×D)×D):=(BU (X:=Y3×D) (λa=>(Lk (a.1.1,a.1.2.2.1,())).bind λc=>if U (0<=a.1.2.2.2.1)&&U (a.1.2.2.2.1<=(a.1.2.2.1.size:Int)) then(Lk (a.1.1,(a.1.2.2.1.extract (0)<|AJ a.1.2.2.2.1),())).bind λd=>if(!c.1.2.1)||(!d.1.2.1) then I ((A0,()),()) else(AP (c9 (a.1,a.1.2.2.2.2.1,(j8 a.1.2.2.2.2.1:Int),0,())) (λb=>I (b,())) λb=>I ((Y,()),())) else G)<|(Fm (x.1.1,())).bind λe=>if !e.1.1 then I (.inl ((A0,()),())) else(O5 ((x.1.2.2.1,x.1.2.2.2.1,()),())).bind λf=>if !f.1.1 then I (.inl ((A0,()),())) else if U (3<(j8 x.1.2.2.2.2.1:Int)) then I (.inl ((A0,()),())) else if !x.1.2.1 then if U (0<(j8 x.1.2.2.2.2.1:Int)) then I (.inl ((A0,()),())) else I (.inr x) else I (.inr x))
def Jp:Ent:=(27,G,⟨[Z8],[.bool],Hv⟩)
def KY:y7 Jp:=sk (v:=t1<|.join [(1,Z13)] .nil<|t1<|t1<|t1<|.two (t1<|.one<|.loop wR) .nil) (fn:=f27) zg<|kC ai4 kN
def ahC:Cx:=cX [Jp,gS] [] []
def aij:y9 ahC:=aG5<|gC KY<|gC rT<|AI
def Gn(x:Y3×D):Option ((Y0×D)×D):=(Hv x).bind λa=>if !a.1.1 then I (((0,0,0,([]:List A3),([]:List Mark),([]:List A3),()),()),()) else(Lk (x.1.1,x.1.2.2.1,())).bind λb=>I ((b.1.1,()),())
def Ka:Ent:=(10,G,⟨[Z8],[Z0],Gn⟩)
def Ld:y7 Ka:=sk (v:= .nil) (fn:=f10) aij kN
def apZ:Cx:=cX [SY] [] []
def aC2:y9 apZ:=aG5<|gC VX<|AI
def gz(x:List A3×List A3×aG7):Rnd (List A3×List A3×aG7) (Bool×D) (List A3×D):=if U (x.2.2.2.1<x.2.2.1) then if inb x.2.2.2.1 x.2.1.length then let a:=(rd aG6 x.2.1 x.2.2.2.1).fr;let b:=(rd aG6 x.2.1 x.2.2.2.1).nu;let c:=(rd aG6 x.2.1 x.2.2.2.1).to;let d:=(rd aG6 x.2.1 x.2.2.2.1).un;let e:=(rd aG6 x.2.1 x.2.2.2.1).tx;(OB ((a,b,c,d,e,()),())).bind λf=>if !f.1.1 then I (.inr<|.inl (A0,())) else I (.inl (x.1,x.2.1,x.2.2.1,(w64<|x.2.2.2.1+1),())) else G else I (.inr<|.inr (x.1,()))
def te:=AT gz
def zu:Loop:=⟨[(0,.sl .note),(5,.sl .note),(6,j6),(7,j6)],[(0,.sl .note)],0,[(2,.bool)],te⟩
def aom:LF f38 [] [1,0,1,0,0] zu:=sq (v:= .nil) aC2 (b:=gz) kN
def X3(x:List A3×D):Option ((Bool×D)×D):=(AP (te (x.1,x.1,(j8 x.1:Int),0,())) (λa=>I (a,())) (λa=>let b:=(U<|(j8 a.1:Int)<=6);I ((b,()),())))
def aBx:Ent:=(38,G,⟨[.fz .note],[.bool],X3⟩)
def aiD:y7 aBx:=sk (v:=t1<|.two (t1<|.one<|.loop zu) .nil) (fn:=f38) aC2<|kC aom kN
def alK:Cx:=cX [Jp,FC,aBx,Jr] [] [(54,56)]
def ig:y9 alK:=aG5<|gC KY<|gC FU<|gC aiD<|gC Kg<|AI
def fC(x:List AK×aG7):Rnd (List AK×aG7) (Bool×D) D:=if U (x.2.2.1<x.2.1) then if inb x.2.2.1 x.1.length then let a:=(rd aHe x.1 x.2.2.1).src;let b:=(rd aHe x.1 x.2.2.1).dst;let c:=(rd aHe x.1 x.2.2.1).data;let f:=(rd aHe x.1 x.2.2.1).sp;(Fm (a,())).bind λd=>if !d.1.1 then I (.inr<|.inl (A0,())) else(Fm (b,())).bind λe=>if !e.1.1 then I (.inr<|.inl (A0,())) else if !decide ((w64<|a - b)=1) then if !decide ((w64<|b - a)=1) then I (.inr<|.inl (A0,())) else if U (40<(c.size:Int)) then I (.inr<|.inl (A0,())) else I (.inl (x.1,x.2.1,(w64<|x.2.2.1+1),())) else if U (40<(c.size:Int)) then I (.inr<|.inl (A0,())) else I (.inl (x.1,x.2.1,(w64<|x.2.2.1+1),())) else G else I (.inr<|.inr ())
def rk:=AT fC
def yG:Loop:=⟨[(60,.sl .Ai),(61,j6),(62,j6)],[],2,[(2,.bool)],rk⟩
def akM:LF f15 [] [1,1,1,0,1,0,0] yG:=sq (v:= .nil) ig (b:=fC) kN
def fD(x:Y7×List A7×aG7):Rnd (Y7×List A7×aG7) (Bool×D) (Y7×D):=if U (x.2.2.2.1<x.2.2.1) then if inb x.2.2.2.1 x.2.1.length then let a:=(rd aG8 x.2.1 x.2.2.2.1).id;let b:=(rd aG8 x.2.1 x.2.2.2.1).up;let c:=(rd aG8 x.2.1 x.2.2.2.1).log;let d:=(rd aG8 x.2.1 x.2.2.2.1).fo;let e:=(rd aG8 x.2.1 x.2.2.2.1).AG;if Ak (!(!decide (a=x.2.2.2.1))) ((Hv ((a,b,c,d,e,()),())).isSome) then if(!decide (a=x.2.2.2.1))||(!(((Hv ((a,b,c,d,e,()),())).getD ((A0,()),())).1.1)) then I (.inr<|.inl (A0,())) else I (.inl (x.1,x.2.1,x.2.2.1,(w64<|x.2.2.2.1+1),())) else G else G else I (.inr<|.inr (x.1,()))
def rp:=AT fD
def yH:Loop:=⟨[(1,Z14),(42,.sl .AN),(43,j6),(44,j6)],[(1,Z14)],0,[(2,.bool)],rp⟩
def ak2:LF f15 [] [1,1,0,1,0,0] yH:=sq (v:= .nil) ig (b:=fD) kN
def Mp(x:Y7×D):Option ((Bool×D)×D):=(CA (x.1.1,0,99999,())).bind λc=>if !c.1.1 then I ((A0,()),()) else if !decide ((j8 x.1.2.1:Int)=4) then I ((A0,()),()) else if !decide ((j8 x.1.2.2.1:Int)=3) then I ((A0,()),()) else if U (30<(j8 x.1.2.2.2.1:Int)) then I ((A0,()),()) else(X3 (x.1.2.2.2.2.1,())).bind λd=>if !d.1.1 then I ((A0,()),()) else(X3 x.1.2.2.2.2.2).bind λe=>if !e.1.1 then I ((A0,()),()) else(AP (rp (x.1,x.1.2.1,(j8 x.1.2.1:Int),0,())) (λa=>I (a,())) λa=>(AP (rk (a.1.2.2.2.1,(j8 a.1.2.2.2.1:Int),0,())) (λb=>I (b,())) λb=>I ((Y,()),())))
def gV:Ent:=(15,G,⟨[Z15],[.bool],Mp⟩)
def rj:y7 gV:=sk (v:=t1<|t1<|.two (t1<|.one<|.loop yH)<|.two (t1<|.one<|.loop yG) .nil) (fn:=f15) ig<|kC ak2<|kC akM kN
def aiq:Cx:=cX [Jr] [] []
def aky:y9 aiq:=aG5<|gC Kg<|AI
def JB(x:aG7):Option ((v7)×D):=(BU (X:=Int×Int×Bool×D) (λa=>if a.2.2.1 then I (((-1),()),()) else if U (a.1<a.2.1) then I (((w64<|a.1+1),()),()) else I (((w64<|a.1 - 1),()),()))<|(Fm (x.1,())).bind λb=>if !b.1.1 then I (.inr (x.1,x.2.1,Y,())) else(Fm x.2).bind λc=>if !c.1.1 then I (.inr (x.1,x.2.1,Y,())) else I (.inr (x.1,x.2.1,(U<|x.1=x.2.1),())))
def fH:Ent:=(22,G,⟨[j6,j6],[j6],JB⟩)
def rE:y7 fH:=sk (v:=t1<|.two (.one<|.join [(0,j6),(1,j6),(5,.bool)] .nil .nil) .nil) (fn:=f22) aky kN
def ae8:Cx:=cX [] [] []
def aeR:y9 ae8:=aG5<|AI
def cH(x:List A7×D):Option ((List A7×D)×D):=if U ((j8 x.1:Int)=0) then I ((([]:List A7),()),()) else if U (0<=(j8 x.1:Int))&&U ((j8 x.1:Int)<=4294967296) then I (((BV (BZ (AJ (j8 x.1:Int))<|dfl .AN).length x.1++Bp x.1.length (BZ (AJ (j8 x.1:Int))<|dfl .AN)),()),()) else G
def ad1:Ent:=(49,G,⟨[.fz .AN],[.row 41 .AN],cH⟩)
def adZ:y7 ad1:=sk (v:= .nil) (fn:=f49) aeR kN
def af7:Cx:=cX [] [] []
def agX:y9 af7:=aG5<|AI
def cw(x:List Bool×D):Option ((List Bool×D)×D):=if U ((j8 x.1:Int)=0) then I ((([]:List Bool),()),()) else if U (0<=(j8 x.1:Int))&&U ((j8 x.1:Int)<=4294967296) then I (((BV (BZ (AJ (j8 x.1:Int))<|dfl .bool).length x.1++Bp x.1.length (BZ (AJ (j8 x.1:Int))<|dfl .bool)),()),()) else G
def ux:Ent:=(50,G,⟨[.fz .bool],[.row 4 .bool],cw⟩)
def adi:y7 ux:=sk (v:= .nil) (fn:=f50) agX kN
def ae7:Cx:=cX [] [] []
def aeQ:y9 ae7:=aG5<|AI
def cG(x:List AK×D):Option ((List AK×D)×D):=if U ((j8 x.1:Int)=0) then I ((([]:List AK),()),()) else if U (0<=(j8 x.1:Int))&&U ((j8 x.1:Int)<=4294967296) then I (((BV (BZ (AJ (j8 x.1:Int))<|dfl .Ai).length x.1++Bp x.1.length (BZ (AJ (j8 x.1:Int))<|dfl .Ai)),()),()) else G
def ad0:Ent:=(51,G,⟨[.fz .Ai],[.row 70 .Ai],cG⟩)
def adY:y7 ad0:=sk (v:= .nil) (fn:=f51) aeQ kN
def afA:Cx:=cX [] [] []
def aga:y9 afA:=aG5<|AI
def rb(x:List AD×D):Option ((List AD×D)×D):=if U ((j8 x.1:Int)=0) then I ((([]:List AD),()),()) else if U (0<=(j8 x.1:Int))&&U ((j8 x.1:Int)<=4294967296) then I (((BV (BZ (AJ (j8 x.1:Int))<|dfl .half).length x.1++Bp x.1.length (BZ (AJ (j8 x.1:Int))<|dfl .half)),()),()) else G
def uz:Ent:=(80,G,⟨[.fz .half],[.row 99 .half],rb⟩)
def adk:y7 uz:=sk (v:= .nil) (fn:=f80) aga kN
def aeU:Cx:=cX [] [] []
def afD:y9 aeU:=aG5<|AI
def rD(x:List AQ×D):Option ((List AQ×D)×D):=if U ((j8 x.1:Int)=0) then I ((([]:List AQ),()),()) else if U (0<=(j8 x.1:Int))&&U ((j8 x.1:Int)<=4294967296) then I (((BV (BZ (AJ (j8 x.1:Int))<|dfl .mixed).length x.1++Bp x.1.length (BZ (AJ (j8 x.1:Int))<|dfl .mixed)),()),()) else G
def uu:Ent:=(81,G,⟨[.fz .mixed],[.row 119 .mixed],rD⟩)
def adb:y7 uu:=sk (v:= .nil) (fn:=f81) afD kN
def afQ:Cx:=cX [uz,uu] [] []
def wM:y9 afQ:=aG5<|gC adk<|gC adb<|AI
def cr(x:Y3×Y3×aG7):Rnd (Y3×Y3×aG7) D (Y3×Y3×D):=if U (x.2.2.2.1<x.2.2.1) then if inb x.2.2.2.1 x.2.1.2.2.2.2.1.length then(rD ((rd aHa x.2.1.2.2.2.2.1 x.2.2.2.1).got,())).bind λa=>if inb x.2.2.2.1 x.2.1.2.2.2.2.1.length then I (.inl (x.1,(x.2.1.1,x.2.1.2.1,x.2.1.2.2.1,x.2.1.2.2.2.1,(Bq x.2.1.2.2.2.2.1 (AJ x.2.2.2.1)<|AD.mk ((rd aHa x.2.1.2.2.2.2.1 x.2.2.2.1).fr) ((rd aHa x.2.1.2.2.2.2.1 x.2.2.2.1).nu) ((rd aHa x.2.1.2.2.2.2.1 x.2.2.2.1).to) ((rd aHa x.2.1.2.2.2.2.1 x.2.2.2.1).un) ((rd aHa x.2.1.2.2.2.2.1 x.2.2.2.1).sz) a.1.1),()),x.2.2.1,(w64<|x.2.2.2.1+1),())) else G else G else I (.inr<|.inr (x.1,x.2.1,()))
def qY:=AT cr
def adE:Loop:=⟨[(2,Z16),(3,Z16),(12,j6),(13,j6)],[(2,Z16),(3,Z16)],0,[],qY⟩
def ag9:LF f53 [] [1,1,1,0,1,0,0] adE:=sq (v:= .nil) wM (b:=cr) kN
def Hy(x:Y3×D):Option ((Y3×D)×D):=(rb x.1.2.2.2.2).bind λa=>(AP (qY ((0,A0,noB,0,([]:List AD),()),(x.1.1,x.1.2.1,x.1.2.2.1,x.1.2.2.2.1,a.1),(j8 a.1.1:Int),0,())) (λ_=>G) λb=>I (b.2,()))
def Lf:Ent:=(53,G,⟨[Z8],[Z17],Hy⟩)
def Mj:y7 Lf:=sk (v:=t1<|t1<|t1<|.two (t1<|.one<|.loop adE) .nil) (fn:=f53) wM<|kC ag9 kN
def ahN:Cx:=cX [ad1,ux,ad0,sF,Lf] [] []
def xX:y9 ahN:=aG5<|gC adZ<|gC adi<|gC adY<|gC ach<|gC Mj<|AI
def dM(x:Y7×Y7×aG7):Rnd (Y7×Y7×aG7) D (Y7×Y7×D):=if U (x.2.2.2.1<x.2.2.1) then if inb x.2.2.2.1 x.2.1.2.1.length then(Hy (((rd aG8 x.2.1.2.1 x.2.2.2.1).id,(rd aG8 x.2.1.2.1 x.2.2.2.1).up,(rd aG8 x.2.1.2.1 x.2.2.2.1).log,(rd aG8 x.2.1.2.1 x.2.2.2.1).fo,(rd aG8 x.2.1.2.1 x.2.2.2.1).AG,()),())).bind λa=>if inb x.2.2.2.1 x.2.1.2.1.length then I (.inl (x.1,(x.2.1.1,(Bq x.2.1.2.1 (AJ x.2.2.2.1)<|A7.mk a.1.1.1 a.1.1.2.1 a.1.1.2.2.1 a.1.1.2.2.2.1 a.1.1.2.2.2.2.1),x.2.1.2.2),x.2.2.1,(w64<|x.2.2.2.1+1),())) else G else G else I (.inr<|.inr (x.1,x.2.1,()))
def cF:=AT dM
def vP:Loop:=⟨[(2,Z18),(3,Z18),(25,j6),(26,j6)],[(2,Z18),(3,Z18)],0,[],cF⟩
def ags:LF f23 [] [1,1,0,1,0,0] vP:=sq (v:= .nil) xX (b:=dM) kN
def Jn(x:Y7×D):Option ((Y7×D)×D):=(cH (x.1.2.1,())).bind λa=>(cw (x.1.2.2.1,())).bind λb=>(cG (x.1.2.2.2.1,())).bind λc=>(Ny (x.1.2.2.2.2.1,())).bind λd=>(Ny x.1.2.2.2.2.2).bind λe=>(AP (cF ((0,([]:List A7),([]:List Bool),([]:List AK),([]:List A3),([]:List A3),()),(x.1.1,a.1.1,b.1.1,c.1.1,d.1.1,e.1),(j8 a.1.1:Int),0,())) (λ_=>G) λf=>I (f.2,()))
def tT:Ent:=(23,G,⟨[Z15],[Z19],Jn⟩)
def acv:y7 tT:=sk (v:=t1<|t1<|.two (t1<|.one<|.loop vP) .nil) (fn:=f23) xX<|kC ags kN
def ao1:Cx:=cX [FC] [] [(20,29)]
def apQ:y9 ao1:=aG5<|gC FU<|AI
def gZ(x:Y7×Y8×D):Option ((Bool×D)×Y7×D):=(CA (x.2.1.2.1,0,(w64<|(j8 x.1.2.2.1:Int) - 1),())).bind λa=>if Ak (!(!a.1.1)) (inb x.2.1.2.1 x.1.2.2.1.length) then if(!a.1.1)||(U<|(rd aHm x.1.2.2.1 x.2.1.2.1)=(U<|x.2.1.1=9)) then I ((A0,()),(x.1,())) else if inb x.2.1.2.1 x.1.2.2.1.length then I ((Y,()),((x.1.1,x.1.2.1,(Bq x.1.2.2.1 (AJ x.2.1.2.1)<|U<|x.2.1.1=9),x.1.2.2.2),())) else G else G
def aBP:Ent:=(82,G,⟨[Z18,Z20],[.bool],gZ⟩)
def ah5:y7 aBP:=sk (v:= .nil) (fn:=f82) apQ kN
def ahO:Cx:=cX [] [] []
def aj5:y9 ahO:=aG5<|AI
def Vg(x:List AK×v7):Option ((List AK×D)×D):=if U (0<=x.2.1)&&U (x.2.1<=(j8 x.1:Int)) then if Ab (([]:List AK).length+(BV (AJ x.2.1) x.1).length) then if U (0<=(w64<|x.2.1+1))&&U ((w64<|x.2.1+1)<=(j8 x.1:Int)) then if Ab ((([]:List AK)++(BV (AJ x.2.1) x.1)).length+(Bp (AJ<|w64<|x.2.1+1) x.1).length) then I ((((([]:List AK)++(BV (AJ x.2.1) x.1))++(Bp (AJ<|w64<|x.2.1+1) x.1)),()),()) else G else G else G else G
def xn:Ent:=(102,G,⟨[.fz .Ai,j6],[.row 70 .Ai],Vg⟩)
def aeI:y7 xn:=sk (v:= .nil) (fn:=f102) aj5 kN
def alO:Cx:=cX [fH,FC,Jr] [] [(56,63),(82,89)]
def anw:y9 alO:=aG5<|gC rE<|gC FU<|gC Kg<|AI
def WT(x:Y8×D):Option ((Bool×D)×D):=(Fm (x.1.2.1,())).bind λb=>if !b.1.1 then I ((A0,()),()) else(Fm (x.1.2.2.1,())).bind λc=>if !c.1.1 then I ((A0,()),()) else(Fm (x.1.2.2.2.1,())).bind λd=>if !d.1.1 then I ((A0,()),()) else(Fm (x.1.2.2.2.2.2.1,())).bind λe=>if !e.1.1 then I ((A0,()),()) else(CA (x.1.2.2.2.2.1,1,99,())).bind λf=>if !f.1.1 then I ((A0,()),()) else(CA (x.1.2.2.2.2.2.2.1,1,999,())).bind λg=>if !g.1.1 then I ((A0,()),()) else if U (x.1.1=1) then(CA (x.1.2.2.2.2.2.2.2.1,1,24,())).bind λh=>if h.1.1 then(CA (x.1.2.2.2.2.2.2.2.2.1,0,999,())).bind λi=>if i.1.1 then if Ak (U<|(x.1.2.2.2.2.2.2.2.2.2.1.size:Int)=4) ((JB (x.1.2.1,x.1.2.2.2.2.2.1,())).isSome) then let j:=((U<|(x.1.2.2.2.2.2.2.2.2.2.1.size:Int)=4)&&(U<|x.1.2.2.1=((JB (x.1.2.1,x.1.2.2.2.2.2.1,())).getD ((0,()),())).1.1));I ((j,()),()) else G else if Ak A0 ((JB (x.1.2.1,x.1.2.2.2.2.2.1,())).isSome) then I ((A0,()),()) else G else if Ak A0 ((JB (x.1.2.1,x.1.2.2.2.2.2.1,())).isSome) then I ((A0,()),()) else G else(BU (X:=Y8×Bool×D) (λa=>if a.2.1 then if U (a.1.2.2.2.2.2.2.2.1=0) then if U (a.1.2.2.2.2.2.2.2.2.1=0) then if Ak (U<|a.1.2.2.2.2.2.2.2.2.2.1=noB) ((JB (a.1.2.2.1,a.1.2.2.2.2.2.1,())).isSome) then let k:=((U<|a.1.2.2.2.2.2.2.2.2.2.1=noB)&&(U<|a.1.2.1=((JB (a.1.2.2.1,a.1.2.2.2.2.2.1,())).getD ((0,()),())).1.1));I ((k,()),()) else G else if Ak A0 ((JB (a.1.2.2.1,a.1.2.2.2.2.2.1,())).isSome) then I ((A0,()),()) else G else if Ak A0 ((JB (a.1.2.2.1,a.1.2.2.2.2.2.1,())).isSome) then I ((A0,()),()) else G else I ((A0,()),()))<|(if U (x.1.1=2) then I (.inr (x.1,(U<|x.1.1=2),())) else I (.inr (x.1,(U<|x.1.1=3),()))))
def iH:Ent:=(151,G,⟨[Z20],[.bool],WT⟩)
def vI:y7 iH:=sk (v:=t1<|t1<|.two (t1<|.one<|t1<|t1<|.join [(1,Z21),(65,.bool)] .nil .nil) .nil) (fn:=f151) anw kN
def ait:Cx:=cX [] [] []
def zh:y9 ait:=aG5<|AI
def dr(x:Int×List Int×aG7):Rnd (Int×List Int×aG7) D (v7):=if U (x.2.2.2.1<x.2.2.1) then if inb x.2.2.2.1 x.2.1.length then let a:=(rd aHh x.2.1 x.2.2.2.1);let b:=(BJ (w64<|x.1+(w64<|(w64 a) * (w64<|(BJ x.2.2.2.1 1000)+1))) 65521);I (.inl (b,x.2.1,x.2.2.1,(w64<|x.2.2.2.1+1),())) else G else I (.inr<|.inr (x.1,()))
def cN:=AT dr
def wY:Loop:=⟨[(3,j6),(6,.sl .u8),(7,j6),(8,j6)],[(3,j6)],0,[],cN⟩
def ai6:LF f188 [] [1,1,0,1,0,0] wY:=sq (v:= .nil) zh (b:=dr) kN
def W1(x:List Int×D):Option ((v7)×D):=(AP (cN (0,x.1,(j8 x.1:Int),0,())) (λ_=>G) λa=>I (a,()))
def zY:Ent:=(188,G,⟨[.fz .u8],[j6],W1⟩)
def aex:y7 zY:=sk (v:=t1<|t1<|.two (t1<|.one<|.loop wY) .nil) (fn:=f188) zh<|kC ai6 kN
def af6:Cx:=cX [] [] []
def agW:y9 af6:=aG5<|AI
def ct(x:List Int×D):Option ((List Int×D)×D):=if U ((j8 x.1:Int)=0) then I ((([]:List Int),()),()) else if U (0<=(j8 x.1:Int))&&U ((j8 x.1:Int)<=4294967296) then I (((BV (BZ (AJ (j8 x.1:Int))<|dfl .u8).length x.1++Bp x.1.length (BZ (AJ (j8 x.1:Int))<|dfl .u8)),()),()) else G
def vN:Ent:=(189,G,⟨[.fz .u8],[.row 5 .u8],ct⟩)
def adh:y7 vN:=sk (v:= .nil) (fn:=f189) agW kN
def ahF:Cx:=cX [iH,zY,vN] [] []
def aim:y9 ahF:=aG5<|gC vI<|gC aex<|gC adh<|AI
def Pj(x:Y8×D):Option ((List Int×D)×D):=(WT x).bind λc=>if !c.1.1 then I ((([]:List Int),()),()) else(BU (X:=List Int×D) (λb=>(W1 b).bind λa=>if Ab (b.1.length+([(w8<|w64<|Ay a.1.1 256),(w8<|BJ a.1.1 256)]:List Int).length) then(ct ((b.1++([(w8<|w64<|Ay a.1.1 256),(w8<|BJ a.1.1 256)]:List Int)),())).bind λd=>I (d.1,()) else G)<|(if U (x.1.1=1) then if Ab (([(w8 x.1.1),(w8 x.1.2.1),(w8 x.1.2.2.1),(w8 x.1.2.2.2.1),(w8 x.1.2.2.2.2.1),(w8 x.1.2.2.2.2.2.1),(w8<|w64<|Ay x.1.2.2.2.2.2.2.1 256),(w8<|BJ x.1.2.2.2.2.2.2.1 256)]:List Int).length+([(w8 x.1.2.2.2.2.2.2.2.1),(w8<|w64<|Ay x.1.2.2.2.2.2.2.2.2.1 256),(w8<|BJ x.1.2.2.2.2.2.2.2.2.1 256)]:List Int).length) then if Ab ((([(w8 x.1.1),(w8 x.1.2.1),(w8 x.1.2.2.1),(w8 x.1.2.2.2.1),(w8 x.1.2.2.2.2.1),(w8 x.1.2.2.2.2.2.1),(w8<|w64<|Ay x.1.2.2.2.2.2.2.1 256),(w8<|BJ x.1.2.2.2.2.2.2.1 256)]:List Int)++([(w8 x.1.2.2.2.2.2.2.2.1),(w8<|w64<|Ay x.1.2.2.2.2.2.2.2.2.1 256),(w8<|BJ x.1.2.2.2.2.2.2.2.2.1 256)]:List Int)).length+(B9 x.1.2.2.2.2.2.2.2.2.2.1).length) then I (.inr (((([(w8 x.1.1),(w8 x.1.2.1),(w8 x.1.2.2.1),(w8 x.1.2.2.2.1),(w8 x.1.2.2.2.2.1),(w8 x.1.2.2.2.2.2.1),(w8<|w64<|Ay x.1.2.2.2.2.2.2.1 256),(w8<|BJ x.1.2.2.2.2.2.2.1 256)]:List Int)++([(w8 x.1.2.2.2.2.2.2.2.1),(w8<|w64<|Ay x.1.2.2.2.2.2.2.2.2.1 256),(w8<|BJ x.1.2.2.2.2.2.2.2.2.1 256)]:List Int))++(B9 x.1.2.2.2.2.2.2.2.2.2.1)),())) else G else G else I (.inr (([(w8 x.1.1),(w8 x.1.2.1),(w8 x.1.2.2.1),(w8 x.1.2.2.2.1),(w8 x.1.2.2.2.2.1),(w8 x.1.2.2.2.2.2.1),(w8<|w64<|Ay x.1.2.2.2.2.2.2.1 256),(w8<|BJ x.1.2.2.2.2.2.2.1 256)]:List Int),()))))
def tW:Ent:=(150,G,⟨[Z20],[.row 5 .u8],Pj⟩)
def acy:y7 tW:=sk (v:=t1<|t1<|t1<|.join [(3,.row 5 .u8)] .nil .nil) (fn:=f150) aim kN
def afC:Cx:=cX [tW] [] [(9,11)]
def agc:y9 afC:=aG5<|gC acy<|AI
def cV(x:List Int×D):Option ((Y8×Bool×D)×D):=if(!decide ((j8 x.1:Int)=10))&&(!decide ((j8 x.1:Int)=17)) then I (((0,0,0,0,0,0,0,0,0,noB,()),A0,()),()) else if inb 0 x.1.length then if inb 1 x.1.length then if inb 2 x.1.length then if inb 3 x.1.length then if inb 4 x.1.length then if inb 5 x.1.length then if inb 6 x.1.length then if inb 7 x.1.length then let b:=(w64<|rd aHh x.1 0);let c:=(w64<|rd aHh x.1 1);let d:=(w64<|rd aHh x.1 2);let e:=(w64<|rd aHh x.1 3);let f:=(w64<|rd aHh x.1 4);let g:=(w64<|rd aHh x.1 5);let h:=(w64<|(w64<|256 * (w64<|rd aHh x.1 6))+(w64<|rd aHh x.1 7));(BU (X:=List Int×Y8×Y8×D) (λa=>(Pj a.2.2).bind λi=>if !decide ((BF i.1.1)=(BF a.1)) then I (((0,0,0,0,0,0,0,0,0,noB,()),A0,()),()) else I ((a.2.2.1,Y,()),()))<|(if U ((j8 x.1:Int)=17) then if inb 8 x.1.length then let j:=(w64<|rd aHh x.1 8);(if inb 9 x.1.length then if inb 10 x.1.length then let k:=(w64<|(w64<|256 * (w64<|rd aHh x.1 9))+(w64<|rd aHh x.1 10));(if(U (0<=15)&&U (15<=(j8 x.1:Int)))&&(U (0<=11)&&U (11<=15)) then let l:=(BF<|Bp (AJ 11)<|BV (AJ 15) x.1);I (.inr (x.1,(0,0,0,0,0,0,0,0,0,noB,()),(b,c,d,e,f,g,h,j,k,l,()),())) else G) else G else G) else G else I (.inr (x.1,(0,0,0,0,0,0,0,0,0,noB,()),(b,c,d,e,f,g,h,0,0,noB,()),())))) else G else G else G else G else G else G else G else G
def vB:Ent:=(103,G,⟨[.fz .u8],[Z20,.bool],cV⟩)
def ade:y7 vB:=sk (v:=t1<|t1<|t1<|.join [(0,.sl .u8),(2,Z21),(4,Z21)] .nil .nil) (fn:=f103) agc kN
def aqE:Cx:=cX [FC] [] []
def aqZ:y9 aqE:=aG5<|gC FU<|AI
def XO(x:A1×D):Option ((Bool×D)×D):=(CA ((x.1.size:Int),1,60,())).bind λa=>I (a.1,())
def jx:Ent:=(197,G,⟨[.str],[.bool],XO⟩)
def y0:y7 jx:=sk (v:= .nil) (fn:=f197) aqZ kN
def aoV:Cx:=cX [SI] [] []
def apn:y9 aoV:=aG5<|gC VC<|AI
def Py(x:A1×D):Option ((A1×D)×D):=(JC ((x.1.size:Int),())).bind λa=>if U (a.1.1.size+(B [58]).size<=4611686018427387904) then if U ((a.1.1++(B [58])).size+x.1.size<=4611686018427387904) then if U (((a.1.1++(B [58]))++x.1).size+(B [59]).size<=4611686018427387904) then let b:=(((a.1.1++(B [58]))++x.1)++(B [59]));I ((b,()),()) else G else G else G
def jV:Ent:=(198,G,⟨[.str],[.str],Py⟩)
def vW:y7 jV:=sk (v:= .nil) (fn:=f198) apn kN
def ahT:Cx:=cX [SN,jx,jV] [] [(23,25)]
def yK:y9 ahT:=aG5<|gC V6<|gC y0<|gC vW<|AI
def Rt(x:Y4×Y4×A1×List A1×aG7):Rnd (Y4×Y4×A1×List A1×aG7) (Y4×Bool×D) (Y4×Y4×A1×D):=if U (x.2.2.2.2.2.1<x.2.2.2.2.1) then if inb x.2.2.2.2.2.1 x.2.2.2.1.length then let a:=(rd aHj x.2.2.2.1 x.2.2.2.2.2.1);(XO (a,())).bind λc=>if(!c.1.1)||(U<|2400<(x.2.2.1.size:Int)) then I (.inr<|.inl (x.1,A0,())) else(Py (a,())).bind λb=>if U (x.2.2.1.size+b.1.1.size<=4611686018427387904) then I (.inl (x.1,x.2.1,(x.2.2.1++b.1.1),x.2.2.2.1,x.2.2.2.2.1,(w64<|x.2.2.2.2.2.1+1),())) else G else G else I (.inr<|.inr (x.1,x.2.1,x.2.2.1,()))
def Rl:=AT Rt
def vD:Loop:=⟨[(2,Z22),(4,Z22),(6,.str),(13,.sl .str),(14,j6),(15,j6)],[(2,Z22),(4,Z22),(6,.str)],0,[(4,Z22),(5,.bool)],Rl⟩
def agv:LF f161 [] [1,1,1,0,1,0,0] vD:=sq (v:= .nil) yK (b:=Rt) kN
def S1(x:Y4×List A1×D):Option ((Y4×Bool×D)×D):=(O5 (x.1,())).bind λb=>if !b.1.1 then I (((noB,0,()),A0,()),()) else(AP (Rl (x.1,(noB,0,()),noB,x.2.1,(j8 x.2.1:Int),0,())) (λa=>I (a,())) λa=>(if U (2400<(a.2.2.1.size:Int)) then I ((a.1,A0,()),()) else I (((a.2.2.1,(a.2.2.1.size:Int),()),Y,()),())))
def tU:Ent:=(161,G,⟨[Z9,.fz .str],[Z9,.bool],S1⟩)
def acw:y7 tU:=sk (v:=t1<|t1<|t1<|.two (t1<|.one<|.loop vD) .nil) (fn:=f161) yK<|kC agv kN
def ahP:Cx:=cX [SI] [] []
def aj6:y9 ahP:=aG5<|gC VC<|AI
def Pg(x:A1×aHc):Option ((A1×D)×D):=if U (x.1.size+(B [32]).size<=4611686018427387904) then(JC (x.2.1,())).bind λa=>if U ((x.1++(B [32])).size+a.1.1.size<=4611686018427387904) then if U (((x.1++(B [32]))++a.1.1).size+(B [32]).size<=4611686018427387904) then(JC (x.2.2.1,())).bind λb=>if U ((((x.1++(B [32]))++a.1.1)++(B [32])).size+b.1.1.size<=4611686018427387904) then if U (((((x.1++(B [32]))++a.1.1)++(B [32]))++b.1.1).size+(B [32]).size<=4611686018427387904) then(JC x.2.2.2).bind λc=>if U ((((((x.1++(B [32]))++a.1.1)++(B [32]))++b.1.1)++(B [32])).size+c.1.1.size<=4611686018427387904) then let d:=((((((x.1++(B [32]))++a.1.1)++(B [32]))++b.1.1)++(B [32]))++c.1.1);I ((d,()),()) else G else G else G else G else G else G
def dt:Ent:=(155,G,⟨[.str,j6,j6,j6],[.str],Pg⟩)
def qc:y7 dt:=sk (v:= .nil) (fn:=f155) aj6 kN
def ais:Cx:=cX [bk,ja,dt,Vs,SI] [] []
def fJ:y9 ais:=aG5<|gC qM<|gC wW<|gC qc<|gC cI<|gC VC<|AI
def dm(x:List A1×List A3×aG7):Rnd (List A1×List A3×aG7) D (List A1×D):=if U (x.2.2.2.1<x.2.2.1) then if inb x.2.2.2.1 x.2.1.length then let pt:=(rd aG6 x.2.1 x.2.2.2.1).fr;let a:=(rd aG6 x.2.1 x.2.2.2.1).nu;let amg:=(rd aG6 x.2.1 x.2.2.2.1).to;let b:=(rd aG6 x.2.1 x.2.2.2.1).un;let amf:=(rd aG6 x.2.1 x.2.2.2.1).tx;(Ml ((pt,a,amg,b,amf,()),())).bind λqE=>if U ((B [105,110,98,111,120,32]).size+qE.1.1.size<=4611686018427387904) then if Ab (x.1.length+([((B [105,110,98,111,120,32])++qE.1.1)]:List A1).length) then I (.inl ((x.1++([((B [105,110,98,111,120,32])++qE.1.1)]:List A1)),x.2.1,x.2.2.1,(w64<|x.2.2.2.1+1),())) else G else G else G else I (.inr<|.inr (x.1,()))
def bj:=AT dm
def wT:Loop:=⟨[(3,.row 9 .str),(66,.sl .note),(67,j6),(68,j6)],[(3,.row 9 .str)],4,[],bj⟩
def aiL:LF f162 [] [1,1,1,1,1,1,1,0,1,0,0] wT:=sq (v:= .nil) fJ (b:=dm) kN
def dp(x:Y0×List A1×List A3×aG7):Rnd (Y0×List A1×List A3×aG7) D (Y0×List A1×D):=if U (x.2.2.2.2.1<x.2.2.2.1) then if inb x.2.2.2.2.1 x.2.2.1.length then let b:=(rd aG6 x.2.2.1 x.2.2.2.2.1).fr;let c:=(rd aG6 x.2.2.1 x.2.2.2.2.1).nu;let d:=(rd aG6 x.2.2.1 x.2.2.2.2.1).to;let e:=(rd aG6 x.2.2.1 x.2.2.2.2.1).un;let f:=(rd aG6 x.2.2.1 x.2.2.2.2.1).tx;(Ml ((b,c,d,e,f,()),())).bind λa=>if U ((B [104,101,108,100,32]).size+a.1.1.size<=4611686018427387904) then if Ab (x.2.1.length+([((B [104,101,108,100,32])++a.1.1)]:List A1).length) then I (.inl (x.1,(x.2.1++([((B [104,101,108,100,32])++a.1.1)]:List A1)),x.2.2.1,x.2.2.2.1,(w64<|x.2.2.2.2.1+1),())) else G else G else G else I (.inr<|.inr (x.1,x.2.1,()))
def cL:=AT dp
def wU:Loop:=⟨[(1,Z3),(3,.row 9 .str),(52,.sl .note),(53,j6),(54,j6)],[(1,Z3),(3,.row 9 .str)],2,[],cL⟩
def aiS:LF f162 [] [1,1,1,1,1,1,0,1,0,0] wU:=sq (v:= .nil) fJ (b:=dp) kN
def dq(x:Y0×List A1×List Mark×aG7):Rnd (Y0×List A1×List Mark×aG7) D (Y0×List A1×D):=if U (x.2.2.2.2.1<x.2.2.2.1) then if inb x.2.2.2.2.1 x.2.2.1.length then let b:=(rd aHg x.2.2.1 x.2.2.2.2.1).mf;let c:=(rd aHg x.2.2.1 x.2.2.2.2.1).mn;let d:=(rd aHg x.2.2.1 x.2.2.2.2.1).mu;(Pg ((B [109,97,114,107]),b,c,d,())).bind λa=>if Ab (x.2.1.length+([a.1.1]:List A1).length) then I (.inl (x.1,(x.2.1++([a.1.1]:List A1)),x.2.2.1,x.2.2.2.1,(w64<|x.2.2.2.2.1+1),())) else G else G else I (.inr<|.inr (x.1,x.2.1,()))
def cM:=AT dq
def wV:Loop:=⟨[(1,Z3),(3,.row 9 .str),(34,.sl .mark),(35,j6),(36,j6)],[(1,Z3),(3,.row 9 .str)],0,[],cM⟩
def ai5:LF f162 [] [1,1,1,1,1,0,1,0,0] wV:=sq (v:= .nil) fJ (b:=dq) kN
def W0(x:Y0×D):Option ((List A1×D)×D):=(Q0 x).bind λg=>if !g.1.1 then I ((([]:List A1),()),()) else(BU (X:=Y0×List A1×D) (λa=>(BU (X:=Y0×List A1×D) (λb=>(AP (cM (b.1,b.2.1,b.1.2.2.2.2.1,(j8 b.1.2.2.2.2.1:Int),0,())) (λ_=>G) λc=>(AP (cL (c.1,c.2.1,c.1.2.2.2.1,(j8 c.1.2.2.2.1:Int),0,())) (λ_=>G) λd=>(AP (bj (d.2.1,d.1.2.2.2.2.2.1,(j8 d.1.2.2.2.2.2.1:Int),0,())) (λ_=>G) λpj=>(Rk pj).bind λqD=>I (qD.1,())))))<|(if U (1<a.1.2.2.1) then(JC (a.1.2.2.1,())).bind λe=>if U ((B [110,101,120,116,32]).size+e.1.1.size<=4611686018427387904) then if Ab (a.2.1.length+([((B [110,101,120,116,32])++e.1.1)]:List A1).length) then I (.inr (a.1,(a.2.1++([((B [110,101,120,116,32])++e.1.1)]:List A1)),())) else G else G else I (.inr a))))<|(if U (0<x.1.2.1) then(JC (x.1.2.1,())).bind λf=>if U ((B [116,105,109,101,32]).size+f.1.1.size<=4611686018427387904) then if Ab ([((B [116,105,109,101,32])++f.1.1)]:List A1).length then I (.inr (x.1,([((B [116,105,109,101,32])++f.1.1)]:List A1),())) else G else G else I (.inr (x.1,([]:List A1),()))))
def uQ:Ent:=(162,G,⟨[Z4],[.row 9 .str],W0⟩)
def ur:y7 uQ:=sk (v:=t1<|t1<|t1<|.join [(1,Z3),(3,.row 9 .str)] .nil<|.join [(1,Z3),(3,.row 9 .str)] .nil<|.two (t1<|.one<|.loop wV)<|.two (t1<|.one<|.loop wU)<|.two (t1<|.one<|.loop wT) .nil) (fn:=f162) fJ<|kC ai5<|kC aiS<|kC aiL kN
def ain:Cx:=cX [SN,jx,jV] [] [(14,21)]
def akv:y9 ain:=aG5<|gC V6<|gC y0<|gC vW<|AI
def SB(x:Y4×A1×D):Option ((Y4×Bool×D)×D):=(O5 (x.1,())).bind λc=>if !c.1.1 then I (((noB,0,()),A0,()),()) else(XO x.2).bind λa=>if Ak (!(!a.1.1)) ((Py x.2).isSome) then if(!a.1.1)||(U<|2400<(w64<|(x.1.1.size:Int)+((((Py x.2).getD ((noB,()),())).1.1).size:Int))) then I ((x.1,A0,()),()) else(Py x.2).bind λb=>if U (x.1.1.size+b.1.1.size<=4611686018427387904) then I ((((x.1.1++b.1.1),x.1.2),Y,()),()) else G else G
def zW:Ent:=(193,G,⟨[Z9,.str],[Z9,.bool],SB⟩)
def aev:y7 zW:=sk (v:= .nil) (fn:=f193) akv kN
def aqV:Cx:=cX [gS,jb,tU,uQ,zW] [] []
def arA:y9 aqV:=aG5<|gC rT<|gC wX<|gC acw<|gC ur<|gC aev<|AI
def OF(x:Y3×A1×D):Option ((Y3×Bool×D)×D):=(Lk (x.1.1,x.1.2.2.1,())).bind λb=>(SX (b.1.1,x.2)).bind λe=>if !e.1.2.1 then I ((x.1,A0,()),()) else(SB ((x.1.2.2.1,x.1.2.2.2.1,()),x.2)).bind λc=>(BU (X:=Y3×Y3×Y4×Bool×D) (λa=>if !a.2.2.2.1 then I ((a.1,A0,()),()) else I (((a.1.1,a.1.2.1,a.2.2.1.1,a.2.2.1.2.1,a.1.2.2.2.2),Y,()),()))<|(if !c.1.2.1 then(W0 (b.1.1,())).bind λf=>(S1 ((x.1.2.2.1,x.1.2.2.2.1,()),f.1)).bind λd=>if !d.1.2.1 then I (.inl ((x.1,A0,()),())) else(SB (d.1.1,x.2)).bind λg=>I (.inr (x.1,(0,A0,noB,0,([]:List AD),()),g.1)) else I (.inr (x.1,(0,A0,noB,0,([]:List AD),()),c.1))))
def Xe:Ent:=(154,G,⟨[Z8,.str],[Z8,.bool],OF⟩)
def uF:y7 Xe:=sk (v:=t1<|t1<|t1<|t1<|.join [(2,Z13),(4,Z16),(10,Z22),(11,.bool)] .nil .nil) (fn:=f154) arA kN
def afS:Cx:=cX [SN] [] []
def ahv:y9 afS:=aG5<|gC V6<|AI
def dQ(x:Y4×D):Option ((Y4×D)×D):=(O5 x).bind λa=>if !a.1.1 then I (((noB,0,()),()),()) else I (((x.1.1,(x.1.1.size:Int),()),()),())
def wc:Ent:=(199,G,⟨[Z9],[Z9],dQ⟩)
def ady:y7 wc:=sk (v:= .nil) (fn:=f199) ahv kN
def aoe:Cx:=cX [wc] [] []
def apr:y9 aoe:=aG5<|gC ady<|AI
def OA(x:Y3×D):Option ((Y3×D)×D):=(dQ ((x.1.2.2.1,x.1.2.2.2.1,()),())).bind λa=>I (((x.1.1,x.1.2.1,a.1.1.1,a.1.1.2.1,x.1.2.2.2.2),()),())
def iB:Ent:=(163,G,⟨[Z8],[Z8],OA⟩)
def sy:y7 iB:=sk (v:= .nil) (fn:=f163) apr kN
def ao2:Cx:=cX [] [] []
def apR:y9 ao2:=aG5<|AI
def gy(x:Int×Y8×D):Option ((List Frame×D)×D):=I ((([(Frame.mk x.1 x.2.1.2.2.1 x.2.1.2.1 x.2.1.2.2.2.1 x.2.1.2.2.2.2.1 x.2.1.2.2.2.2.2.1 x.2.1.2.2.2.2.2.2.1 0 0 noB)]:List Frame),()),())
def aBQ:Ent:=(190,G,⟨[j6,Z20],[.row 135 .frame],gy⟩)
def ah6:y7 aBQ:=sk (v:= .nil) (fn:=f190) apR kN
def aqW:Cx:=cX [] [(28,28)] []
def aC6:y9 aqW:=aG5<|AI
def XP(x:Y5×List AQ×List AQ×aG7):Rnd (Y5×List AQ×List AQ×aG7) D (Y5×List AQ×D):=if U (x.2.2.2.2.1<x.2.2.2.1) then if inb x.2.2.2.2.1 x.2.2.1.length then let a:=(rd aHl x.2.2.1 x.2.2.2.2.1).nu;let b:=(rd aHl x.2.2.1 x.2.2.2.2.1).da;if !decide (a=x.1.1) then if Ab (x.2.1.length+([(AQ.mk a b)]:List AQ).length) then I (.inl (x.1,(x.2.1++([(AQ.mk a b)]:List AQ)),x.2.2.1,x.2.2.2.1,(w64<|x.2.2.2.2.1+1),())) else G else I (.inl (x.1,x.2.1,x.2.2.1,x.2.2.2.1,(w64<|x.2.2.2.2.1+1),())) else G else I (.inr<|.inr (x.1,x.2.1,()))
def ez:=AT XP
def aB6:Loop:=⟨[(3,Z33),(5,.row 119 .mixed),(8,.sl .mixed),(9,j6),(10,j6)],[(3,Z33),(5,.row 119 .mixed)],0,[],ez⟩
def aqg:LF f191 [] [1,1,0,1,0,0] aB6:=sq (v:= .nil) aC6 (b:=XP) kN
def Xb(x:List AQ×Y5×D):Option ((List AQ×D)×D):=(AP (ez (x.2.1,([]:List AQ),x.1,(j8 x.1:Int),0,())) (λ_=>G) λa=>(if U (14<=(j8 a.2.1:Int)) then if U (0<=1)&&U (1<=(j8 a.2.1:Int)) then if Ab ((Bp (AJ 1) a.2.1).length+([(AQ.mk a.1.1 a.1.2.1)]:List AQ).length) then I ((((Bp (AJ 1) a.2.1)++([(AQ.mk a.1.1 a.1.2.1)]:List AQ)),()),()) else G else G else if Ab (a.2.1.length+([(AQ.mk a.1.1 a.1.2.1)]:List AQ).length) then I (((a.2.1++([(AQ.mk a.1.1 a.1.2.1)]:List AQ)),()),()) else G))
def aCT:Ent:=(191,G,⟨[.fz .mixed,Z10],[.row 119 .mixed],Xb⟩)
def ak6:y7 aCT:=sk (v:=t1<|t1<|.two (t1<|.one<|.loop aB6) .nil) (fn:=f191) aC6<|kC aqg kN
def aqH:Cx:=cX [FC] [] [(8,9)]
def aqb:y9 aqH:=aG5<|gC FU<|AI
def X7(x:aG7):Option ((Bool×D)×D):=(CA (x.1,1,6,())).bind λa=>if Ak a.1.1 ((CA (x.2.1,0,999,())).isSome) then let b:=(a.1.1&&(((CA (x.2.1,0,999,())).getD ((A0,()),())).1.1));I ((b,()),()) else G
def jy:Ent:=(222,G,⟨[j6,j6],[.bool],X7⟩)
def yA:y7 jy:=sk (v:= .nil) (fn:=f222) aqb kN
def aio:Cx:=cX [FC] [] []
def akw:y9 aio:=aG5<|gC FU<|AI
def Pp(x:v7):Option ((v7)×D):=(CA (x.1,0,65535,())).bind λa=>if !a.1.1 then I ((0,()),()) else let b:=(BJ (w64<|(w64<|25173 * x.1)+13849) 65536);I ((b,()),())
def uP:Ent:=(223,G,⟨[j6],[j6],Pp⟩)
def uq:y7 uP:=sk (v:= .nil) (fn:=f223) akw kN
def ahX:Cx:=cX [jy,uP] [] []
def ta:y9 ahX:=aG5<|gC yA<|gC uq<|AI
def wO(x:Int×List Int×aHc):Rnd (Int×List Int×aHc) (v7) (v7):=if U (x.2.2.2.2.1<=x.1) then if inb x.2.2.2.2.1 x.2.1.length then let a:=(w64<|x.2.2.2.1+(rd aHb x.2.1 x.2.2.2.2.1));(if U (x.2.2.1<a) then I (.inr<|.inl x.2.2.2.2) else I (.inl (x.1,x.2.1,x.2.2.1,a,(w64<|x.2.2.2.2.1+1),()))) else G else I (.inr<|.inr (x.1,()))
def cJ:=AT wO
def vF:Loop:=⟨[(0,j6),(5,.row 3 .int),(8,j6),(9,j6),(10,j6)],[(0,j6)],2,[(4,j6)],cJ⟩
def agm:LF f224 [] [1,1,1,1,1,1,1,1,0,1,0,0] vF:=sq (v:= .nil) ta (b:=wO) kN
def wP(x:Int×Int×List Int×aG7):Rnd (Int×Int×List Int×aG7) D (Int×Int×List Int×v7):=if U (x.2.2.2.2.1<=x.1) then if !decide ((w64<|x.2.2.2.2.1 * (w64<|x.2.2.2.2.1 - 1))=0) then if Ab (x.2.2.1.length+([(w64<|Ay 60<|w64<|x.2.2.2.2.1 * (w64<|x.2.2.2.2.1 - 1))]:List Int).length) then if inb x.2.2.2.2.1 ((x.2.2.1++([(w64<|Ay 60<|w64<|x.2.2.2.2.1 * (w64<|x.2.2.2.2.1 - 1))]:List Int)).length) then let a:=(w64<|x.2.2.2.1+(rd aHb (x.2.2.1++([(w64<|Ay 60<|w64<|x.2.2.2.2.1 * (w64<|x.2.2.2.2.1 - 1))]:List Int)) x.2.2.2.2.1));I (.inl (x.1,x.2.1,(x.2.2.1++([(w64<|Ay 60<|w64<|x.2.2.2.2.1 * (w64<|x.2.2.2.2.1 - 1))]:List Int)),a,(w64<|x.2.2.2.2.1+1),())) else G else G else G else I (.inr<|.inr (x.1,x.2.1,x.2.2.1,x.2.2.2.1,()))
def cK:=AT wP
def vG:Loop:=⟨[(0,j6),(1,j6),(5,.row 3 .int),(6,j6),(7,j6)],[(0,j6),(1,j6),(5,.row 3 .int),(6,j6)],0,[],cK⟩
def agx:LF f224 [] [1,1,1,1,1,0,1,0,0] vG:=sq (v:= .nil) ta (b:=wP) kN
def di(x:aG7):Option ((v7)×D):=(X7 x).bind λc=>if !c.1.1 then I ((0,()),()) else if U (x.2.1<x.1) then I ((1,()),()) else if !decide (x.1=0) then if inb 1 (([0,(w64<|(w64<|Ay 60 x.1)+10)]:List Int).length) then let d:=(rd aHb ([0,(w64<|(w64<|Ay 60 x.1)+10)]:List Int) 1);(AP (cK (x.1,x.2.1,([0,(w64<|(w64<|Ay 60 x.1)+10)]:List Int),d,2,())) (λ_=>G) (λa=>(Pp ((w64<|(w64<|31 * a.2.1)+a.1),())).bind λe=>(Pp e.1).bind λf=>if !decide (a.2.2.2.1=0) then let g:=(BJ (w64<|Ay f.1.1 16) a.2.2.2.1);(AP (cJ (a.1,a.2.2.1,g,0,1,())) (λb=>I (b,())) λb=>I (b,())) else G)) else G else G
def xt:Ent:=(224,G,⟨[j6,j6],[j6],di⟩)
def aeB:y7 xt:=sk (v:=t1<|t1<|t1<|t1<|t1<|.two (t1<|.one<|.loop vG)<|t1<|t1<|.two (t1<|.one<|.loop vF) .nil) (fn:=f224) ta<|kC agx<|kC agm kN
def afR:Cx:=cX [] [] []
def ahu:y9 afR:=aG5<|AI
def sV(x:List Int×D):Option ((List Int×D)×D):=if U ((j8 x.1:Int)=0) then I ((([]:List Int),()),()) else if U (0<=(j8 x.1:Int))&&U ((j8 x.1:Int)<=4294967296) then I (((BV (BZ (AJ (j8 x.1:Int))<|dfl .int).length x.1++Bp x.1.length (BZ (AJ (j8 x.1:Int))<|dfl .int)),()),()) else G
def wb:Ent:=(225,G,⟨[.fz .int],[.row 3 .int],sV⟩)
def adx:y7 wb:=sk (v:= .nil) (fn:=f225) ahu kN
def apa:Cx:=cX [jy,uP,xt,wb] [] []
def XH:y9 apa:=aG5<|gC yA<|gC uq<|gC aeB<|gC adx<|AI
def Wj(x:Int×List Bool×aHc):Rnd (Int×List Bool×aHc) D (Int×List Bool×aHc):=if inb x.2.2.2.2.1 x.2.1.length then if rd aHm x.2.1 x.2.2.2.2.1 then if !decide (x.1=0) then let a:=(BJ (w64<|x.2.2.2.2.1+1) x.1);I (.inl (x.1,x.2.1,x.2.2.1,x.2.2.2.1,a,())) else G else I (.inr<|.inr x) else G
def dh:=AT Wj
def zw:Loop:=⟨[(0,j6),(5,.abx 215 .bool),(6,j6),(7,j6),(8,j6)],[(0,j6),(5,.abx 215 .bool),(6,j6),(7,j6),(8,j6)],2,[],dh⟩
def aog:LF f195 [] [1,1,1,1,1,0,1,0,0,1,0,0,1,1,0,0,0] zw:=sq (v:= .nil) XH (b:=Wj) kN
def iy(x:List Int×List Bool×v7):Rnd (List Int×List Bool×v7) D (List Int×D):=if U (x.2.2.1<6) then if inb x.2.2.1 x.2.1.length&&inb x.2.2.1 6 then let a:=(rd aHm x.2.1 x.2.2.1);(if a then if Ab (x.1.length+([x.2.2.1]:List Int).length) then I (.inl ((x.1++([x.2.2.1]:List Int)),x.2.1,(w64<|x.2.2.1+1),())) else G else I (.inl (x.1,x.2.1,(w64<|x.2.2.1+1),()))) else G else I (.inr<|.inr (x.1,()))
def th:=AT iy
def zv:Loop:=⟨[(9,.row 3 .int),(47,.arr .bool),(48,j6)],[(9,.row 3 .int)],4,[],th⟩
def apD:LF f195 [] [1,1,1,1,1,1,1,0,1,0,0] zv:=sq (v:= .nil) XH (b:=iy) kN
def jM(x:Int×List Bool×aG7):Rnd (Int×List Bool×aG7) D (List Bool×D):=if U (0<x.2.2.2.1) then(Pp (x.2.2.1,())).bind λb=>if !decide (x.1=0) then let c:=(BJ (w64<|Ay b.1.1 16) x.1);(AP (dh (x.1,x.2.1,b.1.1,x.2.2.2.1,c,())) (λ_=>I<|.inr<|.inl ()) λa=>(if inb a.2.2.2.2.1 a.2.1.length then I (.inl (a.1,(Bq a.2.1 (AJ a.2.2.2.2.1) Y),a.2.2.1,(w64<|a.2.2.2.1 - 1),())) else G)) else G else I (.inr<|.inr (x.2.1,()))
def tj:=AT jM
def zx:Loop:=⟨[(0,j6),(5,.abx 215 .bool),(6,j6),(7,j6)],[(5,.abx 215 .bool)],0,[],tj⟩
def aon:LF f195 [] [1,1,1,1,1,0,1,0,0] zx:=sq (v:=t1<|.two (.one<|t1<|t1<|.two (.one<|.loop zw) .nil) .nil) XH (b:=jM)<|kC aog kN
def X4(x:aG7):Option ((List Int×D)×D):=(X7 x).bind λa=>if !a.1.1 then I ((([]:List Int),()),()) else if U (x.2.1<x.1) then I ((([x.2.1]:List Int),()),()) else(Pp ((w64<|(w64<|7 * x.2.1)+1),())).bind λb=>(di x).bind λc=>(AP (tj (x.1,(BZ 6<|dfl .bool),b.1.1,c.1)) (λ_=>G) λd=>(AP (th (([]:List Int),d.1,0,())) (λ_=>G) λe=>(sV e).bind λf=>I (f.1,())))
def jz:Ent:=(195,G,⟨[j6,j6],[.row 3 .int],X4⟩)
def xc:y7 jz:=sk (v:=t1<|t1<|t1<|t1<|t1<|.two (t1<|.one<|.loop zx)<|t1<|.two (t1<|.one<|.loop zv) .nil) (fn:=f195) XH<|kC aon<|kC apD kN
def aqD:Cx:=cX [] [] []
def aC1:y9 aqD:=aG5<|AI
def aB2(x:A1×List Int×aG7):Rnd (A1×List Int×aG7) D (List Int×D):=if U (x.2.2.2.1<x.2.2.1) then if inb x.2.2.2.1 x.2.1.length then if inb x.2.2.2.1 x.1.size then if inb x.2.2.2.1 x.2.1.length then let a:=(Ds .u8 (rd aHh x.2.1 x.2.2.2.1)<|bt x.1 x.2.2.2.1);I (.inl (x.1,(Bq x.2.1 (AJ x.2.2.2.1) a),x.2.2.1,(w64<|x.2.2.2.1+1),())) else G else G else G else I (.inr<|.inr (x.2.1,()))
def tb:=AT aB2
def zm:Loop:=⟨[(1,.str),(5,.Cj 5 .u8),(10,j6),(11,j6)],[(5,.Cj 5 .u8)],0,[],tb⟩
def aok:LF f196 [] [1,1,0,1,0,0] zm:=sq (v:= .nil) aC1 (b:=aB2) kN
def Wz(x:A1×A1×D):Option ((A1×D)×D):=if Ab x.1.size then(AP (tb (x.2.1,(B9 x.1),((B9 x.1).length:Int),0,())) (λ_=>G) λa=>I (((BF a.1),()),())) else G
def jh:Ent:=(196,G,⟨[.str,.str],[.str],Wz⟩)
def xz:y7 jh:=sk (v:=t1<|t1<|.two (t1<|.one<|.loop zm) .nil) (fn:=f196) aC1<|kC aok kN
def alM:Cx:=cX [FC,jz,jh] [] [(31,34)]
def gX:y9 alM:=aG5<|gC FU<|gC xc<|gC xz<|AI
def Vy(x:Int×List AQ×List A1×Bool×A1×Int×Int×List AQ×Int×Int×List Int×aG7):Rnd (Int×List AQ×List A1×Bool×A1×Int×Int×List AQ×Int×Int×List Int×aG7) D (Int×List AQ×List A1×Bool×A1×Int×Int×List AQ×aG7):=if U (x.2.2.2.2.2.2.2.2.2.2.2.2.1<x.2.2.2.2.2.2.2.2.2.2.2.1) then if inb x.2.2.2.2.2.2.2.2.2.2.2.2.1 x.2.2.2.2.2.2.2.2.2.2.1.length then let Ur:=(rd aHb x.2.2.2.2.2.2.2.2.2.2.1 x.2.2.2.2.2.2.2.2.2.2.2.2.1);(if inb Ur x.2.2.1.length then if U ((rd aHj x.2.2.1 Ur)=noB) then let amb:=(w64<|x.2.2.2.2.2.2.1+1);I (.inl (x.1,x.2.1,x.2.2.1,x.2.2.2.1,x.2.2.2.2.1,Ur,amb,x.2.2.2.2.2.2.2.1,x.2.2.2.2.2.2.2.2.1,x.2.2.2.2.2.2.2.2.2.1,x.2.2.2.2.2.2.2.2.2.2.1,x.2.2.2.2.2.2.2.2.2.2.2.1,(w64<|x.2.2.2.2.2.2.2.2.2.2.2.2.1+1),())) else if inb Ur x.2.2.1.length then(Wz (x.2.2.2.2.1,(rd aHj x.2.2.1 Ur),())).bind λamH=>I (.inl (x.1,x.2.1,x.2.2.1,x.2.2.2.1,amH.1.1,x.2.2.2.2.2.1,x.2.2.2.2.2.2.1,x.2.2.2.2.2.2.2.1,x.2.2.2.2.2.2.2.2.1,x.2.2.2.2.2.2.2.2.2.1,x.2.2.2.2.2.2.2.2.2.2.1,x.2.2.2.2.2.2.2.2.2.2.2.1,(w64<|x.2.2.2.2.2.2.2.2.2.2.2.2.1+1),())) else G else G) else G else I (.inr<|.inr (x.1,x.2.1,x.2.2.1,x.2.2.2.1,x.2.2.2.2.1,x.2.2.2.2.2.1,x.2.2.2.2.2.2.1,x.2.2.2.2.2.2.2.1,x.2.2.2.2.2.2.2.2.1,x.2.2.2.2.2.2.2.2.2.1,()))
def cU:=AT Vy
def xZ:Loop:=⟨[(0,j6),(1,.sl .mixed),(5,.row 9 .str),(6,.bool),(9,.str),(10,j6),(11,j6),(20,.sl .mixed),(21,j6),(22,j6),(41,.row 3 .int),(42,j6),(43,j6)],[(0,j6),(1,.sl .mixed),(5,.row 9 .str),(6,.bool),(9,.str),(10,j6),(11,j6),(20,.sl .mixed),(21,j6),(22,j6)],4,[],cU⟩
def aja:LF f220 [] [1,1,1,0,1,0,0,1,0,1,1,0,0,1,1,0,0,1,1,1,0,1,0,0] xZ:=sq (v:= .nil) gX (b:=Vy) kN
def O1(x:Int×List AQ×List A1×Bool×List AQ×aG7):Rnd (Int×List AQ×List A1×Bool×List AQ×aG7) D (Int×List AQ×List A1×Bool×D):=if U (x.2.2.2.2.2.2.1<x.2.2.2.2.2.1) then if inb x.2.2.2.2.2.2.1 x.2.2.2.2.1.length then let acO:=(rd aHl x.2.2.2.2.1 x.2.2.2.2.2.2.1).nu;let a:=(rd aHl x.2.2.2.2.1 x.2.2.2.2.2.2.1).da;(CA (acO,0,999,())).bind λamJ=>if(!amJ.1.1)||(!decide ((a.size:Int)=4)) then I (.inl (x.1,x.2.1,x.2.2.1,x.2.2.2.1,x.2.2.2.2.1,x.2.2.2.2.2.1,(w64<|x.2.2.2.2.2.2.1+1),())) else(X4 (x.1,acO,())).bind λacU=>(AP (cU (x.1,x.2.1,x.2.2.1,x.2.2.2.1,a,(-1),0,x.2.2.2.2.1,x.2.2.2.2.2.1,x.2.2.2.2.2.2.1,acU.1.1,(j8 acU.1.1:Int),0,())) (λ_=>I<|.inr<|.inl ()) λGQ=>(if U (GQ.2.2.2.2.2.2.1=1) then if inb GQ.2.2.2.2.2.1 GQ.2.2.1.length then I (.inl (GQ.1,GQ.2.1,(Bq GQ.2.2.1 (AJ GQ.2.2.2.2.2.1) GQ.2.2.2.2.1),Y,GQ.2.2.2.2.2.2.2.1,GQ.2.2.2.2.2.2.2.2.1,(w64<|GQ.2.2.2.2.2.2.2.2.2.1+1),())) else G else I (.inl (GQ.1,GQ.2.1,GQ.2.2.1,GQ.2.2.2.1,GQ.2.2.2.2.2.2.2.1,GQ.2.2.2.2.2.2.2.2.1,(w64<|GQ.2.2.2.2.2.2.2.2.2.1+1),())))) else G else I (.inr<|.inr (x.1,x.2.1,x.2.2.1,x.2.2.2.1,()))
def V7:=AT O1
def xa:Loop:=⟨[(0,j6),(1,.sl .mixed),(5,.row 9 .str),(6,.bool),(20,.sl .mixed),(21,j6),(22,j6)],[(0,j6),(1,.sl .mixed),(5,.row 9 .str),(6,.bool)],2,[],V7⟩
def akO:LF f220 [] [1,1,1,0,1,0,0,1,0,1,1,0,0] xa:=sq (v:=t1<|t1<|.two (.one<|t1<|t1<|t1<|.two (t1<|.one<|.loop xZ) .nil) .nil) gX (b:=O1)<|kC aja kN
def uI(x:Int×List AQ×List A1×Bool×D):Rnd (Int×List AQ×List A1×Bool×D) D (List A1×D):=if x.2.2.2.1 then(AP (V7 (x.1,x.2.1,x.2.2.1,A0,x.2.1,(j8 x.2.1:Int),0,())) (λ_=>I<|.inr<|.inl ()) λamV=>I<|.inl amV) else I (.inr<|.inr (x.2.2.1,()))
def rr:=AT uI
def xb:Loop:=⟨[(0,j6),(1,.sl .mixed),(5,.row 9 .str),(6,.bool)],[(5,.row 9 .str)],0,[],rr⟩
def ak4:LF f220 [] [1,1,1,0,1,0,0] xb:=sq (v:=t1<|.one<|t1<|t1<|.one<|.loop xa) gX (b:=uI)<|kC akO kN
def gA(x:Int×List AQ×D):Option ((List A1×D)×D):=(CA (x.1,1,6,())).bind λa=>if !a.1.1 then I ((([]:List A1),()),()) else if U (0<=x.1)&&U (x.1<=4294967296) then(AP (rr (x.1,x.2.1,(BZ (AJ x.1)<|dfl .str),Y,())) (λ_=>G) λamU=>I (amU,())) else G
def aAD:Ent:=(220,G,⟨[j6,.fz .mixed],[.row 9 .str],gA⟩)
def afh:y7 aAD:=sk (v:=t1<|t1<|t1<|.two (t1<|.one<|.loop xb) .nil) (fn:=f220) gX<|kC ak4 kN
def alL:Cx:=cX [FC,aAD] [] []
def ij:y9 alL:=aG5<|gC FU<|gC afh<|AI
def fE(x:Int×A1×v7):Rnd (Int×A1×v7) (A1×Bool×D) (Int×A1×D):=if U (x.2.2.1<(x.2.1.size:Int)) then if inb x.2.2.1 x.2.1.size then if !decide ((bt x.2.1 x.2.2.1)=0) then I (.inr<|.inl (noB,A0,())) else I (.inl (x.1,x.2.1,(w64<|x.2.2.1+1),())) else G else I (.inr<|.inr (x.1,x.2.1,()))
def rq:=AT fE
def yI:Loop:=⟨[(0,j6),(6,.str),(9,j6)],[(0,j6),(6,.str)],2,[(4,.str),(5,.bool)],rq⟩
def akN:LF f192 [] [1,1,1,1,0,1,0,0] yI:=sq (v:= .nil) ij (b:=fE) kN
def Vw(x:Int×A1×List A1×aG7):Rnd (Int×A1×List A1×aG7) (A1×Bool×D) (Int×A1×D):=if U (x.2.2.2.2.1<x.2.2.2.1) then if inb x.2.2.2.2.1 x.2.2.1.length then let a:=(rd aHj x.2.2.1 x.2.2.2.2.1);(if U (a=noB) then I (.inr<|.inl (noB,A0,())) else if U (x.2.1.size+a.size<=4611686018427387904) then I (.inl (x.1,(x.2.1++a),x.2.2.1,x.2.2.2.1,(w64<|x.2.2.2.2.1+1),())) else G) else G else I (.inr<|.inr (x.1,x.2.1,()))
def cT:=AT Vw
def xY:Loop:=⟨[(0,j6),(6,.str),(18,.row 9 .str),(19,j6),(20,j6)],[(0,j6),(6,.str)],0,[(4,.str),(5,.bool)],cT⟩
def ak3:LF f192 [] [1,1,1,0,1,0,0] xY:=sq (v:= .nil) ij (b:=Vw) kN
def fy(x:Int×List AQ×D):Option ((A1×Bool×D)×D):=(CA (x.1,1,24,())).bind λd=>if !d.1.1 then I ((noB,A0,()),()) else(gA ((w64<|Ay (w64<|(w64<|x.1+4) - 1) 4),x.2)).bind λc=>(AP (cT (x.1,noB,c.1.1,(j8 c.1.1:Int),0,())) (λb=>I (b,())) λb=>(AP (rq (b.1,b.2.1,b.1,())) (λa=>I (a,())) λa=>(if U (0<=a.1)&&U (a.1<=(a.2.1.size:Int)) then let e:=(a.2.1.extract (0)<|AJ a.1);I ((e,Y,()),()) else G)))
def aAC:Ent:=(192,G,⟨[j6,.fz .mixed],[.str,.bool],fy⟩)
def afg:y7 aAC:=sk (v:=t1<|t1<|t1<|.two (t1<|.one<|.loop xY)<|.two (t1<|.one<|.loop yI) .nil) (fn:=f192) ij<|kC ak3<|kC akN kN
def ahQ:Cx:=cX [Ka,jY,OC,Xe,Vs,iB,Wp,aBQ,aCT,aAC] [(85,85)] [(34,41)]
def aid:y9 ahQ:=aG5<|gC Ld<|gC va<|gC Pd<|gC uF<|gC cI<|gC sy<|gC dN<|gC ah6<|gC ak6<|gC afg<|AI
def Vh(x:Y3×Y8×D):Option ((Y3×List Frame×D)×D):=(Gn (x.1,())).bind λc=>let i:=(U<|x.2.1.2.2.2.2.2.2.1<=c.1.1.2.1);(if i then(gy (3,x.2)).bind λj=>I ((x.1,j.1),()) else(IW (c.1.1.2.2.2.1,x.2.1.2.2.2.1,x.2.1.2.2.2.2.1,())).bind λd=>if Ak (!(U<|0<=d.1.1)) ((Kj (c.1.1.2.2.2.2.1,x.2.1.2.2.2.1,x.2.1.2.2.2.2.1,())).isSome) then let k:=((U<|0<=d.1.1)||(U<|0<=((Kj (c.1.1.2.2.2.2.1,x.2.1.2.2.2.1,x.2.1.2.2.2.2.1,())).getD ((0,()),())).1.1));(if k then(OA (x.1,())).bind λl=>(gy (2,x.2)).bind λm=>I ((l.1.1,m.1),()) else let n:=(U<|x.2.1.2.2.2.1=x.1.1);(if n then I ((x.1,([]:List Frame),()),()) else(SU (x.1.2.2.2.2.1,x.2.1.2.2.2.1,x.2.1.2.2.2.2.1,())).bind λe=>(BU (X:=Y3×Y8×Y3×v7) (λa=>if inb a.2.2.2.1 a.1.2.2.2.2.1.length then if !decide ((rd aHa a.1.2.2.2.2.1 a.2.2.2.1).to=a.2.1.2.2.2.2.2.1) then I ((a.1,([]:List Frame),()),()) else if !decide ((rd aHa a.1.2.2.2.2.1 a.2.2.2.1).un=a.2.1.2.2.2.2.2.2.1) then I ((a.1,([]:List Frame),()),()) else if !decide ((rd aHa a.1.2.2.2.2.1 a.2.2.2.1).sz=a.2.1.2.2.2.2.2.2.2.1) then I ((a.1,([]:List Frame),()),()) else(Xb ((rd aHa a.1.2.2.2.2.1 a.2.2.2.1).got,a.2.1.2.2.2.2.2.2.2.2,())).bind λb=>(fy ((rd aHa (Bq a.1.2.2.2.2.1 (AJ a.2.2.2.1)<|AD.mk ((rd aHa a.1.2.2.2.2.1 a.2.2.2.1).fr) ((rd aHa a.1.2.2.2.2.1 a.2.2.2.1).nu) ((rd aHa a.1.2.2.2.2.1 a.2.2.2.1).to) ((rd aHa a.1.2.2.2.2.1 a.2.2.2.1).un) ((rd aHa a.1.2.2.2.2.1 a.2.2.2.1).sz) b.1.1) a.2.2.2.1).sz,(rd aHa (Bq a.1.2.2.2.2.1 (AJ a.2.2.2.1)<|AD.mk ((rd aHa a.1.2.2.2.2.1 a.2.2.2.1).fr) ((rd aHa a.1.2.2.2.2.1 a.2.2.2.1).nu) ((rd aHa a.1.2.2.2.2.1 a.2.2.2.1).to) ((rd aHa a.1.2.2.2.2.1 a.2.2.2.1).un) ((rd aHa a.1.2.2.2.2.1 a.2.2.2.1).sz) b.1.1) a.2.2.2.1).got,())).bind λf=>if !f.1.2.1 then I (((a.1.1,a.1.2.1,a.1.2.2.1,a.1.2.2.2.1,(Bq a.1.2.2.2.2.1 (AJ a.2.2.2.1)<|AD.mk ((rd aHa a.1.2.2.2.2.1 a.2.2.2.1).fr) ((rd aHa a.1.2.2.2.2.1 a.2.2.2.1).nu) ((rd aHa a.1.2.2.2.2.1 a.2.2.2.1).to) ((rd aHa a.1.2.2.2.2.1 a.2.2.2.1).un) ((rd aHa a.1.2.2.2.2.1 a.2.2.2.1).sz) b.1.1),()),([]:List Frame),()),()) else if U (0<=a.2.2.2.1)&&U (a.2.2.2.1<=((Bq a.1.2.2.2.2.1 (AJ a.2.2.2.1)<|AD.mk ((rd aHa a.1.2.2.2.2.1 a.2.2.2.1).fr) ((rd aHa a.1.2.2.2.2.1 a.2.2.2.1).nu) ((rd aHa a.1.2.2.2.2.1 a.2.2.2.1).to) ((rd aHa a.1.2.2.2.2.1 a.2.2.2.1).un) ((rd aHa a.1.2.2.2.2.1 a.2.2.2.1).sz) b.1.1).length:Int)) then if Ab (([]:List AD).length+(BV (AJ a.2.2.2.1)<|Bq a.1.2.2.2.2.1 (AJ a.2.2.2.1)<|AD.mk ((rd aHa a.1.2.2.2.2.1 a.2.2.2.1).fr) ((rd aHa a.1.2.2.2.2.1 a.2.2.2.1).nu) ((rd aHa a.1.2.2.2.2.1 a.2.2.2.1).to) ((rd aHa a.1.2.2.2.2.1 a.2.2.2.1).un) ((rd aHa a.1.2.2.2.2.1 a.2.2.2.1).sz) b.1.1).length) then if U (0<=(w64<|a.2.2.2.1+1))&&U ((w64<|a.2.2.2.1+1)<=((Bq a.1.2.2.2.2.1 (AJ a.2.2.2.1)<|AD.mk ((rd aHa a.1.2.2.2.2.1 a.2.2.2.1).fr) ((rd aHa a.1.2.2.2.2.1 a.2.2.2.1).nu) ((rd aHa a.1.2.2.2.2.1 a.2.2.2.1).to) ((rd aHa a.1.2.2.2.2.1 a.2.2.2.1).un) ((rd aHa a.1.2.2.2.2.1 a.2.2.2.1).sz) b.1.1).length:Int)) then if Ab ((([]:List AD)++(BV (AJ a.2.2.2.1)<|Bq a.1.2.2.2.2.1 (AJ a.2.2.2.1)<|AD.mk ((rd aHa a.1.2.2.2.2.1 a.2.2.2.1).fr) ((rd aHa a.1.2.2.2.2.1 a.2.2.2.1).nu) ((rd aHa a.1.2.2.2.2.1 a.2.2.2.1).to) ((rd aHa a.1.2.2.2.2.1 a.2.2.2.1).un) ((rd aHa a.1.2.2.2.2.1 a.2.2.2.1).sz) b.1.1)).length+(Bp (AJ<|w64<|a.2.2.2.1+1)<|Bq a.1.2.2.2.2.1 (AJ a.2.2.2.1)<|AD.mk ((rd aHa a.1.2.2.2.2.1 a.2.2.2.1).fr) ((rd aHa a.1.2.2.2.2.1 a.2.2.2.1).nu) ((rd aHa a.1.2.2.2.2.1 a.2.2.2.1).to) ((rd aHa a.1.2.2.2.2.1 a.2.2.2.1).un) ((rd aHa a.1.2.2.2.2.1 a.2.2.2.1).sz) b.1.1).length) then(Ml ((a.2.1.2.2.2.1,a.2.1.2.2.2.2.1,a.2.1.2.2.2.2.2.1,a.2.1.2.2.2.2.2.2.1,f.1.1,()),())).bind λg=>if U ((B [116,97,107,101,32]).size+g.1.1.size<=4611686018427387904) then(OF ((a.1.1,a.1.2.1,a.1.2.2.1,a.1.2.2.2.1,((([]:List AD)++(BV (AJ a.2.2.2.1)<|Bq a.1.2.2.2.2.1 (AJ a.2.2.2.1)<|AD.mk ((rd aHa a.1.2.2.2.2.1 a.2.2.2.1).fr) ((rd aHa a.1.2.2.2.2.1 a.2.2.2.1).nu) ((rd aHa a.1.2.2.2.2.1 a.2.2.2.1).to) ((rd aHa a.1.2.2.2.2.1 a.2.2.2.1).un) ((rd aHa a.1.2.2.2.2.1 a.2.2.2.1).sz) b.1.1))++(Bp (AJ<|w64<|a.2.2.2.1+1)<|Bq a.1.2.2.2.2.1 (AJ a.2.2.2.1)<|AD.mk ((rd aHa a.1.2.2.2.2.1 a.2.2.2.1).fr) ((rd aHa a.1.2.2.2.2.1 a.2.2.2.1).nu) ((rd aHa a.1.2.2.2.2.1 a.2.2.2.1).to) ((rd aHa a.1.2.2.2.2.1 a.2.2.2.1).un) ((rd aHa a.1.2.2.2.2.1 a.2.2.2.1).sz) b.1.1)),()),((B [116,97,107,101,32])++g.1.1),())).bind λh=>if !h.1.2.1 then let o:=((([]:List AD)++(BV (AJ a.2.2.2.1)<|Bq a.1.2.2.2.2.1 (AJ a.2.2.2.1)<|AD.mk ((rd aHa a.1.2.2.2.2.1 a.2.2.2.1).fr) ((rd aHa a.1.2.2.2.2.1 a.2.2.2.1).nu) ((rd aHa a.1.2.2.2.2.1 a.2.2.2.1).to) ((rd aHa a.1.2.2.2.2.1 a.2.2.2.1).un) ((rd aHa a.1.2.2.2.2.1 a.2.2.2.1).sz) b.1.1))++(Bp (AJ<|w64<|a.2.2.2.1+1)<|Bq a.1.2.2.2.2.1 (AJ a.2.2.2.1)<|AD.mk ((rd aHa a.1.2.2.2.2.1 a.2.2.2.1).fr) ((rd aHa a.1.2.2.2.2.1 a.2.2.2.1).nu) ((rd aHa a.1.2.2.2.2.1 a.2.2.2.1).to) ((rd aHa a.1.2.2.2.2.1 a.2.2.2.1).un) ((rd aHa a.1.2.2.2.2.1 a.2.2.2.1).sz) b.1.1));I (((a.1.1,a.1.2.1,a.1.2.2.1,a.1.2.2.2.1,o,()),([]:List Frame),()),()) else(OA (h.1.1,())).bind λp=>(gy (2,a.2.1,())).bind λq=>I ((p.1.1,q.1),()) else G else G else G else G else G else G)<|(if U (e.1.1<0) then if Ab (x.1.2.2.2.2.1.length+([(AD.mk x.2.1.2.2.2.1 x.2.1.2.2.2.2.1 x.2.1.2.2.2.2.2.1 x.2.1.2.2.2.2.2.2.1 x.2.1.2.2.2.2.2.2.2.1 ([]:List AQ))]:List AD).length) then if U (3<((x.1.2.2.2.2.1++([(AD.mk x.2.1.2.2.2.1 x.2.1.2.2.2.2.1 x.2.1.2.2.2.2.2.1 x.2.1.2.2.2.2.2.2.1 x.2.1.2.2.2.2.2.2.2.1 ([]:List AQ))]:List AD)).length:Int)) then if U (0<=1)&&U (1<=((x.1.2.2.2.2.1++([(AD.mk x.2.1.2.2.2.1 x.2.1.2.2.2.2.1 x.2.1.2.2.2.2.2.1 x.2.1.2.2.2.2.2.2.1 x.2.1.2.2.2.2.2.2.2.1 ([]:List AQ))]:List AD)).length:Int)) then let r:=(w64<|((Bp (AJ 1)<|x.1.2.2.2.2.1++([(AD.mk x.2.1.2.2.2.1 x.2.1.2.2.2.2.1 x.2.1.2.2.2.2.2.1 x.2.1.2.2.2.2.2.2.1 x.2.1.2.2.2.2.2.2.2.1 ([]:List AQ))]:List AD)).length:Int) - 1);I (.inr ((x.1.1,x.1.2.1,x.1.2.2.1,x.1.2.2.2.1,(Bp (AJ 1)<|x.1.2.2.2.2.1++([(AD.mk x.2.1.2.2.2.1 x.2.1.2.2.2.2.1 x.2.1.2.2.2.2.2.1 x.2.1.2.2.2.2.2.2.1 x.2.1.2.2.2.2.2.2.2.1 ([]:List AQ))]:List AD)),()),x.2.1,(0,A0,noB,0,([]:List AD),()),r,())) else G else let s:=(w64<|((x.1.2.2.2.2.1++([(AD.mk x.2.1.2.2.2.1 x.2.1.2.2.2.2.1 x.2.1.2.2.2.2.2.1 x.2.1.2.2.2.2.2.2.1 x.2.1.2.2.2.2.2.2.2.1 ([]:List AQ))]:List AD)).length:Int) - 1);I (.inr ((x.1.1,x.1.2.1,x.1.2.2.1,x.1.2.2.2.1,(x.1.2.2.2.2.1++([(AD.mk x.2.1.2.2.2.1 x.2.1.2.2.2.2.1 x.2.1.2.2.2.2.2.1 x.2.1.2.2.2.2.2.2.1 x.2.1.2.2.2.2.2.2.2.1 ([]:List AQ))]:List AD)),()),x.2.1,(0,A0,noB,0,([]:List AD),()),s,())) else G else I (.inr (x.1,x.2.1,(0,A0,noB,0,([]:List AD),()),e.1)))))) else G)
def xo:Ent:=(152,G,⟨[Z17,Z20],[Z8,.fz .frame],Vh⟩)
def aeJ:y7 xo:=sk (v:=t1<|t1<|t1<|t1<|.join [(2,Z16),(3,Z21),(4,Z16),(7,j6)] .nil .nil) (fn:=f152) aid kN
def afX:Cx:=cX [Ka,Jp,Lf,iH,xo,OC,Xe,dt] [] [(70,77)]
def ahz:y9 afX:=aG5<|gC Ld<|gC KY<|gC Mj<|gC vI<|gC aeJ<|gC Pd<|gC uF<|gC qc<|AI
def S3(x:Y3×Y8×D):Option ((Y3×List Frame×D)×D):=(Hv (x.1,())).bind λf=>if !f.1.1 then I (((0,A0,noB,0,([]:List AD),()),([]:List Frame),()),()) else(Hy (x.1,())).bind λa=>if !x.1.2.1 then I ((a.1.1,([]:List Frame),()),()) else(WT x.2).bind λg=>if !g.1.1 then I ((a.1.1,([]:List Frame),()),()) else if !decide (x.2.1.2.2.1=x.1.1) then I ((a.1.1,([]:List Frame),()),()) else if U (x.2.1.1=1) then(Vh (a.1.1,x.2)).bind λe=>(Hy (e.1.1,())).bind λh=>I ((h.1.1,e.1.2),()) else if U (x.2.1.1=2) then(Gn (x.1,())).bind λb=>(IW (b.1.1.2.2.2.1,x.2.1.2.2.2.1,x.2.1.2.2.2.2.1,())).bind λc=>(BU (X:=Y8×Y3×Y3×Bool×D) (λd=>if d.2.2.2.1 then(Pg ((B [108,101,116]),d.1.2.2.2.1,d.1.2.2.2.2.1,d.1.2.2.2.2.2.2.1,())).bind λi=>(OF (d.2.2.1,i.1)).bind λj=>I ((j.1.1,([]:List Frame),()),()) else I ((d.2.2.1,([]:List Frame),()),()))<|(if U (0<=c.1.1) then if inb c.1.1 b.1.1.2.2.2.1.length then if Ak (U<|(rd aG6 b.1.1.2.2.2.1 c.1.1).to=x.2.1.2.2.2.2.2.1) (inb c.1.1 b.1.1.2.2.2.1.length) then I (.inr (x.2.1,(0,A0,noB,0,([]:List AD),()),a.1.1,((U<|(rd aG6 b.1.1.2.2.2.1 c.1.1).to=x.2.1.2.2.2.2.2.1)&&(U<|(rd aG6 b.1.1.2.2.2.1 c.1.1).un=x.2.1.2.2.2.2.2.2.1)),())) else G else G else if Ak A0 (inb c.1.1 b.1.1.2.2.2.1.length) then I (.inr (x.2.1,(0,A0,noB,0,([]:List AD),()),a.1.1,A0,())) else G)) else I ((a.1.1,([]:List Frame),()),())
def wI:Ent:=(104,G,⟨[Z8,Z20],[Z8,.fz .frame],S3⟩)
def ae3:y7 wI:=sk (v:=t1<|t1<|t1<|t1<|.two (t1<|.one<|t1<|t1<|t1<|.two (t1<|t1<|.join [(3,Z21),(4,Z16),(6,Z16),(78,.bool)] .nil .nil) .nil) .nil) (fn:=f104) ahz kN
def aqU:Cx:=cX [tW] [] []
def aC5:y9 aqU:=aG5<|gC acy<|AI
def XN(x:Y7×List Frame×aG7):Rnd (Y7×List Frame×aG7) D (Y7×D):=if U (x.2.2.2.1<x.2.2.1) then if inb x.2.2.2.1 x.2.1.length then let d:=(rd aHk x.2.1 x.2.2.2.1).ki;let a:=(rd aHk x.2.1 x.2.2.2.1).src;let b:=(rd aHk x.2.1 x.2.2.2.1).dst;let e:=(rd aHk x.2.1 x.2.2.2.1).fr;let f:=(rd aHk x.2.1 x.2.2.2.1).nu;let g:=(rd aHk x.2.1 x.2.2.2.1).to;let h:=(rd aHk x.2.1 x.2.2.2.1).un;let i:=(rd aHk x.2.1 x.2.2.2.1).sz;let j:=(rd aHk x.2.1 x.2.2.2.1).mix;let k:=(rd aHk x.2.1 x.2.2.2.1).da;if U ((j8 x.1.2.2.2.1:Int)<30) then(Pj ((d,a,b,e,f,g,h,i,j,k,()),())).bind λc=>if Ab (x.1.2.2.2.1.length+([(AK.mk a b (BF c.1.1) A0)]:List AK).length) then I (.inl ((x.1.1,x.1.2.1,x.1.2.2.1,(x.1.2.2.2.1++([(AK.mk a b (BF c.1.1) A0)]:List AK)),x.1.2.2.2.2),x.2.1,x.2.2.1,(w64<|x.2.2.2.1+1),())) else G else I (.inl (x.1,x.2.1,x.2.2.1,(w64<|x.2.2.2.1+1),())) else G else I (.inr<|.inr (x.1,()))
def eh:=AT XN
def aB4:Loop:=⟨[(0,Z18),(6,.sl .frame),(7,j6),(8,j6)],[(0,Z18)],0,[],eh⟩
def aqf:LF f105 [0] [1,0,0] aB4:=sq (v:= .nil) aC5 (b:=XN) kN
def OE(x:Y7×List Frame×D):Option (D×Y7×D):=(AP (eh (x.1,x.2.1,(j8 x.2.1:Int),0,())) (λ_=>G) λa=>I ((),a))
def kQ:Ent:=(105,G,⟨[Z18,.fz .frame],[],OE⟩)
def yc:y7 kQ:=sk (v:=t1<|.one<|.loop aB4) (fn:=f105) aC5<|kC aqf kN
def ajW:Cx:=cX [FC,xn,vB,wI,kQ] [] [(137,141)]
def aku:y9 ajW:=aG5<|gC FU<|gC aeI<|gC ade<|gC ae3<|gC yc<|AI
def SA(x:Y7×Y8×D):Option ((Bool×D)×Y7×D):=(CA (x.2.1.2.2.2.2.1,0,(w64<|(j8 x.1.2.2.2.1:Int) - 1),())).bind λj=>if !j.1.1 then I ((A0,()),(x.1,())) else if inb x.2.1.2.2.2.2.1 x.1.2.2.2.1.length then let d:=(rd aHe x.1.2.2.2.1 x.2.1.2.2.2.2.1).src;let e:=(rd aHe x.1.2.2.2.1 x.2.1.2.2.2.2.1).dst;let b:=(rd aHe x.1.2.2.2.1 x.2.1.2.2.2.2.1).data;let i:=(rd aHe x.1.2.2.2.1 x.2.1.2.2.2.2.1).sp;if U (x.2.1.1=5) then(Vg (x.1.2.2.2.1,x.2.1.2.2.2.2.1,())).bind λk=>I ((Y,()),((x.1.1,x.1.2.1,x.1.2.2.1,k.1.1,x.1.2.2.2.2),())) else if U (x.2.1.1=6) then(CA (x.2.1.2.2.2.2.2.1,0,(w64<|(b.size:Int) - 1),())).bind λl=>if !l.1.1 then I ((A0,()),(x.1,())) else if i then I ((A0,()),(x.1,())) else(CA (x.2.1.2.2.2.2.2.2.1,1,255,())).bind λm=>if !m.1.1 then I ((A0,()),(x.1,())) else if Ab b.size then if inb x.2.1.2.2.2.2.2.1 ((B9 b).length) then if inb x.2.1.2.2.2.2.2.1 ((B9 b).length) then let n:=(Ds .u8 (rd aHh (B9 b) x.2.1.2.2.2.2.2.1)<|w8 x.2.1.2.2.2.2.2.2.1);(if inb x.2.1.2.2.2.2.1 x.1.2.2.2.1.length then let g:=(BF<|Bq (B9 b) (AJ x.2.1.2.2.2.2.2.1) n);(if inb x.2.1.2.2.2.2.1 ((Bq x.1.2.2.2.1 (AJ x.2.1.2.2.2.2.1)<|AK.mk ((rd aHe x.1.2.2.2.1 x.2.1.2.2.2.2.1).src) ((rd aHe x.1.2.2.2.1 x.2.1.2.2.2.2.1).dst) g<|(rd aHe x.1.2.2.2.1 x.2.1.2.2.2.2.1).sp).length) then I ((Y,()),((x.1.1,x.1.2.1,x.1.2.2.1,(Bq (Bq x.1.2.2.2.1 (AJ x.2.1.2.2.2.2.1)<|AK.mk ((rd aHe x.1.2.2.2.1 x.2.1.2.2.2.2.1).src) ((rd aHe x.1.2.2.2.1 x.2.1.2.2.2.2.1).dst) g<|(rd aHe x.1.2.2.2.1 x.2.1.2.2.2.2.1).sp) (AJ x.2.1.2.2.2.2.1)<|AK.mk ((rd aHe (Bq x.1.2.2.2.1 (AJ x.2.1.2.2.2.2.1)<|AK.mk ((rd aHe x.1.2.2.2.1 x.2.1.2.2.2.2.1).src) ((rd aHe x.1.2.2.2.1 x.2.1.2.2.2.2.1).dst) g<|(rd aHe x.1.2.2.2.1 x.2.1.2.2.2.2.1).sp) x.2.1.2.2.2.2.1).src) ((rd aHe (Bq x.1.2.2.2.1 (AJ x.2.1.2.2.2.2.1)<|AK.mk ((rd aHe x.1.2.2.2.1 x.2.1.2.2.2.2.1).src) ((rd aHe x.1.2.2.2.1 x.2.1.2.2.2.2.1).dst) g<|(rd aHe x.1.2.2.2.1 x.2.1.2.2.2.2.1).sp) x.2.1.2.2.2.2.1).dst) ((rd aHe (Bq x.1.2.2.2.1 (AJ x.2.1.2.2.2.2.1)<|AK.mk ((rd aHe x.1.2.2.2.1 x.2.1.2.2.2.2.1).src) ((rd aHe x.1.2.2.2.1 x.2.1.2.2.2.2.1).dst) g<|(rd aHe x.1.2.2.2.1 x.2.1.2.2.2.2.1).sp) x.2.1.2.2.2.2.1).data) Y),x.1.2.2.2.2),())) else G) else G) else G else G else G else if U (x.2.1.1=4) then if inb (if e<d then e else d) x.1.2.2.1.length then if !(rd aHm x.1.2.2.1<|if e<d then e else d) then I ((A0,()),(x.1,())) else(BU (X:=Y7×Y12×D) (λc=>if Ab c.2.1.2.2.1.size then(cV ((B9 c.2.1.2.2.1),())).bind λh=>(BU (X:=Y7×Y12×Y8×Bool×D) (λa=>if a.2.2.2.1 then if inb a.2.1.2.1 a.1.2.1.length then(S3 (((rd aG8 a.1.2.1 a.2.1.2.1).id,(rd aG8 a.1.2.1 a.2.1.2.1).up,(rd aG8 a.1.2.1 a.2.1.2.1).log,(rd aG8 a.1.2.1 a.2.1.2.1).fo,(rd aG8 a.1.2.1 a.2.1.2.1).AG,()),a.2.2.1,())).bind λf=>if inb a.2.1.2.1 a.1.2.1.length then(OE ((a.1.1,(Bq a.1.2.1 (AJ a.2.1.2.1)<|A7.mk f.1.1.1 f.1.1.2.1 f.1.1.2.2.1 f.1.1.2.2.2.1 f.1.1.2.2.2.2.1),a.1.2.2),f.1.2)).bind λo=>I ((Y,()),o.2) else G else G else I ((Y,()),(a.1,())))<|(if h.1.2.1 then I (.inr (c.1,c.2.1,h.1.1,((U<|h.1.1.2.1=c.2.1.1)&&(U<|h.1.1.2.2.1=c.2.1.2.1)),())) else I (.inr (c.1,c.2.1,h.1.1,A0,())))) else G)<|(if U (x.2.1.2.2.2.2.2.2.1=0) then(Vg (x.1.2.2.2.1,x.2.1.2.2.2.2.1,())).bind λp=>I (.inr ((x.1.1,x.1.2.1,x.1.2.2.1,p.1.1,x.1.2.2.2.2),(d,e,b,i,()),())) else I (.inr (x.1,(d,e,b,i,()),())))) else G else I ((Y,()),(x.1,())) else G
def zV:Ent:=(83,G,⟨[Z18,Z20],[.bool],SA⟩)
def aeu:y7 zV:=sk (v:=t1<|t1<|t1<|.two (t1<|.one<|t1<|t1<|t1<|t1<|t1<|.two (t1<|.join [(0,Z18),(5,Z34)] .nil<|t1<|.join [(0,Z18),(5,Z34),(7,Z21),(142,.bool)] .nil .nil) .nil) .nil) (fn:=f83) aku kN
def alG:Cx:=cX [Lf,Xe,iB] [] []
def ant:y9 alG:=aG5<|gC Mj<|gC uF<|gC sy<|AI
def O4(x:Y3×A1×D):Option ((Y3×Bool×D)×D):=(OF x).bind λa=>if !a.1.2.1 then(Hy (x.1,())).bind λb=>I ((b.1.1,A0,()),()) else(OA (a.1.1,())).bind λc=>(Hy c.1).bind λd=>I ((d.1.1,Y,()),())
def gU:Ent:=(156,G,⟨[Z8,.str],[Z17,.bool],O4⟩)
def rY:y7 gU:=sk (v:= .nil) (fn:=f156) ant kN
def ahY:Cx:=cX [Ka,Jp,Lf,gU,Vs] [] []
def aih:y9 ahY:=aG5<|gC Ld<|gC KY<|gC Mj<|gC rY<|gC cI<|AI
def Vk(x:Y3×Int×Int×A1×D):Option ((Y3×v7)×D):=(Hv (x.1,())).bind λd=>if !d.1.1 then I (((0,A0,noB,0,([]:List AD),()),0,()),()) else if !x.1.2.1 then(Hy (x.1,())).bind λe=>I ((e.1.1,0,()),()) else(Gn (x.1,())).bind λb=>(Ml ((x.1.1,b.1.1.2.2.1,x.2),())).bind λc=>if U ((B [111,119,110,32]).size+c.1.1.size<=4611686018427387904) then(O4 (x.1,((B [111,119,110,32])++c.1.1),())).bind λa=>if !a.1.2.1 then I ((a.1.1,0,()),()) else I ((a.1.1,b.1.1.2.2.1,()),()) else G
def xu:Ent:=(106,G,⟨[Z8,j6,j6,.str],[Z17,j6],Vk⟩)
def aeC:y7 xu:=sk (v:= .nil) (fn:=f106) aih kN
def afU:Cx:=cX [Ka,Jp,Lf,gU,SI] [] []
def ahw:y9 afU:=aG5<|gC Ld<|gC KY<|gC Mj<|gC rY<|gC VC<|AI
def VY(x:Y3×D):Option ((Y3×Bool×D)×D):=(Hv x).bind λb=>if !b.1.1 then I (((0,A0,noB,0,([]:List AD),()),A0,()),()) else if !x.1.2.1 then(Hy x).bind λc=>I ((c.1.1,A0,()),()) else(Gn x).bind λd=>(JC ((w64<|d.1.1.2.1+1),())).bind λa=>if U ((B [116,105,109,101,32]).size+a.1.1.size<=4611686018427387904) then(O4 (x.1,((B [116,105,109,101,32])++a.1.1),())).bind λe=>I (e.1,()) else G
def wh:Ent:=(107,G,⟨[Z8],[Z17,.bool],VY⟩)
def ae0:y7 wh:=sk (v:= .nil) (fn:=f107) ahw kN
def ao5:Cx:=cX [FC,bk] [] []
def aBH:y9 ao5:=aG5<|gC FU<|gC qM<|AI
def gD(x:A1×List A1×v7):Rnd (A1×List A1×v7) D (List A1×D):=if U (x.2.2.1<(x.1.size:Int)) then if U (0<=4)&&U (4<=4294967296) then if U (0<=x.2.2.1)&&U (x.2.2.1<=(x.1.size:Int)) then if Ab (x.2.1.length+([(BF<|BV (BZ (AJ 4)<|dfl .u8).length (B9<|x.1.extract (AJ x.2.2.1)<|x.1.size)++Bp (B9<|x.1.extract (AJ x.2.2.1)<|x.1.size).length (BZ (AJ 4)<|dfl .u8))]:List A1).length) then I (.inl (x.1,(x.2.1++([(BF<|BV (BZ (AJ 4)<|dfl .u8).length (B9<|x.1.extract (AJ x.2.2.1)<|x.1.size)++Bp (B9<|x.1.extract (AJ x.2.2.1)<|x.1.size).length (BZ (AJ 4)<|dfl .u8))]:List A1)),(w64<|x.2.2.1+4),())) else G else G else G else I (.inr<|.inr (x.2.1,()))
def sW:=AT gD
def yn:Loop:=⟨[(0,.str),(3,.row 9 .str),(4,j6)],[(3,.row 9 .str)],0,[],sW⟩
def anj:LF f56 [] [1,1,1,0,1,0,0] yn:=sq (v:= .nil) aBH (b:=gD) kN
def Wl(x:A1×D):Option ((List A1×D)×D):=(CA ((x.1.size:Int),1,24,())).bind λa=>if !a.1.1 then I ((([]:List A1),()),()) else(AP (sW (x.1,([]:List A1),0,())) (λ_=>G) λb=>(Rk b).bind λc=>I (c.1,()))
def jZ:Ent:=(56,G,⟨[.str],[.row 9 .str],Wl⟩)
def wQ:y7 jZ:=sk (v:=t1<|t1<|t1<|.two (t1<|.one<|.loop yn) .nil) (fn:=f56) aBH<|kC anj kN
def alN:Cx:=cX [jZ,jz,jh] [] []
def aAB:y9 alN:=aG5<|gC wQ<|gC xc<|gC xz<|AI
def Vz(x:List A1×A1×List Int×aG7):Rnd (List A1×A1×List Int×aG7) D (A1×D):=if U (x.2.2.2.2.1<x.2.2.2.1) then if inb x.2.2.2.2.1 x.2.2.1.length then let a:=(rd aHb x.2.2.1 x.2.2.2.2.1);(if U (x.2.2.2.2.1=0) then if inb a x.1.length then I (.inl (x.1,(rd aHj x.1 a),x.2.2.1,x.2.2.2.1,(w64<|x.2.2.2.2.1+1),())) else G else if inb a x.1.length then(Wz (x.2.1,(rd aHj x.1 a),())).bind λb=>I (.inl (x.1,b.1.1,x.2.2.1,x.2.2.2.1,(w64<|x.2.2.2.2.1+1),())) else G) else G else I (.inr<|.inr (x.2.1,()))
def V8:=AT Vz
def xd:Loop:=⟨[(5,.row 9 .str),(6,.str),(14,.row 3 .int),(15,j6),(16,j6)],[(6,.str)],0,[],V8⟩
def ak5:LF f159 [] [1,1,1,0,1,0,0] xd:=sq (v:= .nil) aAB (b:=Vz) kN
def gB(x:A1×v7):Option ((A1×D)×D):=(Wl (x.1,())).bind λa=>(X4 ((j8 a.1.1:Int),x.2)).bind λb=>(AP (V8 (a.1.1,noB,b.1.1,(j8 b.1.1:Int),0,())) (λ_=>G) λc=>I (c,()))
def aAE:Ent:=(159,G,⟨[.str,j6],[.str],gB⟩)
def afi:y7 aAE:=sk (v:=t1<|t1<|t1<|.two (t1<|.one<|.loop xd) .nil) (fn:=f159) aAB<|kC ak5 kN
def ahB:Cx:=cX [Ka,fH,Jp,FC,OC,aAE] [] []
def aii:y9 ahB:=aG5<|gC Ld<|gC rE<|gC KY<|gC FU<|gC Pd<|gC afi<|AI
def Vl(x:Y3×aHc):Option ((Y8×Bool×D)×D):=(Hv (x.1,())).bind λe=>if !e.1.1 then I (((0,0,0,0,0,0,0,0,0,noB,()),A0,()),()) else if !x.1.2.1 then I (((0,0,0,0,0,0,0,0,0,noB,()),A0,()),()) else(CA (x.2.2.2.1,0,999,())).bind λf=>if !f.1.1 then I (((0,0,0,0,0,0,0,0,0,noB,()),A0,()),()) else(Gn (x.1,())).bind λa=>(IW (a.1.1.2.2.2.1,x.2.1,x.2.2.1,())).bind λb=>if U (b.1.1<0) then I (((0,0,0,0,0,0,0,0,0,noB,()),A0,()),()) else if inb b.1.1 a.1.1.2.2.2.1.length then let g:=(rd aG6 a.1.1.2.2.2.1 b.1.1).fr;let h:=(rd aG6 a.1.1.2.2.2.1 b.1.1).nu;let c:=(rd aG6 a.1.1.2.2.2.1 b.1.1).to;let i:=(rd aG6 a.1.1.2.2.2.1 b.1.1).un;let d:=(rd aG6 a.1.1.2.2.2.1 b.1.1).tx;(JB (x.1.1,c,())).bind λj=>(gB (d,x.2.2.2)).bind λk=>I (((1,x.1.1,j.1.1,g,h,c,i,(d.size:Int),x.2.2.2.1,k.1),Y,()),()) else G
def xR:Ent:=(108,G,⟨[Z8,j6,j6,j6],[Z20,.bool],Vl⟩)
def aeD:y7 xR:=sk (v:= .nil) (fn:=f108) aii kN
def ahU:Cx:=cX [SN,du] [] []
def aie:y9 ahU:=aG5<|gC V6<|gC qe<|AI
def de(x:Y4×v7):Option ((Y4×D)×D):=(O5 (x.1,())).bind λc=>if !c.1.1 then I (((noB,0,()),()),()) else if U (0<=(w64<|x.1.2.1+(if 0<(if(w64<|(x.1.1.size:Int) - x.1.2.1)<x.2.1 then(w64<|(x.1.1.size:Int) - x.1.2.1) else x.2.1) then(if(w64<|(x.1.1.size:Int) - x.1.2.1)<x.2.1 then(w64<|(x.1.1.size:Int) - x.1.2.1) else x.2.1) else 0)))&&U ((w64<|x.1.2.1+(if 0<(if(w64<|(x.1.1.size:Int) - x.1.2.1)<x.2.1 then(w64<|(x.1.1.size:Int) - x.1.2.1) else x.2.1) then(if(w64<|(x.1.1.size:Int) - x.1.2.1)<x.2.1 then(w64<|(x.1.1.size:Int) - x.1.2.1) else x.2.1) else 0))<=(x.1.1.size:Int)) then let b:=(x.1.1.extract (0)<|AJ<|w64<|x.1.2.1+(if 0<(if(w64<|(x.1.1.size:Int) - x.1.2.1)<x.2.1 then(w64<|(x.1.1.size:Int) - x.1.2.1) else x.2.1) then(if(w64<|(x.1.1.size:Int) - x.1.2.1)<x.2.1 then(w64<|(x.1.1.size:Int) - x.1.2.1) else x.2.1) else 0));(Ph (b,())).bind λa=>if U (0<=a.1.2.1)&&U (a.1.2.1<=(b.size:Int)) then let d:=(b.extract (0)<|AJ a.1.2.1);I (((d,a.1.2),()),()) else G else G
def xq:Ent:=(160,G,⟨[Z9,j6],[Z9],de⟩)
def aeN:y7 xq:=sk (v:= .nil) (fn:=f160) aie kN
def afY:Cx:=cX [Jp,xq] [] []
def ai0:y9 afY:=aG5<|gC KY<|gC aeN<|AI
def VO(x:Y3×v7):Option ((Y3×D)×D):=(Hv (x.1,())).bind λb=>if !b.1.1 then I (((0,A0,noB,0,([]:List AD),()),()),()) else(de ((x.1.2.2.1,x.1.2.2.2.1,()),x.2)).bind λa=>I (((x.1.1,A0,a.1.1.1,a.1.1.2.1,([]:List AD),()),()),())
def wJ:Ent:=(109,G,⟨[Z8,j6],[Z17],VO⟩)
def ae4:y7 wJ:=sk (v:= .nil) (fn:=f109) ai0 kN
def afV:Cx:=cX [Jp,Lf] [] []
def ahx:y9 afV:=aG5<|gC KY<|gC Mj<|AI
def VM(x:Y3×D):Option ((Y3×D)×D):=(Hv x).bind λb=>if !b.1.1 then I (((0,A0,noB,0,([]:List AD),()),()),()) else(Hy x).bind λa=>I (((a.1.1.1,Y,a.1.1.2.2),()),())
def wi:Ent:=(110,G,⟨[Z8],[Z17],VM⟩)
def ae1:y7 wi:=sk (v:= .nil) (fn:=f110) ahx kN
def ahD:Cx:=cX [Ka,Jp,Lf,OC,dt,gU] [] [(29,30)]
def aik:y9 ahD:=aG5<|gC Ld<|gC KY<|gC Mj<|gC Pd<|gC qc<|gC rY<|AI
def Vm(x:Y3×aG7):Option ((Y3×Y1×Bool×D)×D):=(Hv (x.1,())).bind λd=>if !d.1.1 then I (((0,A0,noB,0,([]:List AD),()),(0,0,0,0,noB,()),A0,()),()) else(Gn (x.1,())).bind λa=>(IW (a.1.1.2.2.2.2.2.1,x.2)).bind λb=>if(!x.1.2.1)||(U<|b.1.1<0) then(Hy (x.1,())).bind λe=>I ((e.1.1,(0,0,0,0,noB,()),A0,()),()) else if inb b.1.1 a.1.1.2.2.2.2.2.1.length then(Pg ((B [101,97,116]),x.2.1,x.2.2.1,(rd aG6 a.1.1.2.2.2.2.2.1 b.1.1).un,())).bind λf=>(O4 (x.1,f.1)).bind λc=>if !c.1.2.1 then I ((c.1.1,(0,0,0,0,noB,()),A0,()),()) else if inb b.1.1 a.1.1.2.2.2.2.2.1.length then let g:=(rd aG6 a.1.1.2.2.2.2.2.1 b.1.1).fr;let h:=(rd aG6 a.1.1.2.2.2.2.2.1 b.1.1).nu;let i:=(rd aG6 a.1.1.2.2.2.2.2.1 b.1.1).to;let j:=(rd aG6 a.1.1.2.2.2.2.2.1 b.1.1).un;let k:=(rd aG6 a.1.1.2.2.2.2.2.1 b.1.1).tx;I ((c.1.1,(g,h,i,j,k,()),Y,()),()) else G else G
def xS:Ent:=(111,G,⟨[Z8,j6,j6],[Z17,Z2,.bool],Vm⟩)
def aeE:y7 xS:=sk (v:= .nil) (fn:=f111) aik kN
def afW:Cx:=cX [Ka,Jp,Lf,tU,uQ] [] []
def ahy:y9 afW:=aG5<|gC Ld<|gC KY<|gC Mj<|gC acw<|gC ur<|AI
def VN(x:Y3×D):Option ((Y3×Bool×D)×D):=(Hv x).bind λc=>if !c.1.1 then I (((0,A0,noB,0,([]:List AD),()),A0,()),()) else(Hy x).bind λa=>if !x.1.2.1 then I ((a.1.1,A0,()),()) else(Gn x).bind λd=>(W0 d.1).bind λe=>(S1 ((x.1.2.2.1,x.1.2.2.2.1,()),e.1)).bind λb=>I (((a.1.1.1,a.1.1.2.1,b.1.1.1,b.1.1.2.1,a.1.1.2.2.2.2),b.1.2),())
def wH:Ent:=(112,G,⟨[Z8],[Z17,.bool],VN⟩)
def ae2:y7 wH:=sk (v:= .nil) (fn:=f112) ahy kN
def afB:Cx:=cX [Jp,Lf,iB] [] [(15,22)]
def agb:y9 afB:=aG5<|gC KY<|gC Mj<|gC sy<|AI
def V9(x:Y3×D):Option ((Y3×Bool×D)×D):=(Hv x).bind λb=>if !b.1.1 then I (((0,A0,noB,0,([]:List AD),()),A0,()),()) else(Hy x).bind λa=>if(!x.1.2.1)||(U<|x.1.2.2.2.1=(x.1.2.2.1.size:Int)) then I ((a.1.1,A0,()),()) else(OA a.1).bind λc=>I ((c.1.1,Y,()),())
def vA:Ent:=(113,G,⟨[Z8],[Z8,.bool],V9⟩)
def adl:y7 vA:=sk (v:= .nil) (fn:=f113) agb kN
def ao0:Cx:=cX [Jr,kQ,xu,wh,xR,wJ,wi,xS,wH,vA] [] []
def apv:y9 ao0:=aG5<|gC Kg<|gC yc<|gC aeC<|gC ae0<|gC aeD<|gC ae4<|gC ae1<|gC aeE<|gC ae2<|gC adl<|AI
def SW(x:Y7×Y8×D):Option ((Bool×D)×Y7×D):=(Fm (x.2.1.2.1,())).bind λj=>if !j.1.1 then I ((A0,()),(x.1,())) else if inb x.2.1.2.1 x.1.2.1.length then let e:=(rd aG8 x.1.2.1 x.2.1.2.1).id;let a:=(rd aG8 x.1.2.1 x.2.1.2.1).up;let f:=(rd aG8 x.1.2.1 x.2.1.2.1).log;let g:=(rd aG8 x.1.2.1 x.2.1.2.1).fo;let h:=(rd aG8 x.1.2.1 x.2.1.2.1).AG;(BU (X:=Y7×Y8×Y3×Bool×D) (λc=>if inb c.2.1.2.1 c.1.2.1.length then I (c.2.2.2,((c.1.1,(Bq c.1.2.1 (AJ c.2.1.2.1)<|A7.mk c.2.2.1.1 c.2.2.1.2.1 c.2.2.1.2.2.1 c.2.2.1.2.2.2.1 c.2.2.1.2.2.2.2.1),c.1.2.2),())) else G)<|(if U (x.2.1.1=1) then if U (6<=(j8 x.1.2.2.2.2.1:Int)) then I (.inl ((A0,()),(x.1,()))) else(Vk ((e,a,f,g,h,()),x.2.1.2.2.2.2.2.2.2)).bind λi=>if U (i.1.2.1=0) then I (.inl ((A0,()),(x.1,()))) else if Ab (x.1.2.2.2.2.1.length+([(A3.mk x.2.1.2.1 i.1.2.1 x.2.1.2.2.2.2.2.2.2.1 x.2.1.2.2.2.2.2.2.2.2.1 x.2.1.2.2.2.2.2.2.2.2.2.1)]:List A3).length) then I (.inr ((x.1.1,x.1.2.1,x.1.2.2.1,x.1.2.2.2.1,(x.1.2.2.2.2.1++([(A3.mk x.2.1.2.1 i.1.2.1 x.2.1.2.2.2.2.2.2.2.1 x.2.1.2.2.2.2.2.2.2.2.1 x.2.1.2.2.2.2.2.2.2.2.2.1)]:List A3)),x.1.2.2.2.2.2),x.2.1,i.1.1,Y,())) else G else if U (x.2.1.1=2) then(VY ((e,a,f,g,h,()),())).bind λk=>I (.inr (x.1,x.2.1,k.1)) else if U (x.2.1.1=3) then(Vl ((e,a,f,g,h,()),x.2.1.2.2.1,x.2.1.2.2.2.1,x.2.1.2.2.2.2.2.1,())).bind λb=>if b.1.2.1 then(OE (x.1,([(Frame.mk b.1.1.1 b.1.1.2.1 b.1.1.2.2.1 b.1.1.2.2.2.1 b.1.1.2.2.2.2.1 b.1.1.2.2.2.2.2.1 b.1.1.2.2.2.2.2.2.1 b.1.1.2.2.2.2.2.2.2.1 b.1.1.2.2.2.2.2.2.2.2.1 b.1.1.2.2.2.2.2.2.2.2.2.1)]:List Frame),())).bind λl=>I (.inr (l.2.1,x.2.1,(e,a,f,g,h,()),b.1.2)) else I (.inr (x.1,x.2.1,(e,a,f,g,h,()),b.1.2)) else if U (x.2.1.1=7) then(VO ((e,a,f,g,h,()),x.2.1.2.2.2.2.2.2.1,())).bind λm=>I (.inr (x.1,x.2.1,m.1.1,a,())) else if U (x.2.1.1=8) then(VM ((e,a,f,g,h,()),())).bind λn=>I (.inr (x.1,x.2.1,n.1.1,(!a),())) else if U (x.2.1.1=11) then if U (6<=(j8 x.1.2.2.2.2.2.1:Int)) then I (.inl ((A0,()),(x.1,()))) else(Vm ((e,a,f,g,h,()),x.2.1.2.2.1,x.2.1.2.2.2.1,())).bind λd=>if !d.1.2.2.1 then I (.inl ((A0,()),(x.1,()))) else if Ab (x.1.2.2.2.2.2.1.length+([(A3.mk d.1.2.1.1 d.1.2.1.2.1 d.1.2.1.2.2.1 d.1.2.1.2.2.2.1 d.1.2.1.2.2.2.2.1)]:List A3).length) then I (.inr ((x.1.1,x.1.2.1,x.1.2.2.1,x.1.2.2.2.1,x.1.2.2.2.2.1,(x.1.2.2.2.2.2.1++([(A3.mk d.1.2.1.1 d.1.2.1.2.1 d.1.2.1.2.2.1 d.1.2.1.2.2.2.1 d.1.2.1.2.2.2.2.1)]:List A3)),()),x.2.1,d.1.1,Y,())) else G else if U (x.2.1.1=12) then(VN ((e,a,f,g,h,()),())).bind λo=>I (.inr (x.1,x.2.1,o.1)) else if U (x.2.1.1=13) then(V9 ((e,a,f,g,h,()),())).bind λp=>I (.inr (x.1,x.2.1,p.1)) else I (.inr (x.1,x.2.1,(e,a,f,g,h,()),A0,())))) else G
def aBO:Ent:=(84,G,⟨[Z18,Z20],[.bool],SW⟩)
def ah4:y7 aBO:=sk (v:=t1<|t1<|t1<|t1<|.join [(0,Z18),(3,Z27),(5,Z35),(6,.bool)] .nil .nil) (fn:=f84) apv kN
def alH:Cx:=cX [tT,aBP,zV,aBO] [] [(28,30)]
def anu:y9 alH:=aG5<|gC acv<|gC ah5<|gC aeu<|gC ah4<|AI
def Jm(x:Y7×Y8×D):Option ((Y7×Bool×D)×D):=(Jn (x.1,())).bind λc=>(BU (X:=Y7×Y7×Y7×Bool×D) (λb=>if(!b.2.2.2.1)||(U<|b.1.1=99999) then(Jn (b.1,())).bind λm=>I ((m.1.1,A0,()),()) else(Jn (((w64<|b.2.2.1.1+1),b.2.2.1.2),())).bind λn=>I ((n.1.1,Y,()),()))<|(BU (X:=Y7×Y8×Y7×Y7×Int×Bool×D) (λa=>if a.2.2.2.2.2.1 then(gZ (a.2.2.2.1,a.2.1,())).bind λd=>I (.inr (a.1,a.2.2.1,d.2.1,d.1)) else let e:=(U<|a.2.2.2.2.1=4);(if e then if e then(SA (a.2.2.2.1,a.2.1,())).bind λf=>I (.inr (a.1,a.2.2.1,f.2.1,f.1)) else(SW (a.2.2.2.1,a.2.1,())).bind λg=>I (.inr (a.1,a.2.2.1,g.2.1,g.1)) else let h:=(U<|a.2.2.2.2.1=5);(if h then if h then(SA (a.2.2.2.1,a.2.1,())).bind λi=>I (.inr (a.1,a.2.2.1,i.2.1,i.1)) else(SW (a.2.2.2.1,a.2.1,())).bind λj=>I (.inr (a.1,a.2.2.1,j.2.1,j.1)) else let o:=(U<|a.2.2.2.2.1=6);(if o then(SA (a.2.2.2.1,a.2.1,())).bind λk=>I (.inr (a.1,a.2.2.1,k.2.1,k.1)) else(SW (a.2.2.2.1,a.2.1,())).bind λl=>I<|.inr (a.1,a.2.2.1,l.2.1,l.1)))))<|(if U (x.2.1.1=9) then I (.inr (x.1,x.2.1,(0,([]:List A7),([]:List Bool),([]:List AK),([]:List A3),([]:List A3),()),c.1.1,x.2.1.1,(U<|x.2.1.1=9),())) else I (.inr (x.1,x.2.1,(0,([]:List A7),([]:List Bool),([]:List AK),([]:List A3),([]:List A3),()),c.1.1,x.2.1.1,(U<|x.2.1.1=10),())))))
def iQ:Ent:=(54,G,⟨[Z15,Z20],[Z19,.bool],Jm⟩)
def vQ:y7 iQ:=sk (v:=t1<|t1<|t1<|.join [(2,Z14),(4,Z18),(6,Z18),(7,.bool)] (t1<|.one<|.join [(2,Z14),(3,Z27),(4,Z18),(6,Z18),(11,j6),(14,.bool)] .nil .nil) .nil) (fn:=f54) anu kN
def ahR:Cx:=cX [iQ] [] [(9,12)]
def yJ:y9 ahR:=aG5<|gC vQ<|AI
def Rr(x:Y7×Y7×v7):Rnd (Y7×Y7×v7) D (Y7×Y7×D):=if(U<|x.2.2.1<400)&&(U<|0<(j8 x.1.2.2.2.1:Int)) then(Jm (x.1,(4,0,0,0,0,0,0,0,0,noB,()),())).bind λa=>if !a.1.2.1 then I (.inr<|.inr (x.1,x.2.1,())) else I (.inl (a.1.1,x.2.1,(w64<|x.2.2.1+1),())) else I (.inr<|.inr (x.1,x.2.1,()))
def V0:=AT Rr
def vR:Loop:=⟨[(1,Z36),(2,Z18),(3,j6)],[(1,Z14),(2,Z18)],0,[],V0⟩
def agt:LF f55 [] [1,0,1,0,0] vR:=sq (v:= .nil) yJ (b:=Rr) kN
def Rz(x:Y7×D):Option ((Y7×D)×D):=(AP (V0 (x.1,(0,([]:List A7),([]:List Bool),([]:List AK),([]:List A3),([]:List A3),()),0,())) (λ_=>G) λa=>I ((a.1,()),()))
def xp:Ent:=(55,G,⟨[Z15],[Z15],Rz⟩)
def aeK:y7 xp:=sk (v:=t1<|.two (t1<|.one<|.loop vR) .nil) (fn:=f55) yJ<|kC agt kN
def aqF:Cx:=cX [Ka,iQ,xp,jZ] [] []
def XA:y9 aqF:=aG5<|gC Ld<|gC vQ<|gC aeK<|gC wQ<|AI
def gu(x:Y7×Y7×Int×Y1×List A3×Int×aHc):Rnd (Y7×Y7×Int×Y1×List A3×Int×aHc) D (Y7×Y7×Int×List A3×aG7):=if U (x.2.2.2.2.2.2.2.2.1<x.2.2.2.2.2.2.2.1) then(Jm (x.1,(3,x.2.2.1,x.2.2.2.1.1,x.2.2.2.1.2.1,0,x.2.2.2.2.2.2.2.2.1,0,0,0,noB,()),())).bind λam9=>(Rz (am9.1.1,())).bind λam8=>I (.inl (am8.1.1,x.2.1,x.2.2.1,x.2.2.2.1,x.2.2.2.2.1,x.2.2.2.2.2.1,x.2.2.2.2.2.2.1,x.2.2.2.2.2.2.2.1,(w64<|x.2.2.2.2.2.2.2.2.1+1),())) else I (.inr<|.inr (x.1,x.2.1,x.2.2.1,x.2.2.2.2.1,x.2.2.2.2.2.1,x.2.2.2.2.2.2.1,()))
def dW:=AT gu
def zo:Loop:=⟨[(1,Z14),(2,Z18),(4,j6),(6,Z1),(38,.row 59 .note),(39,j6),(40,j6),(47,j6),(48,j6)],[(1,Z14),(2,Z18),(4,j6),(38,.row 59 .note),(39,j6),(40,j6)],6,[],dW⟩
def apA:LF f24 [] [1,1,1,0,1,0,0,1,0,0,1,0,0,1,1,0,0,1,1,0,0] zo:=sq (v:= .nil) XA (b:=gu) kN
def Wb(x:Y7×Y7×Int×List A3×aG7):Rnd (Y7×Y7×Int×List A3×aG7) D (Y7×Y7×v7):=if U (x.2.2.2.2.2.1<x.2.2.2.2.1) then if inb x.2.2.2.2.2.1 x.2.2.2.1.length then let amZ:=(rd aG6 x.2.2.2.1 x.2.2.2.2.2.1).fr;let amY:=(rd aG6 x.2.2.2.1 x.2.2.2.2.2.1).nu;let amX:=(rd aG6 x.2.2.2.1 x.2.2.2.2.2.1).to;let b:=(rd aG6 x.2.2.2.1 x.2.2.2.2.2.1).un;let a:=(rd aG6 x.2.2.2.1 x.2.2.2.2.2.1).tx;(Wl (a,())).bind λamA=>(AP (dW (x.1,x.2.1,x.2.2.1,(amZ,amY,amX,b,a,()),x.2.2.2.1,x.2.2.2.2.1,x.2.2.2.2.2.1,(j8 amA.1.1:Int),0,())) (λ_=>I<|.inr<|.inl ()) λRb=>I<|.inl (Rb.1,Rb.2.1,Rb.2.2.1,Rb.2.2.2.1,Rb.2.2.2.2.1,(w64<|Rb.2.2.2.2.2.1+1),())) else G else I (.inr<|.inr (x.1,x.2.1,x.2.2.1,()))
def dX:=AT Wb
def zp:Loop:=⟨[(1,Z14),(2,Z18),(4,j6),(38,.row 59 .note),(39,j6),(40,j6)],[(1,Z14),(2,Z18),(4,j6)],4,[],dX⟩
def apC:LF f24 [] [1,1,1,0,1,0,0,1,0,0,1,0,0] zp:=sq (v:=t1<|t1<|.two (.one<|t1<|t1<|.one<|.loop zo) .nil) XA (b:=Wb)<|kC apA kN
def Wc(x:Y7×Y7×v7):Rnd (Y7×Y7×v7) D (Y7×Y7×D):=if U (x.2.2.1<4) then if inb x.2.2.1 x.1.2.1.length then(Gn (((rd aG8 x.1.2.1 x.2.2.1).id,(rd aG8 x.1.2.1 x.2.2.1).up,(rd aG8 x.1.2.1 x.2.2.1).log,(rd aG8 x.1.2.1 x.2.2.1).fo,(rd aG8 x.1.2.1 x.2.2.1).AG,()),())).bind λbT=>(AP (dX (x.1,x.2.1,x.2.2.1,bT.1.1.2.2.2.1,(j8 bT.1.1.2.2.2.1:Int),0,())) (λ_=>I<|.inr<|.inl ()) λph=>I<|.inl (ph.1,ph.2.1,(w64<|ph.2.2.1+1),())) else G else I (.inr<|.inr (x.1,x.2.1,()))
def dY:=AT Wc
def zq:Loop:=⟨[(1,Z14),(2,Z18),(4,j6)],[(1,Z14),(2,Z18)],2,[],dY⟩
def apF:LF f24 [] [1,1,1,0,1,0,0] zq:=sq (v:=t1<|.two (.one<|t1<|.one<|.loop zp) .nil) XA (b:=Wc)<|kC apC kN
def Wd(x:Y7×Y7×v7):Rnd (Y7×Y7×v7) D (Y7×Y7×D):=if U (x.2.2.1<4) then(Jm (x.1,(8,x.2.2.1,0,0,0,0,0,0,0,noB,()),())).bind λa=>(Jm (a.1.1,(9,x.2.2.1,0,0,0,0,0,0,0,noB,()),())).bind λb=>I (.inl (b.1.1,x.2.1,(w64<|x.2.2.1+1),())) else I (.inr<|.inr (x.1,x.2.1,()))
def dZ:=AT Wd
def zr:Loop:=⟨[(1,Z36),(2,Z18),(3,j6)],[(1,Z14),(2,Z18)],0,[],dZ⟩
def aol:LF f24 [] [1,0,1,0,0] zr:=sq (v:= .nil) XA (b:=Wd) kN
def X5(x:Y7×D):Option ((Y7×D)×D):=(AP (dZ (x.1,(0,([]:List A7),([]:List Bool),([]:List AK),([]:List A3),([]:List A3),()),0,())) (λ_=>G) λa=>(Rz (a.1,())).bind λb=>(AP (dY (b.1.1,a.2.1,0,())) (λ_=>G) λamS=>I ((amS.1,()),())))
def aBt:Ent:=(24,G,⟨[Z15],[Z15],X5⟩)
def ai7:y7 aBt:=sk (v:=t1<|.two (t1<|.one<|.loop zr)<|t1<|.two (t1<|.one<|.loop zq) .nil) (fn:=f24) XA<|kC aol<|kC apF kN
def ahV:Cx:=cX [gV,tT,aBt] [] [(18,20)]
def yL:y9 ahV:=aG5<|gC rj<|gC acv<|gC ai7<|AI
def Rv(x:Int×Y7×Y7×v7):Rnd (Int×Y7×Y7×v7) D (Y7×Y7×D):=if(U<|x.2.2.2.1<(if 20<x.1 then 20 else x.1))&&(U<|x.2.2.1.1<79999) then(X5 (x.2.2.1,())).bind λa=>I (.inl (x.1,x.2.1,a.1.1,(w64<|x.2.2.2.1+1),())) else I (.inr<|.inr (x.2.1,x.2.2.1,()))
def Pc:=AT Rv
def vE:Loop:=⟨[(1,j6),(4,Z18),(5,Z36),(6,j6)],[(4,Z18),(5,Z14)],0,[],Pc⟩
def agw:LF f8 [] [1,1,1,0,1,0,0] vE:=sq (v:= .nil) yL (b:=Rv) kN
def IU(x:Y7×v7):Option ((Y7×D)×D):=(Mp (x.1,())).bind λa=>if !a.1.1 then I (((0,([]:List A7),([]:List Bool),([]:List AK),([]:List A3),([]:List A3),()),()),()) else(Jn (x.1,())).bind λb=>(AP (Pc (x.2.1,(0,([]:List A7),([]:List Bool),([]:List AK),([]:List A3),([]:List A3),()),b.1.1,0,())) (λ_=>G) λc=>I (c.2,()))
def tV:Ent:=(8,G,⟨[Z15,j6],[Z15],IU⟩)
def acx:y7 tV:=sk (v:=t1<|t1<|t1<|.two (t1<|.one<|.loop vE) .nil) (fn:=f8) yL<|kC agw kN
def al9:Cx:=cX [] [] []
def aAO:y9 al9:=aG5<|AI
def Vt(x:List A3×List A3×v7):Rnd (List A3×List A3×v7) (Bool×D) D:=if U (x.2.2.1<(j8 x.1:Int)) then if inb x.2.2.1 x.1.length then if inb x.2.2.1 x.2.1.length then if !(abk ((rd aG6 x.1 x.2.2.1).fr) ((rd aG6 x.1 x.2.2.1).nu) ((rd aG6 x.1 x.2.2.1).to) ((rd aG6 x.1 x.2.2.1).un) ((rd aG6 x.1 x.2.2.1).tx) ((rd aG6 x.2.1 x.2.2.1).fr) ((rd aG6 x.2.1 x.2.2.1).nu) ((rd aG6 x.2.1 x.2.2.1).to) ((rd aG6 x.2.1 x.2.2.1).un)<|(rd aG6 x.2.1 x.2.2.1).tx) then I (.inr<|.inl (A0,())) else I (.inl (x.1,x.2.1,(w64<|x.2.2.1+1),())) else G else G else I (.inr<|.inr ())
def rR:=AT Vt
def xv:Loop:=⟨[(0,.sl .note),(1,.sl .note),(5,j6)],[],0,[(4,.bool)],rR⟩
def akd:LF f25 [] [1,1,0,1,0,0] xv:=sq (v:= .nil) aAO (b:=Vt) kN
def Hw(x:List A3×List A3×D):Option ((Bool×D)×D):=if !decide ((j8 x.1:Int)=(j8 x.2.1:Int)) then I ((A0,()),()) else(AP (rR (x.1,x.2.1,0,())) (λa=>I (a,())) λa=>I ((Y,()),()))
def iP:Ent:=(25,G,⟨[.fz .note,.fz .note],[.bool],Hw⟩)
def vO:y7 iP:=sk (v:=t1<|t1<|.two (t1<|.one<|.loop xv) .nil) (fn:=f25) aAO<|kC akd kN
end Go.VS
end
