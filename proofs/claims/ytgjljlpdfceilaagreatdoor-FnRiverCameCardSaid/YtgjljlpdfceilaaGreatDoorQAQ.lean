/- Part 7. -/
import Derived.Test.YtgjljlpdfceilaaGreatDoorQAP
open Bool renaming false->A0,true->Y
open Decidable renaming decide->U
open Int renaming tdiv->B2,tmod->BM,toNat->AO
open List renaming drop->Bt,length->j8,replicate->BT,set->Bu,take->BQ
open Option renaming none->G,some->I
set_option linter.all false
noncomputable section
namespace Go.VS
open Go Go.Proofs Tryz
set_option linter.unusedVariables false
set_option maxRecDepth 100000
def Vk:y7 M1:=soX (fn:=f85) (l:=5) (g:=9) aii aJU rfl aJU ay9 ay8
def ak4:Cx:=cX [M3] [] []
def ao6:y8 ak4:=y9<|gC N8<|AI
def iR(x:Y0×List A1×D):Option ((A1×D)×Y0×D):=(Cl (x.1,(j8 x.2.1:Int),())).bind λa=>if inb a.1.1 x.2.1.length then let b:=(rd aJY x.2.1 a.1.1);I ((b,()),a.2) else G
def aCG:Ent:=(101,G,⟨[Z0,.fz .str],[.str],iR⟩)
def aeh:y7 aCG:=sk (v:= .nil) (fn:=f101) ao6 kN
def afO:Cx:=cX [M3,JI,M1,aCG] [] []
def agW:y8 afO:=y9<|gC N8<|gC Jy<|gC Vk<|gC aeh<|AI
def W9(x:Y10×D):Option (D×Y10×D):=(Cl (x.1.1,4,())).bind λc=>(iR (c.2.1,([(B [97]),(B [104,101,108,108,111]),(B [97,32,108,111,110,103,101,114,32,109,101,115,115,97,103,101]),(B [97,98,99,100]),(B [49,50,51,52,53,54,55,56]),(B [106,117,115,116,32,116,119,101,110,116,121,45,102,111,117,114,32,98,121,116,101,115,32,33,33]),(B [109,105,120,101,100,32,98,108,111,99,107,115])]:List A1),())).bind λb=>(BU (X:=Y10×Int×A1×D) (λa=>if inb a.2.1 a.1.2.2.1.length then(GO (((rd aJN a.1.2.2.1 a.2.1).id,(rd aJN a.1.2.2.1 a.2.1).up,(rd aJN a.1.2.2.1 a.2.1).log,(rd aJN a.1.2.2.1 a.2.1).fo,(rd aJN a.1.2.2.1 a.2.1).AJ,()),())).bind λf=>(Cl (a.1.1,4,())).bind λd=>(Cl (d.2.1,12,())).bind λe=>(G4 ((e.2.1,a.1.2),(1,a.2.1,0,0,0,0,0,d.1.1,(w64<|(w64<|f.1.1.2.1+1)+e.1.1),a.2.2),())).bind λg=>I ((),g.2) else G)<|(if U (24<(b.1.1.size:Int)) then if U (0<=24)&&U (24<=(b.1.1.size:Int)) then let h:=(b.1.1.extract (0)<|AO 24);I (.inr ((b.2.1,x.1.2),c.1.1,h,())) else G else I (.inr ((b.2.1,x.1.2),c.1.1,b.1))))
def vo:Ent:=(63,G,⟨[Z22],[],W9⟩)
def abn:y7 vo:=sk (v:=t1<|t1<|.join [(0,Z24),(2,j6),(3,.str)] .nil .nil) (fn:=f63) agW kN
def adG:Cx:=cX [M3,M1] [] [(12,18)]
def we:y8 adG:=y9<|gC N8<|gC Vk<|AI
def tr(x:Y10×aJQ):Rnd (Y10×aJQ) D (Y10×D):=if(U<|x.2.2.2.1<x.2.1)&&(U<|0<(j8 x.1.2.2.2.2.1:Int)) then(BU (X:=Y10×Int×Int×Int×Y6×D) (λe=>(BU (X:=Y10×Int×Int×Int×Y6×D) (λc=>(BU (X:=Y10×Int×Int×Int×Y6×Bool×D) (λb=>if b.2.2.2.2.2.1 then(Cl (b.1.1,17,())).bind λg=>(Cl (g.2.1,255,())).bind λh=>(G4 ((h.2.1,b.1.2),(b.2.2.2.2.1.1,b.2.2.2.2.1.2.1,b.2.2.2.2.1.2.2.1,b.2.2.2.2.1.2.2.2.1,b.2.2.2.2.1.2.2.2.2.1,g.1.1,(w64<|1+h.1.1),b.2.2.2.2.1.2.2.2.2.2.2.2),())).bind λo=>I (.inl (o.2.1,b.2.1,b.2.2.1,(w64<|b.2.2.2.1+1),())) else I (.inl (b.1,b.2.1,b.2.2.1,(w64<|b.2.2.2.1+1),())))<|(if U (c.2.2.2.2.1.1=6) then(Cl (c.1.1,2,())).bind λi=>I (.inr ((i.2.1,c.1.2),c.2.1,c.2.2.1,c.2.2.2.1,c.2.2.2.2.1,(U<|i.1.1=0),())) else I (.inr (c.1,c.2.1,c.2.2.1,c.2.2.2.1,c.2.2.2.2.1,A0,())))))<|(G4 (e.1,e.2.2.2.2)).bind λf=>if !f.1.1 then(G4 (f.2.1,(5,0,0,0,0,0,0,0,0,noB,()),())).bind λp=>I (.inr (p.2.1,e.2)) else I (.inr (f.2.1,e.2))))<|(BU (X:=Y10×Int×Int×Int×Y6×Bool×D) (λa=>if a.2.2.2.2.2.1 then(Cl (a.1.1,5,())).bind λd=>if U (d.1.1=0) then I (.inr ((d.2.1,a.1.2),a.2.1,a.2.2.1,a.2.2.2.1,(5,a.2.2.2.2.1.2),())) else if U (d.1.1=1) then I (.inr ((d.2.1,a.1.2),a.2.1,a.2.2.1,a.2.2.2.1,(a.2.2.2.2.1.1,a.2.2.2.2.1.2.1,a.2.2.2.2.1.2.2.1,a.2.2.2.2.1.2.2.2.1,a.2.2.2.2.1.2.2.2.2.1,a.2.2.2.2.1.2.2.2.2.2.1,1,a.2.2.2.2.1.2.2.2.2.2.2.2),())) else if U (d.1.1=2) then(Cl (d.2.1,(j8 a.1.2.2.2.2.1:Int),())).bind λj=>(Cl (j.2.1,17,())).bind λk=>(Cl (k.2.1,255,())).bind λl=>I (.inr ((l.2.1,a.1.2),a.2.1,a.2.2.1,a.2.2.2.1,(6,a.2.2.2.2.1.2.1,a.2.2.2.2.1.2.2.1,a.2.2.2.2.1.2.2.2.1,j.1.1,k.1.1,(w64<|1+l.1.1),a.2.2.2.2.1.2.2.2.2.2.2.2),())) else(Cl (d.2.1,(j8 a.1.2.2.2.2.1:Int),())).bind λm=>I (.inr ((m.2.1,a.1.2),a.2.1,a.2.2.1,a.2.2.2.1,(a.2.2.2.2.1.1,a.2.2.2.2.1.2.1,a.2.2.2.2.1.2.2.1,a.2.2.2.2.1.2.2.2.1,m.1.1,a.2.2.2.2.1.2.2.2.2.2),())) else I (.inr (a.1,a.2.1,a.2.2.1,a.2.2.2.1,a.2.2.2.2.1,())))<|(if U (0<x.2.2.1) then(Cl (x.1.1,x.2.2.1,())).bind λn=>I (.inr ((n.2.1,x.1.2),x.2.1,x.2.2.1,x.2.2.2.1,(4,0,0,0,0,0,0,0,0,noB,()),(U<|n.1.1=0),())) else I (.inr (x.1,x.2.1,x.2.2.1,x.2.2.2.1,(4,0,0,0,0,0,0,0,0,noB,()),A0,()))))) else I (.inr<|.inr (x.1,()))
def abh:=AS tr
def abp:Loop:=⟨[(0,Z24),(1,j6),(2,j6),(6,j6)],[(0,Z24)],0,[],abh⟩
def ad7:LF f84 [0] [1,0,0] abp:=sq (v:=t1<|.two (.one<|t1<|.join [(0,Z24),(1,j6),(2,j6),(6,j6),(7,Z25)] (.join [(0,Z24),(1,j6),(2,j6),(6,j6),(7,Z25),(33,.bool)] .nil .nil)<|.join [(0,Z24),(1,j6),(2,j6),(6,j6),(7,Z25)] .nil<|.join [(0,Z24),(1,j6),(2,j6),(6,j6),(7,Z25),(102,.bool)] .nil .nil) .nil) we (b:=tr) kN
def OO(x:Y10×aJM):Option (D×Y10×D):=(AM (abh (x.1,x.2.1,x.2.2.1,0,())) (λ_=>G) λa=>I ((),a))
def eH:Ent:=(84,G,⟨[Z22,j6,j6],[],OO⟩)
def sw:y7 eH:=sk (v:=t1<|.one<|.loop abp) (fn:=f84) we<|kC ad7 kN
def adn:Cx:=cX [M3,JI] [] []
def yZ:y8 adn:=y9<|gC N8<|gC Jy<|AI
def uF(x:Y10×Y4×aJM):Rnd (Y10×Y4×aJM) (Y10×Int×Y4×Bool×D) (Y10×Y4×D):=if U (x.2.2.2.1<4) then if inb x.2.2.1 x.1.2.2.1.length then(GO (((rd aJN x.1.2.2.1 x.2.2.1).id,(rd aJN x.1.2.2.1 x.2.2.1).up,(rd aJN x.1.2.2.1 x.2.2.1).log,(rd aJN x.1.2.2.1 x.2.2.1).fo,(rd aJN x.1.2.2.1 x.2.2.1).AJ,()),())).bind λa=>if U (0<(j8 a.1.1.2.2.2.1:Int)) then(Cl (x.1.1,(j8 a.1.1.2.2.2.1:Int),())).bind λb=>if inb b.1.1 a.1.1.2.2.2.1.length then let c:=(rd y5 a.1.1.2.2.2.1 b.1.1).fr;let d:=(rd y5 a.1.1.2.2.2.1 b.1.1).nu;let e:=(rd y5 a.1.1.2.2.2.1 b.1.1).to;let f:=(rd y5 a.1.1.2.2.2.1 b.1.1).un;let g:=(rd y5 a.1.1.2.2.2.1 b.1.1).tx;I (.inr<|.inl ((b.2.1,x.1.2),x.2.2.1,(c,d,e,f,g,()),Y,())) else G else let h:=(BM (w64<|x.2.2.1+1) 4);I (.inl (x.1,x.2.1,h,(w64<|x.2.2.2.1+1),())) else G else I (.inr<|.inr (x.1,x.2.1,()))
def aba:=AS uF
def acF:Loop:=⟨[(0,Z24),(3,Z5),(5,j6),(6,j6)],[(0,Z24),(3,Z5)],0,[(0,Z24),(2,j6),(3,Z5),(4,.bool)],aba⟩
def aeH:LF f122 [0] [1,1,0,1,0,0] acF:=sq (v:= .nil) yZ (b:=uF) kN
def ey(x:Y10×D):Option ((Int×Y4×Bool×D)×Y10×D):=(Cl (x.1.1,4,())).bind λb=>(AM (aba ((b.2.1,x.1.2),(0,0,0,0,noB,()),b.1.1,0,())) (λa=>I (a.2,(a.1,()))) λa=>I ((0,(0,0,0,0,noB,()),A0,()),(a.1,())))
def xi:Ent:=(122,G,⟨[Z22],[j6,Z6,.bool],ey⟩)
def acf:y7 xi:=sk (v:=t1<|t1<|.two (t1<|.one<|.loop acF) .nil) (fn:=f122) yZ<|kC aeH kN
def adF:Cx:=cX [M3,eH,M1,xi] [] []
def wc:y8 adF:=y9<|gC N8<|gC sw<|gC Vk<|gC acf<|AI
def tO(x:Y10×Int×Int×Int×Y4×aJM):Rnd (Y10×Int×Int×Int×Y4×aJM) D (Y10×aJM):=if U (x.2.2.2.2.2.2.1<x.2.1) then(G4 (x.1,(3,x.2.2.2.1,x.2.2.2.2.1.1,x.2.2.2.2.1.2.1,0,(w64<|x.2.2.2.2.2.1+x.2.2.2.2.2.2.1),0,0,0,noB,()),())).bind λa=>let b:=(w64<|x.2.2.2.2.2.2.1+1);I (.inl (a.2.1,x.2.1,x.2.2.1,x.2.2.2.1,x.2.2.2.2.1,x.2.2.2.2.2.1,b,())) else I (.inr<|.inr (x.1,x.2.1,x.2.2.1,()))
def abg:=AS tO
def abo:Loop:=⟨[(0,Z24),(1,j6),(2,j6),(6,j6),(7,Z5),(9,j6),(10,j6)],[(0,Z24),(1,j6),(2,j6)],0,[],abg⟩
def ad6:LF f83 [0] [1,1,1,0,1,0,0] abo:=sq (v:= .nil) wc (b:=tO) kN
def QB(x:Y10×aJM):Option (D×Y10×D):=(ey (x.1,())).bind λa=>if !a.1.2.2.1 then I ((),a.2) else(Cl (a.2.1.1,2,())).bind λc=>(Cl (c.2.1,40,())).bind λd=>(AM (abg ((d.2.1,a.2.1.2),x.2.1,x.2.2.1,a.1.1,a.1.2.1,(w64<|c.1.1 * d.1.1),0,())) (λ_=>G) λb=>(Cl (b.1.1,(w64<|b.2.1+4),())).bind λe=>(OO ((e.2.1,b.1.2),e.1.1,b.2.2)).bind λf=>I ((),f.2))
def uP:Ent:=(83,G,⟨[Z22,j6,j6],[],QB⟩)
def abf:y7 uP:=sk (v:=t1<|t1<|t1<|.two (t1<|.one<|.loop abo) .nil) (fn:=f83) wc<|kC ad6 kN
def ado:Cx:=cX [M3,uP,eH,M1] [] [(89,96)]
def WN:y8 ado:=y9<|gC N8<|gC abf<|gC sw<|gC Vk<|AI
def u9(x:Y10×aJM):Rnd (Y10×aJM) D (Y10×D):=if U (0<x.2.2.1) then(G4 (x.1,(2,x.2.1,0,0,0,0,0,0,0,noB,()),())).bind λa=>I (.inl (a.2.1,x.2.1,(w64<|x.2.2.1 - 1),())) else I (.inr<|.inr (x.1,()))
def abc:=AS u9
def acH:Loop:=⟨[(0,Z24),(5,j6),(6,j6)],[(0,Z24)],5,[],abc⟩
def aeA:LF f86 [0] [1,1,1,1,0,1,0,1,1,1,0,1,0,0] acH:=sq (v:= .nil) WN (b:=u9) kN
def uA(x:Y10×aJQ):Rnd (Y10×aJQ) D (Y10×v7):=if U (x.2.2.2.1<x.2.2.1) then(G4 (x.1,(4,0,0,0,x.2.2.2.1,0,1,0,0,noB,()),())).bind λa=>I (.inl (a.2.1,x.2.1,x.2.2.1,(w64<|x.2.2.2.1+1),())) else I (.inr<|.inr (x.1,x.2.1,()))
def abd:=AS uA
def acI:Loop:=⟨[(0,Z24),(2,j6),(3,j6),(4,j6)],[(0,Z24),(2,j6)],2,[],abd⟩
def aeD:LF f86 [0] [1,1,0,1,0,0,1,0,0,1,1,0,0] acI:=sq (v:= .nil) WN (b:=uA) kN
def uG(x:Y10×aJM):Rnd (Y10×aJM) D (Y10×D):=if(U<|x.2.2.1<12)&&(U<|x.2.1<(j8 x.1.2.2.2.2.1:Int)) then(G4 (x.1,(4,0,0,0,x.2.1,0,0,0,0,noB,()),())).bind λa=>I (.inl (a.2.1,x.2.1,(w64<|x.2.2.1+1),())) else I (.inr<|.inr (x.1,()))
def abb:=AS uG
def acG:Loop:=⟨[(0,Z24),(7,j6),(8,j6)],[(0,Z24)],7,[],abb⟩
def ae8:LF f86 [0] [1,1,1,1,1,1,1,0,1,0,0] acG:=sq (v:= .nil) WN (b:=uG) kN
def uB(x:Y10×v7):Rnd (Y10×v7) D (Y10×D):=(Cl (x.1.1,2,())).bind λa=>if U (x.2.1<(w64<|1+a.1.1)) then let c:=(j8 x.1.2.2.2.2.1:Int);(AM (abd ((a.2.1,x.1.2),x.2.1,c,0,())) (λ_=>I<|.inr<|.inl ()) λb=>I<|.inl (b.1,(w64<|b.2.1+1),())) else I (.inr<|.inr ((a.2.1,x.1.2),()))
def abe:=AS uB
def acJ:Loop:=⟨[(0,Z24),(2,j6)],[(0,Z24)],0,[],abe⟩
def aeI:LF f86 [0] [1,1,0,1,0,0] acJ:=sq (v:=t1<|.two (.one<|t1<|t1<|.one<|.loop acI) .nil) WN (b:=uB)<|kC aeD kN
def ez(x:Y10×D):Option (D×Y10×D):=(OO (x.1,40,0,())).bind λg=>(QB (g.2.1,6,0,())).bind λh=>(AM (abe (h.2.1,0,())) (λ_=>G) λb=>(Cl (b.1.1,4,())).bind λc=>(BU (X:=Y10×D) (λd=>let i:=(j8 d.1.2.2.2.2.1:Int);(QB (d.1,6,0,())).bind λj=>(AM (abb (j.2.1,i,0,())) (λ_=>G) λk=>(OO (k.1,40,0,())).bind λl=>I ((),l.2)))<|(Cl (c.2.1,3,())).bind λa=>if U (a.1.1=0) then(Cl (a.2.1,40,())).bind λe=>(G4 ((e.2.1,b.1.2),(7,c.1.1,0,0,0,0,e.1.1,0,0,noB,()),())).bind λm=>(G4 (m.2.1,(8,c.1.1,0,0,0,0,0,0,0,noB,()),())).bind λn=>I (.inr n.2) else if U (a.1.1=1) then(Cl (a.2.1,9,())).bind λf=>(AM (abc ((f.2.1,b.1.2),c.1.1,f.1)) (λ_=>G) λo=>I<|.inr o) else I (.inr ((a.2.1,b.1.2),()))))
def xj:Ent:=(86,G,⟨[Z22],[],ez⟩)
def acg:y7 xj:=sk (v:=t1<|t1<|.two (t1<|.one<|.loop acJ)<|t1<|.join [(0,Z24)] (t1<|.one<|t1<|t1<|t1<|.two (t1<|.one<|.loop acH) .nil)<|t1<|t1<|.two (t1<|.one<|.loop acG) .nil) (fn:=f86) WN<|kC aeI<|kC aeA<|kC ae8 kN
def adm:Cx:=cX [M3,JI,vo,uP,eH,M1,xj] [] []
def xW:y8 adm:=y9<|gC N8<|gC Jy<|gC abn<|gC abf<|gC sw<|gC Vk<|gC acg<|AI
def uE(x:Y10×v7):Rnd (Y10×v7) D (Y10×D):=if U (x.2.1<4) then(QB (x.1,7,0,())).bind λa=>(OO (a.2.1,20,0,())).bind λb=>I (.inl (b.2.1,(w64<|x.2.1+1),())) else I (.inr<|.inr (x.1,()))
def abZ:=AS uE
def acE:Loop:=⟨[(0,Z24),(8,j6)],[(0,Z24)],1,[],abZ⟩
def aeG:LF f45 [0] [1,1,0,1,1,1,1,1,1,1,1,1,1,1,1,1,1,1,1,1,1,1,1,1,0,0] acE:=sq (v:= .nil) xW (b:=uE) kN
def eu(x:Y10×v7):Option (D×Y10×D):=(Cl (x.1.1,4,())).bind λj=>(Cl (j.2.1,24,())).bind λg=>(BU (X:=Y10×Int×Int×Int×Bool×D) (λa=>if a.2.2.2.2.1 then(W9 (a.1,())).bind λE=>I ((),E.2) else(BU (X:=Y10×Int×Int×Int×Bool×D) (λd=>if d.2.2.2.2.1 then(Cl (d.1.1,7,())).bind λl=>(QB ((l.2.1,d.1.2),(w64<|1+l.1.1),d.2.1,())).bind λF=>I ((),F.2) else(BU (X:=Y10×Int×Int×Int×Bool×D) (λf=>if f.2.2.2.2.1 then(Cl (f.1.1,20,())).bind λm=>(OO ((m.2.1,f.1.2),(w64<|1+m.1.1),f.2.1,())).bind λH=>I ((),H.2) else(BU (X:=Y10×Int×Int×Bool×D) (λc=>if c.2.2.2.1 then(G4 (c.1,(2,c.2.1,0,0,0,0,0,0,0,noB,()),())).bind λJ=>I ((),J.2) else let K:=(U<|c.2.2.1=13);(if K then(Cl (c.1.1,50,())).bind λn=>(G4 ((n.2.1,c.1.2),(7,c.2.1,0,0,0,0,n.1.1,0,0,noB,()),())).bind λL=>I ((),L.2) else(BU (X:=Y10×Int×Int×Bool×D) (λe=>if e.2.2.2.1 then(G4 (e.1,(8,e.2.1,0,0,0,0,0,0,0,noB,()),())).bind λM=>I ((),M.2) else let N:=(U<|e.2.2.1=16);(if N then(Cl (e.1.1,2,())).bind λo=>(Cl (o.2.1,3,())).bind λp=>(G4 ((p.2.1,e.1.2),((w64<|9+o.1.1),p.1.1,0,0,0,0,0,0,0,noB,()),())).bind λO=>I ((),O.2) else(BU (X:=Y10×Int×Int×Bool×D) (λb=>if b.2.2.2.1 then if inb b.2.1 b.1.2.2.1.length then(GO (((rd aJN b.1.2.2.1 b.2.1).id,(rd aJN b.1.2.2.1 b.2.1).up,(rd aJN b.1.2.2.1 b.2.1).log,(rd aJN b.1.2.2.1 b.2.1).fo,(rd aJN b.1.2.2.1 b.2.1).AJ,()),())).bind λh=>if U (0<(j8 h.1.1.2.2.2.2.2.1:Int)) then(Cl (b.1.1,(j8 h.1.1.2.2.2.2.2.1:Int),())).bind λi=>if inb i.1.1 h.1.1.2.2.2.2.2.1.length then let P:=(rd y5 h.1.1.2.2.2.2.2.1 i.1.1).fr;let Q:=(rd y5 h.1.1.2.2.2.2.2.1 i.1.1).nu;let v55:=(rd y5 h.1.1.2.2.2.2.2.1 i.1.1).to;let v56:=(rd y5 h.1.1.2.2.2.2.2.1 i.1.1).un;let v57:=(rd y5 h.1.1.2.2.2.2.2.1 i.1.1).tx;(G4 ((i.2.1,b.1.2),(11,b.2.1,P,Q,0,0,0,0,0,noB,()),())).bind λR=>I ((),R.2) else G else I ((),(b.1,())) else G else let S:=(U<|b.2.2.1=19);(if S then(Cl (b.1.1,2,())).bind λq=>(G4 ((q.2.1,b.1.2),((w64<|12+q.1.1),b.2.1,0,0,0,0,0,0,0,noB,()),())).bind λT=>I ((),T.2) else(BU (X:=Y10×Bool×D) (λk=>if k.2.1 then(ez (k.1,())).bind λV=>I ((),V.2) else(AM (abZ (k.1,0,())) (λ_=>G) λW=>I ((),W))) (let r:=(U<|b.2.2.1=20);(if r then I (.inr (b.1,r,())) else let s:=(U<|b.2.2.1=21);(if s then I (.inr (b.1,s,())) else let Y:=(U<|b.2.2.1=22);I (.inr (b.1,Y,())))))))) (let t:=(U<|e.2.2.1=17);(if t then I (.inr (e.1,e.2.1,e.2.2.1,t,())) else let Z:=(U<|e.2.2.1=18);I (.inr (e.1,e.2.1,e.2.2.1,Z,()))))))) (let u:=(U<|c.2.2.1=14);(if u then I (.inr (c.1,c.2.1,c.2.2.1,u,())) else let v40:=(U<|c.2.2.1=15);I (.inr (c.1,c.2.1,c.2.2.1,v40,()))))))) (let v:=(U<|f.2.2.2.1=11);(if v then I (.inr (f.1,f.2.2.1,f.2.2.2.1,v,())) else let v31:=(U<|f.2.2.2.1=12);I (.inr (f.1,f.2.2.1,f.2.2.2.1,v31,())))))) (let w:=(U<|d.2.2.2.1=9);(if w then I (.inr (d.1,d.2.1,d.2.2.1,d.2.2.2.1,w,())) else let v24:=(U<|d.2.2.2.1=10);I (.inr (d.1,d.2.1,d.2.2.1,d.2.2.2.1,v24,())))))) (let y:=(U<|a.2.2.2.1=3);(if y then I (.inr (a.1,a.2.1,a.2.2.1,a.2.2.2.1,y,())) else let z:=(U<|a.2.2.2.1=4);(if z then I (.inr (a.1,a.2.1,a.2.2.1,a.2.2.2.1,z,())) else let A:=(U<|a.2.2.2.1=5);(if A then I (.inr (a.1,a.2.1,a.2.2.1,a.2.2.2.1,A,())) else let B:=(U<|a.2.2.2.1=6);(if B then I (.inr (a.1,a.2.1,a.2.2.1,a.2.2.2.1,B,())) else let C:=(U<|a.2.2.2.1=7);(if C then I (.inr (a.1,a.2.1,a.2.2.1,a.2.2.2.1,C,())) else let v17:=(U<|a.2.2.2.1=8);I (.inr (a.1,a.2.1,a.2.2.1,a.2.2.2.1,v17,()))))))))))<|(if U (g.1.1=0) then I (.inr ((g.2.1,x.1.2),x.2.1,j.1.1,g.1.1,(U<|g.1.1=0),())) else if U (g.1.1=1) then I (.inr ((g.2.1,x.1.2),x.2.1,j.1.1,g.1.1,(U<|g.1.1=1),())) else I (.inr ((g.2.1,x.1.2),x.2.1,j.1.1,g.1.1,(U<|g.1.1=2),()))))
def xh:Ent:=(45,G,⟨[Z22,j6],[],eu⟩)
def ace:y7 xh:=sk (v:=t1<|t1<|.one<|.join [(0,Z24),(1,j6),(4,j6),(18,j6),(27,.bool)] .nil<|t1<|.join [(0,Z24),(1,j6),(4,j6),(18,j6),(33,.bool)] .nil<|t1<|.join [(0,Z24),(1,j6),(4,j6),(18,j6),(49,.bool)] .nil<|t1<|.join [(0,Z24),(4,j6),(18,j6),(61,.bool)] .nil<|t1<|t1<|t1<|.join [(0,Z24),(4,j6),(18,j6),(79,.bool)] .nil<|t1<|t1<|t1<|.join [(0,Z24),(4,j6),(18,j6),(102,.bool)] .nil<|t1<|t1<|t1<|.join [(0,Z24),(153,.bool)] .nil<|t1<|t1<|.one<|.loop acE) (fn:=f45) xW<|kC aeG kN
def ak3:Cx:=cX [M3,vr,xh,vo] [] []
def aC8:y8 ak3:=y9<|gC N8<|gC abr<|gC ace<|gC abn<|AI
def k9(x:Y0×Y11×aJM):Rnd (Y0×Y11×aJM) D (Y0×Y11×D):=if U (0<x.2.2.2.1) then(eu ((x.1,x.2.1.2),x.2.2.1,())).bind λa=>I (.inl (a.2.1.1,((),a.2.1.2),x.2.2.1,(w64<|x.2.2.2.1 - 1),())) else I (.inr<|.inr (x.1,((),x.2.1.2),()))
def xF:=AS k9
def zP:Loop:=⟨[(0,Z23),(5,Z28),(6,j6),(7,j6)],[(0,Z23),(5,Z28)],0,[],xF⟩
def ail:LF f34 [0] [1,1,1,1,0,1,0,0] zP:=sq (v:= .nil) aC8 (b:=k9) kN
def iQ(x:Y0×v7):Option ((Y11×D)×Y0×D):=(Si ()).bind λa=>(Cl (x.1,5,())).bind λb=>if inb b.1.1 (([0,0,3,6,12]:List Int).length) then let f:=(rd aJR ([0,0,3,6,12]:List Int) b.1.1);(W9 ((b.2.1,a.1.1.1,a.1.1.2.1,a.1.1.2.2.1,a.1.1.2.2.2.1,a.1.1.2.2.2.2.1,a.1.1.2.2.2.2.2.1,([]:List Event),()),())).bind λc=>(Cl (c.2.1.1,x.2)).bind λd=>(AM (xF (d.2.1,((),c.2.1.2),f,d.1)) (λ_=>G) λe=>I ((((),e.2.1.2),()),(e.1,()))) else G
def aCF:Ent:=(34,G,⟨[Z0,j6],[Z28],iQ⟩)
def aeg:y7 aCF:=sk (v:=t1<|t1<|t1<|t1<|.two (t1<|.one<|.loop zP) .nil) (fn:=f34) aC8<|kC ail kN
def acw:Cx:=cX [aDN,M3,aCF] [] []
def adE:y8 acw:=y9<|gC aev<|gC N8<|gC aeg<|AI
def Lx(x:List Int×D):Option ((List Event×D)×D):=(jU x).bind λc=>(Cl (c.1.1,60,())).bind λa=>if U (a.1.1=0) then(Cl (a.2.1,2,())).bind λb=>if U (0<=(w64<|2000+b.1.1))&&U ((w64<|2000+b.1.1)<=4294967296) then I (((BT (AO<|w64<|2000+b.1.1)<|dfl .CM),()),()) else G else(iQ (a.2.1,26,())).bind λd=>I (d.1.1.2.2.2.2.2.2.2,())
def QD:Ent:=(12,G,⟨[.fz .u8],[.row 51 .CM],Lx⟩)
def SV:y7 QD:=sk (v:= .nil) (fn:=f12) adE kN
def ajV:Cx:=cX [HJ,LA,Il,Xh] [] [(57,64)]
def XD:y8 ajV:=y9<|gC Hk<|gC M4<|gC JF<|gC fJ<|AI
def gb(x:Y2×v7):Rnd (Y2×v7) (Bool×D) D:=if U (x.2.1<(j8 x.1.2.2.2.2.2.1:Int)) then if inb x.2.1 x.1.2.2.2.2.2.1.length then(Od (((rd y5 x.1.2.2.2.2.2.1 x.2.1).fr,(rd y5 x.1.2.2.2.2.2.1 x.2.1).nu,(rd y5 x.1.2.2.2.2.2.1 x.2.1).to,(rd y5 x.1.2.2.2.2.2.1 x.2.1).un,(rd y5 x.1.2.2.2.2.2.1 x.2.1).tx,()),())).bind λa=>if !a.1.1 then I (.inr<|.inl (A0,())) else I (.inl (x.1,(w64<|x.2.1+1),())) else G else I (.inr<|.inr ())
def ur:=AS gb
def zB:Loop:=⟨[(1,Z29),(7,j6)],[],6,[(2,.bool)],ur⟩
def aj4:LF f30 [] [1,1,1,1,1,0,1,0,0] zB:=sq (v:= .nil) XD (b:=gb) kN
def gf(x:Y2×v7):Rnd (Y2×v7) (Bool×D) (Y2×D):=if U (x.2.1<(j8 x.1.2.2.2.2.1:Int)) then if inb x.2.1 x.1.2.2.2.2.1.length then(Od (((rd y5 x.1.2.2.2.2.1 x.2.1).fr,(rd y5 x.1.2.2.2.2.1 x.2.1).nu,(rd y5 x.1.2.2.2.2.1 x.2.1).to,(rd y5 x.1.2.2.2.2.1 x.2.1).un,(rd y5 x.1.2.2.2.2.1 x.2.1).tx,()),())).bind λa=>if !a.1.1 then I (.inr<|.inl (A0,())) else I (.inl (x.1,(w64<|x.2.1+1),())) else G else I (.inr<|.inr (x.1,()))
def uu:=AS gf
def zC:Loop:=⟨[(1,Z29),(6,j6)],[(1,Z29)],4,[(2,.bool)],uu⟩
def aj5:LF f30 [] [1,1,1,1,0,1,0,0] zC:=sq (v:= .nil) XD (b:=gf) kN
def gh(x:Y2×v7):Rnd (Y2×v7) (Bool×D) (Y2×D):=if U (x.2.1<(j8 x.1.2.2.2.1:Int)) then if inb x.2.1 x.1.2.2.2.1.length then let a:=(rd aJS x.1.2.2.2.1 x.2.1).src;let b:=(rd aJS x.1.2.2.2.1 x.2.1).dst;let c:=(rd aJS x.1.2.2.2.1 x.2.1).data;let f:=(rd aJS x.1.2.2.2.1 x.2.1).sp;(Fo (a,())).bind λd=>if !d.1.1 then I (.inr<|.inl (A0,())) else(Fo (b,())).bind λe=>if !e.1.1 then I (.inr<|.inl (A0,())) else if !decide ((w64<|a - b)=1) then if !decide ((w64<|b - a)=1) then I (.inr<|.inl (A0,())) else if U (40<(c.size:Int)) then I (.inr<|.inl (A0,())) else I (.inl (x.1,(w64<|x.2.1+1),())) else if U (40<(c.size:Int)) then I (.inr<|.inl (A0,())) else I (.inl (x.1,(w64<|x.2.1+1),())) else G else I (.inr<|.inr (x.1,()))
def uv:=AS gh
def zD:Loop:=⟨[(1,Z29),(4,j6)],[(1,Z29)],2,[(2,.bool)],uv⟩
def aj9:LF f30 [] [1,1,1,0,1,0,0] zD:=sq (v:= .nil) XD (b:=gh) kN
def gi(x:Y2×v7):Rnd (Y2×v7) (Bool×D) (Y2×D):=if U (x.2.1<(j8 x.1.2.1:Int)) then if inb x.2.1 x.1.2.1.length then(JJ (((rd aJN x.1.2.1 x.2.1).id,(rd aJN x.1.2.1 x.2.1).up,(rd aJN x.1.2.1 x.2.1).log,(rd aJN x.1.2.1 x.2.1).fo,(rd aJN x.1.2.1 x.2.1).AJ,()),())).bind λa=>if Ae (!(!a.1.1)) (inb x.2.1 x.1.2.1.length) then if(!a.1.1)||(!decide ((rd aJN x.1.2.1 x.2.1).id=x.2.1)) then I (.inr<|.inl (A0,())) else I (.inl (x.1,(w64<|x.2.1+1),())) else G else G else I (.inr<|.inr (x.1,()))
def uw:=AS gi
def zE:Loop:=⟨[(1,Z29),(3,j6)],[(1,Z29)],0,[(2,.bool)],uw⟩
def ait:LF f30 [] [1,1,0,1,0,0] zE:=sq (v:= .nil) XD (b:=gi) kN
def QX(x:Y2×D):Option ((Bool×D)×D):=(DJ (x.1.1,0,99999,())).bind λe=>if !e.1.1 then I ((A0,()),()) else if !decide ((j8 x.1.2.1:Int)=4) then I ((A0,()),()) else if !decide ((j8 x.1.2.2.1:Int)=3) then I ((A0,()),()) else if U (30<(j8 x.1.2.2.2.1:Int)) then I ((A0,()),()) else if U (6<(j8 x.1.2.2.2.2.1:Int)) then I ((A0,()),()) else if U (6<(j8 x.1.2.2.2.2.2.1:Int)) then I ((A0,()),()) else(AM (uw (x.1,0,())) (λa=>I (a,())) λa=>(AM (uv (a.1,0,())) (λb=>I (b,())) λb=>(AM (uu (b.1,0,())) (λc=>I (c,())) λc=>(AM (ur (c.1,0,())) (λd=>I (d,())) λd=>I ((Y,()),())))))
def aCM:Ent:=(30,G,⟨[Z30],[.bool],QX⟩)
def aen:y7 aCM:=sk (v:=t1<|t1<|.two (t1<|.one<|.loop zE)<|.two (t1<|.one<|.loop zD)<|.two (t1<|.one<|.loop zC)<|.two (t1<|.one<|.loop zB) .nil) (fn:=f30) XD<|kC ait<|kC aj9<|kC aj5<|kC aj4 kN
def ajJ:Cx:=cX [NI] [] []
def aCA:y8 ajJ:=y9<|gC OQ<|AI
def iE(x:Y2×Y2×Y2×v7):Rnd (Y2×Y2×Y2×v7) D (Y2×Y2×D):=if U (x.2.2.2.1<(j8 x.1.2.1:Int)) then if inb x.2.2.2.1 x.1.2.1.length then(HH (((rd aJN x.1.2.1 x.2.2.2.1).id,(rd aJN x.1.2.1 x.2.2.2.1).up,(rd aJN x.1.2.1 x.2.2.2.1).log,(rd aJN x.1.2.1 x.2.2.2.1).fo,(rd aJN x.1.2.1 x.2.2.2.1).AJ,()),())).bind λa=>if Ac (x.2.2.1.2.1.length+([(A7.mk a.1.1.1 a.1.1.2.1 a.1.1.2.2.1 a.1.1.2.2.2.1 a.1.1.2.2.2.2.1)]:List A7).length) then I (.inl (x.1,x.2.1,(x.2.2.1.1,(x.2.2.1.2.1++([(A7.mk a.1.1.1 a.1.1.2.1 a.1.1.2.2.1 a.1.1.2.2.2.1 a.1.1.2.2.2.2.1)]:List A7)),x.2.2.1.2.2),(w64<|x.2.2.2.1+1),())) else G else G else I (.inr<|.inr (x.2.1,x.2.2.1,()))
def fA:=AS iE
def zT:Loop:=⟨[(1,Z29),(2,Z2),(3,Z2),(4,j6)],[(2,Z2),(3,Z2)],0,[],fA⟩
def ain:LF f54 [] [1,1,0,1,0,0] zT:=sq (v:= .nil) aCA (b:=iE) kN
def QV(x:Y2×D):Option ((Y2×D)×D):=if Ac (([]:List Bool).length+x.1.2.2.1.length) then if Ac (([]:List AL).length+x.1.2.2.2.1.length) then if Ac (([]:List A3).length+x.1.2.2.2.2.1.length) then if Ac (([]:List A3).length+x.1.2.2.2.2.2.1.length) then(AM (fA (x.1,(0,([]:List A7),([]:List Bool),([]:List AL),([]:List A3),([]:List A3),()),(x.1.1,([]:List A7),(([]:List Bool)++x.1.2.2.1),(([]:List AL)++x.1.2.2.2.1),(([]:List A3)++x.1.2.2.2.2.1),(([]:List A3)++x.1.2.2.2.2.2.1),()),0,())) (λ_=>G) λa=>I (a.2,())) else G else G else G else G
def aCH:Ent:=(54,G,⟨[Z30],[Z3],QV⟩)
def aei:y7 aCH:=sk (v:=t1<|t1<|.two (t1<|.one<|.loop zT) .nil) (fn:=f54) aCA<|kC ain kN
def ajW:Cx:=cX [aCM,aCH,aDk] [] []
def aoE:y8 ajW:=y9<|gC aen<|gC aei<|gC ah6<|AI
def OW(x:Y2×Y6×D):Option ((Y2×Bool×D)×D):=(QX (x.1,())).bind λb=>if !b.1.1 then I (((0,([]:List A7),([]:List Bool),([]:List AL),([]:List A3),([]:List A3),()),A0,()),()) else if U (99999<=x.1.1) then(QV (x.1,())).bind λc=>I ((c.1.1,A0,()),()) else(QV (x.1,())).bind λd=>(Xk (d.1.1,x.2)).bind λa=>if !a.1.2.1 then(QV (x.1,())).bind λe=>I ((e.1.1,A0,()),()) else(QV (a.1.1,())).bind λf=>I ((f.1.1,Y,()),())
def aCN:Ent:=(36,G,⟨[Z30,Z13],[Z3,.bool],OW⟩)
def aeo:y7 aCN:=sk (v:= .nil) (fn:=f36) aoE kN
def ah0:Cx:=cX [vr,aCN] [] []
def zZ:y8 ah0:=y9<|gC abr<|gC aeo<|AI
def fI(x:List Event×Y2×Y2×v7):Rnd (List Event×Y2×Y2×v7) D (Y2×Y2×D):=if U (x.2.2.2.1<(j8 x.1:Int)) then if inb x.2.2.2.1 x.1.length then(OW (x.2.2.1,((rd aJ1 x.1 x.2.2.2.1).ki,(rd aJ1 x.1 x.2.2.2.1).at_,(rd aJ1 x.1 x.2.2.2.1).fr,(rd aJ1 x.1 x.2.2.2.1).nu,(rd aJ1 x.1 x.2.2.2.1).wo,(rd aJ1 x.1 x.2.2.2.1).mix,(rd aJ1 x.1 x.2.2.2.1).kp,(rd aJ1 x.1 x.2.2.2.1).to,(rd aJ1 x.1 x.2.2.2.1).un,(rd aJ1 x.1 x.2.2.2.1).tx,()),())).bind λa=>I (.inl (x.1,x.2.1,a.1.1,(w64<|x.2.2.2.1+1),())) else G else I (.inr<|.inr (x.2.1,x.2.2.1,()))
def dY:=AS fI
def xO:Loop:=⟨[(0,.sl .CM),(2,Z2),(3,Z2),(4,j6)],[(2,Z2),(3,Z2)],0,[],dY⟩
def agM:LF f14 [] [1,1,1,0,1,0,0] xO:=sq (v:= .nil) zZ (b:=fI) kN
def N9(x:List Event×D):Option ((Y2×D)×D):=(Si ()).bind λa=>if U (2000<(j8 x.1:Int)) then I (a.1,()) else(AM (dY (x.1,(0,([]:List A7),([]:List Bool),([]:List AL),([]:List A3),([]:List A3),()),a.1.1,0,())) (λ_=>G) λb=>I (b.2,()))
def QJ:Ent:=(14,G,⟨[.fz .CM],[Z3],N9⟩)
def SW:y7 QJ:=sk (v:=t1<|t1<|t1<|.two (t1<|.one<|.loop xO) .nil) (fn:=f14) zZ<|kC agM kN
def acz:Cx:=cX [] [] []
def adX:y8 acz:=y9<|AI
def dV(x:List A7×D):Option ((List A7×D)×D):=if U ((j8 x.1:Int)=0) then I ((([]:List A7),()),()) else if U (0<=(j8 x.1:Int))&&U ((j8 x.1:Int)<=4294967296) then I (((BQ (BT (AO (j8 x.1:Int))<|dfl .AK).length x.1++Bt x.1.length (BT (AO (j8 x.1:Int))<|dfl .AK)),()),()) else G
def xD:Ent:=(70,G,⟨[.fz .AK],[.row 45 .AK],dV⟩)
def acP:y7 xD:=sk (v:= .nil) (fn:=f70) adX kN
def ady:Cx:=cX [] [] []
def af8:y8 ady:=y9<|AI
def eU(x:List Bool×D):Option ((List Bool×D)×D):=if U ((j8 x.1:Int)=0) then I ((([]:List Bool),()),()) else if U (0<=(j8 x.1:Int))&&U ((j8 x.1:Int)<=4294967296) then I (((BQ (BT (AO (j8 x.1:Int))<|dfl .bool).length x.1++Bt x.1.length (BT (AO (j8 x.1:Int))<|dfl .bool)),()),()) else G
def xm:Ent:=(71,G,⟨[.fz .bool],[.row 4 .bool],eU⟩)
def acT:y7 xm:=sk (v:= .nil) (fn:=f71) af8 kN
def acy:Cx:=cX [] [] []
def adW:y8 acy:=y9<|AI
def df(x:List AL×D):Option ((List AL×D)×D):=if U ((j8 x.1:Int)=0) then I ((([]:List AL),()),()) else if U (0<=(j8 x.1:Int))&&U ((j8 x.1:Int)<=4294967296) then I (((BQ (BT (AO (j8 x.1:Int))<|dfl .Ah).length x.1++Bt x.1.length (BT (AO (j8 x.1:Int))<|dfl .Ah)),()),()) else G
def xC:Ent:=(72,G,⟨[.fz .Ah],[.row 59 .Ah],df⟩)
def acO:y7 xC:=sk (v:= .nil) (fn:=f72) adW kN
def adz:Cx:=cX [] [] []
def af9:y8 adz:=y9<|AI
def OS(x:List A3×D):Option ((List A3×D)×D):=if U ((j8 x.1:Int)=0) then I ((([]:List A3),()),()) else if U (0<=(j8 x.1:Int))&&U ((j8 x.1:Int)<=4294967296) then I (((BQ (BT (AO (j8 x.1:Int))<|dfl .note).length x.1++Bt x.1.length (BT (AO (j8 x.1:Int))<|dfl .note)),()),()) else G
def vJ:Ent:=(73,G,⟨[.fz .note],[.row 36 .note],OS⟩)
def abk:y7 vJ:=sk (v:= .nil) (fn:=f73) af9 kN
def ae1:Cx:=cX [] [] []
def afB:y8 ae1:=y9<|AI
def uh(x:List AG×D):Option ((List AG×D)×D):=if U ((j8 x.1:Int)=0) then I ((([]:List AG),()),()) else if U (0<=(j8 x.1:Int))&&U ((j8 x.1:Int)<=4294967296) then I (((BQ (BT (AO (j8 x.1:Int))<|dfl .half).length x.1++Bt x.1.length (BT (AO (j8 x.1:Int))<|dfl .half)),()),()) else G
def xS:Ent:=(116,G,⟨[.fz .half],[.row 107 .half],uh⟩)
def acV:y7 xS:=sk (v:= .nil) (fn:=f116) afB kN
def adJ:Cx:=cX [] [] []
def ade:y8 adJ:=y9<|AI
def uO(x:List AT×D):Option ((List AT×D)×D):=if U ((j8 x.1:Int)=0) then I ((([]:List AT),()),()) else if U (0<=(j8 x.1:Int))&&U ((j8 x.1:Int)<=4294967296) then I (((BQ (BT (AO (j8 x.1:Int))<|dfl .mixed).length x.1++Bt x.1.length (BT (AO (j8 x.1:Int))<|dfl .mixed)),()),()) else G
def wb:Ent:=(117,G,⟨[.fz .mixed],[.row 142 .mixed],uO⟩)
def acS:y7 wb:=sk (v:= .nil) (fn:=f117) ade kN
def afY:Cx:=cX [xS,wb] [] []
def yr:y8 afY:=y9<|gC acV<|gC acS<|AI
def eQ(x:Y1×Y1×aJM):Rnd (Y1×Y1×aJM) D (Y1×Y1×D):=if U (x.2.2.2.1<x.2.2.1) then if inb x.2.2.2.1 x.2.1.2.2.2.2.1.length then(uO ((rd aJP x.2.1.2.2.2.2.1 x.2.2.2.1).got,())).bind λa=>if inb x.2.2.2.1 x.2.1.2.2.2.2.1.length then I (.inl (x.1,(x.2.1.1,x.2.1.2.1,x.2.1.2.2.1,x.2.1.2.2.2.1,(Bu x.2.1.2.2.2.2.1 (AO x.2.2.2.1)<|AG.mk ((rd aJP x.2.1.2.2.2.2.1 x.2.2.2.1).fr) ((rd aJP x.2.1.2.2.2.2.1 x.2.2.2.1).nu) ((rd aJP x.2.1.2.2.2.2.1 x.2.2.2.1).to) ((rd aJP x.2.1.2.2.2.2.1 x.2.2.2.1).un) ((rd aJP x.2.1.2.2.2.2.1 x.2.2.2.1).sz) a.1.1),()),x.2.2.1,(w64<|x.2.2.2.1+1),())) else G else G else I (.inr<|.inr (x.1,x.2.1,()))
def tG:=AS eQ
def wz:Loop:=⟨[(2,Z20),(3,Z20),(12,j6),(13,j6)],[(2,Z20),(3,Z20)],0,[],tG⟩
def aef:LF f74 [] [1,1,1,0,1,0,0] wz:=sq (v:= .nil) yr (b:=eQ) kN
def I9(x:Y1×D):Option ((Y1×D)×D):=(uh x.1.2.2.2.2).bind λa=>(AM (tG ((0,A0,noB,0,([]:List AG),()),(x.1.1,x.1.2.1,x.1.2.2.1,x.1.2.2.2.1,a.1),(j8 a.1.1:Int),0,())) (λ_=>G) λb=>I (b.2,()))
def Ly:Ent:=(74,G,⟨[Z12],[Z1],I9⟩)
def N7:y7 Ly:=sk (v:=t1<|t1<|t1<|.two (t1<|.one<|.loop wz) .nil) (fn:=f74) yr<|kC aef kN
def aga:Cx:=cX [xD,xm,xC,vJ,Ly] [] []
def za:y8 aga:=y9<|gC acP<|gC acT<|gC acO<|gC abk<|gC N7<|AI
def fK(x:Y2×Y2×aJM):Rnd (Y2×Y2×aJM) D (Y2×Y2×D):=if U (x.2.2.2.1<x.2.2.1) then if inb x.2.2.2.1 x.2.1.2.1.length then(I9 (((rd aJN x.2.1.2.1 x.2.2.2.1).id,(rd aJN x.2.1.2.1 x.2.2.2.1).up,(rd aJN x.2.1.2.1 x.2.2.2.1).log,(rd aJN x.2.1.2.1 x.2.2.2.1).fo,(rd aJN x.2.1.2.1 x.2.2.2.1).AJ,()),())).bind λa=>if inb x.2.2.2.1 x.2.1.2.1.length then I (.inl (x.1,(x.2.1.1,(Bu x.2.1.2.1 (AO x.2.2.2.1)<|A7.mk a.1.1.1 a.1.1.2.1 a.1.1.2.2.1 a.1.1.2.2.2.1 a.1.1.2.2.2.2.1),x.2.1.2.2),x.2.2.1,(w64<|x.2.2.2.1+1),())) else G else G else I (.inr<|.inr (x.1,x.2.1,()))
def de:=AS fK
def xo:Loop:=⟨[(2,Z2),(3,Z2),(25,j6),(26,j6)],[(2,Z2),(3,Z2)],0,[],de⟩
def agO:LF f39 [] [1,1,0,1,0,0] xo:=sq (v:= .nil) za (b:=fK) kN
def K6(x:Y2×D):Option ((Y2×D)×D):=(dV (x.1.2.1,())).bind λa=>(eU (x.1.2.2.1,())).bind λb=>(df (x.1.2.2.2.1,())).bind λc=>(OS (x.1.2.2.2.2.1,())).bind λd=>(OS x.1.2.2.2.2.2).bind λe=>(AM (de ((0,([]:List A7),([]:List Bool),([]:List AL),([]:List A3),([]:List A3),()),(x.1.1,a.1.1,b.1.1,c.1.1,d.1.1,e.1),(j8 a.1.1:Int),0,())) (λ_=>G) λf=>I (f.2,()))
def gE:Ent:=(39,G,⟨[Z30],[Z3],K6⟩)
def tV:y7 gE:=sk (v:=t1<|t1<|.two (t1<|.one<|.loop xo) .nil) (fn:=f39) za<|kC agO kN
def asO:Cx:=cX [] [] [(11,13)]
def au3:y8 asO:=y9<|AI
def CB(x:aJQ):Option ((Bool×D)×D):=let a:=((U<|x.2.1<=x.1)&&(U<|x.1<=x.2.2.1));I ((a,()),())
def FX:Ent:=(60,G,⟨[j6,j6,j6],[.bool],CB⟩)
def Ft:y7 FX:=sk (v:= .nil) (fn:=f60) au3 kN
def aoW:Cx:=cX [FX] [] []
def aph:y8 aoW:=y9<|gC Ft<|AI
def Fs(x:v7):Option ((Bool×D)×D):=(CB (x.1,0,3,())).bind λa=>I (a.1,())
def JG:Ent:=(62,G,⟨[j6],[.bool],Fs⟩)
def Jz:y7 JG:=sk (v:= .nil) (fn:=f62) aph kN
def adY:Cx:=cX [JG] [] []
def afC:y8 adY:=y9<|gC Jz<|AI
def vG(x:v7):Option ((Y1×D)×D):=(Fs x).bind λa=>if !a.1.1 then I (((0,A0,noB,0,([]:List AG),()),()),()) else I (((x.1,Y,noB,0,([]:List AG),()),()),())
def xT:Ent:=(66,G,⟨[j6],[Z1],vG⟩)
def acW:y7 xT:=sk (v:= .nil) (fn:=f66) afC kN
def aey:Cx:=cX [gE,xT] [] []
def yt:y8 aey:=y9<|gC tV<|gC acW<|AI
def WJ(x:Y2×Y2×v7):Rnd (Y2×Y2×v7) D (Y2×Y2×D):=if U (x.2.2.1<4) then(vG x.2.2).bind λa=>if Ac (x.2.1.2.1.length+([(A7.mk a.1.1.1 a.1.1.2.1 a.1.1.2.2.1 a.1.1.2.2.2.1 a.1.1.2.2.2.2.1)]:List A7).length) then if U (0<x.2.2.1) then if Ac (x.2.1.2.2.1.length+([Y]:List Bool).length) then I (.inl (x.1,(x.2.1.1,(x.2.1.2.1++([(A7.mk a.1.1.1 a.1.1.2.1 a.1.1.2.2.1 a.1.1.2.2.2.1 a.1.1.2.2.2.2.1)]:List A7)),(x.2.1.2.2.1++([Y]:List Bool)),x.2.1.2.2.2),(w64<|x.2.2.1+1),())) else G else I (.inl (x.1,(x.2.1.1,(x.2.1.2.1++([(A7.mk a.1.1.1 a.1.1.2.1 a.1.1.2.2.1 a.1.1.2.2.2.1 a.1.1.2.2.2.2.1)]:List A7)),x.2.1.2.2),(w64<|x.2.2.1+1),())) else G else I (.inr<|.inr (x.1,x.2.1,()))
def dh:=AS WJ
def wY:Loop:=⟨[(0,Z2),(1,Z2),(2,j6)],[(0,Z2),(1,Z2)],0,[],dh⟩
def aeP:LF f37 [] [1,1,0,1,0,0] wY:=sq (v:= .nil) yt (b:=WJ) kN
def fP(x:D):Option ((Y2×D)×D):=(AM (dh ((0,([]:List A7),([]:List Bool),([]:List AL),([]:List A3),([]:List A3),()),(0,([]:List A7),([]:List Bool),([]:List AL),([]:List A3),([]:List A3),()),0,())) (λ_=>G) λa=>(K6 a.2).bind λb=>I (b.1,()))
def yj:Ent:=(37,G,⟨[],[Z3],fP⟩)
def acp:y7 yj:=sk (v:=t1<|t1<|.two (t1<|.one<|.loop wY) .nil) (fn:=f37) yt<|kC aeP kN
def aoe:Cx:=cX [FX] [] [(20,29)]
def apn:y8 aoe:=y9<|gC Ft<|AI
def jh(x:Y2×Y6×D):Option ((Bool×D)×Y2×D):=(CB (x.2.1.2.1,0,(w64<|(j8 x.1.2.2.1:Int) - 1),())).bind λa=>if Ae (!(!a.1.1)) (inb x.2.1.2.1 x.1.2.2.1.length) then if(!a.1.1)||(U<|(rd aJ3 x.1.2.2.1 x.2.1.2.1)=(U<|x.2.1.1=9)) then I ((A0,()),(x.1,())) else if inb x.2.1.2.1 x.1.2.2.1.length then I ((Y,()),((x.1.1,x.1.2.1,(Bu x.1.2.2.1 (AO x.2.1.2.1)<|U<|x.2.1.1=9),x.1.2.2.2),())) else G else G
def aCu:Ent:=(67,G,⟨[Z2,Z13],[.bool],jh⟩)
def afz:y7 aCu:=sk (v:= .nil) (fn:=f67) apn kN
def agb:Cx:=cX [] [] []
def aiF:y8 agb:=y9<|AI
def Wa(x:List AL×v7):Option ((List AL×D)×D):=if U (0<=x.2.1)&&U (x.2.1<=(j8 x.1:Int)) then if Ac (([]:List AL).length+(BQ (AO x.2.1) x.1).length) then if U (0<=(w64<|x.2.1+1))&&U ((w64<|x.2.1+1)<=(j8 x.1:Int)) then if Ac ((([]:List AL)++(BQ (AO x.2.1) x.1)).length+(Bt (AO<|w64<|x.2.1+1) x.1).length) then I ((((([]:List AL)++(BQ (AO x.2.1) x.1))++(Bt (AO<|w64<|x.2.1+1) x.1)),()),()) else G else G else G else G
def zu:Ent:=(104,G,⟨[.fz .Ah,j6],[.row 59 .Ah],Wa⟩)
def ad9:y7 zu:=sk (v:= .nil) (fn:=f104) aiF kN
def aid:Cx:=cX [JG] [] []
def akD:y8 aid:=y9<|gC Jz<|AI
def I6(x:aJM):Option ((v7)×D):=(BU (X:=Int×Int×Bool×D) (λa=>if a.2.2.1 then I (((-1),()),()) else if U (a.1<a.2.1) then I (((w64<|a.1+1),()),()) else I (((w64<|a.1 - 1),()),()))<|(Fs (x.1,())).bind λb=>if !b.1.1 then I (.inr (x.1,x.2.1,Y,())) else(Fs x.2).bind λc=>if !c.1.1 then I (.inr (x.1,x.2.1,Y,())) else I (.inr (x.1,x.2.1,(U<|x.1=x.2.1),())))
def Sx:Ent:=(44,G,⟨[j6,j6],[j6],I6⟩)
def Vy:y7 Sx:=sk (v:=t1<|.two (.one<|.join [(0,j6),(1,j6),(5,.bool)] .nil .nil) .nil) (fn:=f44) akD kN
def akT:Cx:=cX [Sx,FX,JG] [] [(56,63),(82,89)]
def ao0:y8 akT:=y9<|gC Vy<|gC Ft<|gC Jz<|AI
def XJ(x:Y6×D):Option ((Bool×D)×D):=(Fs (x.1.2.1,())).bind λb=>if !b.1.1 then I ((A0,()),()) else(Fs (x.1.2.2.1,())).bind λc=>if !c.1.1 then I ((A0,()),()) else(Fs (x.1.2.2.2.1,())).bind λd=>if !d.1.1 then I ((A0,()),()) else(Fs (x.1.2.2.2.2.2.1,())).bind λe=>if !e.1.1 then I ((A0,()),()) else(CB (x.1.2.2.2.2.1,1,99,())).bind λf=>if !f.1.1 then I ((A0,()),()) else(CB (x.1.2.2.2.2.2.2.1,1,999,())).bind λg=>if !g.1.1 then I ((A0,()),()) else if U (x.1.1=1) then(CB (x.1.2.2.2.2.2.2.2.1,1,24,())).bind λh=>if h.1.1 then(CB (x.1.2.2.2.2.2.2.2.2.1,0,999,())).bind λi=>if i.1.1 then if Ae (U<|(x.1.2.2.2.2.2.2.2.2.2.1.size:Int)=4) ((I6 (x.1.2.1,x.1.2.2.2.2.2.1,())).isSome) then let j:=((U<|(x.1.2.2.2.2.2.2.2.2.2.1.size:Int)=4)&&(U<|x.1.2.2.1=((I6 (x.1.2.1,x.1.2.2.2.2.2.1,())).getD ((0,()),())).1.1));I ((j,()),()) else G else if Ae A0 ((I6 (x.1.2.1,x.1.2.2.2.2.2.1,())).isSome) then I ((A0,()),()) else G else if Ae A0 ((I6 (x.1.2.1,x.1.2.2.2.2.2.1,())).isSome) then I ((A0,()),()) else G else(BU (X:=Y6×Bool×D) (λa=>if a.2.1 then if U (a.1.2.2.2.2.2.2.2.1=0) then if U (a.1.2.2.2.2.2.2.2.2.1=0) then if Ae (U<|a.1.2.2.2.2.2.2.2.2.2.1=noB) ((I6 (a.1.2.2.1,a.1.2.2.2.2.2.1,())).isSome) then let k:=((U<|a.1.2.2.2.2.2.2.2.2.2.1=noB)&&(U<|a.1.2.1=((I6 (a.1.2.2.1,a.1.2.2.2.2.2.1,())).getD ((0,()),())).1.1));I ((k,()),()) else G else if Ae A0 ((I6 (a.1.2.2.1,a.1.2.2.2.2.2.1,())).isSome) then I ((A0,()),()) else G else if Ae A0 ((I6 (a.1.2.2.1,a.1.2.2.2.2.2.1,())).isSome) then I ((A0,()),()) else G else I ((A0,()),()))<|(if U (x.1.1=2) then I (.inr (x.1,(U<|x.1.1=2),())) else I (.inr (x.1,(U<|x.1.1=3),()))))
def kW:Ent:=(146,G,⟨[Z13],[.bool],XJ⟩)
def xf:y7 kW:=sk (v:=t1<|t1<|.two (t1<|.one<|t1<|t1<|.join [(1,Z14),(65,.bool)] .nil .nil) .nil) (fn:=f146) ao0 kN
def aih:Cx:=cX [] [] []
def aBV:y8 aih:=y9<|AI
def gD(x:Int×List Int×aJM):Rnd (Int×List Int×aJM) D (v7):=if U (x.2.2.2.1<x.2.2.1) then if inb x.2.2.2.1 x.2.1.length then let a:=(rd aJW x.2.1 x.2.2.2.1);let b:=(BM (w64<|x.1+(w64<|(w64 a) * (w64<|(BM x.2.2.2.1 1000)+1))) 65521);I (.inl (b,x.2.1,x.2.2.1,(w64<|x.2.2.2.1+1),())) else G else I (.inr<|.inr (x.1,()))
def eG:=AS gD
def yg:Loop:=⟨[(3,j6),(6,.sl .u8),(7,j6),(8,j6)],[(3,j6)],0,[],eG⟩
def ai3:LF f182 [] [1,1,0,1,0,0] yg:=sq (v:= .nil) aBV (b:=gD) kN
def Wv(x:List Int×D):Option ((v7)×D):=(AM (eG (0,x.1,(j8 x.1:Int),0,())) (λ_=>G) λa=>I (a,()))
def aBP:Ent:=(182,G,⟨[.fz .u8],[j6],Wv⟩)
def adj:y7 aBP:=sk (v:=t1<|t1<|.two (t1<|.one<|.loop yg) .nil) (fn:=f182) aBV<|kC ai3 kN
def adx:Cx:=cX [] [] []
def af7:y8 adx:=y9<|AI
def eS(x:List Int×D):Option ((List Int×D)×D):=if U ((j8 x.1:Int)=0) then I ((([]:List Int),()),()) else if U (0<=(j8 x.1:Int))&&U ((j8 x.1:Int)<=4294967296) then I (((BQ (BT (AO (j8 x.1:Int))<|dfl .u8).length x.1++Bt x.1.length (BT (AO (j8 x.1:Int))<|dfl .u8)),()),()) else G
def xl:Ent:=(183,G,⟨[.fz .u8],[.row 5 .u8],eS⟩)
def acd:y7 xl:=sk (v:= .nil) (fn:=f183) af7 kN
def agt:Cx:=cX [kW,aBP,xl] [] []
def aiP:y8 agt:=y9<|gC xf<|gC adj<|gC acd<|AI
def QI(x:Y6×D):Option ((List Int×D)×D):=(XJ x).bind λc=>if !c.1.1 then I ((([]:List Int),()),()) else(BU (X:=List Int×D) (λb=>(Wv b).bind λa=>if Ac (b.1.length+([(w8<|w64<|B2 a.1.1 256),(w8<|BM a.1.1 256)]:List Int).length) then(eS ((b.1++([(w8<|w64<|B2 a.1.1 256),(w8<|BM a.1.1 256)]:List Int)),())).bind λd=>I (d.1,()) else G)<|(if U (x.1.1=1) then if Ac (([(w8 x.1.1),(w8 x.1.2.1),(w8 x.1.2.2.1),(w8 x.1.2.2.2.1),(w8 x.1.2.2.2.2.1),(w8 x.1.2.2.2.2.2.1),(w8<|w64<|B2 x.1.2.2.2.2.2.2.1 256),(w8<|BM x.1.2.2.2.2.2.2.1 256)]:List Int).length+([(w8 x.1.2.2.2.2.2.2.2.1),(w8<|w64<|B2 x.1.2.2.2.2.2.2.2.2.1 256),(w8<|BM x.1.2.2.2.2.2.2.2.2.1 256)]:List Int).length) then if Ac ((([(w8 x.1.1),(w8 x.1.2.1),(w8 x.1.2.2.1),(w8 x.1.2.2.2.1),(w8 x.1.2.2.2.2.1),(w8 x.1.2.2.2.2.2.1),(w8<|w64<|B2 x.1.2.2.2.2.2.2.1 256),(w8<|BM x.1.2.2.2.2.2.2.1 256)]:List Int)++([(w8 x.1.2.2.2.2.2.2.2.1),(w8<|w64<|B2 x.1.2.2.2.2.2.2.2.2.1 256),(w8<|BM x.1.2.2.2.2.2.2.2.2.1 256)]:List Int)).length+(BD x.1.2.2.2.2.2.2.2.2.2.1).length) then I (.inr (((([(w8 x.1.1),(w8 x.1.2.1),(w8 x.1.2.2.1),(w8 x.1.2.2.2.1),(w8 x.1.2.2.2.2.1),(w8 x.1.2.2.2.2.2.1),(w8<|w64<|B2 x.1.2.2.2.2.2.2.1 256),(w8<|BM x.1.2.2.2.2.2.2.1 256)]:List Int)++([(w8 x.1.2.2.2.2.2.2.2.1),(w8<|w64<|B2 x.1.2.2.2.2.2.2.2.2.1 256),(w8<|BM x.1.2.2.2.2.2.2.2.2.1 256)]:List Int))++(BD x.1.2.2.2.2.2.2.2.2.2.1)),())) else G else G else I (.inr (([(w8 x.1.1),(w8 x.1.2.1),(w8 x.1.2.2.1),(w8 x.1.2.2.2.1),(w8 x.1.2.2.2.2.1),(w8 x.1.2.2.2.2.2.1),(w8<|w64<|B2 x.1.2.2.2.2.2.2.1 256),(w8<|BM x.1.2.2.2.2.2.2.1 256)]:List Int),()))))
def wF:Ent:=(145,G,⟨[Z13],[.row 5 .u8],QI⟩)
def xB:y7 wF:=sk (v:=t1<|t1<|t1<|.join [(3,.row 5 .u8)] .nil .nil) (fn:=f145) aiP kN
def ada:Cx:=cX [wF] [] [(9,11)]
def afE:y8 ada:=y9<|gC xB<|AI
def fF(x:List Int×D):Option ((Y6×Bool×D)×D):=if(!decide ((j8 x.1:Int)=10))&&(!decide ((j8 x.1:Int)=17)) then I (((0,0,0,0,0,0,0,0,0,noB,()),A0,()),()) else if inb 0 x.1.length then if inb 1 x.1.length then if inb 2 x.1.length then if inb 3 x.1.length then if inb 4 x.1.length then if inb 5 x.1.length then if inb 6 x.1.length then if inb 7 x.1.length then let b:=(w64<|rd aJW x.1 0);let c:=(w64<|rd aJW x.1 1);let d:=(w64<|rd aJW x.1 2);let e:=(w64<|rd aJW x.1 3);let f:=(w64<|rd aJW x.1 4);let g:=(w64<|rd aJW x.1 5);let h:=(w64<|(w64<|256 * (w64<|rd aJW x.1 6))+(w64<|rd aJW x.1 7));(BU (X:=List Int×Y6×Y6×D) (λa=>(QI a.2.2).bind λi=>if !decide ((BI i.1.1)=(BI a.1)) then I (((0,0,0,0,0,0,0,0,0,noB,()),A0,()),()) else I ((a.2.2.1,Y,()),()))<|(if U ((j8 x.1:Int)=17) then if inb 8 x.1.length then let j:=(w64<|rd aJW x.1 8);(if inb 9 x.1.length then if inb 10 x.1.length then let k:=(w64<|(w64<|256 * (w64<|rd aJW x.1 9))+(w64<|rd aJW x.1 10));(if(U (0<=15)&&U (15<=(j8 x.1:Int)))&&(U (0<=11)&&U (11<=15)) then let l:=(BI<|Bt (AO 11)<|BQ (AO 15) x.1);I (.inr (x.1,(0,0,0,0,0,0,0,0,0,noB,()),(b,c,d,e,f,g,h,j,k,l,()),())) else G) else G else G) else G else I (.inr (x.1,(0,0,0,0,0,0,0,0,0,noB,()),(b,c,d,e,f,g,h,0,0,noB,()),())))) else G else G else G else G else G else G else G else G
def xV:Ent:=(105,G,⟨[.fz .u8],[Z13,.bool],fF⟩)
def aci:y7 xV:=sk (v:=t1<|t1<|t1<|.join [(0,.sl .u8),(2,Z14),(4,Z14)] .nil .nil) (fn:=f105) afE kN
def acx:Cx:=cX [] [] []
def adV:y8 acx:=y9<|AI
def SX(x:List A1×D):Option ((List A1×D)×D):=if U ((j8 x.1:Int)=0) then I ((([]:List A1),()),()) else if U (0<=(j8 x.1:Int))&&U ((j8 x.1:Int)<=4294967296) then I (((BQ (BT (AO (j8 x.1:Int))<|dfl .str).length x.1++Bt x.1.length (BT (AO (j8 x.1:Int))<|dfl .str)),()),()) else G
def eC:Ent:=(118,G,⟨[.fz .str],[.row 9 .str],SX⟩)
def su:y7 eC:=sk (v:= .nil) (fn:=f118) adV kN
def akI:Cx:=cX [FX] [] [(11,18)]
def aCT:y8 akI:=y9<|gC Ft<|AI
def gu(x:A1×aJM):Rnd (A1×aJM) (Int×Bool×D) (v7):=if U (x.2.2.1<(x.1.size:Int)) then if inb x.2.2.1 x.1.size then(CB ((w64<|bt x.1 x.2.2.1),48,57,())).bind λa=>if !a.1.1 then I (.inr<|.inl (0,A0,())) else if inb x.2.2.1 x.1.size then let b:=(w64<|(w64<|10 * x.2.1)+(w64<|w8<|(bt x.1 x.2.2.1) - 48));I (.inl (x.1,b,(w64<|x.2.2.1+1),())) else G else G else I (.inr<|.inr (x.2.1,()))
def ub:=AS gu
def aA9:Loop:=⟨[(0,.str),(4,j6),(5,j6)],[(4,j6)],0,[(2,j6),(3,.bool)],ub⟩
def ajp:LF f119 [] [1,1,1,0,1,0,0] aA9:=sq (v:= .nil) aCT (b:=gu) kN
def QZ(x:A1×D):Option ((Int×Bool×D)×D):=(CB ((x.1.size:Int),1,5,())).bind λb=>if Ae (!(!b.1.1)) (inb 0 x.1.size) then if(!b.1.1)||((U<|(bt x.1 0)=48)&&(U<|1<(x.1.size:Int))) then I ((0,A0,()),()) else(AM (ub (x.1,0,0,())) (λa=>I (a,())) λa=>I ((a.1,Y,()),())) else G
def jP:Ent:=(119,G,⟨[.str],[j6,.bool],QZ⟩)
def ua:y7 jP:=sk (v:=t1<|t1<|t1<|.two (t1<|.one<|.loop aA9) .nil) (fn:=f119) aCT<|kC ajp kN
def agf:Cx:=cX [FX,eC,jP] [] [(26,29),(38,41)]
def wI:y8 agf:=y9<|gC Ft<|gC su<|gC ua<|AI
def fN(x:A1×List A1×aJM):Rnd (A1×List A1×aJM) D (A1×List A1×aJM):=if U (x.2.2.2.1<(x.1.size:Int)) then if Ae (U<|x.2.2.2.1<(w64<|x.2.2.1+3)) (inb x.2.2.2.1 x.1.size) then if(U<|x.2.2.2.1<(w64<|x.2.2.1+3))&&(!decide ((bt x.1 x.2.2.2.1)=58)) then I (.inl (x.1,x.2.1,x.2.2.1,(w64<|x.2.2.2.1+1),())) else I (.inr<|.inr x) else G else if Ae A0 (inb x.2.2.2.1 x.1.size) then I (.inr<|.inr x) else G
def tZ:=AS fN
def xq:Loop:=⟨[(0,.str),(4,.row 9 .str),(5,j6),(6,j6)],[(0,.str),(4,.row 9 .str),(5,j6),(6,j6)],2,[],tZ⟩
def agG:LF f81 [] [1,1,1,0,0,0,1,0,1,0,0,0] xq:=sq (v:= .nil) wI (b:=fN) kN
def Sk(x:A1×List A1×v7):Rnd (A1×List A1×v7) D (List A1×v7):=if U (x.2.2.1<(x.1.size:Int)) then(AM (tZ (x.1,x.2.1,x.2.2.1,x.2.2)) (λ_=>I<|.inr<|.inl ()) λa=>(if Ae (!(U<|(a.1.size:Int)<=a.2.2.2.1)) (inb a.2.2.2.1 a.1.size) then if(U<|(a.1.size:Int)<=a.2.2.2.1)||(!decide ((bt a.1 a.2.2.2.1)=58)) then I (.inr<|.inr (a.2.1,a.2.2.1,())) else if(U (0<=a.2.2.2.1)&&U (a.2.2.2.1<=(a.1.size:Int)))&&(U (0<=a.2.2.1)&&U (a.2.2.1<=a.2.2.2.1)) then(QZ ((a.1.extract (AO a.2.2.1)<|AO a.2.2.2.1),())).bind λc=>let b:=(w64<|(w64<|a.2.2.2.1+1)+c.1.1);(if !c.1.2.1 then I (.inr<|.inr (a.2.1,a.2.2.1,())) else(CB (c.1.1,1,60,())).bind λd=>if !d.1.1 then I (.inr<|.inr (a.2.1,a.2.2.1,())) else if U ((a.1.size:Int)<=b) then I (.inr<|.inr (a.2.1,a.2.2.1,())) else if inb b a.1.size then if !decide ((bt a.1 b)=59) then I (.inr<|.inr (a.2.1,a.2.2.1,())) else if(U (0<=b)&&U (b<=(a.1.size:Int)))&&(U (0<=(w64<|a.2.2.2.1+1))&&U ((w64<|a.2.2.2.1+1)<=b)) then if Ac (a.2.1.length+([(a.1.extract (AO<|w64<|a.2.2.2.1+1)<|AO b)]:List A1).length) then I (.inl (a.1,(a.2.1++([(a.1.extract (AO<|w64<|a.2.2.2.1+1)<|AO b)]:List A1)),(w64<|b+1),())) else G else G else G) else G else G)) else I (.inr<|.inr x.2)
def td:=AS Sk
def xt:Loop:=⟨[(0,.str),(4,.row 9 .str),(5,j6)],[(4,.row 9 .str),(5,j6)],0,[],td⟩
def agQ:LF f81 [] [1,1,1,0,0,0] xt:=sq (v:=t1<|.one<|t1<|.two (.one<|.loop xq) .nil) wI (b:=Sk)<|kC agG kN
def QQ(x:A1×D):Option ((List A1×v7)×D):=(AM (td (x.1,([]:List A1),0,())) (λ_=>G) λa=>(SX (a.1,())).bind λb=>I ((b.1.1,a.2),()))
def gG:Ent:=(81,G,⟨[.str],[.row 9 .str,j6],QQ⟩)
def tY:y7 gG:=sk (v:=t1<|t1<|t1<|.two (.one<|.loop xt) .nil) (fn:=f81) wI<|kC agQ kN
def ags:Cx:=cX [JG] [] []
def aiO:y8 ags:=y9<|gC Jz<|AI
def fv(x:v7):Option ((Y3×D)×D):=(Fs x).bind λa=>if !a.1.1 then I (((0,0,0,([]:List A3),([]:List Mark),([]:List A3),()),()),()) else I (((x.1,0,1,([]:List A3),([]:List Mark),([]:List A3),()),()),())
def zW:Ent:=(120,G,⟨[j6],[Z4],fv⟩)
def adN:y7 zW:=sk (v:= .nil) (fn:=f120) aiO kN
def aoV:Cx:=cX [] [] [(21,24)]
def aCc:y8 aoV:=y9<|AI
def iv(x:Int×Int×List Mark×aJM):Rnd (Int×Int×List Mark×aJM) (v7) D:=if U (x.2.2.2.2.1<x.2.2.2.1) then if inb x.2.2.2.2.1 x.2.2.1.length then let a:=(rd aJV x.2.2.1 x.2.2.2.2.1).mf;let b:=(rd aJV x.2.2.1 x.2.2.2.2.1).mn;let c:=(rd aJV x.2.2.1 x.2.2.2.2.1).mu;if(U<|a=x.1)&&(U<|b=x.2.1) then I (.inr<|.inl x.2.2.2.2) else I (.inl (x.1,x.2.1,x.2.2.1,x.2.2.2.1,(w64<|x.2.2.2.2.1+1),())) else G else I (.inr<|.inr ())
def vW:=AS iv
def aAN:Loop:=⟨[(1,j6),(2,j6),(9,.sl .mark),(10,j6),(11,j6)],[],0,[(6,j6)],vW⟩
def anm:LF f185 [] [1,0,1,0,0] aAN:=sq (v:= .nil) aCc (b:=iv) kN
def LC(x:List Mark×aJM):Option ((v7)×D):=(AM (vW (x.2.1,x.2.2.1,x.1,(j8 x.1:Int),0,())) (λa=>I (a,())) λa=>I (((-1),()),()))
def Xi:Ent:=(185,G,⟨[.fz .mark,j6,j6],[j6],LC⟩)
def fL:y7 Xi:=sk (v:=t1<|.two (t1<|.one<|.loop aAN) .nil) (fn:=f185) aCc<|kC anm kN
def aoP:Cx:=cX [FX] [] []
def aD6:y8 aoP:=y9<|gC Ft<|AI
def jE(x:A1×v7):Rnd (A1×v7) (Bool×D) (A1×D):=if U (x.2.1<(x.1.size:Int)) then if inb x.2.1 x.1.size then(CB ((w64<|bt x.1 x.2.1),32,126,())).bind λa=>if !a.1.1 then I (.inr<|.inl (A0,())) else I (.inl (x.1,(w64<|x.2.1+1),())) else G else I (.inr<|.inr (x.1,()))
def vd:=AS jE
def aAp:Loop:=⟨[(0,.str),(3,j6)],[(0,.str)],0,[(2,.bool)],vd⟩
def ani:LF f132 [] [1,0,1,0,0] aAp:=sq (v:= .nil) aD6 (b:=jE) kN
def Oe(x:A1×D):Option ((Bool×D)×D):=(AM (vd (x.1,0,())) (λa=>I (a,())) λa=>(CB ((a.1.size:Int),1,24,())).bind λb=>I (b.1,()))
def aCo:Ent:=(132,G,⟨[.str],[.bool],Oe⟩)
def afr:y7 aCo:=sk (v:=t1<|.two (t1<|.one<|.loop aAp) .nil) (fn:=f132) aD6<|kC ani kN
def ao1:Cx:=cX [FX,JG,aCo] [] [(22,24)]
def apr:y8 ao1:=y9<|gC Ft<|gC Jz<|gC afr<|AI
def Og(x:Y4×D):Option ((Bool×D)×D):=(Fs (x.1.1,())).bind λb=>if b.1.1 then(Fs (x.1.2.2.1,())).bind λc=>if c.1.1 then(CB (x.1.2.1,1,99,())).bind λd=>if d.1.1 then(CB (x.1.2.2.2.1,1,999,())).bind λa=>if Ae a.1.1 ((Oe x.1.2.2.2.2).isSome) then let e:=(a.1.1&&(((Oe x.1.2.2.2.2).getD ((A0,()),())).1.1));I ((e,()),()) else G else if Ae A0 ((Oe x.1.2.2.2.2).isSome) then I ((A0,()),()) else G else if Ae A0 ((Oe x.1.2.2.2.2).isSome) then I ((A0,()),()) else G else if Ae A0 ((Oe x.1.2.2.2.2).isSome) then I ((A0,()),()) else G
def TN:Ent:=(100,G,⟨[Z6],[.bool],Og⟩)
def WR:y7 TN:=sk (v:= .nil) (fn:=f100) apr kN
def aoc:Cx:=cX [] [] [(13,20)]
def apl:y8 aoc:=y9<|AI
def M8(x:Int×aJQ):Option ((Bool×D)×D):=let a:=((U<|x.1<x.2.2.1)||((U<|x.1=x.2.2.1)&&(U<|x.2.1<x.2.2.2.1)));I ((a,()),())
def Xj:Ent:=(236,G,⟨[j6,j6,j6,j6],[.bool],M8⟩)
def fM:y7 Xj:=sk (v:= .nil) (fn:=f236) apl kN
def ajg:Cx:=cX [TN,Xj] [] [(16,37)]
def aCS:y8 ajg:=y9<|gC WR<|gC fM<|AI
def gr(x:List A3×List A3×aJM):Rnd (List A3×List A3×aJM) (Bool×D) D:=if U (x.2.2.2.1<x.2.2.1) then if inb x.2.2.2.1 x.2.1.length then let b:=(rd y5 x.2.1 x.2.2.2.1).fr;let c:=(rd y5 x.2.1 x.2.2.2.1).nu;let d:=(rd y5 x.2.1 x.2.2.2.1).to;let e:=(rd y5 x.2.1 x.2.2.2.1).un;let f:=(rd y5 x.2.1 x.2.2.2.1).tx;(Og ((b,c,d,e,f,()),())).bind λa=>if Ae ((!(!a.1.1))&&(U<|0<x.2.2.2.1)) (inb (w64<|x.2.2.2.1 - 1) x.1.length) then if Ae ((!(!a.1.1))&&(U<|0<x.2.2.2.1)) (inb (w64<|x.2.2.2.1 - 1) x.1.length) then if Ae ((!(!a.1.1))&&(U<|0<x.2.2.2.1)) ((M8 ((rd y5 x.1<|w64<|x.2.2.2.1 - 1).fr,(rd y5 x.1<|w64<|x.2.2.2.1 - 1).nu,b,c,())).isSome) then if(!a.1.1)||((U<|0<x.2.2.2.1)&&(!(((M8 ((rd y5 x.1<|w64<|x.2.2.2.1 - 1).fr,(rd y5 x.1<|w64<|x.2.2.2.1 - 1).nu,b,c,())).getD ((A0,()),())).1.1))) then I (.inr<|.inl (A0,())) else I (.inl (x.1,x.2.1,x.2.2.1,(w64<|x.2.2.2.1+1),())) else G else G else G else G else I (.inr<|.inr ())
def uZ:=AS gr
def aA8:Loop:=⟨[(0,.sl .note),(5,.sl .note),(6,j6),(7,j6)],[],0,[(2,.bool)],uZ⟩
def ajo:LF f195 [] [1,0,1,0,0] aA8:=sq (v:= .nil) aCS (b:=gr) kN
def XF(x:List A3×D):Option ((Bool×D)×D):=(AM (uZ (x.1,x.1,(j8 x.1:Int),0,())) (λa=>I (a,())) λa=>I ((Y,()),()))
def aC1:Ent:=(195,G,⟨[.fz .note],[.bool],XF⟩)
def aeQ:y7 aC1:=sk (v:=t1<|.two (t1<|.one<|.loop aA8) .nil) (fn:=f195) aCS<|kC ajo kN
def aoT:Cx:=cX [FX,JG] [] [(12,14)]
def apg:y8 aoT:=y9<|gC Ft<|gC Jz<|AI
def jg(x:Y5×D):Option ((Bool×D)×D):=(Fs (x.1.1,())).bind λb=>if b.1.1 then(CB (x.1.2.1,1,99,())).bind λa=>if Ae a.1.1 ((CB (x.1.2.2.1,1,999,())).isSome) then let c:=(a.1.1&&(((CB (x.1.2.2.1,1,999,())).getD ((A0,()),())).1.1));I ((c,()),()) else G else if Ae A0 ((CB (x.1.2.2.1,1,999,())).isSome) then I ((A0,()),()) else G
def aCp:Ent:=(237,G,⟨[Z11],[.bool],jg⟩)
def afs:y7 aCp:=sk (v:= .nil) (fn:=f237) apg kN
def akJ:Cx:=cX [Xj,aCp] [] [(16,37)]
def aCU:y8 akJ:=y9<|gC fM<|gC afs<|AI
def gv(x:List Mark×List Mark×aJM):Rnd (List Mark×List Mark×aJM) (Bool×D) D:=if U (x.2.2.2.1<x.2.2.1) then if inb x.2.2.2.1 x.2.1.length then let b:=(rd aJV x.2.1 x.2.2.2.1).mf;let c:=(rd aJV x.2.1 x.2.2.2.1).mn;let d:=(rd aJV x.2.1 x.2.2.2.1).mu;(jg ((b,c,d,()),())).bind λa=>if Ae ((!(!a.1.1))&&(U<|0<x.2.2.2.1)) (inb (w64<|x.2.2.2.1 - 1) x.1.length) then if Ae ((!(!a.1.1))&&(U<|0<x.2.2.2.1)) (inb (w64<|x.2.2.2.1 - 1) x.1.length) then if Ae ((!(!a.1.1))&&(U<|0<x.2.2.2.1)) ((M8 ((rd aJV x.1<|w64<|x.2.2.2.1 - 1).mf,(rd aJV x.1<|w64<|x.2.2.2.1 - 1).mn,b,c,())).isSome) then if(!a.1.1)||((U<|0<x.2.2.2.1)&&(!(((M8 ((rd aJV x.1<|w64<|x.2.2.2.1 - 1).mf,(rd aJV x.1<|w64<|x.2.2.2.1 - 1).mn,b,c,())).getD ((A0,()),())).1.1))) then I (.inr<|.inl (A0,())) else I (.inl (x.1,x.2.1,x.2.2.1,(w64<|x.2.2.2.1+1),())) else G else G else G else G else I (.inr<|.inr ())
def ue:=AS gv
def aAB:Loop:=⟨[(0,.sl .mark),(5,.sl .mark),(6,j6),(7,j6)],[],0,[(2,.bool)],ue⟩
def ajq:LF f196 [] [1,0,1,0,0] aAB:=sq (v:= .nil) aCU (b:=gv) kN
def ir(x:List Mark×D):Option ((Bool×D)×D):=(AM (ue (x.1,x.1,(j8 x.1:Int),0,())) (λa=>I (a,())) λa=>I ((Y,()),()))
def aC3:Ent:=(196,G,⟨[.fz .mark],[.bool],ir⟩)
def aeS:y7 aC3:=sk (v:=t1<|.two (t1<|.one<|.loop aAB) .nil) (fn:=f196) aCU<|kC ajq kN
def aq5:Cx:=cX [FX] [] [(10,23)]
def aqo:y8 aq5:=y9<|gC Ft<|AI
def Xw(x:Int×Y4×D):Option ((Bool×D)×D):=if Ae (!decide (x.1=x.2.1.2.2.1)) ((CB (x.1,x.2.1.1,x.2.1.2.2.1,())).isSome) then if Ae ((!decide (x.1=x.2.1.2.2.1))&&(!(((CB (x.1,x.2.1.1,x.2.1.2.2.1,())).getD ((A0,()),())).1.1))) ((CB (x.1,x.2.1.2.2.1,x.2.1.1,())).isSome) then let a:=((!decide (x.1=x.2.1.2.2.1))&&((((CB (x.1,x.2.1.1,x.2.1.2.2.1,())).getD ((A0,()),())).1.1)||(((CB (x.1,x.2.1.2.2.1,x.2.1.1,())).getD ((A0,()),())).1.1)));I ((a,()),()) else G else G
def aDo:Ent:=(197,G,⟨[j6,Z6],[.bool],Xw⟩)
def ai7:y7 aDo:=sk (v:= .nil) (fn:=f197) aqo kN
def ao3:Cx:=cX [FX,JG,Xi,aC1,aC3,aDo] [] [(123,127)]
def jr:y8 ao3:=y9<|gC Ft<|gC Jz<|gC fL<|gC aeQ<|gC aeS<|gC ai7<|AI
def jL(x:Y3×List A3×aJM):Rnd (Y3×List A3×aJM) (Bool×D) D:=if U (x.2.2.2.1<x.2.2.1) then if inb x.2.2.2.1 x.2.1.length then let ap:=(rd y5 x.2.1 x.2.2.2.1).fr;let Ud:=(rd y5 x.2.1 x.2.2.2.1).nu;let ao:=(rd y5 x.2.1 x.2.2.2.1).to;let a:=(rd y5 x.2.1 x.2.2.2.1).un;let aEg:=(rd y5 x.2.1 x.2.2.2.1).tx;(if U (ap=x.1.1) then if U (x.1.2.2.1<=Ud) then I (.inr<|.inl (A0,())) else if !decide (ao=x.1.1) then I (.inr<|.inl (A0,())) else if U (x.1.2.1<a) then(LC (x.1.2.2.2.2.1,ap,Ud,())).bind λamU=>if U (amU.1.1<0) then I (.inr<|.inl (A0,())) else I (.inl (x.1,x.2.1,x.2.2.1,(w64<|x.2.2.2.1+1),())) else I (.inl (x.1,x.2.1,x.2.2.1,(w64<|x.2.2.2.1+1),())) else if !decide (ao=x.1.1) then I (.inr<|.inl (A0,())) else if U (x.1.2.1<a) then(LC (x.1.2.2.2.2.1,ap,Ud,())).bind λamT=>if U (amT.1.1<0) then I (.inr<|.inl (A0,())) else I (.inl (x.1,x.2.1,x.2.2.1,(w64<|x.2.2.2.1+1),())) else I (.inl (x.1,x.2.1,x.2.2.1,(w64<|x.2.2.2.1+1),()))) else G else I (.inr<|.inr ())
def vk:=AS jL
def aAW:Loop:=⟨[(1,Z7),(131,.sl .note),(132,j6),(133,j6)],[],4,[(2,.bool)],vk⟩
def anC:LF f158 [] [1,1,1,1,1,0,1,0,0] aAW:=sq (v:= .nil) jr (b:=jL) kN
def jM(x:Y3×List Mark×aJM):Rnd (Y3×List Mark×aJM) (Bool×D) (Y3×D):=if U (x.2.2.2.1<x.2.2.1) then if inb x.2.2.2.1 x.2.1.length then let amJ:=(rd aJV x.2.1 x.2.2.2.1).mf;let ou:=(rd aJV x.2.1 x.2.2.2.1).mn;let a:=(rd aJV x.2.1 x.2.2.2.1).mu;if U (amJ=x.1.1) then if(U<|x.1.2.2.1<=ou)||(U<|a<=x.1.2.1) then I (.inr<|.inl (A0,())) else I (.inl (x.1,x.2.1,x.2.2.1,(w64<|x.2.2.2.1+1),())) else if U (a<=x.1.2.1) then I (.inr<|.inl (A0,())) else I (.inl (x.1,x.2.1,x.2.2.1,(w64<|x.2.2.2.1+1),())) else G else I (.inr<|.inr (x.1,()))
def vl:=AS jM
def aB7:Loop:=⟨[(1,Z7),(104,.sl .mark),(105,j6),(106,j6)],[(1,Z7)],2,[(2,.bool)],vl⟩
def an1:LF f158 [] [1,1,1,1,0,1,0,0] aB7:=sq (v:= .nil) jr (b:=jM) kN
def jN(x:Y3×List A3×aJM):Rnd (Y3×List A3×aJM) (Bool×D) (Y3×D):=if U (x.2.2.2.1<x.2.2.1) then if inb x.2.2.2.1 x.2.1.length then let a:=(rd y5 x.2.1 x.2.2.2.1).fr;let b:=(rd y5 x.2.1 x.2.2.2.1).nu;let d:=(rd y5 x.2.1 x.2.2.2.1).to;let c:=(rd y5 x.2.1 x.2.2.2.1).un;let e:=(rd y5 x.2.1 x.2.2.2.1).tx;if U (a=x.1.1) then if U (x.1.2.2.1<=b) then I (.inr<|.inl (A0,())) else if U (c<=x.1.2.1) then I (.inr<|.inl (A0,())) else(Xw (x.1.1,(a,b,d,c,e,()),())).bind λf=>if !f.1.1 then I (.inr<|.inl (A0,())) else(LC (x.1.2.2.2.2.1,a,b,())).bind λg=>if U (0<=g.1.1) then I (.inr<|.inl (A0,())) else I (.inl (x.1,x.2.1,x.2.2.1,(w64<|x.2.2.2.1+1),())) else if U (c<=x.1.2.1) then I (.inr<|.inl (A0,())) else(Xw (x.1.1,(a,b,d,c,e,()),())).bind λh=>if !h.1.1 then I (.inr<|.inl (A0,())) else(LC (x.1.2.2.2.2.1,a,b,())).bind λi=>if U (0<=i.1.1) then I (.inr<|.inl (A0,())) else I (.inl (x.1,x.2.1,x.2.2.1,(w64<|x.2.2.2.1+1),())) else G else I (.inr<|.inr (x.1,()))
def vm:=AS jN
def aB8:Loop:=⟨[(1,Z7),(60,.sl .note),(61,j6),(62,j6)],[(1,Z7)],0,[(2,.bool)],vm⟩
def anq:LF f158 [] [1,1,1,0,1,0,0] aB8:=sq (v:= .nil) jr (b:=jN) kN
def Qg(x:Y3×D):Option ((Bool×D)×D):=(Fs (x.1.1,())).bind λb=>if !b.1.1 then I ((A0,()),()) else(CB (x.1.2.1,0,999,())).bind λc=>if !c.1.1 then I ((A0,()),()) else(CB (x.1.2.2.1,1,100,())).bind λd=>if !d.1.1 then I ((A0,()),()) else if U (6<(j8 x.1.2.2.2.1:Int)) then I ((A0,()),()) else if U (12<(j8 x.1.2.2.2.2.1:Int)) then I ((A0,()),()) else if U (6<(j8 x.1.2.2.2.2.2.1:Int)) then I ((A0,()),()) else(XF (x.1.2.2.2.1,())).bind λe=>if !e.1.1 then I ((A0,()),()) else(ir (x.1.2.2.2.2.1,())).bind λf=>if !f.1.1 then I ((A0,()),()) else(XF x.1.2.2.2.2.2).bind λg=>if !g.1.1 then I ((A0,()),()) else(AM (vm (x.1,x.1.2.2.2.1,(j8 x.1.2.2.2.1:Int),0,())) (λa=>I (a,())) λa=>(AM (vl (a.1,a.1.2.2.2.2.1,(j8 a.1.2.2.2.2.1:Int),0,())) (λUc=>I (Uc,())) λUc=>(AM (vk (Uc.1,Uc.1.2.2.2.2.2.1,(Uc.1.2.2.2.2.2.1.length:Int),0,())) (λaEe=>I (aEe,())) λaEe=>I ((Y,()),()))))
def lr:Ent:=(158,G,⟨[Z8],[.bool],Qg⟩)
def ye:y7 lr:=sk (v:=t1<|t1<|t1<|.two (t1<|.one<|.loop aB8)<|.two (t1<|.one<|.loop aB7)<|.two (t1<|.one<|.loop aAW) .nil) (fn:=f158) jr<|kC anq<|kC an1<|kC anC kN
def akM:Cx:=cX [] [] []
def l4:y8 akM:=y9<|AI
def gy(x:Int×Y3×Y3×List Mark×aJM):Rnd (Int×Y3×Y3×List Mark×aJM) D (Y3×Y3×D):=if U (x.2.2.2.2.2.1<x.2.2.2.2.1) then if inb x.2.2.2.2.2.1 x.2.2.2.1.length then let b:=(rd aJV x.2.2.2.1 x.2.2.2.2.2.1).mf;let c:=(rd aJV x.2.2.2.1 x.2.2.2.2.2.1).mn;let a:=(rd aJV x.2.2.2.1 x.2.2.2.2.2.1).mu;if U (x.1<a) then if Ac (x.2.2.1.2.2.2.2.1.length+([(Mark.mk b c a)]:List Mark).length) then I (.inl (x.1,x.2.1,(x.2.2.1.1,x.2.2.1.2.1,x.2.2.1.2.2.1,x.2.2.1.2.2.2.1,(x.2.2.1.2.2.2.2.1++([(Mark.mk b c a)]:List Mark)),x.2.2.1.2.2.2.2.2),x.2.2.2.1,x.2.2.2.2.1,(w64<|x.2.2.2.2.2.1+1),())) else G else I (.inl (x.1,x.2.1,x.2.2.1,x.2.2.2.1,x.2.2.2.2.1,(w64<|x.2.2.2.2.2.1+1),())) else G else I (.inr<|.inr (x.2.1,x.2.2.1,()))
def ui:=AS gy
def aAD:Loop:=⟨[(1,j6),(4,Z9),(5,Z31),(37,.sl .mark),(38,j6),(39,j6)],[(4,Z9),(5,Z31)],2,[],ui⟩
def ajD:LF f239 [] [1,1,1,0,1,0,0] aAD:=sq (v:= .nil) l4 (b:=gy) kN
def gz(x:Int×Y3×Y3×Y3×List A3×aJM):Rnd (Int×Y3×Y3×Y3×List A3×aJM) D (Int×Y3×Y3×Y3×D):=if U (x.2.2.2.2.2.2.1<x.2.2.2.2.2.1) then if inb x.2.2.2.2.2.2.1 x.2.2.2.2.1.length then let b:=(rd y5 x.2.2.2.2.1 x.2.2.2.2.2.2.1).fr;let c:=(rd y5 x.2.2.2.2.1 x.2.2.2.2.2.2.1).nu;let d:=(rd y5 x.2.2.2.2.1 x.2.2.2.2.2.2.1).to;let a:=(rd y5 x.2.2.2.2.1 x.2.2.2.2.2.2.1).un;let e:=(rd y5 x.2.2.2.2.1 x.2.2.2.2.2.2.1).tx;if U (x.1<a) then if Ac (x.2.2.2.1.2.2.2.1.length+([(A3.mk b c d a e)]:List A3).length) then I (.inl (x.1,x.2.1,x.2.2.1,(x.2.2.2.1.1,x.2.2.2.1.2.1,x.2.2.2.1.2.2.1,(x.2.2.2.1.2.2.2.1++([(A3.mk b c d a e)]:List A3)),x.2.2.2.1.2.2.2.2),x.2.2.2.2.1,x.2.2.2.2.2.1,(w64<|x.2.2.2.2.2.2.1+1),())) else G else I (.inl (x.1,x.2.1,x.2.2.1,x.2.2.2.1,x.2.2.2.2.1,x.2.2.2.2.2.1,(w64<|x.2.2.2.2.2.2.1+1),())) else G else I (.inr<|.inr (x.1,x.2.1,x.2.2.1,x.2.2.2.1,()))
def vA:=AS gz
def aAE:Loop:=⟨[(1,j6),(2,Z7),(4,Z9),(5,Z31),(19,.sl .note),(20,j6),(21,j6)],[(1,j6),(2,Z7),(4,Z9),(5,Z31)],0,[],vA⟩
def ajr:LF f239 [] [1,1,0,1,0,0] aAE:=sq (v:= .nil) l4 (b:=gz) kN
def j9(x:Y3×v7):Option ((Y3×D)×D):=(AM (vA (x.2.1,x.1,(0,0,0,([]:List A3),([]:List Mark),([]:List A3),()),(x.1.1,x.2.1,x.1.2.2.1,([]:List A3),([]:List Mark),x.1.2.2.2.2.2),x.1.2.2.2.1,(j8 x.1.2.2.2.1:Int),0,())) (λ_=>G) λa=>(AM (ui (a.1,a.2.2.1,a.2.2.2.1,a.2.1.2.2.2.2.1,(j8 a.2.1.2.2.2.2.1:Int),0,())) (λ_=>G) λb=>I (b.2,())))
def aC4:Ent:=(239,G,⟨[Z8,j6],[Z8],j9⟩)
def afF:y7 aC4:=sk (v:=t1<|t1<|.two (t1<|.one<|.loop aAE)<|.two (t1<|.one<|.loop aAD) .nil) (fn:=f239) l4<|kC ajr<|kC ajD kN
def aq7:Cx:=cX [aC4] [] [(12,15),(24,27)]
def aqq:y8 aq7:=y9<|gC afF<|AI
def Xp(x:Y3×A1×v7):Option ((Y3×Bool×D)×D):=let a:=((U<|x.2.1=(B [116,105,109,101]))&&(U<|x.1.2.1<x.2.2.1));(if a then(j9 (x.1,x.2.2)).bind λb=>I ((b.1.1,Y,()),()) else let c:=((U<|x.2.1=(B [110,101,120,116]))&&(U<|x.1.2.2.1<x.2.2.1));(if c then I (((x.1.1,x.1.2.1,x.2.2.1,x.1.2.2.2),Y,()),()) else I ((x.1,A0,()),())))
def aDp:Ent:=(199,G,⟨[Z8,.str,j6],[Z8,.bool],Xp⟩)
def aha:y7 aDp:=sk (v:= .nil) (fn:=f199) aqq kN
def agm:Cx:=cX [TN,T7] [] []
def aiJ:y8 agm:=y9<|gC WR<|gC Vz<|AI
def NB(x:Y4×D):Option ((A1×D)×D):=(Og x).bind λe=>if !e.1.1 then I ((noB,()),()) else(JH (x.1.1,())).bind λa=>if U (a.1.1.size+(B [32]).size<=4611686018427387904) then(JH (x.1.2.1,())).bind λb=>if U ((a.1.1++(B [32])).size+b.1.1.size<=4611686018427387904) then if U (((a.1.1++(B [32]))++b.1.1).size+(B [32]).size<=4611686018427387904) then(JH (x.1.2.2.1,())).bind λc=>if U ((((a.1.1++(B [32]))++b.1.1)++(B [32])).size+c.1.1.size<=4611686018427387904) then if U (((((a.1.1++(B [32]))++b.1.1)++(B [32]))++c.1.1).size+(B [32]).size<=4611686018427387904) then(JH (x.1.2.2.2.1,())).bind λd=>if U ((((((a.1.1++(B [32]))++b.1.1)++(B [32]))++c.1.1)++(B [32])).size+d.1.1.size<=4611686018427387904) then if U (((((((a.1.1++(B [32]))++b.1.1)++(B [32]))++c.1.1)++(B [32]))++d.1.1).size+(B [32]).size<=4611686018427387904) then if U ((((((((a.1.1++(B [32]))++b.1.1)++(B [32]))++c.1.1)++(B [32]))++d.1.1)++(B [32])).size+x.1.2.2.2.2.1.size<=4611686018427387904) then let f:=((((((((a.1.1++(B [32]))++b.1.1)++(B [32]))++c.1.1)++(B [32]))++d.1.1)++(B [32]))++x.1.2.2.2.2.1);I ((f,()),()) else G else G else G else G else G else G else G else G
def Wj:Ent:=(151,G,⟨[Z6],[.str],NB⟩)
def dz:y7 Wj:=sk (v:= .nil) (fn:=f151) aiJ kN
def aiX:Cx:=cX [jP] [] []
def aBT:y8 aiX:=y9<|gC ua<|AI
def fj(x:List Int×List A1×aJM):Rnd (List Int×List A1×aJM) (List Int×Bool×D) (List Int×D):=if U (x.2.2.2.1<x.2.2.1) then if inb x.2.2.2.1 x.2.1.length then let b:=(rd aJY x.2.1 x.2.2.2.1);(QZ (b,())).bind λa=>if !a.1.2.1 then I (.inr<|.inl (([]:List Int),A0,())) else if Ac (x.1.length+([a.1.1]:List Int).length) then I (.inl ((x.1++([a.1.1]:List Int)),x.2.1,x.2.2.1,(w64<|x.2.2.2.1+1),())) else G else G else I (.inr<|.inr (x.1,()))
def uN:=AS fj
def yX:Loop:=⟨[(4,.row 3 .int),(9,.sl .str),(10,j6),(11,j6)],[(4,.row 3 .int)],0,[(2,.row 3 .int),(3,.bool)],uN⟩
def ai0:LF f202 [] [1,1,0,1,0,0] yX:=sq (v:= .nil) aBT (b:=fj) kN
def Sr(x:List A1×D):Option ((List Int×Bool×D)×D):=(AM (uN (([]:List Int),x.1,(j8 x.1:Int),0,())) (λa=>I (a,())) λa=>I ((a.1,Y,()),()))
def jv:Ent:=(202,G,⟨[.fz .str],[.row 3 .int,.bool],Sr⟩)
def wy:y7 jv:=sk (v:=t1<|t1<|.two (t1<|.one<|.loop yX) .nil) (fn:=f202) aBT<|kC ai0 kN
def aic:Cx:=cX [TN,Wj,jv,zm] [] [(43,46)]
def akC:y8 aic:=y9<|gC WR<|gC dz<|gC wy<|gC ad0<|AI
def XA(x:A1×D):Option ((Y4×Bool×D)×D):=(vj (x.1,(B [32]),5,())).bind λb=>if !decide ((j8 b.1.1:Int)=5) then I (((0,0,0,0,noB,()),A0,()),()) else if U (0<=4)&&U (4<=(j8 b.1.1:Int)) then(Sr ((BQ (AO 4) b.1.1),())).bind λa=>if !a.1.2.1 then I (((0,0,0,0,noB,()),A0,()),()) else if inb 0 a.1.1.length then if inb 1 a.1.1.length then if inb 2 a.1.1.length then if inb 3 a.1.1.length then if inb 4 b.1.1.length then(Og (((rd aJR a.1.1 0),(rd aJR a.1.1 1),(rd aJR a.1.1 2),(rd aJR a.1.1 3),(rd aJY b.1.1 4),()),())).bind λc=>if Ae (!(!c.1.1)) ((NB (((rd aJR a.1.1 0),(rd aJR a.1.1 1),(rd aJR a.1.1 2),(rd aJR a.1.1 3),(rd aJY b.1.1 4),()),())).isSome) then if(!c.1.1)||(!decide (((NB (((rd aJR a.1.1 0),(rd aJR a.1.1 1),(rd aJR a.1.1 2),(rd aJR a.1.1 3),(rd aJY b.1.1 4),()),())).getD ((noB,()),())).1.1=x.1)) then I (((0,0,0,0,noB,()),A0,()),()) else I ((((rd aJR a.1.1 0),(rd aJR a.1.1 1),(rd aJR a.1.1 2),(rd aJR a.1.1 3),(rd aJY b.1.1 4),()),Y,()),()) else G else G else G else G else G else G else G
def aBO:Ent:=(200,G,⟨[.str],[Z6,.bool],XA⟩)
def adi:y7 aBO:=sk (v:= .nil) (fn:=f200) akC kN
def aoS:Cx:=cX [] [] [(21,24)]
def aCa:y8 aoS:=y9<|AI
def jG(x:Int×Int×List A3×aJM):Rnd (Int×Int×List A3×aJM) (v7) D:=if U (x.2.2.2.2.1<x.2.2.2.1) then if inb x.2.2.2.2.1 x.2.2.1.length then let a:=(rd y5 x.2.2.1 x.2.2.2.2.1).fr;let b:=(rd y5 x.2.2.1 x.2.2.2.2.1).nu;let c:=(rd y5 x.2.2.1 x.2.2.2.2.1).to;let d:=(rd y5 x.2.2.1 x.2.2.2.2.1).un;let e:=(rd y5 x.2.2.1 x.2.2.2.2.1).tx;if(U<|a=x.1)&&(U<|b=x.2.1) then I (.inr<|.inl x.2.2.2.2) else I (.inl (x.1,x.2.1,x.2.2.1,x.2.2.2.1,(w64<|x.2.2.2.2.1+1),())) else G else I (.inr<|.inr ())
def vf:=AS jG
def aAs:Loop:=⟨[(1,j6),(2,j6),(9,.sl .note),(10,j6),(11,j6)],[],0,[(6,j6)],vf⟩
def ank:LF f52 [] [1,0,1,0,0] aAs:=sq (v:= .nil) aCa (b:=jG) kN
def HI(x:List A3×aJM):Option ((v7)×D):=(AM (vf (x.2.1,x.2.2.1,x.1,(j8 x.1:Int),0,())) (λa=>I (a,())) λa=>I (((-1),()),()))
def M9:Ent:=(52,G,⟨[.fz .note,j6,j6],[j6],HI⟩)
def NC:y7 M9:=sk (v:=t1<|.two (t1<|.one<|.loop aAs) .nil) (fn:=f52) aCa<|kC ank kN
def aoR:Cx:=cX [Xj] [] [(11,25)]
def aCZ:y8 aoR:=y9<|gC fM<|AI
def jF(x:List A3×Y4×v7):Rnd (List A3×Y4×v7) D (List A3×Y4×v7):=if Ae (U<|x.2.2.1<(j8 x.1:Int)) (inb x.2.2.1 x.1.length) then if Ae (U<|x.2.2.1<(j8 x.1:Int)) (inb x.2.2.1 x.1.length) then if Ae (U<|x.2.2.1<(j8 x.1:Int)) ((M8 ((rd y5 x.1 x.2.2.1).fr,(rd y5 x.1 x.2.2.1).nu,x.2.1.1,x.2.1.2.1,())).isSome) then if(U<|x.2.2.1<(j8 x.1:Int))&&(((M8 ((rd y5 x.1 x.2.2.1).fr,(rd y5 x.1 x.2.2.1).nu,x.2.1.1,x.2.1.2.1,())).getD ((A0,()),())).1.1) then I (.inl (x.1,x.2.1,(w64<|x.2.2.1+1),())) else I (.inr<|.inr x) else G else G else G
def ve:=AS jF
def aAr:Loop:=⟨[(0,.sl .note),(3,Z5),(5,j6)],[(0,.sl .note),(3,Z5),(5,j6)],0,[],ve⟩
def anj:LF f242 [] [1,1,0,0,0] aAr:=sq (v:= .nil) aCZ (b:=jF) kN
def Qf(x:List A3×Y4×D):Option ((List A3×D)×D):=(AM (ve (x.1,x.2.1,0,())) (λ_=>G) λa=>(if U (0<=a.2.2.1)&&U (a.2.2.1<=(j8 a.1:Int)) then if Ac (([]:List A3).length+(BQ (AO a.2.2.1) a.1).length) then if Ac ((([]:List A3)++(BQ (AO a.2.2.1) a.1)).length+([(A3.mk a.2.1.1 a.2.1.2.1 a.2.1.2.2.1 a.2.1.2.2.2.1 a.2.1.2.2.2.2.1)]:List A3).length) then if U (0<=a.2.2.1)&&U (a.2.2.1<=(j8 a.1:Int)) then if Ac (((([]:List A3)++(BQ (AO a.2.2.1) a.1))++([(A3.mk a.2.1.1 a.2.1.2.1 a.2.1.2.2.1 a.2.1.2.2.2.1 a.2.1.2.2.2.2.1)]:List A3)).length+(Bt (AO a.2.2.1) a.1).length) then I (((((([]:List A3)++(BQ (AO a.2.2.1) a.1))++([(A3.mk a.2.1.1 a.2.1.2.1 a.2.1.2.2.1 a.2.1.2.2.2.1 a.2.1.2.2.2.2.1)]:List A3))++(Bt (AO a.2.2.1) a.1)),()),()) else G else G else G else G else G))
def lm:Ent:=(242,G,⟨[.fz .note,Z6],[.row 36 .note],Qf⟩)
def yW:y7 lm:=sk (v:=t1<|t1<|.two (.one<|.loop aAr) .nil) (fn:=f242) aCZ<|kC anj kN
def aoU:Cx:=cX [Xj] [] [(11,25)]
def aCb:y8 aoU:=y9<|gC fM<|AI
def iu(x:List Mark×Y5×v7):Rnd (List Mark×Y5×v7) D (List Mark×Y5×v7):=if Ae (U<|x.2.2.1<(j8 x.1:Int)) (inb x.2.2.1 x.1.length) then if Ae (U<|x.2.2.1<(j8 x.1:Int)) (inb x.2.2.1 x.1.length) then if Ae (U<|x.2.2.1<(j8 x.1:Int)) ((M8 ((rd aJV x.1 x.2.2.1).mf,(rd aJV x.1 x.2.2.1).mn,x.2.1.1,x.2.1.2.1,())).isSome) then if(U<|x.2.2.1<(j8 x.1:Int))&&(((M8 ((rd aJV x.1 x.2.2.1).mf,(rd aJV x.1 x.2.2.1).mn,x.2.1.1,x.2.1.2.1,())).getD ((A0,()),())).1.1) then I (.inl (x.1,x.2.1,(w64<|x.2.2.1+1),())) else I (.inr<|.inr x) else G else G else G
def vV:=AS iu
def aAt:Loop:=⟨[(0,.sl .mark),(3,Z10),(5,j6)],[(0,.sl .mark),(3,Z10),(5,j6)],0,[],vV⟩
def anl:LF f245 [] [1,1,0,0,0] aAt:=sq (v:= .nil) aCb (b:=iu) kN
def TG(x:List Mark×Y5×D):Option ((List Mark×D)×D):=(AM (vV (x.1,x.2.1,0,())) (λ_=>G) λa=>(if U (0<=a.2.2.1)&&U (a.2.2.1<=(j8 a.1:Int)) then if Ac (([]:List Mark).length+(BQ (AO a.2.2.1) a.1).length) then if Ac ((([]:List Mark)++(BQ (AO a.2.2.1) a.1)).length+([(Mark.mk a.2.1.1 a.2.1.2.1 a.2.1.2.2.1)]:List Mark).length) then if U (0<=a.2.2.1)&&U (a.2.2.1<=(j8 a.1:Int)) then if Ac (((([]:List Mark)++(BQ (AO a.2.2.1) a.1))++([(Mark.mk a.2.1.1 a.2.1.2.1 a.2.1.2.2.1)]:List Mark)).length+(Bt (AO a.2.2.1) a.1).length) then I (((((([]:List Mark)++(BQ (AO a.2.2.1) a.1))++([(Mark.mk a.2.1.1 a.2.1.2.1 a.2.1.2.2.1)]:List Mark))++(Bt (AO a.2.2.1) a.1)),()),()) else G else G else G else G else G))
def ln:Ent:=(245,G,⟨[.fz .mark,Z11],[.row 61 .mark],TG⟩)
def yY:y7 ln:=sk (v:=t1<|t1<|.two (.one<|.loop aAt) .nil) (fn:=f245) aCb<|kC anl kN
def aog:Cx:=cX [M9,TN,Xi,lm,ln] [] []
def apq:y8 aog:=y9<|gC NC<|gC WR<|gC fL<|gC yW<|gC yY<|AI
def Xd(x:Y3×Y4×D):Option ((Y3×Bool×D)×D):=(Og x.2).bind λa=>if !a.1.1 then I ((x.1,A0,()),()) else if U (x.2.1.2.2.2.1<=x.1.2.1) then I ((x.1,A0,()),()) else(HI (x.1.2.2.2.1,x.2.1.1,x.2.1.2.1,())).bind λb=>if U (0<=b.1.1) then I ((x.1,A0,()),()) else(HI (x.1.2.2.2.2.2.1,x.2.1.1,x.2.1.2.1,())).bind λc=>if U (0<=c.1.1) then I ((x.1,A0,()),()) else(LC (x.1.2.2.2.2.1,x.2.1.1,x.2.1.2.1,())).bind λd=>if U (0<=d.1.1) then I ((x.1,A0,()),()) else if U (12<(w64<|(w64<|(j8 x.1.2.2.2.1:Int)+(j8 x.1.2.2.2.2.1:Int))+1)) then I ((x.1,A0,()),()) else if U (x.2.1.2.2.1=x.1.1) then(Qf (x.1.2.2.2.2.2.1,x.2)).bind λe=>(TG (x.1.2.2.2.2.1,(x.2.1.1,x.2.1.2.1,x.2.1.2.2.2.1,()),())).bind λf=>I (((x.1.1,x.1.2.1,x.1.2.2.1,x.1.2.2.2.1,f.1.1,e.1),Y,()),()) else(Qf (x.1.2.2.2.1,x.2)).bind λg=>I (((x.1.1,x.1.2.1,x.1.2.2.1,g.1.1,x.1.2.2.2.2),Y,()),())
def aCw:Ent:=(241,G,⟨[Z8,Z6],[Z8,.bool],Xd⟩)
def ag1:y7 aCw:=sk (v:= .nil) (fn:=f241) apq kN
def aoa:Cx:=cX [M9,aCw,lm] [] [(19,23),(38,42),(59,66)]
def apj:y8 aoa:=y9<|gC NC<|gC ag1<|gC yW<|AI
def Xb(x:Y3×A1×Y4×D):Option ((Y3×Bool×D)×D):=(BU (X:=A1×Y3×Y4×Y3×Bool×D) (λa=>if a.2.2.2.2.1 then let c:=(w64<|a.2.1.2.2.1+1);(Xd ((a.2.1.1,a.2.1.2.1,c,a.2.1.2.2.2),a.2.2.1,())).bind λd=>I (d.1,()) else let e:=((U<|a.1=(B [116,97,107,101]))&&(!decide (a.2.2.1.1=a.2.1.1)));(if e then(Xd (a.2.1,a.2.2.1,())).bind λf=>I (f.1,()) else(HI (a.2.1.2.2.2.1,a.2.2.1.1,a.2.2.1.2.1,())).bind λb=>if Ae (!(U<|0<=b.1.1)) ((HI (a.2.1.2.2.2.2.2.1,a.2.2.1.1,a.2.2.1.2.1,())).isSome) then let g:=((U<|0<=b.1.1)||(U<|0<=((HI (a.2.1.2.2.2.2.2.1,a.2.2.1.1,a.2.2.1.2.1,())).getD ((0,()),())).1.1));(if g then I ((a.2.1,A0,()),()) else let h:=(U<|a.1=(B [104,101,108,100]));(if h then(Qf (a.2.1.2.2.2.1,a.2.2.1,())).bind λi=>I (((a.2.1.1,a.2.1.2.1,a.2.1.2.2.1,i.1.1,a.2.1.2.2.2.2),Y,()),()) else let j:=(U<|a.1=(B [105,110,98,111,120]));(if j then(Qf (a.2.1.2.2.2.2.2.1,a.2.2.1,())).bind λk=>I (((a.2.1.1,a.2.1.2.1,a.2.1.2.2.1,a.2.1.2.2.2.1,a.2.1.2.2.2.2.1,k.1),Y,()),()) else I ((a.2.1,A0,()),())))) else G))<|(if U (x.2.1=(B [111,119,110])) then let l:=((U<|x.2.2.1.1=x.1.1)&&(U<|x.2.2.1.2.1=x.1.2.2.1));I (.inr (x.2.1,x.1,x.2.2.1,(0,0,0,([]:List A3),([]:List Mark),([]:List A3),()),l,())) else I (.inr (x.2.1,x.1,x.2.2.1,(0,0,0,([]:List A3),([]:List Mark),([]:List A3),()),A0,()))))
def aCr:Ent:=(201,G,⟨[Z8,.str,Z6],[Z8,.bool],Xb⟩)
def afv:y7 aCr:=sk (v:=t1<|.two (.one<|.join [(1,.str),(3,Z7),(5,Z5),(6,Z9),(8,.bool)] .nil .nil) .nil) (fn:=f201) apj kN
def ajh:Cx:=cX [] [] []
def aoH:y8 ajh:=y9<|AI
def T6(x:List A3×v7):Option ((List A3×D)×D):=if U (0<=x.2.1)&&U (x.2.1<=(j8 x.1:Int)) then if Ac (([]:List A3).length+(BQ (AO x.2.1) x.1).length) then if U (0<=(w64<|x.2.1+1))&&U ((w64<|x.2.1+1)<=(j8 x.1:Int)) then if Ac ((([]:List A3)++(BQ (AO x.2.1) x.1)).length+(Bt (AO<|w64<|x.2.1+1) x.1).length) then I ((((([]:List A3)++(BQ (AO x.2.1) x.1))++(Bt (AO<|w64<|x.2.1+1) x.1)),()),()) else G else G else G else G
def aC2:Ent:=(244,G,⟨[.fz .note,j6],[.row 36 .note],T6⟩)
def aeR:y7 aC2:=sk (v:= .nil) (fn:=f244) aoH kN
def aob:Cx:=cX [M9,Xi,aC2,ln] [] [(41,49),(70,78),(90,91)]
def apk:y8 aob:=y9<|gC NC<|gC fL<|gC aeR<|gC yY<|AI
def Xc(x:Y3×A1×Y5×D):Option ((Y3×Bool×D)×D):=(HI (x.1.2.2.2.1,x.2.2.1.1,x.2.2.1.2.1,())).bind λc=>(HI (x.1.2.2.2.2.2.1,x.2.2.1.1,x.2.2.1.2.1,())).bind λd=>(LC (x.1.2.2.2.2.1,x.2.2.1.1,x.2.2.1.2.1,())).bind λe=>(BU (X:=A1×Y3×Y5×Y3×Int×Int×Bool×Bool×D) (λa=>if a.2.2.2.2.2.2.2.1 then(T6 (a.2.1.2.2.2.1,a.2.2.2.2.1,())).bind λf=>(TG (a.2.1.2.2.2.2.1,a.2.2.1,())).bind λg=>I (((a.2.1.1,a.2.1.2.1,a.2.1.2.2.1,f.1.1,g.1.1,a.2.1.2.2.2.2.2),Y,()),()) else(BU (X:=A1×Y3×Y5×Y3×Int×Bool×Bool×D) (λb=>if b.2.2.2.2.2.2.1 then(T6 (b.2.1.2.2.2.2.2.1,b.2.2.2.2.1,())).bind λh=>I (((b.2.1.1,b.2.1.2.1,b.2.1.2.2.1,b.2.1.2.2.2.1,b.2.1.2.2.2.2.1,h.1),Y,()),()) else let i:=((U<|b.1=(B [109,97,114,107]))&&(!b.2.2.2.2.2.1));(if i then(TG (b.2.1.2.2.2.2.1,b.2.2.1,())).bind λj=>I (((b.2.1.1,b.2.1.2.1,b.2.1.2.2.1,b.2.1.2.2.2.1,j.1.1,b.2.1.2.2.2.2.2),Y,()),()) else I ((b.2.1,A0,()),())))<|(if U (a.1=(B [101,97,116])) then if Ae (U<|0<=a.2.2.2.2.2.1) (inb a.2.2.2.2.2.1 a.2.1.2.2.2.2.2.1.length) then let k:=((U<|0<=a.2.2.2.2.2.1)&&(U<|(rd y5 a.2.1.2.2.2.2.2.1 a.2.2.2.2.2.1).un=a.2.2.1.2.2.1));I (.inr (a.1,a.2.1,a.2.2.1,a.2.2.2.1,a.2.2.2.2.2.1,a.2.2.2.2.2.2.1,k,())) else G else if Ae A0 (inb a.2.2.2.2.2.1 a.2.1.2.2.2.2.2.1.length) then I (.inr (a.1,a.2.1,a.2.2.1,a.2.2.2.1,a.2.2.2.2.2.1,a.2.2.2.2.2.2.1,A0,())) else G)))<|(if U (x.2.1=(B [108,101,116])) then if Ae (U<|0<=c.1.1) (inb c.1.1 x.1.2.2.2.1.length) then let l:=((U<|0<=c.1.1)&&(U<|(rd y5 x.1.2.2.2.1 c.1.1).un=x.2.2.1.2.2.1));I (.inr (x.2.1,x.1,x.2.2.1,(0,0,0,([]:List A3),([]:List Mark),([]:List A3),()),c.1.1,d.1.1,(U<|0<=e.1.1),l,())) else G else if Ae A0 (inb c.1.1 x.1.2.2.2.1.length) then I (.inr (x.2.1,x.1,x.2.2.1,(0,0,0,([]:List A3),([]:List Mark),([]:List A3),()),c.1.1,d.1.1,(U<|0<=e.1.1),A0,())) else G))
def aCs:Ent:=(204,G,⟨[Z8,.str,Z11],[Z8,.bool],Xc⟩)
def afw:y7 aCs:=sk (v:=t1<|t1<|t1<|.two (.one<|.join [(1,.str),(3,Z7),(5,Z10),(6,Z9),(8,j6),(9,j6),(10,.bool),(33,.bool)] .nil<|t1<|.join [(1,.str),(3,Z7),(5,Z10),(6,Z9),(9,j6),(10,.bool),(62,.bool)] .nil .nil) .nil) (fn:=f204) apk kN
def aq8:Cx:=cX [jP,aDM,aDp,aBO,aCr,jv,aBA,aCs] [] [(69,71)]
def aqr:y8 aq8:=y9<|gC ua<|gC aeu<|gC aha<|gC adi<|gC afv<|gC wy<|gC adO<|gC afw<|AI
def Xq(x:Y3×A1×D):Option ((Y3×Bool×D)×D):=(XS (x.2.1,(B [32]),())).bind λc=>if !c.1.2.2.1 then I ((x.1,A0,()),()) else(BU (X:=Y3×Y3×A1×A1×A1×Bool×D) (λa=>if a.2.2.2.2.2.1 then(QZ (a.2.2.2.1,())).bind λf=>if f.1.2.1 then(Xp (a.1,a.2.2.1,f.1.1,())).bind λn=>I (n.1,()) else I ((a.1,A0,()),()) else(BU (X:=Y3×Y3×A1×A1×A1×Bool×D) (λb=>if b.2.2.2.2.2.1 then(XA (b.2.2.2.1,())).bind λg=>if g.1.2.1 then(Xb (b.1,b.2.2.1,g.1.1,())).bind λo=>I (o.1,()) else I ((b.1,A0,()),()) else(BU (X:=Y3×Y3×A1×A1×Bool×D) (λe=>if e.2.2.2.2.1 then(iD (e.2.2.2.1,(B [32]),())).bind λp=>(Sr p.1).bind λd=>if d.1.2.1&&(U<|(j8 d.1.1:Int)=3) then if inb 0 d.1.1.length then if inb 1 d.1.1.length then if inb 2 d.1.1.length then(Xc (e.1,e.2.2.1,((rd aJR d.1.1 0),(rd aJR d.1.1 1),(rd aJR d.1.1 2),()),())).bind λq=>I (q.1,()) else G else G else G else I ((e.1,A0,()),()) else I ((e.1,A0,()),())) (let h:=(U<|b.2.2.2.2.1=(B [108,101,116]));(if h then I (.inr (b.1,b.2.1,b.2.2.1,b.2.2.2.1,h,())) else let i:=(U<|b.2.2.2.2.1=(B [101,97,116]));(if i then I (.inr (b.1,b.2.1,b.2.2.1,b.2.2.2.1,i,())) else let r:=(U<|b.2.2.2.2.1=(B [109,97,114,107]));I (.inr (b.1,b.2.1,b.2.2.1,b.2.2.2.1,r,()))))))) (let j:=(U<|a.2.2.2.2.1=(B [111,119,110]));(if j then I (.inr (a.1,a.2.1,a.2.2.1,a.2.2.2.1,a.2.2.2.2.1,j,())) else let k:=(U<|a.2.2.2.2.1=(B [116,97,107,101]));(if k then I (.inr (a.1,a.2.1,a.2.2.1,a.2.2.2.1,a.2.2.2.2.1,k,())) else let l:=(U<|a.2.2.2.2.1=(B [104,101,108,100]));(if l then I (.inr (a.1,a.2.1,a.2.2.1,a.2.2.2.1,a.2.2.2.2.1,l,())) else let s:=(U<|a.2.2.2.2.1=(B [105,110,98,111,120]));I (.inr (a.1,a.2.1,a.2.2.1,a.2.2.2.1,a.2.2.2.2.1,s,())))))))) (let m:=(U<|c.1.1=(B [116,105,109,101]));(if m then I (.inr (x.1,(0,0,0,([]:List A3),([]:List Mark),([]:List A3),()),c.1.1,c.1.2.1,c.1.1,m,())) else let t:=(U<|c.1.1=(B [110,101,120,116]));I (.inr (x.1,(0,0,0,([]:List A3),([]:List Mark),([]:List A3),()),c.1.1,c.1.2.1,c.1.1,t,())))))
def aDq:Ent:=(159,G,⟨[Z8,.str],[Z8,.bool],Xq⟩)
def ahb:y7 aDq:=sk (v:=t1<|t1<|t1<|.two (t1<|.one<|.join [(2,Z7),(4,Z9),(6,.str),(7,.str),(24,.str),(25,.bool)] .nil<|t1<|.join [(2,Z7),(4,Z9),(6,.str),(7,.str),(24,.str),(40,.bool)] .nil<|t1<|.join [(2,Z7),(4,Z9),(6,.str),(7,.str),(57,.bool)] .nil .nil) .nil) (fn:=f159) aqr kN
def ae0:Cx:=cX [] [] []
def afA:y8 ae0:=y9<|AI
def ug(x:List Mark×D):Option ((List Mark×D)×D):=if U ((j8 x.1:Int)=0) then I ((([]:List Mark),()),()) else if U (0<=(j8 x.1:Int))&&U ((j8 x.1:Int)<=4294967296) then I (((BQ (BT (AO (j8 x.1:Int))<|dfl .mark).length x.1++Bt x.1.length (BT (AO (j8 x.1:Int))<|dfl .mark)),()),()) else G
def xR:Ent:=(205,G,⟨[.fz .mark],[.row 61 .mark],ug⟩)
def acU:y7 xR:=sk (v:= .nil) (fn:=f205) afA kN
def aiY:Cx:=cX [vJ,xR] [] []
def ak8:y8 aiY:=y9<|gC abk<|gC acU<|AI
def Ss(x:Y3×D):Option ((Y3×D)×D):=(OS (x.1.2.2.2.1,())).bind λa=>(ug (x.1.2.2.2.2.1,())).bind λb=>(OS x.1.2.2.2.2.2).bind λc=>I (((x.1.1,x.1.2.1,x.1.2.2.1,a.1.1,b.1.1,c.1),()),())
def aBL:Ent:=(160,G,⟨[Z8],[Z4],Ss⟩)
def aeN:y7 aBL:=sk (v:= .nil) (fn:=f160) ak8 kN
def ao5:Cx:=cX [lr,aDq,aBL] [] [(22,24)]
def aps:y8 ao5:=y9<|gC ye<|gC ahb<|gC aeN<|AI
def TM(x:Y3×A1×D):Option ((Y3×Bool×D)×D):=(Qg (x.1,())).bind λb=>if !b.1.1 then I (((0,0,0,([]:List A3),([]:List Mark),([]:List A3),()),A0,()),()) else(Ss (x.1,())).bind λc=>(Xq (c.1.1,x.2)).bind λa=>if Ae (!(!a.1.2.1)) ((Qg (a.1.1,())).isSome) then if(!a.1.2.1)||(!(((Qg (a.1.1,())).getD ((A0,()),())).1.1)) then(Ss (x.1,())).bind λd=>I ((d.1.1,A0,()),()) else(Ss (a.1.1,())).bind λe=>I ((e.1.1,Y,()),()) else G
def lu:Ent:=(121,G,⟨[Z8,.str],[Z4,.bool],TM⟩)
def yf:y7 lu:=sk (v:= .nil) (fn:=f121) aps kN
def ao4:Cx:=cX [JG,zW,lu] [] []
def aCf:y8 ao4:=y9<|gC Jz<|gC adN<|gC yf<|AI
def XI(x:Y3×Y3×List A1×aJM):Rnd (Y3×Y3×List A1×aJM) (Y3×Bool×D) (Y3×Y3×D):=if U (x.2.2.2.2.1<x.2.2.2.1) then if inb x.2.2.2.2.1 x.2.2.1.length then let b:=(rd aJY x.2.2.1 x.2.2.2.2.1);(TM (x.2.1,b,())).bind λa=>if !a.1.2.1 then I (.inr<|.inl ((0,0,0,([]:List A3),([]:List Mark),([]:List A3),()),A0,())) else I (.inl (x.1,a.1.1,x.2.2.1,x.2.2.2.1,(w64<|x.2.2.2.2.1+1),())) else G else I (.inr<|.inr (x.1,x.2.1,()))
def vn:=AS XI
def aB9:Loop:=⟨[(4,Z9),(6,Z9),(17,.sl .str),(18,j6),(19,j6)],[(4,Z9),(6,Z9)],0,[(4,Z9),(5,.bool)],vn⟩
def anr:LF f82 [] [1,1,1,0,1,0,0] aB9:=sq (v:= .nil) aCf (b:=XI) kN
def jm(x:Int×List A1×D):Option ((Y3×Bool×D)×D):=(Fs (x.1,())).bind λb=>if !b.1.1 then I (((0,0,0,([]:List A3),([]:List Mark),([]:List A3),()),A0,()),()) else(fv (x.1,())).bind λc=>(AM (vn ((0,0,0,([]:List A3),([]:List Mark),([]:List A3),()),c.1.1,x.2.1,(j8 x.2.1:Int),0,())) (λa=>I (a,())) λa=>I ((a.2.1,Y,()),()))
def aCx:Ent:=(82,G,⟨[j6,.fz .str],[Z4,.bool],jm⟩)
def ag9:y7 aCx:=sk (v:=t1<|t1<|t1<|.two (t1<|.one<|.loop aB9) .nil) (fn:=f82) aCf<|kC anr kN
def ajf:Cx:=cX [gG,aCx] [] []
def aoG:y8 ajf:=y9<|gC tY<|gC ag9<|AI
def K5(x:Int×A1×D):Option ((Y3×Bool×D)×D):=(QQ x.2).bind λa=>(jm (x.1,a.1.1,())).bind λb=>I (b.1,())
def XM:Ent:=(43,G,⟨[j6,.str],[Z4,.bool],K5⟩)
def eP:y7 XM:=sk (v:= .nil) (fn:=f43) aoG kN
def akN:Cx:=cX [FX,gG] [] [(12,18),(41,44)]
def anx:y8 akN:=y9<|gC Ft<|gC tY<|AI
def OY(x:Y7×D):Option ((Bool×D)×D):=if Ae (!(U<|2400<(x.1.1.size:Int))) ((CB (x.1.2.1,0,(x.1.1.size:Int),())).isSome) then if(U<|2400<(x.1.1.size:Int))||(!(((CB (x.1.2.1,0,(x.1.1.size:Int),())).getD ((A0,()),())).1.1)) then I ((A0,()),()) else(QQ (x.1.1,())).bind λa=>if U (0<=x.1.2.1)&&U (x.1.2.1<=(x.1.1.size:Int)) then(QQ ((x.1.1.extract (0)<|AO x.1.2.1),())).bind λb=>let c:=((U<|a.1.2.1=(x.1.1.size:Int))&&(U<|b.1.2.1=x.1.2.1));I ((c,()),()) else G else G
def T9:Ent:=(78,G,⟨[Z15],[.bool],OY⟩)
def WI:y7 T9:=sk (v:= .nil) (fn:=f78) anx kN
def aoX:Cx:=cX [FX,JG] [] [(54,57)]
def lx:y8 aoX:=y9<|gC Ft<|gC Jz<|AI
def iy(x:Y9×Y8×List AT×Int×Int×List AT×aJM):Rnd (Y9×Y8×List AT×Int×Int×List AT×aJM) (Bool×D) (Y9×List AT×aJM):=if U (x.2.2.2.2.2.2.2.1<x.2.2.2.2.2.2.1) then if inb x.2.2.2.2.2.2.2.1 x.2.2.2.2.2.1.length then let a:=(rd aJ0 x.2.2.2.2.2.1 x.2.2.2.2.2.2.2.1).nu;let b:=(rd aJ0 x.2.2.2.2.2.1 x.2.2.2.2.2.2.2.1).da;if U (a=x.2.1.1) then I (.inr<|.inl (A0,())) else I (.inl (x.1,x.2.1,x.2.2.1,x.2.2.2.1,x.2.2.2.2.1,x.2.2.2.2.2.1,x.2.2.2.2.2.2.1,(w64<|x.2.2.2.2.2.2.2.1+1),())) else G else I (.inr<|.inr (x.1,x.2.2.1,x.2.2.2.1,x.2.2.2.2.1,()))
def vX:=AS iy
def aAP:Loop:=⟨[(1,Z17),(4,Z32),(42,.sl .mixed),(43,j6),(44,j6),(62,.sl .mixed),(63,j6),(64,j6)],[(1,Z17),(42,.sl .mixed),(43,j6),(44,j6)],2,[(2,.bool)],vX⟩
def an0:LF f79 [] [1,1,0,1,0,0,1,1,0,0,1,1,1,0,0] aAP:=sq (v:= .nil) lx (b:=iy) kN
def iz(x:Y9×List AT×aJM):Rnd (Y9×List AT×aJM) (Bool×D) D:=if U (x.2.2.2.1<x.2.2.1) then if inb x.2.2.2.1 x.2.1.length then let b:=(rd aJ0 x.2.1 x.2.2.2.1).nu;let c:=(rd aJ0 x.2.1 x.2.2.2.1).da;(CB (b,0,999,())).bind λd=>if(!d.1.1)||(!decide ((c.size:Int)=4)) then I (.inr<|.inl (A0,())) else if U (0<=x.2.2.2.1)&&U (x.2.2.2.1<=(j8 x.1.2.2.2.2.2.1:Int)) then(AM (vX (x.1,(b,c,()),x.2.1,x.2.2.1,x.2.2.2.1,(BQ (AO x.2.2.2.1) x.1.2.2.2.2.2.1),((BQ (AO x.2.2.2.1) x.1.2.2.2.2.2.1).length:Int),0,())) (λa=>I<|.inr<|.inl a) λa=>I<|.inl (a.1,a.2.1,a.2.2.1,(w64<|a.2.2.2.1+1),())) else G else G else I (.inr<|.inr ())
def vY:=AS iz
def aAQ:Loop:=⟨[(1,Z17),(42,.sl .mixed),(43,j6),(44,j6)],[],0,[(2,.bool)],vY⟩
def ann:LF f79 [] [1,1,0,1,0,0] aAQ:=sq (v:=t1<|t1<|.two (.one<|t1<|t1<|t1<|.one<|.loop aAP) .nil) lx (b:=iz)<|kC an0 kN
def jS(x:Y9×D):Option ((Bool×D)×D):=(Fs (x.1.1,())).bind λb=>if !b.1.1 then I ((A0,()),()) else(Fs (x.1.2.2.1,())).bind λc=>if !c.1.1 then I ((A0,()),()) else(CB (x.1.2.1,1,99,())).bind λd=>if !d.1.1 then I ((A0,()),()) else(CB (x.1.2.2.2.1,1,999,())).bind λe=>if !e.1.1 then I ((A0,()),()) else(CB (x.1.2.2.2.2.1,1,24,())).bind λf=>if !f.1.1 then I ((A0,()),()) else if U (14<(j8 x.1.2.2.2.2.2.1:Int)) then I ((A0,()),()) else(AM (vY (x.1,x.1.2.2.2.2.2.1,(j8 x.1.2.2.2.2.2.1:Int),0,())) (λa=>I (a,())) λa=>I ((Y,()),()))
def aCq:Ent:=(79,G,⟨[Z18],[.bool],jS⟩)
def afu:y7 aCq:=sk (v:=t1<|t1<|.two (t1<|.one<|.loop aAQ) .nil) (fn:=f79) lx<|kC ann kN
def aoY:Cx:=cX [] [] [(21,24)]
def aCd:y8 aoY:=y9<|AI
def XG(x:Int×Int×List AG×aJM):Rnd (Int×Int×List AG×aJM) (v7) D:=if U (x.2.2.2.2.1<x.2.2.2.1) then if inb x.2.2.2.2.1 x.2.2.1.length then let a:=(rd aJP x.2.2.1 x.2.2.2.2.1).fr;let b:=(rd aJP x.2.2.1 x.2.2.2.2.1).nu;let c:=(rd aJP x.2.2.1 x.2.2.2.2.1).to;let d:=(rd aJP x.2.2.1 x.2.2.2.2.1).un;let e:=(rd aJP x.2.2.1 x.2.2.2.2.1).sz;let f:=(rd aJP x.2.2.1 x.2.2.2.2.1).got;if(U<|a=x.1)&&(U<|b=x.2.1) then I (.inr<|.inl x.2.2.2.2) else I (.inl (x.1,x.2.1,x.2.2.1,x.2.2.2.1,(w64<|x.2.2.2.2.1+1),())) else G else I (.inr<|.inr ())
def vZ:=AS XG
def aAR:Loop:=⟨[(1,j6),(2,j6),(9,.sl .half),(10,j6),(11,j6)],[],0,[(6,j6)],vZ⟩
def ano:LF f80 [] [1,0,1,0,0] aAR:=sq (v:= .nil) aCd (b:=XG) kN
def TJ(x:List AG×aJM):Option ((v7)×D):=(AM (vZ (x.2.1,x.2.2.1,x.1,(j8 x.1:Int),0,())) (λa=>I (a,())) λa=>I (((-1),()),()))
def lp:Ent:=(80,G,⟨[.fz .half,j6,j6],[j6],TJ⟩)
def xz:y7 lp:=sk (v:=t1<|.two (t1<|.one<|.loop aAR) .nil) (fn:=f80) aCd<|kC ano kN
def aie:Cx:=cX [XM,JG,T9,aCq,lp] [] [(61,62),(76,84)]
def aBU:y8 aie:=y9<|gC eP<|gC Jz<|gC WI<|gC afu<|gC xz<|AI
def fu(x:Y1×List AG×aJM):Rnd (Y1×List AG×aJM) (Bool×D) D:=if U (x.2.2.2.1<x.2.2.1) then if inb x.2.2.2.1 x.2.1.length then let a:=(rd aJP x.2.1 x.2.2.2.1).fr;let b:=(rd aJP x.2.1 x.2.2.2.1).nu;let d:=(rd aJP x.2.1 x.2.2.2.1).to;let e:=(rd aJP x.2.1 x.2.2.2.1).un;let f:=(rd aJP x.2.1 x.2.2.2.1).sz;let g:=(rd aJP x.2.1 x.2.2.2.1).got;(jS ((a,b,d,e,f,g,()),())).bind λc=>if Ae (!(!c.1.1)) ((TJ (x.1.2.2.2.2.1,a,b,())).isSome) then if(!c.1.1)||(U<|((TJ (x.1.2.2.2.2.1,a,b,())).getD ((0,()),())).1.1<x.2.2.2.1) then I (.inr<|.inl (A0,())) else I (.inl (x.1,x.2.1,x.2.2.1,(w64<|x.2.2.2.1+1),())) else G else G else I (.inr<|.inr ())
def di:=AS fu
def yB:Loop:=⟨[(1,Z19),(65,.sl .half),(66,j6),(67,j6)],[],0,[(2,.bool)],di⟩
def ai1:LF f42 [] [1,1,1,1,1,0,1,0,0] yB:=sq (v:= .nil) aBU (b:=fu) kN
def I7(x:Y1×D):Option ((Bool×D)×D):=(BU (X:=Y1×D) (λa=>(K5 (a.1.1,a.1.2.2.1,())).bind λc=>if U (0<=a.1.2.2.2.1)&&U (a.1.2.2.2.1<=(a.1.2.2.1.size:Int)) then(K5 (a.1.1,(a.1.2.2.1.extract (0)<|AO a.1.2.2.2.1),())).bind λd=>if(!c.1.2.1)||(!d.1.2.1) then I ((A0,()),()) else(AM (di (a.1,a.1.2.2.2.2.1,(j8 a.1.2.2.2.2.1:Int),0,())) (λb=>I (b,())) λb=>I ((Y,()),())) else G)<|(Fs (x.1.1,())).bind λe=>if !e.1.1 then I (.inl ((A0,()),())) else(OY ((x.1.2.2.1,x.1.2.2.2.1,()),())).bind λf=>if !f.1.1 then I (.inl ((A0,()),())) else if U (3<(j8 x.1.2.2.2.2.1:Int)) then I (.inl ((A0,()),())) else if !x.1.2.1 then if U (0<(j8 x.1.2.2.2.2.1:Int)) then I (.inl ((A0,()),())) else I (.inr x) else I (.inr x))
def K3:Ent:=(42,G,⟨[Z12],[.bool],I7⟩)
def L7:y7 K3:=sk (v:=t1<|.join [(1,Z19)] .nil<|t1<|t1<|t1<|.two (t1<|.one<|.loop yB) .nil) (fn:=f42) aBU<|kC ai1 kN
def agq:Cx:=cX [K3,XM] [] []
def aiM:y8 agq:=y9<|gC L7<|gC eP<|AI
def FD(x:Y1×D):Option ((Y3×D)×D):=(I7 x).bind λa=>if !a.1.1 then I (((0,0,0,([]:List A3),([]:List Mark),([]:List A3),()),()),()) else(K5 (x.1.1,x.1.2.2.1,())).bind λb=>I ((b.1.1,()),())
def IA:Ent:=(18,G,⟨[Z12],[Z4],FD⟩)
def Ic:y7 IA:=sk (v:= .nil) (fn:=f18) aiM kN
def aq3:Cx:=cX [FX] [] []
def aqn:y8 aq3:=y9<|gC Ft<|AI
def YI(x:A1×D):Option ((Bool×D)×D):=(CB ((x.1.size:Int),1,60,())).bind λa=>I (a.1,())
def mP:Ent:=(192,G,⟨[.str],[.bool],YI⟩)
def aA7:y7 mP:=sk (v:= .nil) (fn:=f192) aqn kN
def aoQ:Cx:=cX [T7] [] []
def apf:y8 aoQ:=y9<|gC Vz<|AI
def Qe(x:A1×D):Option ((A1×D)×D):=(JH ((x.1.size:Int),())).bind λa=>if U (a.1.1.size+(B [58]).size<=4611686018427387904) then if U ((a.1.1++(B [58])).size+x.1.size<=4611686018427387904) then if U (((a.1.1++(B [58]))++x.1).size+(B [59]).size<=4611686018427387904) then let b:=(((a.1.1++(B [58]))++x.1)++(B [59]));I ((b,()),()) else G else G else G
def lj:Ent:=(193,G,⟨[.str],[.str],Qe⟩)
def yV:y7 lj:=sk (v:= .nil) (fn:=f193) apf kN
def agh:Cx:=cX [T9,mP,lj] [] [(23,25)]
def zd:y8 agh:=y9<|gC WI<|gC aA7<|gC yV<|AI
def Sl(x:Y7×Y7×A1×List A1×aJM):Rnd (Y7×Y7×A1×List A1×aJM) (Y7×Bool×D) (Y7×Y7×A1×D):=if U (x.2.2.2.2.2.1<x.2.2.2.2.1) then if inb x.2.2.2.2.2.1 x.2.2.2.1.length then let a:=(rd aJY x.2.2.2.1 x.2.2.2.2.2.1);(YI (a,())).bind λc=>if(!c.1.1)||(U<|2400<(x.2.2.1.size:Int)) then I (.inr<|.inl (x.1,A0,())) else(Qe (a,())).bind λb=>if U (x.2.2.1.size+b.1.1.size<=4611686018427387904) then I (.inl (x.1,x.2.1,(x.2.2.1++b.1.1),x.2.2.2.1,x.2.2.2.2.1,(w64<|x.2.2.2.2.2.1+1),())) else G else G else I (.inr<|.inr (x.1,x.2.1,x.2.2.1,()))
def SY:=AS Sl
def xu:Loop:=⟨[(2,Z21),(4,Z21),(6,.str),(13,.sl .str),(14,j6),(15,j6)],[(2,Z21),(4,Z21),(6,.str)],0,[(4,Z21),(5,.bool)],SY⟩
def agR:LF f155 [] [1,1,1,0,1,0,0] xu:=sq (v:= .nil) zd (b:=Sl) kN
def Sq(x:Y7×List A1×D):Option ((Y7×Bool×D)×D):=(OY (x.1,())).bind λb=>if !b.1.1 then I (((noB,0,()),A0,()),()) else(AM (SY (x.1,(noB,0,()),noB,x.2.1,(j8 x.2.1:Int),0,())) (λa=>I (a,())) λa=>(if U (2400<(a.2.2.1.size:Int)) then I ((a.1,A0,()),()) else I (((a.2.2.1,(a.2.2.1.size:Int),()),Y,()),())))
def wE:Ent:=(155,G,⟨[Z15,.fz .str],[Z15,.bool],Sq⟩)
def ac1:y7 wE:=sk (v:=t1<|t1<|t1<|.two (t1<|.one<|.loop xu) .nil) (fn:=f155) zd<|kC agR kN
def agc:Cx:=cX [T7] [] []
def aiG:y8 agc:=y9<|gC Vz<|AI
def QP(x:A1×aJQ):Option ((A1×D)×D):=if U (x.1.size+(B [32]).size<=4611686018427387904) then(JH (x.2.1,())).bind λa=>if U ((x.1++(B [32])).size+a.1.1.size<=4611686018427387904) then if U (((x.1++(B [32]))++a.1.1).size+(B [32]).size<=4611686018427387904) then(JH (x.2.2.1,())).bind λb=>if U ((((x.1++(B [32]))++a.1.1)++(B [32])).size+b.1.1.size<=4611686018427387904) then if U (((((x.1++(B [32]))++a.1.1)++(B [32]))++b.1.1).size+(B [32]).size<=4611686018427387904) then(JH x.2.2.2).bind λc=>if U ((((((x.1++(B [32]))++a.1.1)++(B [32]))++b.1.1)++(B [32])).size+c.1.1.size<=4611686018427387904) then let d:=((((((x.1++(B [32]))++a.1.1)++(B [32]))++b.1.1)++(B [32]))++c.1.1);I ((d,()),()) else G else G else G else G else G else G
def gF:Ent:=(149,G,⟨[.str,j6,j6,j6],[.str],QP⟩)
def tW:y7 gF:=sk (v:= .nil) (fn:=f149) aiG kN
def aif:Cx:=cX [eC,gF,Wj,T7,lr] [] []
def gZ:y8 aif:=y9<|gC su<|gC tW<|gC dz<|gC Vz<|gC ye<|AI
def fw(x:List A1×List A3×aJM):Rnd (List A1×List A3×aJM) D (List A1×D):=if U (x.2.2.2.1<x.2.2.1) then if inb x.2.2.2.1 x.2.1.length then let ou:=(rd y5 x.2.1 x.2.2.2.1).fr;let a:=(rd y5 x.2.1 x.2.2.2.1).nu;let alN:=(rd y5 x.2.1 x.2.2.2.1).to;let b:=(rd y5 x.2.1 x.2.2.2.1).un;let alM:=(rd y5 x.2.1 x.2.2.2.1).tx;(NB ((ou,a,alN,b,alM,()),())).bind λoy=>if U ((B [105,110,98,111,120,32]).size+oy.1.1.size<=4611686018427387904) then if Ac (x.1.length+([((B [105,110,98,111,120,32])++oy.1.1)]:List A1).length) then I (.inl ((x.1++([((B [105,110,98,111,120,32])++oy.1.1)]:List A1)),x.2.1,x.2.2.1,(w64<|x.2.2.2.1+1),())) else G else G else G else I (.inr<|.inr (x.1,()))
def dj:=AS fw
def yD:Loop:=⟨[(3,.row 9 .str),(66,.sl .note),(67,j6),(68,j6)],[(3,.row 9 .str)],4,[],dj⟩
def ahp:LF f156 [] [1,1,1,1,1,1,1,0,1,0,0] yD:=sq (v:= .nil) gZ (b:=fw) kN
def gA(x:Y3×List A1×List A3×aJM):Rnd (Y3×List A1×List A3×aJM) D (Y3×List A1×D):=if U (x.2.2.2.2.1<x.2.2.2.1) then if inb x.2.2.2.2.1 x.2.2.1.length then let b:=(rd y5 x.2.2.1 x.2.2.2.2.1).fr;let c:=(rd y5 x.2.2.1 x.2.2.2.2.1).nu;let d:=(rd y5 x.2.2.1 x.2.2.2.2.1).to;let e:=(rd y5 x.2.2.1 x.2.2.2.2.1).un;let f:=(rd y5 x.2.2.1 x.2.2.2.2.1).tx;(NB ((b,c,d,e,f,()),())).bind λa=>if U ((B [104,101,108,100,32]).size+a.1.1.size<=4611686018427387904) then if Ac (x.2.1.length+([((B [104,101,108,100,32])++a.1.1)]:List A1).length) then I (.inl (x.1,(x.2.1++([((B [104,101,108,100,32])++a.1.1)]:List A1)),x.2.2.1,x.2.2.2.1,(w64<|x.2.2.2.2.1+1),())) else G else G else G else I (.inr<|.inr (x.1,x.2.1,()))
def eE:=AS gA
def yE:Loop:=⟨[(1,Z7),(3,.row 9 .str),(52,.sl .note),(53,j6),(54,j6)],[(1,Z7),(3,.row 9 .str)],2,[],eE⟩
def aht:LF f156 [] [1,1,1,1,1,1,0,1,0,0] yE:=sq (v:= .nil) gZ (b:=gA) kN
def gB(x:Y3×List A1×List Mark×aJM):Rnd (Y3×List A1×List Mark×aJM) D (Y3×List A1×D):=if U (x.2.2.2.2.1<x.2.2.2.1) then if inb x.2.2.2.2.1 x.2.2.1.length then let b:=(rd aJV x.2.2.1 x.2.2.2.2.1).mf;let c:=(rd aJV x.2.2.1 x.2.2.2.2.1).mn;let d:=(rd aJV x.2.2.1 x.2.2.2.2.1).mu;(QP ((B [109,97,114,107]),b,c,d,())).bind λa=>if Ac (x.2.1.length+([a.1.1]:List A1).length) then I (.inl (x.1,(x.2.1++([a.1.1]:List A1)),x.2.2.1,x.2.2.2.1,(w64<|x.2.2.2.2.1+1),())) else G else G else I (.inr<|.inr (x.1,x.2.1,()))
def eF:=AS gB
def yd:Loop:=⟨[(1,Z7),(3,.row 9 .str),(34,.sl .mark),(35,j6),(36,j6)],[(1,Z7),(3,.row 9 .str)],0,[],eF⟩
def ai2:LF f156 [] [1,1,1,1,1,0,1,0,0] yd:=sq (v:= .nil) gZ (b:=gB) kN
def Wu(x:Y3×D):Option ((List A1×D)×D):=(Qg x).bind λg=>if !g.1.1 then I ((([]:List A1),()),()) else(BU (X:=Y3×List A1×D) (λa=>(BU (X:=Y3×List A1×D) (λb=>(AM (eF (b.1,b.2.1,b.1.2.2.2.2.1,(j8 b.1.2.2.2.2.1:Int),0,())) (λ_=>G) λc=>(AM (eE (c.1,c.2.1,c.1.2.2.2.1,(j8 c.1.2.2.2.1:Int),0,())) (λ_=>G) λd=>(AM (dj (d.2.1,d.1.2.2.2.2.2.1,(j8 d.1.2.2.2.2.2.1:Int),0,())) (λ_=>G) λoZ=>(SX oZ).bind λow=>I (ow.1,())))))<|(if U (1<a.1.2.2.1) then(JH (a.1.2.2.1,())).bind λe=>if U ((B [110,101,120,116,32]).size+e.1.1.size<=4611686018427387904) then if Ac (a.2.1.length+([((B [110,101,120,116,32])++e.1.1)]:List A1).length) then I (.inr (a.1,(a.2.1++([((B [110,101,120,116,32])++e.1.1)]:List A1)),())) else G else G else I (.inr a))))<|(if U (0<x.1.2.1) then(JH (x.1.2.1,())).bind λf=>if U ((B [116,105,109,101,32]).size+f.1.1.size<=4611686018427387904) then if Ac ([((B [116,105,109,101,32])++f.1.1)]:List A1).length then I (.inr (x.1,([((B [116,105,109,101,32])++f.1.1)]:List A1),())) else G else G else I (.inr (x.1,([]:List A1),()))))
def jy:Ent:=(156,G,⟨[Z8],[.row 9 .str],Wu⟩)
def wa:y7 jy:=sk (v:=t1<|t1<|t1<|.join [(1,Z7),(3,.row 9 .str)] .nil<|.join [(1,Z7),(3,.row 9 .str)] .nil<|.two (t1<|.one<|.loop yd)<|.two (t1<|.one<|.loop yE)<|.two (t1<|.one<|.loop yD) .nil) (fn:=f156) gZ<|kC ai2<|kC aht<|kC ahp kN
def aia:Cx:=cX [T9,mP,lj] [] [(14,21)]
def akA:y8 aia:=y9<|gC WI<|gC aA7<|gC yV<|AI
def Sv(x:Y7×A1×D):Option ((Y7×Bool×D)×D):=(OY (x.1,())).bind λc=>if !c.1.1 then I (((noB,0,()),A0,()),()) else(YI x.2).bind λa=>if Ae (!(!a.1.1)) ((Qe x.2).isSome) then if(!a.1.1)||(U<|2400<(w64<|(x.1.1.size:Int)+((((Qe x.2).getD ((noB,()),())).1.1).size:Int))) then I ((x.1,A0,()),()) else(Qe x.2).bind λb=>if U (x.1.1.size+b.1.1.size<=4611686018427387904) then I ((((x.1.1++b.1.1),x.1.2),Y,()),()) else G else G
def aBN:Ent:=(188,G,⟨[Z15,.str],[Z15,.bool],Sv⟩)
def adh:y7 aBN:=sk (v:= .nil) (fn:=f188) akA kN
def aqz:Cx:=cX [XM,lu,wE,jy,aBN] [] []
def arM:y8 aqz:=y9<|gC eP<|gC yf<|gC ac1<|gC wa<|gC adh<|AI
def Oj(x:Y1×A1×D):Option ((Y1×Bool×D)×D):=(K5 (x.1.1,x.1.2.2.1,())).bind λb=>(TM (b.1.1,x.2)).bind λe=>if !e.1.2.1 then I ((x.1,A0,()),()) else(Sv ((x.1.2.2.1,x.1.2.2.2.1,()),x.2)).bind λc=>(BU (X:=Y1×Y1×Y7×Bool×D) (λa=>if !a.2.2.2.1 then I ((a.1,A0,()),()) else I (((a.1.1,a.1.2.1,a.2.2.1.1,a.2.2.1.2.1,a.1.2.2.2.2),Y,()),()))<|(if !c.1.2.1 then(Wu (b.1.1,())).bind λf=>(Sq ((x.1.2.2.1,x.1.2.2.2.1,()),f.1)).bind λd=>if !d.1.2.1 then I (.inl ((x.1,A0,()),())) else(Sv (d.1.1,x.2)).bind λg=>I (.inr (x.1,(0,A0,noB,0,([]:List AG),()),g.1)) else I (.inr (x.1,(0,A0,noB,0,([]:List AG),()),c.1))))
def Yd:Ent:=(148,G,⟨[Z12,.str],[Z12,.bool],Oj⟩)
def kI:y7 Yd:=sk (v:=t1<|t1<|t1<|t1<|.join [(2,Z19),(4,Z20),(10,Z21),(11,.bool)] .nil .nil) (fn:=f148) arM kN
def aew:Cx:=cX [T9] [] []
def ahJ:y8 aew:=y9<|gC WI<|AI
def fO(x:Y7×D):Option ((Y7×D)×D):=(OY x).bind λa=>if !a.1.1 then I (((noB,0,()),()),()) else I (((x.1.1,(x.1.1.size:Int),()),()),())
def yi:Ent:=(194,G,⟨[Z15],[Z15],fO⟩)
def aco:y7 yi:=sk (v:= .nil) (fn:=f194) ahJ kN
def aoZ:Cx:=cX [yi] [] []
def api:y8 aoZ:=y9<|gC aco<|AI
def Of(x:Y1×D):Option ((Y1×D)×D):=(fO ((x.1.2.2.1,x.1.2.2.2.1,()),())).bind λa=>I (((x.1.1,x.1.2.1,a.1.1.1,a.1.1.2.1,x.1.2.2.2.2),()),())
def jo:Ent:=(157,G,⟨[Z12],[Z12],Of⟩)
def va:y7 jo:=sk (v:= .nil) (fn:=f157) api kN
def aof:Cx:=cX [] [] []
def apo:y8 aof:=y9<|AI
def jk(x:Int×Y6×D):Option ((List Frame×D)×D):=I ((([(Frame.mk x.1 x.2.1.2.2.1 x.2.1.2.1 x.2.1.2.2.2.1 x.2.1.2.2.2.2.1 x.2.1.2.2.2.2.2.1 x.2.1.2.2.2.2.2.2.1 0 0 noB)]:List Frame),()),())
def aCv:Ent:=(184,G,⟨[j6,Z13],[.row 124 .frame],jk⟩)
def ag0:y7 aCv:=sk (v:= .nil) (fn:=f184) apo kN
def ar1:Cx:=cX [] [(28,28)] []
def aEK:y8 ar1:=y9<|AI
def YK(x:Y8×List AT×List AT×aJM):Rnd (Y8×List AT×List AT×aJM) D (Y8×List AT×D):=if U (x.2.2.2.2.1<x.2.2.2.1) then if inb x.2.2.2.2.1 x.2.2.1.length then let a:=(rd aJ0 x.2.2.1 x.2.2.2.2.1).nu;let b:=(rd aJ0 x.2.2.1 x.2.2.2.2.1).da;if !decide (a=x.1.1) then if Ac (x.2.1.length+([(AT.mk a b)]:List AT).length) then I (.inl (x.1,(x.2.1++([(AT.mk a b)]:List AT)),x.2.2.1,x.2.2.2.1,(w64<|x.2.2.2.2.1+1),())) else G else I (.inl (x.1,x.2.1,x.2.2.1,x.2.2.2.1,(w64<|x.2.2.2.2.1+1),())) else G else I (.inr<|.inr (x.1,x.2.1,()))
def gw:=AS YK
def aDI:Loop:=⟨[(3,Z32),(5,.row 142 .mixed),(8,.sl .mixed),(9,j6),(10,j6)],[(3,Z32),(5,.row 142 .mixed)],0,[],gw⟩
def aqY:LF f186 [] [1,1,0,1,0,0] aDI:=sq (v:= .nil) aEK (b:=YK) kN
def YS(x:List AT×Y8×D):Option ((List AT×D)×D):=(AM (gw (x.2.1,([]:List AT),x.1,(j8 x.1:Int),0,())) (λ_=>G) λa=>(if U (14<=(j8 a.2.1:Int)) then if U (0<=1)&&U (1<=(j8 a.2.1:Int)) then if Ac ((Bt (AO 1) a.2.1).length+([(AT.mk a.1.1 a.1.2.1)]:List AT).length) then I ((((Bt (AO 1) a.2.1)++([(AT.mk a.1.1 a.1.2.1)]:List AT)),()),()) else G else G else if Ac (a.2.1.length+([(AT.mk a.1.1 a.1.2.1)]:List AT).length) then I (((a.2.1++([(AT.mk a.1.1 a.1.2.1)]:List AT)),()),()) else G))
def aEE:Ent:=(186,G,⟨[.fz .mixed,Z16],[.row 142 .mixed],YS⟩)
def ajx:y7 aEE:=sk (v:=t1<|t1<|.two (t1<|.one<|.loop aDI) .nil) (fn:=f186) aEK<|kC aqY kN
def aq6:Cx:=cX [FX] [] [(8,9)]
def aqp:y8 aq6:=y9<|gC Ft<|AI
def Xo(x:aJM):Option ((Bool×D)×D):=(CB (x.1,1,6,())).bind λa=>if Ae a.1.1 ((CB (x.2.1,0,999,())).isSome) then let b:=(a.1.1&&(((CB (x.2.1,0,999,())).getD ((A0,()),())).1.1));I ((b,()),()) else G
def mQ:Ent:=(232,G,⟨[j6,j6],[.bool],Xo⟩)
def aAA:y7 mQ:=sk (v:= .nil) (fn:=f232) aqp kN
def aib:Cx:=cX [FX] [] []
def akB:y8 aib:=y9<|gC Ft<|AI
def QU(x:v7):Option ((v7)×D):=(CB (x.1,0,65535,())).bind λa=>if !a.1.1 then I ((0,()),()) else let b:=(BM (w64<|(w64<|25173 * x.1)+13849) 65536);I ((b,()),())
def jx:Ent:=(233,G,⟨[j6],[j6],QU⟩)
def wZ:y7 jx:=sk (v:= .nil) (fn:=f233) akB kN
def agn:Cx:=cX [mQ,jx] [] []
def wJ:y8 agn:=y9<|gC aAA<|gC wZ<|AI
def y0(x:Int×List Int×aJQ):Rnd (Int×List Int×aJQ) (v7) (v7):=if U (x.2.2.2.2.1<=x.1) then if inb x.2.2.2.2.1 x.2.1.length then let a:=(w64<|x.2.2.2.1+(rd aJR x.2.1 x.2.2.2.2.1));(if U (x.2.2.1<a) then I (.inr<|.inl x.2.2.2.2) else I (.inl (x.1,x.2.1,x.2.2.1,a,(w64<|x.2.2.2.2.1+1),()))) else G else I (.inr<|.inr (x.1,()))
def eA:=AS y0
def xc:Loop:=⟨[(0,j6),(5,.row 3 .int),(8,j6),(9,j6),(10,j6)],[(0,j6)],2,[(4,j6)],eA⟩
def agI:LF f234 [] [1,1,1,1,1,1,1,1,0,1,0,0] xc:=sq (v:= .nil) wJ (b:=y0) kN
def y6(x:Int×Int×List Int×aJM):Rnd (Int×Int×List Int×aJM) D (Int×Int×List Int×v7):=if U (x.2.2.2.2.1<=x.1) then if !decide ((w64<|x.2.2.2.2.1 * (w64<|x.2.2.2.2.1 - 1))=0) then if Ac (x.2.2.1.length+([(w64<|B2 60<|w64<|x.2.2.2.2.1 * (w64<|x.2.2.2.2.1 - 1))]:List Int).length) then if inb x.2.2.2.2.1 ((x.2.2.1++([(w64<|B2 60<|w64<|x.2.2.2.2.1 * (w64<|x.2.2.2.2.1 - 1))]:List Int)).length) then let a:=(w64<|x.2.2.2.1+(rd aJR (x.2.2.1++([(w64<|B2 60<|w64<|x.2.2.2.2.1 * (w64<|x.2.2.2.2.1 - 1))]:List Int)) x.2.2.2.2.1));I (.inl (x.1,x.2.1,(x.2.2.1++([(w64<|B2 60<|w64<|x.2.2.2.2.1 * (w64<|x.2.2.2.2.1 - 1))]:List Int)),a,(w64<|x.2.2.2.2.1+1),())) else G else G else G else I (.inr<|.inr (x.1,x.2.1,x.2.2.1,x.2.2.2.1,()))
def eB:=AS y6
def xd:Loop:=⟨[(0,j6),(1,j6),(5,.row 3 .int),(6,j6),(7,j6)],[(0,j6),(1,j6),(5,.row 3 .int),(6,j6)],0,[],eB⟩
def agV:LF f234 [] [1,1,1,1,1,0,1,0,0] xd:=sq (v:= .nil) wJ (b:=y6) kN
def ft(x:aJM):Option ((v7)×D):=(Xo x).bind λc=>if !c.1.1 then I ((0,()),()) else if U (x.2.1<x.1) then I ((1,()),()) else if !decide (x.1=0) then if inb 1 (([0,(w64<|(w64<|B2 60 x.1)+10)]:List Int).length) then let d:=(rd aJR ([0,(w64<|(w64<|B2 60 x.1)+10)]:List Int) 1);(AM (eB (x.1,x.2.1,([0,(w64<|(w64<|B2 60 x.1)+10)]:List Int),d,2,())) (λ_=>G) (λa=>(QU ((w64<|(w64<|31 * a.2.1)+a.1),())).bind λe=>(QU e.1).bind λf=>if !decide (a.2.2.2.1=0) then let g:=(BM (w64<|B2 f.1.1 16) a.2.2.2.1);(AM (eA (a.1,a.2.2.1,g,0,1,())) (λb=>I (b,())) λb=>I (b,())) else G)) else G else G
def zy:Ent:=(234,G,⟨[j6,j6],[j6],ft⟩)
def ad4:y7 zy:=sk (v:=t1<|t1<|t1<|t1<|t1<|.two (t1<|.one<|.loop xd)<|t1<|t1<|.two (t1<|.one<|.loop xc) .nil) (fn:=f234) wJ<|kC agV<|kC agI kN
def afZ:Cx:=cX [] [] []
def ahI:y8 afZ:=y9<|AI
def vb(x:List Int×D):Option ((List Int×D)×D):=if U ((j8 x.1:Int)=0) then I ((([]:List Int),()),()) else if U (0<=(j8 x.1:Int))&&U ((j8 x.1:Int)<=4294967296) then I (((BQ (BT (AO (j8 x.1:Int))<|dfl .int).length x.1++Bt x.1.length (BT (AO (j8 x.1:Int))<|dfl .int)),()),()) else G
def yh:Ent:=(235,G,⟨[.fz .int],[.row 3 .int],vb⟩)
def acn:y7 yh:=sk (v:= .nil) (fn:=f235) ahI kN
def aqB:Cx:=cX [mQ,jx,zy,yh] [] []
def YP:y8 aqB:=y9<|gC aAA<|gC wZ<|gC ad4<|gC acn<|AI
def Xf(x:Int×List Bool×aJQ):Rnd (Int×List Bool×aJQ) D (Int×List Bool×aJQ):=if inb x.2.2.2.2.1 x.2.1.length then if rd aJ3 x.2.1 x.2.2.2.2.1 then if !decide (x.1=0) then let a:=(BM (w64<|x.2.2.2.2.1+1) x.1);I (.inl (x.1,x.2.1,x.2.2.1,x.2.2.2.1,a,())) else G else I (.inr<|.inr x) else G
def fq:=AS Xf
def aBa:Loop:=⟨[(0,j6),(5,.abx 218 .bool),(6,j6),(7,j6),(8,j6)],[(0,j6),(5,.abx 218 .bool),(6,j6),(7,j6),(8,j6)],2,[],fq⟩
def ap3:LF f190 [] [1,1,1,1,1,0,1,0,0,1,0,0,1,1,0,0,0] aBa:=sq (v:= .nil) YP (b:=Xf) kN
def l8(x:List Int×List Bool×v7):Rnd (List Int×List Bool×v7) D (List Int×D):=if U (x.2.2.1<6) then if inb x.2.2.1 x.2.1.length&&inb x.2.2.1 6 then let a:=(rd aJ3 x.2.1 x.2.2.1);(if a then if Ac (x.1.length+([x.2.2.1]:List Int).length) then I (.inl ((x.1++([x.2.2.1]:List Int)),x.2.1,(w64<|x.2.2.1+1),())) else G else I (.inl (x.1,x.2.1,(w64<|x.2.2.1+1),()))) else G else I (.inr<|.inr (x.1,()))
def wS:=AS l8
def aBZ:Loop:=⟨[(9,.row 3 .int),(47,.arr .bool),(48,j6)],[(9,.row 3 .int)],4,[],wS⟩
def ap0:LF f190 [] [1,1,1,1,1,1,1,0,1,0,0] aBZ:=sq (v:= .nil) YP (b:=l8) kN
def l9(x:Int×List Bool×aJM):Rnd (Int×List Bool×aJM) D (List Bool×D):=if U (0<x.2.2.2.1) then(QU (x.2.2.1,())).bind λb=>if !decide (x.1=0) then let c:=(BM (w64<|B2 b.1.1 16) x.1);(AM (fq (x.1,x.2.1,b.1.1,x.2.2.2.1,c,())) (λ_=>I<|.inr<|.inl ()) λa=>(if inb a.2.2.2.2.1 a.2.1.length then I (.inl (a.1,(Bu a.2.1 (AO a.2.2.2.2.1) Y),a.2.2.1,(w64<|a.2.2.2.1 - 1),())) else G)) else G else I (.inr<|.inr (x.2.1,()))
def wT:=AS l9
def aBb:Loop:=⟨[(0,j6),(5,.abx 218 .bool),(6,j6),(7,j6)],[(5,.abx 218 .bool)],0,[],wT⟩
def apD:LF f190 [] [1,1,1,1,1,0,1,0,0] aBb:=sq (v:=t1<|.two (.one<|t1<|t1<|.two (.one<|.loop aBa) .nil) .nil) YP (b:=l9)<|kC ap3 kN
def Xt(x:aJM):Option ((List Int×D)×D):=(Xo x).bind λa=>if !a.1.1 then I ((([]:List Int),()),()) else if U (x.2.1<x.1) then I ((([x.2.1]:List Int),()),()) else(QU ((w64<|(w64<|7 * x.2.1)+1),())).bind λb=>(ft x).bind λc=>(AM (wT (x.1,(BT 6<|dfl .bool),b.1.1,c.1)) (λ_=>G) λd=>(AM (wS (([]:List Int),d.1,0,())) (λ_=>G) λe=>(vb e).bind λf=>I (f.1,())))
def mR:Ent:=(190,G,⟨[j6,j6],[.row 3 .int],Xt⟩)
def zh:y7 mR:=sk (v:=t1<|t1<|t1<|t1<|t1<|.two (t1<|.one<|.loop aBb)<|t1<|.two (t1<|.one<|.loop aBZ) .nil) (fn:=f190) YP<|kC apD<|kC ap0 kN
def aq1:Cx:=cX [] [] []
def aDv:y8 aq1:=y9<|AI
def aDD(x:A1×List Int×aJM):Rnd (A1×List Int×aJM) D (List Int×D):=if U (x.2.2.2.1<x.2.2.1) then if inb x.2.2.2.1 x.2.1.length then if inb x.2.2.2.1 x.1.size then if inb x.2.2.2.1 x.2.1.length then let a:=(E0 .u8 (rd aJW x.2.1 x.2.2.2.1)<|bt x.1 x.2.2.2.1);I (.inl (x.1,(Bu x.2.1 (AO x.2.2.2.1) a),x.2.2.1,(w64<|x.2.2.2.1+1),())) else G else G else G else I (.inr<|.inr (x.2.1,()))
def wO:=AS aDD
def aBd:Loop:=⟨[(1,.str),(5,.Co 5 .u8),(10,j6),(11,j6)],[(5,.Co 5 .u8)],0,[],wO⟩
def ap8:LF f191 [] [1,1,0,1,0,0] aBd:=sq (v:= .nil) aDv (b:=aDD) kN
def Xu(x:A1×A1×D):Option ((A1×D)×D):=if Ac x.1.size then(AM (wO (x.2.1,(BD x.1),((BD x.1).length:Int),0,())) (λ_=>G) λa=>I (((BI a.1),()),())) else G
def mO:Ent:=(191,G,⟨[.str,.str],[.str],Xu⟩)
def aA6:y7 mO:=sk (v:=t1<|t1<|.two (t1<|.one<|.loop aBd) .nil) (fn:=f191) aDv<|kC ap8 kN
def akR:Cx:=cX [FX,mR,mO] [] [(31,34)]
def jJ:y8 akR:=y9<|gC Ft<|gC zh<|gC aA6<|AI
def Ws(x:Int×List AT×List A1×Bool×A1×Int×Int×List AT×Int×Int×List Int×aJM):Rnd (Int×List AT×List A1×Bool×A1×Int×Int×List AT×Int×Int×List Int×aJM) D (Int×List AT×List A1×Bool×A1×Int×Int×List AT×aJM):=if U (x.2.2.2.2.2.2.2.2.2.2.2.2.1<x.2.2.2.2.2.2.2.2.2.2.2.1) then if inb x.2.2.2.2.2.2.2.2.2.2.2.2.1 x.2.2.2.2.2.2.2.2.2.2.1.length then let Ue:=(rd aJR x.2.2.2.2.2.2.2.2.2.2.1 x.2.2.2.2.2.2.2.2.2.2.2.2.1);(if inb Ue x.2.2.1.length then if U ((rd aJY x.2.2.1 Ue)=noB) then let alH:=(w64<|x.2.2.2.2.2.2.1+1);I (.inl (x.1,x.2.1,x.2.2.1,x.2.2.2.1,x.2.2.2.2.1,Ue,alH,x.2.2.2.2.2.2.2.1,x.2.2.2.2.2.2.2.2.1,x.2.2.2.2.2.2.2.2.2.1,x.2.2.2.2.2.2.2.2.2.2.1,x.2.2.2.2.2.2.2.2.2.2.2.1,(w64<|x.2.2.2.2.2.2.2.2.2.2.2.2.1+1),())) else if inb Ue x.2.2.1.length then(Xu (x.2.2.2.2.1,(rd aJY x.2.2.1 Ue),())).bind λamZ=>I (.inl (x.1,x.2.1,x.2.2.1,x.2.2.2.1,amZ.1.1,x.2.2.2.2.2.1,x.2.2.2.2.2.2.1,x.2.2.2.2.2.2.2.1,x.2.2.2.2.2.2.2.2.1,x.2.2.2.2.2.2.2.2.2.1,x.2.2.2.2.2.2.2.2.2.2.1,x.2.2.2.2.2.2.2.2.2.2.2.1,(w64<|x.2.2.2.2.2.2.2.2.2.2.2.2.1+1),())) else G else G) else G else I (.inr<|.inr (x.1,x.2.1,x.2.2.1,x.2.2.2.1,x.2.2.2.2.1,x.2.2.2.2.2.1,x.2.2.2.2.2.2.1,x.2.2.2.2.2.2.2.1,x.2.2.2.2.2.2.2.2.1,x.2.2.2.2.2.2.2.2.2.1,()))
def eh:=AS Ws
def ze:Loop:=⟨[(0,j6),(1,.sl .mixed),(5,.row 9 .str),(6,.bool),(9,.str),(10,j6),(11,j6),(20,.sl .mixed),(21,j6),(22,j6),(41,.row 3 .int),(42,j6),(43,j6)],[(0,j6),(1,.sl .mixed),(5,.row 9 .str),(6,.bool),(9,.str),(10,j6),(11,j6),(20,.sl .mixed),(21,j6),(22,j6)],4,[],eh⟩
def aj7:LF f230 [] [1,1,1,0,1,0,0,1,0,1,1,0,0,1,1,0,0,1,1,1,0,1,0,0] ze:=sq (v:= .nil) jJ (b:=Ws) kN
def OT(x:Int×List AT×List A1×Bool×List AT×aJM):Rnd (Int×List AT×List A1×Bool×List AT×aJM) D (Int×List AT×List A1×Bool×D):=if U (x.2.2.2.2.2.2.1<x.2.2.2.2.2.1) then if inb x.2.2.2.2.2.2.1 x.2.2.2.2.1.length then let aEh:=(rd aJ0 x.2.2.2.2.1 x.2.2.2.2.2.2.1).nu;let a:=(rd aJ0 x.2.2.2.2.1 x.2.2.2.2.2.2.1).da;(CB (aEh,0,999,())).bind λama=>if(!ama.1.1)||(!decide ((a.size:Int)=4)) then I (.inl (x.1,x.2.1,x.2.2.1,x.2.2.2.1,x.2.2.2.2.1,x.2.2.2.2.2.1,(w64<|x.2.2.2.2.2.2.1+1),())) else(Xt (x.1,aEh,())).bind λaEu=>(AM (eh (x.1,x.2.1,x.2.2.1,x.2.2.2.1,a,(-1),0,x.2.2.2.2.1,x.2.2.2.2.2.1,x.2.2.2.2.2.2.1,aEu.1.1,(j8 aEu.1.1:Int),0,())) (λ_=>I<|.inr<|.inl ()) λGq=>(if U (Gq.2.2.2.2.2.2.1=1) then if inb Gq.2.2.2.2.2.1 Gq.2.2.1.length then I (.inl (Gq.1,Gq.2.1,(Bu Gq.2.2.1 (AO Gq.2.2.2.2.2.1) Gq.2.2.2.2.1),Y,Gq.2.2.2.2.2.2.2.1,Gq.2.2.2.2.2.2.2.2.1,(w64<|Gq.2.2.2.2.2.2.2.2.2.1+1),())) else G else I (.inl (Gq.1,Gq.2.1,Gq.2.2.1,Gq.2.2.2.1,Gq.2.2.2.2.2.2.2.1,Gq.2.2.2.2.2.2.2.2.1,(w64<|Gq.2.2.2.2.2.2.2.2.2.1+1),())))) else G else I (.inr<|.inr (x.1,x.2.1,x.2.2.1,x.2.2.2.1,()))
def WK:=AS OT
def zf:Loop:=⟨[(0,j6),(1,.sl .mixed),(5,.row 9 .str),(6,.bool),(20,.sl .mixed),(21,j6),(22,j6)],[(0,j6),(1,.sl .mixed),(5,.row 9 .str),(6,.bool)],2,[],WK⟩
def ajG:LF f230 [] [1,1,1,0,1,0,0,1,0,1,1,0,0] zf:=sq (v:=t1<|t1<|.two (.one<|t1<|t1<|t1<|.two (t1<|.one<|.loop ze) .nil) .nil) jJ (b:=OT)<|kC aj7 kN
def kL(x:Int×List AT×List A1×Bool×D):Rnd (Int×List AT×List A1×Bool×D) D (List A1×D):=if x.2.2.2.1 then(AM (WK (x.1,x.2.1,x.2.2.1,A0,x.2.1,(j8 x.2.1:Int),0,())) (λ_=>I<|.inr<|.inl ()) λalQ=>I<|.inl alQ) else I (.inr<|.inr (x.2.2.1,()))
def vF:=AS kL
def zg:Loop:=⟨[(0,j6),(1,.sl .mixed),(5,.row 9 .str),(6,.bool)],[(5,.row 9 .str)],0,[],vF⟩
def aju:LF f230 [] [1,1,1,0,1,0,0] zg:=sq (v:=t1<|.one<|t1<|t1<|.one<|.loop zf) jJ (b:=kL)<|kC ajG kN
def jC(x:Int×List AT×D):Option ((List A1×D)×D):=(CB (x.1,1,6,())).bind λa=>if !a.1.1 then I ((([]:List A1),()),()) else if U (0<=x.1)&&U (x.1<=4294967296) then(AM (vF (x.1,x.2.1,(BT (AO x.1)<|dfl .str),Y,())) (λ_=>G) λalP=>I (alP,())) else G
def aC6:Ent:=(230,G,⟨[j6,.fz .mixed],[.row 9 .str],jC⟩)
def afH:y7 aC6:=sk (v:=t1<|t1<|t1<|.two (t1<|.one<|.loop zg) .nil) (fn:=f230) jJ<|kC aju kN
def akQ:Cx:=cX [FX,aC6] [] []
def l7:y8 akQ:=y9<|gC Ft<|gC afH<|AI
def iB(x:Int×A1×v7):Rnd (Int×A1×v7) (A1×Bool×D) (Int×A1×D):=if U (x.2.2.1<(x.2.1.size:Int)) then if inb x.2.2.1 x.2.1.size then if !decide ((bt x.2.1 x.2.2.1)=0) then I (.inr<|.inl (noB,A0,())) else I (.inl (x.1,x.2.1,(w64<|x.2.2.1+1),())) else G else I (.inr<|.inr (x.1,x.2.1,()))
def vE:=AS iB
def aAJ:Loop:=⟨[(0,j6),(6,.str),(9,j6)],[(0,j6),(6,.str)],2,[(4,.str),(5,.bool)],vE⟩
def ajF:LF f187 [] [1,1,1,1,0,1,0,0] aAJ:=sq (v:= .nil) l7 (b:=iB) kN
def Wr(x:Int×A1×List A1×aJM):Rnd (Int×A1×List A1×aJM) (A1×Bool×D) (Int×A1×D):=if U (x.2.2.2.2.1<x.2.2.2.1) then if inb x.2.2.2.2.1 x.2.2.1.length then let a:=(rd aJY x.2.2.1 x.2.2.2.2.1);(if U (a=noB) then I (.inr<|.inl (noB,A0,())) else if U (x.2.1.size+a.size<=4611686018427387904) then I (.inl (x.1,(x.2.1++a),x.2.2.1,x.2.2.2.1,(w64<|x.2.2.2.2.1+1),())) else G) else G else I (.inr<|.inr (x.1,x.2.1,()))
def ee:=AS Wr
def aAK:Loop:=⟨[(0,j6),(6,.str),(18,.row 9 .str),(19,j6),(20,j6)],[(0,j6),(6,.str)],0,[(4,.str),(5,.bool)],ee⟩
def ajt:LF f187 [] [1,1,1,0,1,0,0] aAK:=sq (v:= .nil) l7 (b:=Wr) kN
def jB(x:Int×List AT×D):Option ((A1×Bool×D)×D):=(CB (x.1,1,24,())).bind λd=>if !d.1.1 then I ((noB,A0,()),()) else(jC ((w64<|B2 (w64<|(w64<|x.1+4) - 1) 4),x.2)).bind λc=>(AM (ee (x.1,noB,c.1.1,(j8 c.1.1:Int),0,())) (λb=>I (b,())) λb=>(AM (vE (b.1,b.2.1,b.1,())) (λa=>I (a,())) λa=>(if U (0<=a.1)&&U (a.1<=(a.2.1.size:Int)) then let e:=(a.2.1.extract (0)<|AO a.1);I ((e,Y,()),()) else G)))
def aC5:Ent:=(187,G,⟨[j6,.fz .mixed],[.str,.bool],jB⟩)
def afG:y7 aC5:=sk (v:=t1<|t1<|t1<|.two (t1<|.one<|.loop aAK)<|.two (t1<|.one<|.loop aAJ) .nil) (fn:=f187) l7<|kC ajt<|kC ajF kN
def agd:Cx:=cX [IA,M9,lp,Yd,Wj,jo,aCv,Xi,aEE,aC5] [(85,85)] [(34,41)]
def aiH:y8 agd:=y9<|gC Ic<|gC NC<|gC xz<|gC kI<|gC dz<|gC va<|gC ag0<|gC fL<|gC ajx<|gC afG<|AI
def Wb(x:Y1×Y6×D):Option ((Y1×List Frame×D)×D):=(FD (x.1,())).bind λc=>let i:=(U<|x.2.1.2.2.2.2.2.2.1<=c.1.1.2.1);(if i then(jk (3,x.2)).bind λj=>I ((x.1,j.1),()) else(HI (c.1.1.2.2.2.1,x.2.1.2.2.2.1,x.2.1.2.2.2.2.1,())).bind λd=>if Ae (!(U<|0<=d.1.1)) ((LC (c.1.1.2.2.2.2.1,x.2.1.2.2.2.1,x.2.1.2.2.2.2.1,())).isSome) then let k:=((U<|0<=d.1.1)||(U<|0<=((LC (c.1.1.2.2.2.2.1,x.2.1.2.2.2.1,x.2.1.2.2.2.2.1,())).getD ((0,()),())).1.1));(if k then(Of (x.1,())).bind λl=>(jk (2,x.2)).bind λm=>I ((l.1.1,m.1),()) else let n:=(U<|x.2.1.2.2.2.1=x.1.1);(if n then I ((x.1,([]:List Frame),()),()) else(TJ (x.1.2.2.2.2.1,x.2.1.2.2.2.1,x.2.1.2.2.2.2.1,())).bind λe=>(BU (X:=Y1×Y6×Y1×v7) (λa=>if inb a.2.2.2.1 a.1.2.2.2.2.1.length then if !decide ((rd aJP a.1.2.2.2.2.1 a.2.2.2.1).to=a.2.1.2.2.2.2.2.1) then I ((a.1,([]:List Frame),()),()) else if !decide ((rd aJP a.1.2.2.2.2.1 a.2.2.2.1).un=a.2.1.2.2.2.2.2.2.1) then I ((a.1,([]:List Frame),()),()) else if !decide ((rd aJP a.1.2.2.2.2.1 a.2.2.2.1).sz=a.2.1.2.2.2.2.2.2.2.1) then I ((a.1,([]:List Frame),()),()) else(YS ((rd aJP a.1.2.2.2.2.1 a.2.2.2.1).got,a.2.1.2.2.2.2.2.2.2.2,())).bind λb=>(jB ((rd aJP (Bu a.1.2.2.2.2.1 (AO a.2.2.2.1)<|AG.mk ((rd aJP a.1.2.2.2.2.1 a.2.2.2.1).fr) ((rd aJP a.1.2.2.2.2.1 a.2.2.2.1).nu) ((rd aJP a.1.2.2.2.2.1 a.2.2.2.1).to) ((rd aJP a.1.2.2.2.2.1 a.2.2.2.1).un) ((rd aJP a.1.2.2.2.2.1 a.2.2.2.1).sz) b.1.1) a.2.2.2.1).sz,(rd aJP (Bu a.1.2.2.2.2.1 (AO a.2.2.2.1)<|AG.mk ((rd aJP a.1.2.2.2.2.1 a.2.2.2.1).fr) ((rd aJP a.1.2.2.2.2.1 a.2.2.2.1).nu) ((rd aJP a.1.2.2.2.2.1 a.2.2.2.1).to) ((rd aJP a.1.2.2.2.2.1 a.2.2.2.1).un) ((rd aJP a.1.2.2.2.2.1 a.2.2.2.1).sz) b.1.1) a.2.2.2.1).got,())).bind λf=>if !f.1.2.1 then I (((a.1.1,a.1.2.1,a.1.2.2.1,a.1.2.2.2.1,(Bu a.1.2.2.2.2.1 (AO a.2.2.2.1)<|AG.mk ((rd aJP a.1.2.2.2.2.1 a.2.2.2.1).fr) ((rd aJP a.1.2.2.2.2.1 a.2.2.2.1).nu) ((rd aJP a.1.2.2.2.2.1 a.2.2.2.1).to) ((rd aJP a.1.2.2.2.2.1 a.2.2.2.1).un) ((rd aJP a.1.2.2.2.2.1 a.2.2.2.1).sz) b.1.1),()),([]:List Frame),()),()) else if U (0<=a.2.2.2.1)&&U (a.2.2.2.1<=((Bu a.1.2.2.2.2.1 (AO a.2.2.2.1)<|AG.mk ((rd aJP a.1.2.2.2.2.1 a.2.2.2.1).fr) ((rd aJP a.1.2.2.2.2.1 a.2.2.2.1).nu) ((rd aJP a.1.2.2.2.2.1 a.2.2.2.1).to) ((rd aJP a.1.2.2.2.2.1 a.2.2.2.1).un) ((rd aJP a.1.2.2.2.2.1 a.2.2.2.1).sz) b.1.1).length:Int)) then if Ac (([]:List AG).length+(BQ (AO a.2.2.2.1)<|Bu a.1.2.2.2.2.1 (AO a.2.2.2.1)<|AG.mk ((rd aJP a.1.2.2.2.2.1 a.2.2.2.1).fr) ((rd aJP a.1.2.2.2.2.1 a.2.2.2.1).nu) ((rd aJP a.1.2.2.2.2.1 a.2.2.2.1).to) ((rd aJP a.1.2.2.2.2.1 a.2.2.2.1).un) ((rd aJP a.1.2.2.2.2.1 a.2.2.2.1).sz) b.1.1).length) then if U (0<=(w64<|a.2.2.2.1+1))&&U ((w64<|a.2.2.2.1+1)<=((Bu a.1.2.2.2.2.1 (AO a.2.2.2.1)<|AG.mk ((rd aJP a.1.2.2.2.2.1 a.2.2.2.1).fr) ((rd aJP a.1.2.2.2.2.1 a.2.2.2.1).nu) ((rd aJP a.1.2.2.2.2.1 a.2.2.2.1).to) ((rd aJP a.1.2.2.2.2.1 a.2.2.2.1).un) ((rd aJP a.1.2.2.2.2.1 a.2.2.2.1).sz) b.1.1).length:Int)) then if Ac ((([]:List AG)++(BQ (AO a.2.2.2.1)<|Bu a.1.2.2.2.2.1 (AO a.2.2.2.1)<|AG.mk ((rd aJP a.1.2.2.2.2.1 a.2.2.2.1).fr) ((rd aJP a.1.2.2.2.2.1 a.2.2.2.1).nu) ((rd aJP a.1.2.2.2.2.1 a.2.2.2.1).to) ((rd aJP a.1.2.2.2.2.1 a.2.2.2.1).un) ((rd aJP a.1.2.2.2.2.1 a.2.2.2.1).sz) b.1.1)).length+(Bt (AO<|w64<|a.2.2.2.1+1)<|Bu a.1.2.2.2.2.1 (AO a.2.2.2.1)<|AG.mk ((rd aJP a.1.2.2.2.2.1 a.2.2.2.1).fr) ((rd aJP a.1.2.2.2.2.1 a.2.2.2.1).nu) ((rd aJP a.1.2.2.2.2.1 a.2.2.2.1).to) ((rd aJP a.1.2.2.2.2.1 a.2.2.2.1).un) ((rd aJP a.1.2.2.2.2.1 a.2.2.2.1).sz) b.1.1).length) then(NB ((a.2.1.2.2.2.1,a.2.1.2.2.2.2.1,a.2.1.2.2.2.2.2.1,a.2.1.2.2.2.2.2.2.1,f.1.1,()),())).bind λg=>if U ((B [116,97,107,101,32]).size+g.1.1.size<=4611686018427387904) then(Oj ((a.1.1,a.1.2.1,a.1.2.2.1,a.1.2.2.2.1,((([]:List AG)++(BQ (AO a.2.2.2.1)<|Bu a.1.2.2.2.2.1 (AO a.2.2.2.1)<|AG.mk ((rd aJP a.1.2.2.2.2.1 a.2.2.2.1).fr) ((rd aJP a.1.2.2.2.2.1 a.2.2.2.1).nu) ((rd aJP a.1.2.2.2.2.1 a.2.2.2.1).to) ((rd aJP a.1.2.2.2.2.1 a.2.2.2.1).un) ((rd aJP a.1.2.2.2.2.1 a.2.2.2.1).sz) b.1.1))++(Bt (AO<|w64<|a.2.2.2.1+1)<|Bu a.1.2.2.2.2.1 (AO a.2.2.2.1)<|AG.mk ((rd aJP a.1.2.2.2.2.1 a.2.2.2.1).fr) ((rd aJP a.1.2.2.2.2.1 a.2.2.2.1).nu) ((rd aJP a.1.2.2.2.2.1 a.2.2.2.1).to) ((rd aJP a.1.2.2.2.2.1 a.2.2.2.1).un) ((rd aJP a.1.2.2.2.2.1 a.2.2.2.1).sz) b.1.1)),()),((B [116,97,107,101,32])++g.1.1),())).bind λh=>if !h.1.2.1 then let o:=((([]:List AG)++(BQ (AO a.2.2.2.1)<|Bu a.1.2.2.2.2.1 (AO a.2.2.2.1)<|AG.mk ((rd aJP a.1.2.2.2.2.1 a.2.2.2.1).fr) ((rd aJP a.1.2.2.2.2.1 a.2.2.2.1).nu) ((rd aJP a.1.2.2.2.2.1 a.2.2.2.1).to) ((rd aJP a.1.2.2.2.2.1 a.2.2.2.1).un) ((rd aJP a.1.2.2.2.2.1 a.2.2.2.1).sz) b.1.1))++(Bt (AO<|w64<|a.2.2.2.1+1)<|Bu a.1.2.2.2.2.1 (AO a.2.2.2.1)<|AG.mk ((rd aJP a.1.2.2.2.2.1 a.2.2.2.1).fr) ((rd aJP a.1.2.2.2.2.1 a.2.2.2.1).nu) ((rd aJP a.1.2.2.2.2.1 a.2.2.2.1).to) ((rd aJP a.1.2.2.2.2.1 a.2.2.2.1).un) ((rd aJP a.1.2.2.2.2.1 a.2.2.2.1).sz) b.1.1));I (((a.1.1,a.1.2.1,a.1.2.2.1,a.1.2.2.2.1,o,()),([]:List Frame),()),()) else(Of (h.1.1,())).bind λp=>(jk (2,a.2.1,())).bind λq=>I ((p.1.1,q.1),()) else G else G else G else G else G else G)<|(if U (e.1.1<0) then if Ac (x.1.2.2.2.2.1.length+([(AG.mk x.2.1.2.2.2.1 x.2.1.2.2.2.2.1 x.2.1.2.2.2.2.2.1 x.2.1.2.2.2.2.2.2.1 x.2.1.2.2.2.2.2.2.2.1 ([]:List AT))]:List AG).length) then if U (3<((x.1.2.2.2.2.1++([(AG.mk x.2.1.2.2.2.1 x.2.1.2.2.2.2.1 x.2.1.2.2.2.2.2.1 x.2.1.2.2.2.2.2.2.1 x.2.1.2.2.2.2.2.2.2.1 ([]:List AT))]:List AG)).length:Int)) then if U (0<=1)&&U (1<=((x.1.2.2.2.2.1++([(AG.mk x.2.1.2.2.2.1 x.2.1.2.2.2.2.1 x.2.1.2.2.2.2.2.1 x.2.1.2.2.2.2.2.2.1 x.2.1.2.2.2.2.2.2.2.1 ([]:List AT))]:List AG)).length:Int)) then let r:=(w64<|((Bt (AO 1)<|x.1.2.2.2.2.1++([(AG.mk x.2.1.2.2.2.1 x.2.1.2.2.2.2.1 x.2.1.2.2.2.2.2.1 x.2.1.2.2.2.2.2.2.1 x.2.1.2.2.2.2.2.2.2.1 ([]:List AT))]:List AG)).length:Int) - 1);I (.inr ((x.1.1,x.1.2.1,x.1.2.2.1,x.1.2.2.2.1,(Bt (AO 1)<|x.1.2.2.2.2.1++([(AG.mk x.2.1.2.2.2.1 x.2.1.2.2.2.2.1 x.2.1.2.2.2.2.2.1 x.2.1.2.2.2.2.2.2.1 x.2.1.2.2.2.2.2.2.2.1 ([]:List AT))]:List AG)),()),x.2.1,(0,A0,noB,0,([]:List AG),()),r,())) else G else let s:=(w64<|((x.1.2.2.2.2.1++([(AG.mk x.2.1.2.2.2.1 x.2.1.2.2.2.2.1 x.2.1.2.2.2.2.2.1 x.2.1.2.2.2.2.2.2.1 x.2.1.2.2.2.2.2.2.2.1 ([]:List AT))]:List AG)).length:Int) - 1);I (.inr ((x.1.1,x.1.2.1,x.1.2.2.1,x.1.2.2.2.1,(x.1.2.2.2.2.1++([(AG.mk x.2.1.2.2.2.1 x.2.1.2.2.2.2.1 x.2.1.2.2.2.2.2.1 x.2.1.2.2.2.2.2.2.1 x.2.1.2.2.2.2.2.2.2.1 ([]:List AT))]:List AG)),()),x.2.1,(0,A0,noB,0,([]:List AG),()),s,())) else G else I (.inr (x.1,x.2.1,(0,A0,noB,0,([]:List AG),()),e.1)))))) else G)
def zv:Ent:=(147,G,⟨[Z1,Z13],[Z12,.fz .frame],Wb⟩)
def adA:y7 zv:=sk (v:=t1<|t1<|t1<|t1<|.join [(2,Z20),(3,Z14),(4,Z20),(7,j6)] .nil .nil) (fn:=f147) aiH kN
def af2:Cx:=cX [IA,K3,M9,Ly,kW,zv,Yd,gF] [] [(70,77)]
def ahN:y8 af2:=y9<|gC Ic<|gC L7<|gC NC<|gC N7<|gC xf<|gC adA<|gC kI<|gC tW<|AI
def Sc(x:Y1×Y6×D):Option ((Y1×List Frame×D)×D):=(I7 (x.1,())).bind λf=>if !f.1.1 then I (((0,A0,noB,0,([]:List AG),()),([]:List Frame),()),()) else(I9 (x.1,())).bind λa=>if !x.1.2.1 then I ((a.1.1,([]:List Frame),()),()) else(XJ x.2).bind λg=>if !g.1.1 then I ((a.1.1,([]:List Frame),()),()) else if !decide (x.2.1.2.2.1=x.1.1) then I ((a.1.1,([]:List Frame),()),()) else if U (x.2.1.1=1) then(Wb (a.1.1,x.2)).bind λe=>(I9 (e.1.1,())).bind λh=>I ((h.1.1,e.1.2),()) else if U (x.2.1.1=2) then(FD (x.1,())).bind λb=>(HI (b.1.1.2.2.2.1,x.2.1.2.2.2.1,x.2.1.2.2.2.2.1,())).bind λc=>(BU (X:=Y6×Y1×Y1×Bool×D) (λd=>if d.2.2.2.1 then(QP ((B [108,101,116]),d.1.2.2.2.1,d.1.2.2.2.2.1,d.1.2.2.2.2.2.2.1,())).bind λi=>(Oj (d.2.2.1,i.1)).bind λj=>I ((j.1.1,([]:List Frame),()),()) else I ((d.2.2.1,([]:List Frame),()),()))<|(if U (0<=c.1.1) then if inb c.1.1 b.1.1.2.2.2.1.length then if Ae (U<|(rd y5 b.1.1.2.2.2.1 c.1.1).to=x.2.1.2.2.2.2.2.1) (inb c.1.1 b.1.1.2.2.2.1.length) then I (.inr (x.2.1,(0,A0,noB,0,([]:List AG),()),a.1.1,((U<|(rd y5 b.1.1.2.2.2.1 c.1.1).to=x.2.1.2.2.2.2.2.1)&&(U<|(rd y5 b.1.1.2.2.2.1 c.1.1).un=x.2.1.2.2.2.2.2.2.1)),())) else G else G else if Ae A0 (inb c.1.1 b.1.1.2.2.2.1.length) then I (.inr (x.2.1,(0,A0,noB,0,([]:List AG),()),a.1.1,A0,())) else G)) else I ((a.1.1,([]:List Frame),()),())
def yn:Ent:=(106,G,⟨[Z12,Z13],[Z12,.fz .frame],Sc⟩)
def acu:y7 yn:=sk (v:=t1<|t1<|t1<|t1<|.two (t1<|.one<|t1<|t1<|t1<|.two (t1<|t1<|.join [(3,Z14),(4,Z20),(6,Z20),(78,.bool)] .nil .nil) .nil) .nil) (fn:=f106) ahN kN
def aqy:Cx:=cX [wF] [] []
def aEI:y8 aqy:=y9<|gC xB<|AI
def YH(x:Y2×List Frame×aJM):Rnd (Y2×List Frame×aJM) D (Y2×D):=if U (x.2.2.2.1<x.2.2.1) then if inb x.2.2.2.1 x.2.1.length then let d:=(rd aJZ x.2.1 x.2.2.2.1).ki;let a:=(rd aJZ x.2.1 x.2.2.2.1).src;let b:=(rd aJZ x.2.1 x.2.2.2.1).dst;let e:=(rd aJZ x.2.1 x.2.2.2.1).fr;let f:=(rd aJZ x.2.1 x.2.2.2.1).nu;let g:=(rd aJZ x.2.1 x.2.2.2.1).to;let h:=(rd aJZ x.2.1 x.2.2.2.1).un;let i:=(rd aJZ x.2.1 x.2.2.2.1).sz;let j:=(rd aJZ x.2.1 x.2.2.2.1).mix;let k:=(rd aJZ x.2.1 x.2.2.2.1).da;if U ((j8 x.1.2.2.2.1:Int)<30) then(QI ((d,a,b,e,f,g,h,i,j,k,()),())).bind λc=>if Ac (x.1.2.2.2.1.length+([(AL.mk a b (BI c.1.1) A0)]:List AL).length) then I (.inl ((x.1.1,x.1.2.1,x.1.2.2.1,(x.1.2.2.2.1++([(AL.mk a b (BI c.1.1) A0)]:List AL)),x.1.2.2.2.2),x.2.1,x.2.2.1,(w64<|x.2.2.2.1+1),())) else G else I (.inl (x.1,x.2.1,x.2.2.1,(w64<|x.2.2.2.1+1),())) else G else I (.inr<|.inr (x.1,()))
def gq:=AS YH
def aDF:Loop:=⟨[(0,Z2),(6,.sl .frame),(7,j6),(8,j6)],[(0,Z2)],0,[],gq⟩
def aqW:LF f107 [0] [1,0,0] aDF:=sq (v:= .nil) aEI (b:=YH) kN
def Oi(x:Y2×List Frame×D):Option (D×Y2×D):=(AM (gq (x.1,x.2.1,(j8 x.2.1:Int),0,())) (λ_=>G) λa=>I ((),a))
def mc:Ent:=(107,G,⟨[Z2,.fz .frame],[],Oi⟩)
def aAq:y7 mc:=sk (v:=t1<|.one<|.loop aDF) (fn:=f107) aEI<|kC aqW kN
def aiZ:Cx:=cX [FX,zu,xV,yn,mc] [] [(137,141)]
def ak9:y8 aiZ:=y9<|gC Ft<|gC ad9<|gC aci<|gC acu<|gC aAq<|AI
def Su(x:Y2×Y6×D):Option ((Bool×D)×Y2×D):=(CB (x.2.1.2.2.2.2.1,0,(w64<|(j8 x.1.2.2.2.1:Int) - 1),())).bind λj=>if !j.1.1 then I ((A0,()),(x.1,())) else if inb x.2.1.2.2.2.2.1 x.1.2.2.2.1.length then let d:=(rd aJS x.1.2.2.2.1 x.2.1.2.2.2.2.1).src;let e:=(rd aJS x.1.2.2.2.1 x.2.1.2.2.2.2.1).dst;let b:=(rd aJS x.1.2.2.2.1 x.2.1.2.2.2.2.1).data;let i:=(rd aJS x.1.2.2.2.1 x.2.1.2.2.2.2.1).sp;if U (x.2.1.1=5) then(Wa (x.1.2.2.2.1,x.2.1.2.2.2.2.1,())).bind λk=>I ((Y,()),((x.1.1,x.1.2.1,x.1.2.2.1,k.1.1,x.1.2.2.2.2),())) else if U (x.2.1.1=6) then(CB (x.2.1.2.2.2.2.2.1,0,(w64<|(b.size:Int) - 1),())).bind λl=>if !l.1.1 then I ((A0,()),(x.1,())) else if i then I ((A0,()),(x.1,())) else(CB (x.2.1.2.2.2.2.2.2.1,1,255,())).bind λm=>if !m.1.1 then I ((A0,()),(x.1,())) else if Ac b.size then if inb x.2.1.2.2.2.2.2.1 ((BD b).length) then if inb x.2.1.2.2.2.2.2.1 ((BD b).length) then let n:=(E0 .u8 (rd aJW (BD b) x.2.1.2.2.2.2.2.1)<|w8 x.2.1.2.2.2.2.2.2.1);(if inb x.2.1.2.2.2.2.1 x.1.2.2.2.1.length then let g:=(BI<|Bu (BD b) (AO x.2.1.2.2.2.2.2.1) n);(if inb x.2.1.2.2.2.2.1 ((Bu x.1.2.2.2.1 (AO x.2.1.2.2.2.2.1)<|AL.mk ((rd aJS x.1.2.2.2.1 x.2.1.2.2.2.2.1).src) ((rd aJS x.1.2.2.2.1 x.2.1.2.2.2.2.1).dst) g<|(rd aJS x.1.2.2.2.1 x.2.1.2.2.2.2.1).sp).length) then I ((Y,()),((x.1.1,x.1.2.1,x.1.2.2.1,(Bu (Bu x.1.2.2.2.1 (AO x.2.1.2.2.2.2.1)<|AL.mk ((rd aJS x.1.2.2.2.1 x.2.1.2.2.2.2.1).src) ((rd aJS x.1.2.2.2.1 x.2.1.2.2.2.2.1).dst) g<|(rd aJS x.1.2.2.2.1 x.2.1.2.2.2.2.1).sp) (AO x.2.1.2.2.2.2.1)<|AL.mk ((rd aJS (Bu x.1.2.2.2.1 (AO x.2.1.2.2.2.2.1)<|AL.mk ((rd aJS x.1.2.2.2.1 x.2.1.2.2.2.2.1).src) ((rd aJS x.1.2.2.2.1 x.2.1.2.2.2.2.1).dst) g<|(rd aJS x.1.2.2.2.1 x.2.1.2.2.2.2.1).sp) x.2.1.2.2.2.2.1).src) ((rd aJS (Bu x.1.2.2.2.1 (AO x.2.1.2.2.2.2.1)<|AL.mk ((rd aJS x.1.2.2.2.1 x.2.1.2.2.2.2.1).src) ((rd aJS x.1.2.2.2.1 x.2.1.2.2.2.2.1).dst) g<|(rd aJS x.1.2.2.2.1 x.2.1.2.2.2.2.1).sp) x.2.1.2.2.2.2.1).dst) ((rd aJS (Bu x.1.2.2.2.1 (AO x.2.1.2.2.2.2.1)<|AL.mk ((rd aJS x.1.2.2.2.1 x.2.1.2.2.2.2.1).src) ((rd aJS x.1.2.2.2.1 x.2.1.2.2.2.2.1).dst) g<|(rd aJS x.1.2.2.2.1 x.2.1.2.2.2.2.1).sp) x.2.1.2.2.2.2.1).data) Y),x.1.2.2.2.2),())) else G) else G) else G else G else G else if U (x.2.1.1=4) then if inb (if e<d then e else d) x.1.2.2.1.length then if !(rd aJ3 x.1.2.2.1<|if e<d then e else d) then I ((A0,()),(x.1,())) else(BU (X:=Y2×Y12×D) (λc=>if Ac c.2.1.2.2.1.size then(fF ((BD c.2.1.2.2.1),())).bind λh=>(BU (X:=Y2×Y12×Y6×Bool×D) (λa=>if a.2.2.2.1 then if inb a.2.1.2.1 a.1.2.1.length then(Sc (((rd aJN a.1.2.1 a.2.1.2.1).id,(rd aJN a.1.2.1 a.2.1.2.1).up,(rd aJN a.1.2.1 a.2.1.2.1).log,(rd aJN a.1.2.1 a.2.1.2.1).fo,(rd aJN a.1.2.1 a.2.1.2.1).AJ,()),a.2.2.1,())).bind λf=>if inb a.2.1.2.1 a.1.2.1.length then(Oi ((a.1.1,(Bu a.1.2.1 (AO a.2.1.2.1)<|A7.mk f.1.1.1 f.1.1.2.1 f.1.1.2.2.1 f.1.1.2.2.2.1 f.1.1.2.2.2.2.1),a.1.2.2),f.1.2)).bind λo=>I ((Y,()),o.2) else G else G else I ((Y,()),(a.1,())))<|(if h.1.2.1 then I (.inr (c.1,c.2.1,h.1.1,((U<|h.1.1.2.1=c.2.1.1)&&(U<|h.1.1.2.2.1=c.2.1.2.1)),())) else I (.inr (c.1,c.2.1,h.1.1,A0,())))) else G)<|(if U (x.2.1.2.2.2.2.2.2.1=0) then(Wa (x.1.2.2.2.1,x.2.1.2.2.2.2.1,())).bind λp=>I (.inr ((x.1.1,x.1.2.1,x.1.2.2.1,p.1.1,x.1.2.2.2.2),(d,e,b,i,()),())) else I (.inr (x.1,(d,e,b,i,()),())))) else G else I ((Y,()),(x.1,())) else G
def aBM:Ent:=(68,G,⟨[Z2,Z13],[.bool],Su⟩)
def adg:y7 aBM:=sk (v:=t1<|t1<|t1<|.two (t1<|.one<|t1<|t1<|t1<|t1<|t1<|.two (t1<|.join [(0,Z2),(5,Z33)] .nil<|t1<|.join [(0,Z2),(5,Z33),(7,Z14),(142,.bool)] .nil .nil) .nil) .nil) (fn:=f68) ak9 kN
def akK:Cx:=cX [Ly,Yd,jo] [] []
def aoI:y8 akK:=y9<|gC N7<|gC kI<|gC va<|AI
def OX(x:Y1×A1×D):Option ((Y1×Bool×D)×D):=(Oj x).bind λa=>if !a.1.2.1 then(I9 (x.1,())).bind λb=>I ((b.1.1,A0,()),()) else(Of (a.1.1,())).bind λc=>(I9 c.1).bind λd=>I ((d.1.1,Y,()),())
def jQ:Ent:=(150,G,⟨[Z12,.str],[Z1,.bool],OX⟩)
def uf:y7 jQ:=sk (v:= .nil) (fn:=f150) aoI kN
def ago:Cx:=cX [IA,K3,Ly,jQ,Wj] [] []
def aiK:y8 ago:=y9<|gC Ic<|gC L7<|gC N7<|gC uf<|gC dz<|AI
def Wd(x:Y1×Int×Int×A1×D):Option ((Y1×v7)×D):=(I7 (x.1,())).bind λd=>if !d.1.1 then I (((0,A0,noB,0,([]:List AG),()),0,()),()) else if !x.1.2.1 then(I9 (x.1,())).bind λe=>I ((e.1.1,0,()),()) else(FD (x.1,())).bind λb=>(NB ((x.1.1,b.1.1.2.2.1,x.2),())).bind λc=>if U ((B [111,119,110,32]).size+c.1.1.size<=4611686018427387904) then(OX (x.1,((B [111,119,110,32])++c.1.1),())).bind λa=>if !a.1.2.1 then I ((a.1.1,0,()),()) else I ((a.1.1,b.1.1.2.2.1,()),()) else G
def zz:Ent:=(108,G,⟨[Z12,j6,j6,.str],[Z1,j6],Wd⟩)
def adK:y7 zz:=sk (v:= .nil) (fn:=f108) aiK kN
def aez:Cx:=cX [IA,K3,Ly,jQ,T7] [] []
def ahK:y8 aez:=y9<|gC Ic<|gC L7<|gC N7<|gC uf<|gC Vz<|AI
def WT(x:Y1×D):Option ((Y1×Bool×D)×D):=(I7 x).bind λb=>if !b.1.1 then I (((0,A0,noB,0,([]:List AG),()),A0,()),()) else if !x.1.2.1 then(I9 x).bind λc=>I ((c.1.1,A0,()),()) else(FD x).bind λd=>(JH ((w64<|d.1.1.2.1+1),())).bind λa=>if U ((B [116,105,109,101,32]).size+a.1.1.size<=4611686018427387904) then(OX (x.1,((B [116,105,109,101,32])++a.1.1),())).bind λe=>I (e.1,()) else G
def yk:Ent:=(109,G,⟨[Z12],[Z1,.bool],WT⟩)
def acq:y7 yk:=sk (v:= .nil) (fn:=f109) ahK kN
def ao2:Cx:=cX [FX,eC] [] []
def aCe:y8 ao2:=y9<|gC Ft<|gC su<|AI
def jK(x:A1×List A1×v7):Rnd (A1×List A1×v7) D (List A1×D):=if U (x.2.2.1<(x.1.size:Int)) then if U (0<=4)&&U (4<=4294967296) then if U (0<=x.2.2.1)&&U (x.2.2.1<=(x.1.size:Int)) then if Ac (x.2.1.length+([(BI<|BQ (BT (AO 4)<|dfl .u8).length (BD<|x.1.extract (AO x.2.2.1)<|x.1.size)++Bt (BD<|x.1.extract (AO x.2.2.1)<|x.1.size).length (BT (AO 4)<|dfl .u8))]:List A1).length) then I (.inl (x.1,(x.2.1++([(BI<|BQ (BT (AO 4)<|dfl .u8).length (BD<|x.1.extract (AO x.2.2.1)<|x.1.size)++Bt (BD<|x.1.extract (AO x.2.2.1)<|x.1.size).length (BT (AO 4)<|dfl .u8))]:List A1)),(w64<|x.2.2.1+4),())) else G else G else G else I (.inr<|.inr (x.2.1,()))
def vc:=AS jK
def aAU:Loop:=⟨[(0,.str),(3,.row 9 .str),(4,j6)],[(3,.row 9 .str)],0,[],vc⟩
def anp:LF f76 [] [1,1,1,0,1,0,0] aAU:=sq (v:= .nil) aCe (b:=jK) kN
def Xg(x:A1×D):Option ((List A1×D)×D):=(CB ((x.1.size:Int),1,24,())).bind λa=>if !a.1.1 then I ((([]:List A1),()),()) else(AM (vc (x.1,([]:List A1),0,())) (λ_=>G) λb=>(SX b).bind λc=>I (c.1,()))
def lq:Ent:=(76,G,⟨[.str],[.row 9 .str],Xg⟩)
def yA:y7 lq:=sk (v:=t1<|t1<|t1<|.two (t1<|.one<|.loop aAU) .nil) (fn:=f76) aCe<|kC anp kN
def akS:Cx:=cX [lq,mR,mO] [] []
def aCV:y8 akS:=y9<|gC yA<|gC zh<|gC aA6<|AI
def Wt(x:List A1×A1×List Int×aJM):Rnd (List A1×A1×List Int×aJM) D (A1×D):=if U (x.2.2.2.2.1<x.2.2.2.1) then if inb x.2.2.2.2.1 x.2.2.1.length then let a:=(rd aJR x.2.2.1 x.2.2.2.2.1);(if U (x.2.2.2.2.1=0) then if inb a x.1.length then I (.inl (x.1,(rd aJY x.1 a),x.2.2.1,x.2.2.2.1,(w64<|x.2.2.2.2.1+1),())) else G else if inb a x.1.length then(Xu (x.2.1,(rd aJY x.1 a),())).bind λb=>I (.inl (x.1,b.1.1,x.2.2.1,x.2.2.2.1,(w64<|x.2.2.2.2.1+1),())) else G) else G else I (.inr<|.inr (x.2.1,()))
def WL:=AS Wt
def zi:Loop:=⟨[(5,.row 9 .str),(6,.str),(14,.row 3 .int),(15,j6),(16,j6)],[(6,.str)],0,[],WL⟩
def ajv:LF f153 [] [1,1,1,0,1,0,0] zi:=sq (v:= .nil) aCV (b:=Wt) kN
def jD(x:A1×v7):Option ((A1×D)×D):=(Xg (x.1,())).bind λa=>(Xt ((j8 a.1.1:Int),x.2)).bind λb=>(AM (WL (a.1.1,noB,b.1.1,(j8 b.1.1:Int),0,())) (λ_=>G) λc=>I (c,()))
def aC7:Ent:=(153,G,⟨[.str,j6],[.str],jD⟩)
def afI:y7 aC7:=sk (v:=t1<|t1<|t1<|.two (t1<|.one<|.loop zi) .nil) (fn:=f153) aCV<|kC ajv kN
def agp:Cx:=cX [IA,K3,Sx,M9,FX,aC7] [] []
def aiL:y8 agp:=y9<|gC Ic<|gC L7<|gC Vy<|gC NC<|gC Ft<|gC afI<|AI
def We(x:Y1×aJQ):Option ((Y6×Bool×D)×D):=(I7 (x.1,())).bind λe=>if !e.1.1 then I (((0,0,0,0,0,0,0,0,0,noB,()),A0,()),()) else if !x.1.2.1 then I (((0,0,0,0,0,0,0,0,0,noB,()),A0,()),()) else(CB (x.2.2.2.1,0,999,())).bind λf=>if !f.1.1 then I (((0,0,0,0,0,0,0,0,0,noB,()),A0,()),()) else(FD (x.1,())).bind λa=>(HI (a.1.1.2.2.2.1,x.2.1,x.2.2.1,())).bind λb=>if U (b.1.1<0) then I (((0,0,0,0,0,0,0,0,0,noB,()),A0,()),()) else if inb b.1.1 a.1.1.2.2.2.1.length then let g:=(rd y5 a.1.1.2.2.2.1 b.1.1).fr;let h:=(rd y5 a.1.1.2.2.2.1 b.1.1).nu;let c:=(rd y5 a.1.1.2.2.2.1 b.1.1).to;let i:=(rd y5 a.1.1.2.2.2.1 b.1.1).un;let d:=(rd y5 a.1.1.2.2.2.1 b.1.1).tx;(I6 (x.1.1,c,())).bind λj=>(jD (d,x.2.2.2)).bind λk=>I (((1,x.1.1,j.1.1,g,h,c,i,(d.size:Int),x.2.2.2.1,k.1),Y,()),()) else G
def aA0:Ent:=(110,G,⟨[Z12,j6,j6,j6],[Z13,.bool],We⟩)
def adL:y7 aA0:=sk (v:= .nil) (fn:=f110) aiL kN
def agi:Cx:=cX [T9,gG] [] []
def aiI:y8 agi:=y9<|gC WI<|gC tY<|AI
def fp(x:Y7×v7):Option ((Y7×D)×D):=(OY (x.1,())).bind λc=>if !c.1.1 then I (((noB,0,()),()),()) else if U (0<=(w64<|x.1.2.1+(if 0<(if(w64<|(x.1.1.size:Int) - x.1.2.1)<x.2.1 then(w64<|(x.1.1.size:Int) - x.1.2.1) else x.2.1) then(if(w64<|(x.1.1.size:Int) - x.1.2.1)<x.2.1 then(w64<|(x.1.1.size:Int) - x.1.2.1) else x.2.1) else 0)))&&U ((w64<|x.1.2.1+(if 0<(if(w64<|(x.1.1.size:Int) - x.1.2.1)<x.2.1 then(w64<|(x.1.1.size:Int) - x.1.2.1) else x.2.1) then(if(w64<|(x.1.1.size:Int) - x.1.2.1)<x.2.1 then(w64<|(x.1.1.size:Int) - x.1.2.1) else x.2.1) else 0))<=(x.1.1.size:Int)) then let b:=(x.1.1.extract (0)<|AO<|w64<|x.1.2.1+(if 0<(if(w64<|(x.1.1.size:Int) - x.1.2.1)<x.2.1 then(w64<|(x.1.1.size:Int) - x.1.2.1) else x.2.1) then(if(w64<|(x.1.1.size:Int) - x.1.2.1)<x.2.1 then(w64<|(x.1.1.size:Int) - x.1.2.1) else x.2.1) else 0));(QQ (b,())).bind λa=>if U (0<=a.1.2.1)&&U (a.1.2.1<=(b.size:Int)) then let d:=(b.extract (0)<|AO a.1.2.1);I (((d,a.1.2),()),()) else G else G
def zx:Ent:=(154,G,⟨[Z15,j6],[Z15],fp⟩)
def ad3:y7 zx:=sk (v:= .nil) (fn:=f154) aiI kN
def af3:Cx:=cX [K3,zx] [] []
def ahO:y8 af3:=y9<|gC L7<|gC ad3<|AI
def WW(x:Y1×v7):Option ((Y1×D)×D):=(I7 (x.1,())).bind λb=>if !b.1.1 then I (((0,A0,noB,0,([]:List AG),()),()),()) else(fp ((x.1.2.2.1,x.1.2.2.2.1,()),x.2)).bind λa=>I (((x.1.1,A0,a.1.1.1,a.1.1.2.1,([]:List AG),()),()),())
def yo:Ent:=(111,G,⟨[Z12,j6],[Z1],WW⟩)
def acv:y7 yo:=sk (v:= .nil) (fn:=f111) ahO kN
def af0:Cx:=cX [K3,Ly] [] []
def ahL:y8 af0:=y9<|gC L7<|gC N7<|AI
def WU(x:Y1×D):Option ((Y1×D)×D):=(I7 x).bind λb=>if !b.1.1 then I (((0,A0,noB,0,([]:List AG),()),()),()) else(I9 x).bind λa=>I (((a.1.1.1,Y,a.1.1.2.2),()),())
def yl:Ent:=(112,G,⟨[Z12],[Z1],WU⟩)
def acr:y7 yl:=sk (v:= .nil) (fn:=f112) ahL kN
def agr:Cx:=cX [IA,K3,M9,Ly,gF,jQ] [] [(29,30)]
def aiN:y8 agr:=y9<|gC Ic<|gC L7<|gC NC<|gC N7<|gC tW<|gC uf<|AI
def Wf(x:Y1×aJM):Option ((Y1×Y4×Bool×D)×D):=(I7 (x.1,())).bind λd=>if !d.1.1 then I (((0,A0,noB,0,([]:List AG),()),(0,0,0,0,noB,()),A0,()),()) else(FD (x.1,())).bind λa=>(HI (a.1.1.2.2.2.2.2.1,x.2)).bind λb=>if(!x.1.2.1)||(U<|b.1.1<0) then(I9 (x.1,())).bind λe=>I ((e.1.1,(0,0,0,0,noB,()),A0,()),()) else if inb b.1.1 a.1.1.2.2.2.2.2.1.length then(QP ((B [101,97,116]),x.2.1,x.2.2.1,(rd y5 a.1.1.2.2.2.2.2.1 b.1.1).un,())).bind λf=>(OX (x.1,f.1)).bind λc=>if !c.1.2.1 then I ((c.1.1,(0,0,0,0,noB,()),A0,()),()) else if inb b.1.1 a.1.1.2.2.2.2.2.1.length then let g:=(rd y5 a.1.1.2.2.2.2.2.1 b.1.1).fr;let h:=(rd y5 a.1.1.2.2.2.2.2.1 b.1.1).nu;let i:=(rd y5 a.1.1.2.2.2.2.2.1 b.1.1).to;let j:=(rd y5 a.1.1.2.2.2.2.2.1 b.1.1).un;let k:=(rd y5 a.1.1.2.2.2.2.2.1 b.1.1).tx;I ((c.1.1,(g,h,i,j,k,()),Y,()),()) else G else G
def zV:Ent:=(113,G,⟨[Z12,j6,j6],[Z1,Z6,.bool],Wf⟩)
def adM:y7 zV:=sk (v:= .nil) (fn:=f113) aiN kN
def af1:Cx:=cX [IA,K3,Ly,wE,jy] [] []
def ahM:y8 af1:=y9<|gC Ic<|gC L7<|gC N7<|gC ac1<|gC wa<|AI
def WV(x:Y1×D):Option ((Y1×Bool×D)×D):=(I7 x).bind λc=>if !c.1.1 then I (((0,A0,noB,0,([]:List AG),()),A0,()),()) else(I9 x).bind λa=>if !x.1.2.1 then I ((a.1.1,A0,()),()) else(FD x).bind λd=>(Wu d.1).bind λe=>(Sq ((x.1.2.2.1,x.1.2.2.2.1,()),e.1)).bind λb=>I (((a.1.1.1,a.1.1.2.1,b.1.1.1,b.1.1.2.1,a.1.1.2.2.2.2),b.1.2),())
def ym:Ent:=(114,G,⟨[Z12],[Z1,.bool],WV⟩)
def acs:y7 ym:=sk (v:= .nil) (fn:=f114) ahM kN
def adZ:Cx:=cX [K3,Ly,jo] [] [(15,22)]
def afD:y8 adZ:=y9<|gC L7<|gC N7<|gC va<|AI
def WM(x:Y1×D):Option ((Y1×Bool×D)×D):=(I7 x).bind λb=>if !b.1.1 then I (((0,A0,noB,0,([]:List AG),()),A0,()),()) else(I9 x).bind λa=>if(!x.1.2.1)||(U<|x.1.2.2.2.1=(x.1.2.2.1.size:Int)) then I ((a.1.1,A0,()),()) else(Of a.1).bind λc=>I ((c.1.1,Y,()),())
def xU:Ent:=(115,G,⟨[Z12],[Z12,.bool],WM⟩)
def acX:y7 xU:=sk (v:= .nil) (fn:=f115) afD kN
def aod:Cx:=cX [JG,mc,zz,yk,aA0,yo,yl,zV,ym,xU] [] []
def apm:y8 aod:=y9<|gC Jz<|gC aAq<|gC adK<|gC acq<|gC adL<|gC acv<|gC acr<|gC adM<|gC acs<|gC acX<|AI
def TL(x:Y2×Y6×D):Option ((Bool×D)×Y2×D):=(Fs (x.2.1.2.1,())).bind λj=>if !j.1.1 then I ((A0,()),(x.1,())) else if inb x.2.1.2.1 x.1.2.1.length then let e:=(rd aJN x.1.2.1 x.2.1.2.1).id;let a:=(rd aJN x.1.2.1 x.2.1.2.1).up;let f:=(rd aJN x.1.2.1 x.2.1.2.1).log;let g:=(rd aJN x.1.2.1 x.2.1.2.1).fo;let h:=(rd aJN x.1.2.1 x.2.1.2.1).AJ;(BU (X:=Y2×Y6×Y1×Bool×D) (λc=>if inb c.2.1.2.1 c.1.2.1.length then I (c.2.2.2,((c.1.1,(Bu c.1.2.1 (AO c.2.1.2.1)<|A7.mk c.2.2.1.1 c.2.2.1.2.1 c.2.2.1.2.2.1 c.2.2.1.2.2.2.1 c.2.2.1.2.2.2.2.1),c.1.2.2),())) else G)<|(if U (x.2.1.1=1) then if U (6<=(j8 x.1.2.2.2.2.1:Int)) then I (.inl ((A0,()),(x.1,()))) else(Wd ((e,a,f,g,h,()),x.2.1.2.2.2.2.2.2.2)).bind λi=>if U (i.1.2.1=0) then I (.inl ((A0,()),(x.1,()))) else if Ac (x.1.2.2.2.2.1.length+([(A3.mk x.2.1.2.1 i.1.2.1 x.2.1.2.2.2.2.2.2.2.1 x.2.1.2.2.2.2.2.2.2.2.1 x.2.1.2.2.2.2.2.2.2.2.2.1)]:List A3).length) then I (.inr ((x.1.1,x.1.2.1,x.1.2.2.1,x.1.2.2.2.1,(x.1.2.2.2.2.1++([(A3.mk x.2.1.2.1 i.1.2.1 x.2.1.2.2.2.2.2.2.2.1 x.2.1.2.2.2.2.2.2.2.2.1 x.2.1.2.2.2.2.2.2.2.2.2.1)]:List A3)),x.1.2.2.2.2.2),x.2.1,i.1.1,Y,())) else G else if U (x.2.1.1=2) then(WT ((e,a,f,g,h,()),())).bind λk=>I (.inr (x.1,x.2.1,k.1)) else if U (x.2.1.1=3) then(We ((e,a,f,g,h,()),x.2.1.2.2.1,x.2.1.2.2.2.1,x.2.1.2.2.2.2.2.1,())).bind λb=>if b.1.2.1 then(Oi (x.1,([(Frame.mk b.1.1.1 b.1.1.2.1 b.1.1.2.2.1 b.1.1.2.2.2.1 b.1.1.2.2.2.2.1 b.1.1.2.2.2.2.2.1 b.1.1.2.2.2.2.2.2.1 b.1.1.2.2.2.2.2.2.2.1 b.1.1.2.2.2.2.2.2.2.2.1 b.1.1.2.2.2.2.2.2.2.2.2.1)]:List Frame),())).bind λl=>I (.inr (l.2.1,x.2.1,(e,a,f,g,h,()),b.1.2)) else I (.inr (x.1,x.2.1,(e,a,f,g,h,()),b.1.2)) else if U (x.2.1.1=7) then(WW ((e,a,f,g,h,()),x.2.1.2.2.2.2.2.2.1,())).bind λm=>I (.inr (x.1,x.2.1,m.1.1,a,())) else if U (x.2.1.1=8) then(WU ((e,a,f,g,h,()),())).bind λn=>I (.inr (x.1,x.2.1,n.1.1,(!a),())) else if U (x.2.1.1=11) then if U (6<=(j8 x.1.2.2.2.2.2.1:Int)) then I (.inl ((A0,()),(x.1,()))) else(Wf ((e,a,f,g,h,()),x.2.1.2.2.1,x.2.1.2.2.2.1,())).bind λd=>if !d.1.2.2.1 then I (.inl ((A0,()),(x.1,()))) else if Ac (x.1.2.2.2.2.2.1.length+([(A3.mk d.1.2.1.1 d.1.2.1.2.1 d.1.2.1.2.2.1 d.1.2.1.2.2.2.1 d.1.2.1.2.2.2.2.1)]:List A3).length) then I (.inr ((x.1.1,x.1.2.1,x.1.2.2.1,x.1.2.2.2.1,x.1.2.2.2.2.1,(x.1.2.2.2.2.2.1++([(A3.mk d.1.2.1.1 d.1.2.1.2.1 d.1.2.1.2.2.1 d.1.2.1.2.2.2.1 d.1.2.1.2.2.2.2.1)]:List A3)),()),x.2.1,d.1.1,Y,())) else G else if U (x.2.1.1=12) then(WV ((e,a,f,g,h,()),())).bind λo=>I (.inr (x.1,x.2.1,o.1)) else if U (x.2.1.1=13) then(WM ((e,a,f,g,h,()),())).bind λp=>I (.inr (x.1,x.2.1,p.1)) else I (.inr (x.1,x.2.1,(e,a,f,g,h,()),A0,())))) else G
def aCt:Ent:=(69,G,⟨[Z2,Z13],[.bool],TL⟩)
def afy:y7 aCt:=sk (v:=t1<|t1<|t1<|t1<|.join [(0,Z2),(3,Z25),(5,Z34),(6,.bool)] .nil .nil) (fn:=f69) apm kN
def akL:Cx:=cX [gE,aCu,aBM,aCt] [] [(28,30)]
def aoJ:y8 akL:=y9<|gC tV<|gC afz<|gC adg<|gC afy<|AI
def I8(x:Y2×Y6×D):Option ((Y2×Bool×D)×D):=(K6 (x.1,())).bind λc=>(BU (X:=Y2×Y2×Y2×Bool×D) (λb=>if(!b.2.2.2.1)||(U<|b.1.1=99999) then(K6 (b.1,())).bind λm=>I ((m.1.1,A0,()),()) else(K6 (((w64<|b.2.2.1.1+1),b.2.2.1.2),())).bind λn=>I ((n.1.1,Y,()),()))<|(BU (X:=Y2×Y6×Y2×Y2×Int×Bool×D) (λa=>if a.2.2.2.2.2.1 then(jh (a.2.2.2.1,a.2.1,())).bind λd=>I (.inr (a.1,a.2.2.1,d.2.1,d.1)) else let e:=(U<|a.2.2.2.2.1=4);(if e then if e then(Su (a.2.2.2.1,a.2.1,())).bind λf=>I (.inr (a.1,a.2.2.1,f.2.1,f.1)) else(TL (a.2.2.2.1,a.2.1,())).bind λg=>I (.inr (a.1,a.2.2.1,g.2.1,g.1)) else let h:=(U<|a.2.2.2.2.1=5);(if h then if h then(Su (a.2.2.2.1,a.2.1,())).bind λi=>I (.inr (a.1,a.2.2.1,i.2.1,i.1)) else(TL (a.2.2.2.1,a.2.1,())).bind λj=>I (.inr (a.1,a.2.2.1,j.2.1,j.1)) else let o:=(U<|a.2.2.2.2.1=6);(if o then(Su (a.2.2.2.1,a.2.1,())).bind λk=>I (.inr (a.1,a.2.2.1,k.2.1,k.1)) else(TL (a.2.2.2.1,a.2.1,())).bind λl=>I<|.inr (a.1,a.2.2.1,l.2.1,l.1)))))<|(if U (x.2.1.1=9) then I (.inr (x.1,x.2.1,(0,([]:List A7),([]:List Bool),([]:List AL),([]:List A3),([]:List A3),()),c.1.1,x.2.1.1,(U<|x.2.1.1=9),())) else I (.inr (x.1,x.2.1,(0,([]:List A7),([]:List Bool),([]:List AL),([]:List A3),([]:List A3),()),c.1.1,x.2.1.1,(U<|x.2.1.1=10),())))))
def XB:Ent:=(38,G,⟨[Z30,Z13],[Z3,.bool],I8⟩)
def eR:y7 XB:=sk (v:=t1<|t1<|t1<|.join [(2,Z29),(4,Z2),(6,Z2),(7,.bool)] (t1<|.one<|.join [(2,Z29),(3,Z25),(4,Z2),(6,Z2),(11,j6),(14,.bool)] .nil .nil) .nil) (fn:=f38) aoJ kN
def agk:Cx:=cX [yj,XB] [] []
def aAL:y8 agk:=y9<|gC acp<|gC eR<|AI
def fV(x:Y2×Y2×List Event×aJM):Rnd (Y2×Y2×List Event×aJM) D (Y2×Y2×D):=if U (x.2.2.2.2.1<x.2.2.2.1) then if inb x.2.2.2.2.1 x.2.2.1.length then let a:=(rd aJ1 x.2.2.1 x.2.2.2.2.1).ki;let b:=(rd aJ1 x.2.2.1 x.2.2.2.2.1).at_;let c:=(rd aJ1 x.2.2.1 x.2.2.2.2.1).fr;let d:=(rd aJ1 x.2.2.1 x.2.2.2.2.1).nu;let e:=(rd aJ1 x.2.2.1 x.2.2.2.2.1).wo;let f:=(rd aJ1 x.2.2.1 x.2.2.2.2.1).mix;let g:=(rd aJ1 x.2.2.1 x.2.2.2.2.1).kp;let h:=(rd aJ1 x.2.2.1 x.2.2.2.2.1).to;let i:=(rd aJ1 x.2.2.1 x.2.2.2.2.1).un;let j:=(rd aJ1 x.2.2.1 x.2.2.2.2.1).tx;(I8 (x.2.1,(a,b,c,d,e,f,g,h,i,j,()),())).bind λk=>I (.inl (x.1,k.1.1,x.2.2.1,x.2.2.2.1,(w64<|x.2.2.2.2.1+1),())) else G else I (.inr<|.inr (x.1,x.2.1,()))
def dy:=AS fV
def xa:Loop:=⟨[(2,Z2),(3,Z2),(11,.sl .CM),(12,j6),(13,j6)],[(2,Z2),(3,Z2)],0,[],dy⟩
def agT:LF f15 [] [1,1,1,0,1,0,0] xa:=sq (v:= .nil) aAL (b:=fV) kN
def M0(x:List Event×D):Option ((Y2×D)×D):=(fP ()).bind λa=>if U (2000<(j8 x.1:Int)) then I (a.1,()) else(AM (dy ((0,([]:List A7),([]:List Bool),([]:List AL),([]:List A3),([]:List A3),()),a.1.1,x.1,(j8 x.1:Int),0,())) (λ_=>G) λb=>I (b.2,()))
def QK:Ent:=(15,G,⟨[.fz .CM],[Z3],M0⟩)
def SZ:y7 QK:=sk (v:=t1<|t1<|t1<|.two (t1<|.one<|.loop xa) .nil) (fn:=f15) aAL<|kC agT kN
def aqA:Cx:=cX [TN] [] []
def aDy:y8 aqA:=y9<|gC WR<|AI
def jl(x:List A3×List A3×aJM):Rnd (List A3×List A3×aJM) (Bool×D) (List A3×D):=if U (x.2.2.2.1<x.2.2.1) then if inb x.2.2.2.1 x.2.1.length then let a:=(rd y5 x.2.1 x.2.2.2.1).fr;let b:=(rd y5 x.2.1 x.2.2.2.1).nu;let c:=(rd y5 x.2.1 x.2.2.2.1).to;let d:=(rd y5 x.2.1 x.2.2.2.1).un;let e:=(rd y5 x.2.1 x.2.2.2.1).tx;(Og ((a,b,c,d,e,()),())).bind λf=>if !f.1.1 then I (.inr<|.inl (A0,())) else I (.inl (x.1,x.2.1,x.2.2.1,(w64<|x.2.2.2.1+1),())) else G else I (.inr<|.inr (x.1,()))
def wR:=AS jl
def aBX:Loop:=⟨[(0,.sl .note),(5,.sl .note),(6,j6),(7,j6)],[(0,.sl .note)],0,[(2,.bool)],wR⟩
def apC:LF f61 [] [1,0,1,0,0] aBX:=sq (v:= .nil) aDy (b:=jl) kN
def Xs(x:List A3×D):Option ((Bool×D)×D):=(AM (wR (x.1,x.1,(j8 x.1:Int),0,())) (λa=>I (a,())) (λa=>let b:=(U<|(j8 a.1:Int)<=6);I ((b,()),())))
def aDs:Ent:=(61,G,⟨[.fz .note],[.bool],Xs⟩)
def ahd:y7 aDs:=sk (v:=t1<|.two (t1<|.one<|.loop aBX) .nil) (fn:=f61) aDy<|kC apC kN
def akO:Cx:=cX [K3,FX,aDs,JG] [] [(54,56)]
def l6:y8 akO:=y9<|gC L7<|gC Ft<|gC ahd<|gC Jz<|AI
def hY(x:List AL×aJM):Rnd (List AL×aJM) (Bool×D) D:=if U (x.2.2.1<x.2.1) then if inb x.2.2.1 x.1.length then let a:=(rd aJS x.1 x.2.2.1).src;let b:=(rd aJS x.1 x.2.2.1).dst;let c:=(rd aJS x.1 x.2.2.1).data;let f:=(rd aJS x.1 x.2.2.1).sp;(Fs (a,())).bind λd=>if !d.1.1 then I (.inr<|.inl (A0,())) else(Fs (b,())).bind λe=>if !e.1.1 then I (.inr<|.inl (A0,())) else if !decide ((w64<|a - b)=1) then if !decide ((w64<|b - a)=1) then I (.inr<|.inl (A0,())) else if U (40<(c.size:Int)) then I (.inr<|.inl (A0,())) else I (.inl (x.1,x.2.1,(w64<|x.2.2.1+1),())) else if U (40<(c.size:Int)) then I (.inr<|.inl (A0,())) else I (.inl (x.1,x.2.1,(w64<|x.2.2.1+1),())) else G else I (.inr<|.inr ())
def vB:=AS hY
def aAG:Loop:=⟨[(60,.sl .Ah),(61,j6),(62,j6)],[],2,[(2,.bool)],vB⟩
def ajE:LF f31 [] [1,1,1,0,1,0,0] aAG:=sq (v:= .nil) l6 (b:=hY) kN
def iA(x:Y2×List A7×aJM):Rnd (Y2×List A7×aJM) (Bool×D) (Y2×D):=if U (x.2.2.2.1<x.2.2.1) then if inb x.2.2.2.1 x.2.1.length then let a:=(rd aJN x.2.1 x.2.2.2.1).id;let b:=(rd aJN x.2.1 x.2.2.2.1).up;let c:=(rd aJN x.2.1 x.2.2.2.1).log;let d:=(rd aJN x.2.1 x.2.2.2.1).fo;let e:=(rd aJN x.2.1 x.2.2.2.1).AJ;if Ae (!(!decide (a=x.2.2.2.1))) ((I7 ((a,b,c,d,e,()),())).isSome) then if(!decide (a=x.2.2.2.1))||(!(((I7 ((a,b,c,d,e,()),())).getD ((A0,()),())).1.1)) then I (.inr<|.inl (A0,())) else I (.inl (x.1,x.2.1,x.2.2.1,(w64<|x.2.2.2.1+1),())) else G else G else I (.inr<|.inr (x.1,()))
def vC:=AS iA
def aAH:Loop:=⟨[(1,Z29),(42,.sl .AK),(43,j6),(44,j6)],[(1,Z29)],0,[(2,.bool)],vC⟩
def ajs:LF f31 [] [1,1,0,1,0,0] aAH:=sq (v:= .nil) l6 (b:=iA) kN
def NH(x:Y2×D):Option ((Bool×D)×D):=(CB (x.1.1,0,99999,())).bind λc=>if !c.1.1 then I ((A0,()),()) else if !decide ((j8 x.1.2.1:Int)=4) then I ((A0,()),()) else if !decide ((j8 x.1.2.2.1:Int)=3) then I ((A0,()),()) else if U (30<(j8 x.1.2.2.2.1:Int)) then I ((A0,()),()) else(Xs (x.1.2.2.2.2.1,())).bind λd=>if !d.1.1 then I ((A0,()),()) else(Xs x.1.2.2.2.2.2).bind λe=>if !e.1.1 then I ((A0,()),()) else(AM (vC (x.1,x.1.2.1,(j8 x.1.2.1:Int),0,())) (λa=>I (a,())) λa=>(AM (vB (a.1.2.2.2.1,(j8 a.1.2.2.2.1:Int),0,())) (λb=>I (b,())) λb=>I ((Y,()),())))
def XC:Ent:=(31,G,⟨[Z30],[.bool],NH⟩)
def eZ:y7 XC:=sk (v:=t1<|t1<|.two (t1<|.one<|.loop aAH)<|.two (t1<|.one<|.loop aAG) .nil) (fn:=f31) l6<|kC ajs<|kC ajE kN
def age:Cx:=cX [XB] [] [(9,12)]
def zc:y8 age:=y9<|gC eR<|AI
def Sj(x:Y2×Y2×v7):Rnd (Y2×Y2×v7) D (Y2×Y2×D):=if(U<|x.2.2.1<400)&&(U<|0<(j8 x.1.2.2.2.1:Int)) then(I8 (x.1,(4,0,0,0,0,0,0,0,0,noB,()),())).bind λa=>if !a.1.2.1 then I (.inr<|.inr (x.1,x.2.1,())) else I (.inl (a.1.1,x.2.1,(w64<|x.2.2.1+1),())) else I (.inr<|.inr (x.1,x.2.1,()))
def Vn:=AS Sj
def xp:Loop:=⟨[(1,Z35),(2,Z2),(3,j6)],[(1,Z29),(2,Z2)],0,[],Vn⟩
def agP:LF f75 [] [1,0,1,0,0] xp:=sq (v:= .nil) zc (b:=Sj) kN
def Sp(x:Y2×D):Option ((Y2×D)×D):=(AM (Vn (x.1,(0,([]:List A7),([]:List Bool),([]:List AL),([]:List A3),([]:List A3),()),0,())) (λ_=>G) λa=>I ((a.1,()),()))
def zw:Ent:=(75,G,⟨[Z30],[Z30],Sp⟩)
def adB:y7 zw:=sk (v:=t1<|.two (t1<|.one<|.loop xp) .nil) (fn:=f75) zc<|kC agP kN
def aq4:Cx:=cX [IA,XB,zw,lq] [] []
def Xx:y8 aq4:=y9<|gC Ic<|gC eR<|gC adB<|gC yA<|AI
def je(x:Y2×Y2×Int×Y4×List A3×Int×aJQ):Rnd (Y2×Y2×Int×Y4×List A3×Int×aJQ) D (Y2×Y2×Int×List A3×aJM):=if U (x.2.2.2.2.2.2.2.2.1<x.2.2.2.2.2.2.2.1) then(I8 (x.1,(3,x.2.2.1,x.2.2.2.1.1,x.2.2.2.1.2.1,0,x.2.2.2.2.2.2.2.2.1,0,0,0,noB,()),())).bind λamP=>(Sp (amP.1.1,())).bind λamO=>I (.inl (amO.1.1,x.2.1,x.2.2.1,x.2.2.2.1,x.2.2.2.2.1,x.2.2.2.2.2.1,x.2.2.2.2.2.2.1,x.2.2.2.2.2.2.2.1,(w64<|x.2.2.2.2.2.2.2.2.1+1),())) else I (.inr<|.inr (x.1,x.2.1,x.2.2.1,x.2.2.2.2.1,x.2.2.2.2.2.1,x.2.2.2.2.2.2.1,()))
def gY:=AS je
def aBf:Loop:=⟨[(1,Z29),(2,Z2),(4,j6),(6,Z5),(38,.row 36 .note),(39,j6),(40,j6),(47,j6),(48,j6)],[(1,Z29),(2,Z2),(4,j6),(38,.row 36 .note),(39,j6),(40,j6)],6,[],gY⟩
def aox:LF f40 [] [1,1,1,0,1,0,0,1,0,0,1,0,0,1,1,0,0,1,1,0,0] aBf:=sq (v:= .nil) Xx (b:=je) kN
def XY(x:Y2×Y2×Int×List A3×aJM):Rnd (Y2×Y2×Int×List A3×aJM) D (Y2×Y2×v7):=if U (x.2.2.2.2.2.1<x.2.2.2.2.1) then if inb x.2.2.2.2.2.1 x.2.2.2.1.length then let alh:=(rd y5 x.2.2.2.1 x.2.2.2.2.2.1).fr;let alg:=(rd y5 x.2.2.2.1 x.2.2.2.2.2.1).nu;let alf:=(rd y5 x.2.2.2.1 x.2.2.2.2.2.1).to;let b:=(rd y5 x.2.2.2.1 x.2.2.2.2.2.1).un;let a:=(rd y5 x.2.2.2.1 x.2.2.2.2.2.1).tx;(Xg (a,())).bind λamQ=>(AM (gY (x.1,x.2.1,x.2.2.1,(alh,alg,alf,b,a,()),x.2.2.2.1,x.2.2.2.2.1,x.2.2.2.2.2.1,(j8 amQ.1.1:Int),0,())) (λ_=>I<|.inr<|.inl ()) λRV=>I<|.inl (RV.1,RV.2.1,RV.2.2.1,RV.2.2.2.1,RV.2.2.2.2.1,(w64<|RV.2.2.2.2.2.1+1),())) else G else I (.inr<|.inr (x.1,x.2.1,x.2.2.1,()))
def ff:=AS XY
def aBg:Loop:=⟨[(1,Z29),(2,Z2),(4,j6),(38,.row 36 .note),(39,j6),(40,j6)],[(1,Z29),(2,Z2),(4,j6)],4,[],ff⟩
def aoz:LF f40 [] [1,1,1,0,1,0,0,1,0,0,1,0,0] aBg:=sq (v:=t1<|t1<|.two (.one<|t1<|t1<|.one<|.loop aBf) .nil) Xx (b:=XY)<|kC aox kN
def XZ(x:Y2×Y2×v7):Rnd (Y2×Y2×v7) D (Y2×Y2×D):=if U (x.2.2.1<4) then if inb x.2.2.1 x.1.2.1.length then(FD (((rd aJN x.1.2.1 x.2.2.1).id,(rd aJN x.1.2.1 x.2.2.1).up,(rd aJN x.1.2.1 x.2.2.1).log,(rd aJN x.1.2.1 x.2.2.1).fo,(rd aJN x.1.2.1 x.2.2.1).AJ,()),())).bind λae=>(AM (ff (x.1,x.2.1,x.2.2.1,ae.1.1.2.2.2.1,(j8 ae.1.1.2.2.2.1:Int),0,())) (λ_=>I<|.inr<|.inl ()) λoX=>I<|.inl (oX.1,oX.2.1,(w64<|oX.2.2.1+1),())) else G else I (.inr<|.inr (x.1,x.2.1,()))
def fg:=AS XZ
def aBh:Loop:=⟨[(1,Z29),(2,Z2),(4,j6)],[(1,Z29),(2,Z2)],2,[],fg⟩
def ap2:LF f40 [] [1,1,1,0,1,0,0] aBh:=sq (v:=t1<|.two (.one<|t1<|.one<|.loop aBg) .nil) Xx (b:=XZ)<|kC aoz kN
def Xa(x:Y2×Y2×v7):Rnd (Y2×Y2×v7) D (Y2×Y2×D):=if U (x.2.2.1<4) then(I8 (x.1,(8,x.2.2.1,0,0,0,0,0,0,0,noB,()),())).bind λa=>(I8 (a.1.1,(9,x.2.2.1,0,0,0,0,0,0,0,noB,()),())).bind λb=>I (.inl (b.1.1,x.2.1,(w64<|x.2.2.1+1),())) else I (.inr<|.inr (x.1,x.2.1,()))
def fh:=AS Xa
def aBi:Loop:=⟨[(1,Z35),(2,Z2),(3,j6)],[(1,Z29),(2,Z2)],0,[],fh⟩
def apA:LF f40 [] [1,0,1,0,0] aBi:=sq (v:= .nil) Xx (b:=Xa) kN
def Xv(x:Y2×D):Option ((Y2×D)×D):=(AM (fh (x.1,(0,([]:List A7),([]:List Bool),([]:List AL),([]:List A3),([]:List A3),()),0,())) (λ_=>G) λa=>(Sp (a.1,())).bind λb=>(AM (fg (b.1.1,a.2.1,0,())) (λ_=>G) λalO=>I ((alO.1,()),())))
def aDn:Ent:=(40,G,⟨[Z30],[Z30],Xv⟩)
def ai5:y7 aDn:=sk (v:=t1<|.two (t1<|.one<|.loop aBi)<|t1<|.two (t1<|.one<|.loop aBh) .nil) (fn:=f40) Xx<|kC apA<|kC ap2 kN
def agl:Cx:=cX [XC,gE,aDn] [] [(18,20)]
def aAM:y8 agl:=y9<|gC eZ<|gC tV<|gC ai5<|AI
def WQ(x:Int×Y2×Y2×v7):Rnd (Int×Y2×Y2×v7) D (Y2×Y2×D):=if(U<|x.2.2.2.1<(if 20<x.1 then 20 else x.1))&&(U<|x.2.2.1.1<79999) then(Xv (x.2.2.1,())).bind λa=>I (.inl (x.1,x.2.1,a.1.1,(w64<|x.2.2.2.1+1),())) else I (.inr<|.inr (x.2.1,x.2.2.1,()))
def Vo:=AS WQ
def xb:Loop:=⟨[(1,j6),(4,Z2),(5,Z35),(6,j6)],[(4,Z2),(5,Z29)],0,[],Vo⟩
def agU:LF f16 [] [1,1,1,0,1,0,0] xb:=sq (v:= .nil) aAM (b:=WQ) kN
def L8(x:Y2×v7):Option ((Y2×D)×D):=(NH (x.1,())).bind λa=>if !a.1.1 then I (((0,([]:List A7),([]:List Bool),([]:List AL),([]:List A3),([]:List A3),()),()),()) else(K6 (x.1,())).bind λb=>(AM (Vo (x.2.1,(0,([]:List A7),([]:List Bool),([]:List AL),([]:List A3),([]:List A3),()),b.1.1,0,())) (λ_=>G) λc=>I (c.2,()))
def QL:Ent:=(16,G,⟨[Z30,j6],[Z30],L8⟩)
def Sa:y7 QL:=sk (v:=t1<|t1<|t1<|.two (t1<|.one<|.loop xb) .nil) (fn:=f16) aAM<|kC agU kN
def ajc:Cx:=cX [] [] []
def aBx:y8 ajc:=y9<|AI
def X8(x:List A3×List A3×v7):Rnd (List A3×List A3×v7) (Bool×D) D:=if U (x.2.2.1<(j8 x.1:Int)) then if inb x.2.2.1 x.1.length then if inb x.2.2.1 x.2.1.length then if !(Mz ((rd y5 x.1 x.2.2.1).fr) ((rd y5 x.1 x.2.2.1).nu) ((rd y5 x.1 x.2.2.1).to) ((rd y5 x.1 x.2.2.1).un) ((rd y5 x.1 x.2.2.1).tx) ((rd y5 x.2.1 x.2.2.1).fr) ((rd y5 x.2.1 x.2.2.1).nu) ((rd y5 x.2.1 x.2.2.1).to) ((rd y5 x.2.1 x.2.2.1).un)<|(rd y5 x.2.1 x.2.2.1).tx) then I (.inr<|.inl (A0,())) else I (.inl (x.1,x.2.1,(w64<|x.2.2.1+1),())) else G else G else I (.inr<|.inr ())
def uX:=AS X8
def aA1:Loop:=⟨[(0,.sl .note),(1,.sl .note),(5,j6)],[],0,[(4,.bool)],uX⟩
def ajl:LF f27 [] [1,1,0,1,0,0] aA1:=sq (v:= .nil) aBx (b:=X8) kN
def GN(x:List A3×List A3×D):Option ((Bool×D)×D):=if !decide ((j8 x.1:Int)=(j8 x.2.1:Int)) then I ((A0,()),()) else(AM (uX (x.1,x.2.1,0,())) (λa=>I (a,())) λa=>I ((Y,()),()))
def jO:Ent:=(27,G,⟨[.fz .note,.fz .note],[.bool],GN⟩)
def uW:y7 jO:=sk (v:=t1<|t1<|.two (t1<|.one<|.loop aA1) .nil) (fn:=f27) aBx<|kC ajl kN
def aiW:Cx:=cX [] [] []
def k8:y8 aiW:=y9<|AI
def WX(x:List AG×List AG×aJM):Rnd (List AG×List AG×aJM) (Bool×D) (List AG×List AG×v7):=if inb x.2.2.1 x.1.length then if U (x.2.2.2.1<(((rd aJP x.1 x.2.2.1).got).length:Int)) then if inb x.2.2.1 x.1.length then if inb x.2.2.2.1 (((rd aJP x.1 x.2.2.1).got).length) then if inb x.2.2.1 x.2.1.length then if inb x.2.2.2.1 (((rd aJP x.2.1 x.2.2.1).got).length) then if !(U ((rd aJ0 ((rd aJP x.1 x.2.2.1).got) x.2.2.2.1).nu=(rd aJ0 ((rd aJP x.2.1 x.2.2.1).got) x.2.2.2.1).nu)&&(U ((rd aJ0 ((rd aJP x.1 x.2.2.1).got) x.2.2.2.1).da=(rd aJ0 ((rd aJP x.2.1 x.2.2.1).got) x.2.2.2.1).da)&&Y)) then I (.inr<|.inl (A0,())) else I (.inl (x.1,x.2.1,x.2.2.1,(w64<|x.2.2.2.1+1),())) else G else G else G else G else I (.inr<|.inr (x.1,x.2.1,x.2.2.1,())) else G
def uI:=AS WX
def yT:Loop:=⟨[(0,.sl .half),(1,.sl .half),(5,j6),(6,j6)],[(0,.sl .half),(1,.sl .half),(5,j6)],2,[(4,.bool)],uI⟩
def ahs:LF f77 [] [1,1,0,1,0,0,1,0,0,1,1,0,0] yT:=sq (v:= .nil) k8 (b:=WX) kN
def WZ(x:List AG×List AG×v7):Rnd (List AG×List AG×v7) (Bool×D) D:=if U (x.2.2.1<(j8 x.1:Int)) then if inb x.2.2.1 x.1.length then if inb x.2.2.1 x.2.1.length then if !decide ((rd aJP x.1 x.2.2.1).fr=(rd aJP x.2.1 x.2.2.1).fr) then I (.inr<|.inl (A0,())) else if inb x.2.2.1 x.1.length then if inb x.2.2.1 x.2.1.length then if !decide ((rd aJP x.1 x.2.2.1).nu=(rd aJP x.2.1 x.2.2.1).nu) then I (.inr<|.inl (A0,())) else if inb x.2.2.1 x.1.length then if inb x.2.2.1 x.2.1.length then if !decide ((rd aJP x.1 x.2.2.1).to=(rd aJP x.2.1 x.2.2.1).to) then I (.inr<|.inl (A0,())) else if inb x.2.2.1 x.1.length then if inb x.2.2.1 x.2.1.length then if !decide ((rd aJP x.1 x.2.2.1).un=(rd aJP x.2.1 x.2.2.1).un) then I (.inr<|.inl (A0,())) else if inb x.2.2.1 x.1.length then if inb x.2.2.1 x.2.1.length then if !decide ((rd aJP x.1 x.2.2.1).sz=(rd aJP x.2.1 x.2.2.1).sz) then I (.inr<|.inl (A0,())) else if inb x.2.2.1 x.1.length then if inb x.2.2.1 x.2.1.length then if !decide ((((rd aJP x.1 x.2.2.1).got).length:Int)=(((rd aJP x.2.1 x.2.2.1).got).length:Int)) then I (.inr<|.inl (A0,())) else(AM (uI (x.1,x.2.1,x.2.2.1,0,())) (λa=>I<|.inr<|.inl a) λa=>I<|.inl (a.1,a.2.1,(w64<|a.2.2.1+1),())) else G else G else G else G else G else G else G else G else G else G else G else G else I (.inr<|.inr ())
def uJ:=AS WZ
def yU:Loop:=⟨[(0,.sl .half),(1,.sl .half),(5,j6)],[],0,[(4,.bool)],uJ⟩
def ahz:LF f77 [] [1,1,0,1,0,0] yU:=sq (v:=t1<|.two (.one<|t1<|t1<|.one<|.loop yT) .nil) k8 (b:=WZ)<|kC ahs kN
def QT(x:List AG×List AG×D):Option ((Bool×D)×D):=if !decide ((j8 x.1:Int)=(j8 x.2.1:Int)) then I ((A0,()),()) else(AM (uJ (x.1,x.2.1,0,())) (λa=>I (a,())) λa=>I ((Y,()),()))
def aBK:Ent:=(77,G,⟨[.fz .half,.fz .half],[.bool],QT⟩)
def ae5:y7 aBK:=sk (v:=t1<|t1<|.two (t1<|.one<|.loop yU) .nil) (fn:=f77) k8<|kC ahz kN
def aiV:Cx:=cX [aBK] [] [(25,29)]
def ak7:y8 aiV:=y9<|gC ae5<|AI
def gn(x:Y1×Y1×D):Option ((Bool×D)×D):=if U (x.1.1=x.2.1.1) then if U (x.1.2.1=x.2.1.2.1) then if Ae (U (x.1.2.2.1=x.2.1.2.2.1)&&(U (x.1.2.2.2.1=x.2.1.2.2.2.1)&&Y)) ((QT (x.1.2.2.2.2.1,x.2.1.2.2.2.2)).isSome) then let a:=((U (x.1.2.2.1=x.2.1.2.2.1)&&(U (x.1.2.2.2.1=x.2.1.2.2.2.1)&&Y))&&(((QT (x.1.2.2.2.2.1,x.2.1.2.2.2.2)).getD ((A0,()),())).1.1));I ((a,()),()) else G else if Ae A0 ((QT (x.1.2.2.2.2.1,x.2.1.2.2.2.2)).isSome) then I ((A0,()),()) else G else if Ae A0 ((QT (x.1.2.2.2.2.1,x.2.1.2.2.2.2)).isSome) then I ((A0,()),()) else G
def aBJ:Ent:=(41,G,⟨[Z12,Z12],[.bool],gn⟩)
def ae4:y7 aBJ:=sk (v:= .nil) (fn:=f41) ak7 kN
def ajb:Cx:=cX [jO,aBJ] [] []
def jI:y8 ajb:=y9<|gC uW<|gC ae4<|AI
def X5(x:Y2×Y2×v7):Rnd (Y2×Y2×v7) (Bool×D) D:=if U (x.2.2.1<(j8 x.1.2.2.2.1:Int)) then if inb x.2.2.1 x.1.2.2.2.1.length then if inb x.2.2.1 x.2.1.2.2.2.1.length then if !(U ((rd aJS x.1.2.2.2.1 x.2.2.1).src=(rd aJS x.2.1.2.2.2.1 x.2.2.1).src)&&(U ((rd aJS x.1.2.2.2.1 x.2.2.1).dst=(rd aJS x.2.1.2.2.2.1 x.2.2.1).dst)&&(U ((rd aJS x.1.2.2.2.1 x.2.2.1).data=(rd aJS x.2.1.2.2.2.1 x.2.2.1).data)&&(U ((rd aJS x.1.2.2.2.1 x.2.2.1).sp=(rd aJS x.2.1.2.2.2.1 x.2.2.1).sp)&&Y)))) then I (.inr<|.inl (A0,())) else I (.inl (x.1,x.2.1,(w64<|x.2.2.1+1),())) else G else G else I (.inr<|.inr ())
def uT:=AS X5
def yu:Loop:=⟨[(2,Z29),(3,Z29),(7,j6)],[],4,[(4,.bool)],uT⟩
def aj6:LF f17 [] [1,1,1,1,0,1,0,0] yu:=sq (v:= .nil) jI (b:=X5) kN
def X6(x:Y2×Y2×v7):Rnd (Y2×Y2×v7) (Bool×D) (Y2×Y2×D):=if U (x.2.2.1<(j8 x.1.2.2.1:Int)) then if inb x.2.2.1 x.1.2.2.1.length then if inb x.2.2.1 x.2.1.2.2.1.length then if !decide ((rd aJ3 x.1.2.2.1 x.2.2.1)=(rd aJ3 x.2.1.2.2.1 x.2.2.1)) then I (.inr<|.inl (A0,())) else I (.inl (x.1,x.2.1,(w64<|x.2.2.1+1),())) else G else G else I (.inr<|.inr (x.1,x.2.1,()))
def uU:=AS X6
def yv:Loop:=⟨[(2,Z29),(3,Z29),(6,j6)],[(2,Z29),(3,Z29)],2,[(4,.bool)],uU⟩
def ajC:LF f17 [] [1,1,1,0,1,0,0] yv:=sq (v:= .nil) jI (b:=X6) kN
def X7(x:Y2×Y2×v7):Rnd (Y2×Y2×v7) (Bool×D) (Y2×Y2×D):=if U (x.2.2.1<(j8 x.1.2.1:Int)) then if inb x.2.2.1 x.1.2.1.length then if inb x.2.2.1 x.2.1.2.1.length then(gn (((rd aJN x.1.2.1 x.2.2.1).id,(rd aJN x.1.2.1 x.2.2.1).up,(rd aJN x.1.2.1 x.2.2.1).log,(rd aJN x.1.2.1 x.2.2.1).fo,(rd aJN x.1.2.1 x.2.2.1).AJ,()),((rd aJN x.2.1.2.1 x.2.2.1).id,(rd aJN x.2.1.2.1 x.2.2.1).up,(rd aJN x.2.1.2.1 x.2.2.1).log,(rd aJN x.2.1.2.1 x.2.2.1).fo,(rd aJN x.2.1.2.1 x.2.2.1).AJ,()),())).bind λa=>if !a.1.1 then I (.inr<|.inl (A0,())) else I (.inl (x.1,x.2.1,(w64<|x.2.2.1+1),())) else G else G else I (.inr<|.inr (x.1,x.2.1,()))
def uV:=AS X7
def yw:Loop:=⟨[(2,Z29),(3,Z29),(5,j6)],[(2,Z29),(3,Z29)],0,[(4,.bool)],uV⟩
def ajk:LF f17 [] [1,1,0,1,0,0] yw:=sq (v:= .nil) jI (b:=X7) kN
def M5(x:Y2×Y2×D):Option ((Bool×D)×D):=if !decide (x.1.1=x.2.1.1) then I ((A0,()),()) else if !decide ((j8 x.1.2.1:Int)=(j8 x.2.1.2.1:Int)) then I ((A0,()),()) else if !decide ((j8 x.1.2.2.1:Int)=(j8 x.2.1.2.2.1:Int)) then I ((A0,()),()) else if !decide ((j8 x.1.2.2.2.1:Int)=(j8 x.2.1.2.2.2.1:Int)) then I ((A0,()),()) else(GN (x.1.2.2.2.2.1,x.2.1.2.2.2.2.1,())).bind λd=>if !d.1.1 then I ((A0,()),()) else(GN (x.1.2.2.2.2.2.1,x.2.1.2.2.2.2.2)).bind λe=>if !e.1.1 then I ((A0,()),()) else(AM (uV (x.1,x.2.1,0,())) (λa=>I (a,())) λa=>(AM (uU (a.1,a.2.1,0,())) (λb=>I (b,())) λb=>(AM (uT (b.1,b.2.1,0,())) (λc=>I (c,())) λc=>I ((Y,()),()))))
def Qa:Ent:=(17,G,⟨[Z30,Z30],[.bool],M5⟩)
def Sb:y7 Qa:=sk (v:=t1<|t1<|.two (t1<|.one<|.loop yw)<|.two (t1<|.one<|.loop yv)<|.two (t1<|.one<|.loop yu) .nil) (fn:=f17) jI<|kC ajk<|kC ajC<|kC aj6 kN
end Go.VS
end
