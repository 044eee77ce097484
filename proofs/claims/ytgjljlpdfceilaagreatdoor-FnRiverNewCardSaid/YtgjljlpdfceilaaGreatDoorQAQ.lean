/- Part 7. -/
import Derived.Test.YtgjljlpdfceilaaGreatDoorQAP
open Bool renaming false->A0,true->Y
open Decidable renaming decide->U
open Int renaming tdiv->Ay,tmod->BJ,toNat->AK
open List renaming drop->Bo,length->j8,replicate->BS,set->Bp,take->BR
open Option renaming none->G,some->I
set_option linter.all false
noncomputable section
namespace Go.VS
open Go Go.Proofs Tryz
set_option linter.unusedVariables false
set_option maxRecDepth 100000
def UD:o6 LJ:=soX (fn:=f85) (l:=5) (g:=9) ajJ aEr rfl aEr axd axc
def akO:Cx:=cX [LL] [] []
def amp:o9 akO:=v7<|gC MI<|AI
def dh(x:Y0×List A1×D):Option ((A1×D)×Y0×D):=(Cc (x.1,(j8 x.2.1:Int),())).bind λa=>if inb a.1.1 x.2.1.length then let b:=(rd aEv x.2.1 a.1.1);I ((b,()),a.2) else G
def yN:Ent:=(101,G,⟨[Z0,.fz .str],[.str],dh⟩)
def afl:o6 yN:=sk (v:= .nil) (fn:=f101) amp kN
def agB:Cx:=cX [LL,Iw,LJ,yN] [] []
def aiH:o9 agB:=v7<|gC MI<|gC JX<|gC UD<|gC afl<|AI
def UT(x:Y10×D):Option (D×Y10×D):=(Cc (x.1.1,4,())).bind λc=>(dh (c.2.1,([(B [97]),(B [104,101,108,108,111]),(B [97,32,108,111,110,103,101,114,32,109,101,115,115,97,103,101]),(B [97,98,99,100]),(B [49,50,51,52,53,54,55,56]),(B [106,117,115,116,32,116,119,101,110,116,121,45,102,111,117,114,32,98,121,116,101,115,32,33,33]),(B [109,105,120,101,100,32,98,108,111,99,107,115])]:List A1),())).bind λb=>(BT (X:=Y10×Int×A1×D) (λa=>if inb a.2.1 a.1.2.2.1.length then(G7 (((rd aEm a.1.2.2.1 a.2.1).id,(rd aEm a.1.2.2.1 a.2.1).up,(rd aEm a.1.2.2.1 a.2.1).log,(rd aEm a.1.2.2.1 a.2.1).fo,(rd aEm a.1.2.2.1 a.2.1).AH,()),())).bind λf=>(Cc (a.1.1,4,())).bind λd=>(Cc (d.2.1,12,())).bind λe=>(FT ((e.2.1,a.1.2),(1,a.2.1,0,0,0,0,0,d.1.1,(w64<|(w64<|f.1.1.2.1+1)+e.1.1),a.2.2),())).bind λg=>I ((),g.2) else G)<|(if U (24<(b.1.1.size:Int)) then if U (0<=24)&&U (24<=(b.1.1.size:Int)) then let h:=(b.1.1.extract (0)<|AK 24);I (.inr ((b.2.1,x.1.2),c.1.1,h,())) else G else I (.inr ((b.2.1,x.1.2),c.1.1,b.1))))
def qT:Ent:=(63,G,⟨[Z22],[],UT⟩)
def ad8:o6 qT:=sk (v:=t1<|t1<|.join [(0,Z24),(2,j6),(3,.str)] .nil .nil) (fn:=f63) aiH kN
def aeq:Cx:=cX [LL,LJ] [] [(12,18)]
def ade:o9 aeq:=v7<|gC MI<|gC UD<|AI
def ow(x:Y10×aEn):Rnd (Y10×aEn) D (Y10×D):=if(U<|x.2.2.2.1<x.2.1)&&(U<|0<(j8 x.1.2.2.2.2.1:Int)) then(BT (X:=Y10×Int×Int×Int×Y6×D) (λe=>(BT (X:=Y10×Int×Int×Int×Y6×D) (λc=>(BT (X:=Y10×Int×Int×Int×Y6×Bool×D) (λb=>if b.2.2.2.2.2.1 then(Cc (b.1.1,17,())).bind λg=>(Cc (g.2.1,255,())).bind λh=>(FT ((h.2.1,b.1.2),(b.2.2.2.2.1.1,b.2.2.2.2.1.2.1,b.2.2.2.2.1.2.2.1,b.2.2.2.2.1.2.2.2.1,b.2.2.2.2.1.2.2.2.2.1,g.1.1,(w64<|1+h.1.1),b.2.2.2.2.1.2.2.2.2.2.2.2),())).bind λo=>I (.inl (o.2.1,b.2.1,b.2.2.1,(w64<|b.2.2.2.1+1),())) else I (.inl (b.1,b.2.1,b.2.2.1,(w64<|b.2.2.2.1+1),())))<|(if U (c.2.2.2.2.1.1=6) then(Cc (c.1.1,2,())).bind λi=>I (.inr ((i.2.1,c.1.2),c.2.1,c.2.2.1,c.2.2.2.1,c.2.2.2.2.1,(U<|i.1.1=0),())) else I (.inr (c.1,c.2.1,c.2.2.1,c.2.2.2.1,c.2.2.2.2.1,A0,())))))<|(FT (e.1,e.2.2.2.2)).bind λf=>if !f.1.1 then(FT (f.2.1,(5,0,0,0,0,0,0,0,0,noB,()),())).bind λp=>I (.inr (p.2.1,e.2)) else I (.inr (f.2.1,e.2))))<|(BT (X:=Y10×Int×Int×Int×Y6×Bool×D) (λa=>if a.2.2.2.2.2.1 then(Cc (a.1.1,5,())).bind λd=>if U (d.1.1=0) then I (.inr ((d.2.1,a.1.2),a.2.1,a.2.2.1,a.2.2.2.1,(5,a.2.2.2.2.1.2),())) else if U (d.1.1=1) then I (.inr ((d.2.1,a.1.2),a.2.1,a.2.2.1,a.2.2.2.1,(a.2.2.2.2.1.1,a.2.2.2.2.1.2.1,a.2.2.2.2.1.2.2.1,a.2.2.2.2.1.2.2.2.1,a.2.2.2.2.1.2.2.2.2.1,a.2.2.2.2.1.2.2.2.2.2.1,1,a.2.2.2.2.1.2.2.2.2.2.2.2),())) else if U (d.1.1=2) then(Cc (d.2.1,(j8 a.1.2.2.2.2.1:Int),())).bind λj=>(Cc (j.2.1,17,())).bind λk=>(Cc (k.2.1,255,())).bind λl=>I (.inr ((l.2.1,a.1.2),a.2.1,a.2.2.1,a.2.2.2.1,(6,a.2.2.2.2.1.2.1,a.2.2.2.2.1.2.2.1,a.2.2.2.2.1.2.2.2.1,j.1.1,k.1.1,(w64<|1+l.1.1),a.2.2.2.2.1.2.2.2.2.2.2.2),())) else(Cc (d.2.1,(j8 a.1.2.2.2.2.1:Int),())).bind λm=>I (.inr ((m.2.1,a.1.2),a.2.1,a.2.2.1,a.2.2.2.1,(a.2.2.2.2.1.1,a.2.2.2.2.1.2.1,a.2.2.2.2.1.2.2.1,a.2.2.2.2.1.2.2.2.1,m.1.1,a.2.2.2.2.1.2.2.2.2.2),())) else I (.inr (a.1,a.2.1,a.2.2.1,a.2.2.2.1,a.2.2.2.2.1,())))<|(if U (0<x.2.2.1) then(Cc (x.1.1,x.2.2.1,())).bind λn=>I (.inr ((n.2.1,x.1.2),x.2.1,x.2.2.1,x.2.2.2.1,(4,0,0,0,0,0,0,0,0,noB,()),(U<|n.1.1=0),())) else I (.inr (x.1,x.2.1,x.2.2.1,x.2.2.2.1,(4,0,0,0,0,0,0,0,0,noB,()),A0,()))))) else I (.inr<|.inr (x.1,()))
def acw:=AZ ow
def adA:Loop:=⟨[(0,Z24),(1,j6),(2,j6),(6,j6)],[(0,Z24)],0,[],acw⟩
def aef:LF f84 [0] [1,0,0] adA:=sq (v:=t1<|.two (.one<|t1<|.join [(0,Z24),(1,j6),(2,j6),(6,j6),(7,Z25)] (.join [(0,Z24),(1,j6),(2,j6),(6,j6),(7,Z25),(33,.bool)] .nil .nil)<|.join [(0,Z24),(1,j6),(2,j6),(6,j6),(7,Z25)] .nil<|.join [(0,Z24),(1,j6),(2,j6),(6,j6),(7,Z25),(102,.bool)] .nil .nil) .nil) ade (b:=ow) kN
def NV(x:Y10×y8):Option (D×Y10×D):=(AP (acw (x.1,x.2.1,x.2.2.1,0,())) (λ_=>G) λa=>I ((),a))
def aj:Ent:=(84,G,⟨[Z22,j6,j6],[],NV⟩)
def oQ:o6 aj:=sk (v:=t1<|.one<|.loop adA) (fn:=f84) ade<|kC aef kN
def afT:Cx:=cX [LL,Iw] [] []
def sP:o9 afT:=v7<|gC MI<|gC JX<|AI
def p9(x:Y10×Y4×y8):Rnd (Y10×Y4×y8) (Y10×Int×Y4×Bool×D) (Y10×Y4×D):=if U (x.2.2.2.1<4) then if inb x.2.2.1 x.1.2.2.1.length then(G7 (((rd aEm x.1.2.2.1 x.2.2.1).id,(rd aEm x.1.2.2.1 x.2.2.1).up,(rd aEm x.1.2.2.1 x.2.2.1).log,(rd aEm x.1.2.2.1 x.2.2.1).fo,(rd aEm x.1.2.2.1 x.2.2.1).AH,()),())).bind λa=>if U (0<(j8 a.1.1.2.2.2.1:Int)) then(Cc (x.1.1,(j8 a.1.1.2.2.2.1:Int),())).bind λb=>if inb b.1.1 a.1.1.2.2.2.1.length then let c:=(rd y7 a.1.1.2.2.2.1 b.1.1).fr;let d:=(rd y7 a.1.1.2.2.2.1 b.1.1).nu;let e:=(rd y7 a.1.1.2.2.2.1 b.1.1).to;let f:=(rd y7 a.1.1.2.2.2.1 b.1.1).un;let g:=(rd y7 a.1.1.2.2.2.1 b.1.1).tx;I (.inr<|.inl ((b.2.1,x.1.2),x.2.2.1,(c,d,e,f,g,()),Y,())) else G else let h:=(BJ (w64<|x.2.2.1+1) 4);I (.inl (x.1,x.2.1,h,(w64<|x.2.2.2.1+1),())) else G else I (.inr<|.inr (x.1,x.2.1,()))
def acz:=AZ p9
def adM:Loop:=⟨[(0,Z24),(3,Z5),(5,j6),(6,j6)],[(0,Z24),(3,Z5)],0,[(0,Z24),(2,j6),(3,Z5),(4,.bool)],acz⟩
def af6:LF f122 [0] [1,1,0,1,0,0] adM:=sq (v:= .nil) sP (b:=p9) kN
def au(x:Y10×D):Option ((Int×Y4×Bool×D)×Y10×D):=(Cc (x.1.1,4,())).bind λb=>(AP (acz ((b.2.1,x.1.2),(0,0,0,0,noB,()),b.1.1,0,())) (λa=>I (a.2,(a.1,()))) λa=>I ((0,(0,0,0,0,noB,()),A0,()),(a.1,())))
def sf:Ent:=(122,G,⟨[Z22],[j6,Z6,.bool],au⟩)
def aeH:o6 sf:=sk (v:=t1<|t1<|.two (t1<|.one<|.loop adM) .nil) (fn:=f122) sP<|kC af6 kN
def aep:Cx:=cX [LL,aj,LJ,sf] [] []
def adb:o9 aep:=v7<|gC MI<|gC oQ<|gC UD<|gC aeH<|AI
def ov(x:Y10×Int×Int×Int×Y4×y8):Rnd (Y10×Int×Int×Int×Y4×y8) D (Y10×y8):=if U (x.2.2.2.2.2.2.1<x.2.1) then(FT (x.1,(3,x.2.2.2.1,x.2.2.2.2.1.1,x.2.2.2.2.1.2.1,0,(w64<|x.2.2.2.2.2.1+x.2.2.2.2.2.2.1),0,0,0,noB,()),())).bind λa=>let b:=(w64<|x.2.2.2.2.2.2.1+1);I (.inl (a.2.1,x.2.1,x.2.2.1,x.2.2.2.1,x.2.2.2.2.1,x.2.2.2.2.2.1,b,())) else I (.inr<|.inr (x.1,x.2.1,x.2.2.1,()))
def acv:=AZ ov
def ad9:Loop:=⟨[(0,Z24),(1,j6),(2,j6),(6,j6),(7,Z5),(9,j6),(10,j6)],[(0,Z24),(1,j6),(2,j6)],0,[],acv⟩
def aee:LF f83 [0] [1,1,1,0,1,0,0] ad9:=sq (v:= .nil) adb (b:=ov) kN
def PE(x:Y10×y8):Option (D×Y10×D):=(au (x.1,())).bind λa=>if !a.1.2.2.1 then I ((),a.2) else(Cc (a.2.1.1,2,())).bind λc=>(Cc (c.2.1,40,())).bind λd=>(AP (acv ((d.2.1,a.2.1.2),x.2.1,x.2.2.1,a.1.1,a.1.2.1,(w64<|c.1.1 * d.1.1),0,())) (λ_=>G) λb=>(Cc (b.1.1,(w64<|b.2.1+4),())).bind λe=>(NV ((e.2.1,b.1.2),e.1.1,b.2.2)).bind λf=>I ((),f.2))
def p7:Ent:=(83,G,⟨[Z22,j6,j6],[],PE⟩)
def acu:o6 p7:=sk (v:=t1<|t1<|t1<|.two (t1<|.one<|.loop ad9) .nil) (fn:=f83) adb<|kC aee kN
def afU:Cx:=cX [LL,p7,aj,LJ] [] [(89,96)]
def Uc:o9 afU:=v7<|gC MI<|gC acu<|gC oQ<|gC UD<|AI
def pC(x:Y10×y8):Rnd (Y10×y8) D (Y10×D):=if U (0<x.2.2.1) then(FT (x.1,(2,x.2.1,0,0,0,0,0,0,0,noB,()),())).bind λa=>I (.inl (a.2.1,x.2.1,(w64<|x.2.2.1 - 1),())) else I (.inr<|.inr (x.1,()))
def ad1:=AZ pC
def adO:Loop:=⟨[(0,Z24),(5,j6),(6,j6)],[(0,Z24)],5,[],ad1⟩
def af3:LF f86 [0] [1,1,1,1,0,1,0,1,1,1,0,1,0,0] adO:=sq (v:= .nil) Uc (b:=pC) kN
def pD(x:Y10×aEn):Rnd (Y10×aEn) D (Y10×o4):=if U (x.2.2.2.1<x.2.2.1) then(FT (x.1,(4,0,0,0,x.2.2.2.1,0,1,0,0,noB,()),())).bind λa=>I (.inl (a.2.1,x.2.1,x.2.2.1,(w64<|x.2.2.2.1+1),())) else I (.inr<|.inr (x.1,x.2.1,()))
def ad2:=AZ pD
def adP:Loop:=⟨[(0,Z24),(2,j6),(3,j6),(4,j6)],[(0,Z24),(2,j6)],2,[],ad2⟩
def af4:LF f86 [0] [1,1,0,1,0,0,1,0,0,1,1,0,0] adP:=sq (v:= .nil) Uc (b:=pD) kN
def pB(x:Y10×y8):Rnd (Y10×y8) D (Y10×D):=if(U<|x.2.2.1<12)&&(U<|x.2.1<(j8 x.1.2.2.2.2.1:Int)) then(FT (x.1,(4,0,0,0,x.2.1,0,0,0,0,noB,()),())).bind λa=>I (.inl (a.2.1,x.2.1,(w64<|x.2.2.1+1),())) else I (.inr<|.inr (x.1,()))
def ad0:=AZ pB
def adN:Loop:=⟨[(0,Z24),(7,j6),(8,j6)],[(0,Z24)],7,[],ad0⟩
def af2:LF f86 [0] [1,1,1,1,1,1,1,0,1,0,0] adN:=sq (v:= .nil) Uc (b:=pB) kN
def pE(x:Y10×o4):Rnd (Y10×o4) D (Y10×D):=(Cc (x.1.1,2,())).bind λa=>if U (x.2.1<(w64<|1+a.1.1)) then let c:=(j8 x.1.2.2.2.2.1:Int);(AP (ad2 ((a.2.1,x.1.2),x.2.1,c,0,())) (λ_=>I<|.inr<|.inl ()) λb=>I<|.inl (b.1,(w64<|b.2.1+1),())) else I (.inr<|.inr ((a.2.1,x.1.2),()))
def ad3:=AZ pE
def adQ:Loop:=⟨[(0,Z24),(2,j6)],[(0,Z24)],0,[],ad3⟩
def af7:LF f86 [0] [1,1,0,1,0,0] adQ:=sq (v:=t1<|.two (.one<|t1<|t1<|.one<|.loop adP) .nil) Uc (b:=pE)<|kC af4 kN
def av(x:Y10×D):Option (D×Y10×D):=(NV (x.1,40,0,())).bind λg=>(PE (g.2.1,6,0,())).bind λh=>(AP (ad3 (h.2.1,0,())) (λ_=>G) λb=>(Cc (b.1.1,4,())).bind λc=>(BT (X:=Y10×D) (λd=>let i:=(j8 d.1.2.2.2.2.1:Int);(PE (d.1,6,0,())).bind λj=>(AP (ad0 (j.2.1,i,0,())) (λ_=>G) λk=>(NV (k.1,40,0,())).bind λl=>I ((),l.2)))<|(Cc (c.2.1,3,())).bind λa=>if U (a.1.1=0) then(Cc (a.2.1,40,())).bind λe=>(FT ((e.2.1,b.1.2),(7,c.1.1,0,0,0,0,e.1.1,0,0,noB,()),())).bind λm=>(FT (m.2.1,(8,c.1.1,0,0,0,0,0,0,0,noB,()),())).bind λn=>I (.inr n.2) else if U (a.1.1=1) then(Cc (a.2.1,9,())).bind λf=>(AP (ad1 ((f.2.1,b.1.2),c.1.1,f.1)) (λ_=>G) λo=>I<|.inr o) else I (.inr ((a.2.1,b.1.2),()))))
def sg:Ent:=(86,G,⟨[Z22],[],av⟩)
def aeI:o6 sg:=sk (v:=t1<|t1<|.two (t1<|.one<|.loop adQ)<|t1<|.join [(0,Z24)] (t1<|.one<|t1<|t1<|t1<|.two (t1<|.one<|.loop adO) .nil)<|t1<|t1<|.two (t1<|.one<|.loop adN) .nil) (fn:=f86) Uc<|kC af7<|kC af3<|kC af2 kN
def afS:Cx:=cX [LL,Iw,qT,p7,aj,LJ,sg] [] []
def sO:o9 afS:=v7<|gC MI<|gC JX<|gC ad8<|gC acu<|gC oQ<|gC UD<|gC aeI<|AI
def p8(x:Y10×o4):Rnd (Y10×o4) D (Y10×D):=if U (x.2.1<4) then(PE (x.1,7,0,())).bind λa=>(NV (a.2.1,20,0,())).bind λb=>I (.inl (b.2.1,(w64<|x.2.1+1),())) else I (.inr<|.inr (x.1,()))
def acy:=AZ p8
def adL:Loop:=⟨[(0,Z24),(8,j6)],[(0,Z24)],1,[],acy⟩
def af5:LF f45 [0] [1,1,0,1,1,1,1,1,1,1,1,1,1,1,1,1,1,1,1,1,1,1,1,1,0,0] adL:=sq (v:= .nil) sO (b:=p8) kN
def aq(x:Y10×o4):Option (D×Y10×D):=(Cc (x.1.1,4,())).bind λj=>(Cc (j.2.1,24,())).bind λg=>(BT (X:=Y10×Int×Int×Int×Bool×D) (λa=>if a.2.2.2.2.1 then(UT (a.1,())).bind λE=>I ((),E.2) else(BT (X:=Y10×Int×Int×Int×Bool×D) (λd=>if d.2.2.2.2.1 then(Cc (d.1.1,7,())).bind λl=>(PE ((l.2.1,d.1.2),(w64<|1+l.1.1),d.2.1,())).bind λF=>I ((),F.2) else(BT (X:=Y10×Int×Int×Int×Bool×D) (λf=>if f.2.2.2.2.1 then(Cc (f.1.1,20,())).bind λm=>(NV ((m.2.1,f.1.2),(w64<|1+m.1.1),f.2.1,())).bind λH=>I ((),H.2) else(BT (X:=Y10×Int×Int×Bool×D) (λc=>if c.2.2.2.1 then(FT (c.1,(2,c.2.1,0,0,0,0,0,0,0,noB,()),())).bind λJ=>I ((),J.2) else let K:=(U<|c.2.2.1=13);(if K then(Cc (c.1.1,50,())).bind λn=>(FT ((n.2.1,c.1.2),(7,c.2.1,0,0,0,0,n.1.1,0,0,noB,()),())).bind λL=>I ((),L.2) else(BT (X:=Y10×Int×Int×Bool×D) (λe=>if e.2.2.2.1 then(FT (e.1,(8,e.2.1,0,0,0,0,0,0,0,noB,()),())).bind λM=>I ((),M.2) else let N:=(U<|e.2.2.1=16);(if N then(Cc (e.1.1,2,())).bind λo=>(Cc (o.2.1,3,())).bind λp=>(FT ((p.2.1,e.1.2),((w64<|9+o.1.1),p.1.1,0,0,0,0,0,0,0,noB,()),())).bind λO=>I ((),O.2) else(BT (X:=Y10×Int×Int×Bool×D) (λb=>if b.2.2.2.1 then if inb b.2.1 b.1.2.2.1.length then(G7 (((rd aEm b.1.2.2.1 b.2.1).id,(rd aEm b.1.2.2.1 b.2.1).up,(rd aEm b.1.2.2.1 b.2.1).log,(rd aEm b.1.2.2.1 b.2.1).fo,(rd aEm b.1.2.2.1 b.2.1).AH,()),())).bind λh=>if U (0<(j8 h.1.1.2.2.2.2.2.1:Int)) then(Cc (b.1.1,(j8 h.1.1.2.2.2.2.2.1:Int),())).bind λi=>if inb i.1.1 h.1.1.2.2.2.2.2.1.length then let P:=(rd y7 h.1.1.2.2.2.2.2.1 i.1.1).fr;let Q:=(rd y7 h.1.1.2.2.2.2.2.1 i.1.1).nu;let v55:=(rd y7 h.1.1.2.2.2.2.2.1 i.1.1).to;let v56:=(rd y7 h.1.1.2.2.2.2.2.1 i.1.1).un;let v57:=(rd y7 h.1.1.2.2.2.2.2.1 i.1.1).tx;(FT ((i.2.1,b.1.2),(11,b.2.1,P,Q,0,0,0,0,0,noB,()),())).bind λR=>I ((),R.2) else G else I ((),(b.1,())) else G else let S:=(U<|b.2.2.1=19);(if S then(Cc (b.1.1,2,())).bind λq=>(FT ((q.2.1,b.1.2),((w64<|12+q.1.1),b.2.1,0,0,0,0,0,0,0,noB,()),())).bind λT=>I ((),T.2) else(BT (X:=Y10×Bool×D) (λk=>if k.2.1 then(av (k.1,())).bind λV=>I ((),V.2) else(AP (acy (k.1,0,())) (λ_=>G) λW=>I ((),W))) (let r:=(U<|b.2.2.1=20);(if r then I (.inr (b.1,r,())) else let s:=(U<|b.2.2.1=21);(if s then I (.inr (b.1,s,())) else let Y:=(U<|b.2.2.1=22);I (.inr (b.1,Y,())))))))) (let t:=(U<|e.2.2.1=17);(if t then I (.inr (e.1,e.2.1,e.2.2.1,t,())) else let Z:=(U<|e.2.2.1=18);I (.inr (e.1,e.2.1,e.2.2.1,Z,()))))))) (let u:=(U<|c.2.2.1=14);(if u then I (.inr (c.1,c.2.1,c.2.2.1,u,())) else let v40:=(U<|c.2.2.1=15);I (.inr (c.1,c.2.1,c.2.2.1,v40,()))))))) (let v:=(U<|f.2.2.2.1=11);(if v then I (.inr (f.1,f.2.2.1,f.2.2.2.1,v,())) else let v31:=(U<|f.2.2.2.1=12);I (.inr (f.1,f.2.2.1,f.2.2.2.1,v31,())))))) (let w:=(U<|d.2.2.2.1=9);(if w then I (.inr (d.1,d.2.1,d.2.2.1,d.2.2.2.1,w,())) else let v24:=(U<|d.2.2.2.1=10);I (.inr (d.1,d.2.1,d.2.2.1,d.2.2.2.1,v24,())))))) (let y:=(U<|a.2.2.2.1=3);(if y then I (.inr (a.1,a.2.1,a.2.2.1,a.2.2.2.1,y,())) else let z:=(U<|a.2.2.2.1=4);(if z then I (.inr (a.1,a.2.1,a.2.2.1,a.2.2.2.1,z,())) else let A:=(U<|a.2.2.2.1=5);(if A then I (.inr (a.1,a.2.1,a.2.2.1,a.2.2.2.1,A,())) else let B:=(U<|a.2.2.2.1=6);(if B then I (.inr (a.1,a.2.1,a.2.2.1,a.2.2.2.1,B,())) else let C:=(U<|a.2.2.2.1=7);(if C then I (.inr (a.1,a.2.1,a.2.2.1,a.2.2.2.1,C,())) else let v17:=(U<|a.2.2.2.1=8);I (.inr (a.1,a.2.1,a.2.2.1,a.2.2.2.1,v17,()))))))))))<|(if U (g.1.1=0) then I (.inr ((g.2.1,x.1.2),x.2.1,j.1.1,g.1.1,(U<|g.1.1=0),())) else if U (g.1.1=1) then I (.inr ((g.2.1,x.1.2),x.2.1,j.1.1,g.1.1,(U<|g.1.1=1),())) else I (.inr ((g.2.1,x.1.2),x.2.1,j.1.1,g.1.1,(U<|g.1.1=2),()))))
def sd:Ent:=(45,G,⟨[Z22,j6],[],aq⟩)
def aeG:o6 sd:=sk (v:=t1<|t1<|.one<|.join [(0,Z24),(1,j6),(4,j6),(18,j6),(27,.bool)] .nil<|t1<|.join [(0,Z24),(1,j6),(4,j6),(18,j6),(33,.bool)] .nil<|t1<|.join [(0,Z24),(1,j6),(4,j6),(18,j6),(49,.bool)] .nil<|t1<|.join [(0,Z24),(4,j6),(18,j6),(61,.bool)] .nil<|t1<|t1<|t1<|.join [(0,Z24),(4,j6),(18,j6),(79,.bool)] .nil<|t1<|t1<|t1<|.join [(0,Z24),(4,j6),(18,j6),(102,.bool)] .nil<|t1<|t1<|t1<|.join [(0,Z24),(153,.bool)] .nil<|t1<|t1<|.one<|.loop adL) (fn:=f45) sO<|kC af5 kN
def akN:Cx:=cX [LL,qV,sd,qT] [] []
def yD:o9 akN:=v7<|gC MI<|gC adC<|gC aeG<|gC ad8<|AI
def rK(x:Y0×Y11×y8):Rnd (Y0×Y11×y8) D (Y0×Y11×D):=if U (0<x.2.2.2.1) then(aq ((x.1,x.2.1.2),x.2.2.1,())).bind λa=>I (.inl (a.2.1.1,((),a.2.1.2),x.2.2.1,(w64<|x.2.2.2.1 - 1),())) else I (.inr<|.inr (x.1,((),x.2.1.2),()))
def adv:=AZ rK
def uM:Loop:=⟨[(0,Z23),(5,Z28),(6,j6),(7,j6)],[(0,Z23),(5,Z28)],0,[],adv⟩
def akj:LF f34 [0] [1,1,1,1,0,1,0,0] uM:=sq (v:= .nil) yD (b:=rK) kN
def df(x:Y0×o4):Option ((Y11×D)×Y0×D):=(RH ()).bind λa=>(Cc (x.1,5,())).bind λb=>if inb b.1.1 (([0,0,3,6,12]:List Int).length) then let f:=(rd aEo ([0,0,3,6,12]:List Int) b.1.1);(UT ((b.2.1,a.1.1.1,a.1.1.2.1,a.1.1.2.2.1,a.1.1.2.2.2.1,a.1.1.2.2.2.2.1,a.1.1.2.2.2.2.2.1,([]:List Event),()),())).bind λc=>(Cc (c.2.1.1,x.2)).bind λd=>(AP (adv (d.2.1,((),c.2.1.2),f,d.1)) (λ_=>G) λe=>I ((((),e.2.1.2),()),(e.1,()))) else G
def yM:Ent:=(34,G,⟨[Z0,j6],[Z28],df⟩)
def afk:o6 yM:=sk (v:=t1<|t1<|t1<|t1<|.two (t1<|.one<|.loop uM) .nil) (fn:=f34) yD<|kC akj kN
def aeW:Cx:=cX [yU,LL,yM] [] []
def aeo:o9 aeW:=v7<|gC aga<|gC MI<|gC afk<|AI
def UF(x:List Int×D):Option ((List Event×D)×D):=(eV x).bind λc=>(Cc (c.1.1,60,())).bind λa=>if U (a.1.1=0) then(Cc (a.2.1,2,())).bind λb=>if U (0<=(w64<|2000+b.1.1))&&U ((w64<|2000+b.1.1)<=4294967296) then I (((BS (AK<|w64<|2000+b.1.1)<|dfl .CJ),()),()) else G else(df (a.2.1,26,())).bind λd=>I (d.1.1.2.2.2.2.2.2.2,())
def adI:Ent:=(12,G,⟨[.fz .u8],[.row 51 .CJ],UF⟩)
def ae6:o6 adI:=sk (v:= .nil) (fn:=f12) aeo kN
def akd:Cx:=cX [Gt,KS,IK,Vl] [] [(57,64)]
def VQ:o9 akd:=v7<|gC HK<|gC LG<|gC Ip<|gC bU<|AI
def dG(x:Y2×o4):Rnd (Y2×o4) (Bool×D) D:=if U (x.2.1<(j8 x.1.2.2.2.2.2.1:Int)) then if inb x.2.1 x.1.2.2.2.2.2.1.length then(Nj (((rd y7 x.1.2.2.2.2.2.1 x.2.1).fr,(rd y7 x.1.2.2.2.2.2.1 x.2.1).nu,(rd y7 x.1.2.2.2.2.2.1 x.2.1).to,(rd y7 x.1.2.2.2.2.2.1 x.2.1).un,(rd y7 x.1.2.2.2.2.2.1 x.2.1).tx,()),())).bind λa=>if !a.1.1 then I (.inr<|.inl (A0,())) else I (.inl (x.1,(w64<|x.2.1+1),())) else G else I (.inr<|.inr ())
def pV:=AZ dG
def uF:Loop:=⟨[(1,Z29),(7,j6)],[],6,[(2,.bool)],pV⟩
def ak3:LF f30 [] [1,1,1,1,1,0,1,0,0] uF:=sq (v:= .nil) VQ (b:=dG) kN
def dH(x:Y2×o4):Rnd (Y2×o4) (Bool×D) (Y2×D):=if U (x.2.1<(j8 x.1.2.2.2.2.1:Int)) then if inb x.2.1 x.1.2.2.2.2.1.length then(Nj (((rd y7 x.1.2.2.2.2.1 x.2.1).fr,(rd y7 x.1.2.2.2.2.1 x.2.1).nu,(rd y7 x.1.2.2.2.2.1 x.2.1).to,(rd y7 x.1.2.2.2.2.1 x.2.1).un,(rd y7 x.1.2.2.2.2.1 x.2.1).tx,()),())).bind λa=>if !a.1.1 then I (.inr<|.inl (A0,())) else I (.inl (x.1,(w64<|x.2.1+1),())) else G else I (.inr<|.inr (x.1,()))
def pW:=AZ dH
def uG:Loop:=⟨[(1,Z29),(6,j6)],[(1,Z29)],4,[(2,.bool)],pW⟩
def ajl:LF f30 [] [1,1,1,1,0,1,0,0] uG:=sq (v:= .nil) VQ (b:=dH) kN
def dI(x:Y2×o4):Rnd (Y2×o4) (Bool×D) (Y2×D):=if U (x.2.1<(j8 x.1.2.2.2.1:Int)) then if inb x.2.1 x.1.2.2.2.1.length then let a:=(rd aEq x.1.2.2.2.1 x.2.1).src;let b:=(rd aEq x.1.2.2.2.1 x.2.1).dst;let c:=(rd aEq x.1.2.2.2.1 x.2.1).data;let f:=(rd aEq x.1.2.2.2.1 x.2.1).sp;(FU (a,())).bind λd=>if !d.1.1 then I (.inr<|.inl (A0,())) else(FU (b,())).bind λe=>if !e.1.1 then I (.inr<|.inl (A0,())) else if !decide ((w64<|a - b)=1) then if !decide ((w64<|b - a)=1) then I (.inr<|.inl (A0,())) else if U (40<(c.size:Int)) then I (.inr<|.inl (A0,())) else I (.inl (x.1,(w64<|x.2.1+1),())) else if U (40<(c.size:Int)) then I (.inr<|.inl (A0,())) else I (.inl (x.1,(w64<|x.2.1+1),())) else G else I (.inr<|.inr (x.1,()))
def pX:=AZ dI
def uH:Loop:=⟨[(1,Z29),(4,j6)],[(1,Z29)],2,[(2,.bool)],pX⟩
def ajp:LF f30 [] [1,1,1,0,1,0,0] uH:=sq (v:= .nil) VQ (b:=dI) kN
def dJ(x:Y2×o4):Rnd (Y2×o4) (Bool×D) (Y2×D):=if U (x.2.1<(j8 x.1.2.1:Int)) then if inb x.2.1 x.1.2.1.length then(Iv (((rd aEm x.1.2.1 x.2.1).id,(rd aEm x.1.2.1 x.2.1).up,(rd aEm x.1.2.1 x.2.1).log,(rd aEm x.1.2.1 x.2.1).fo,(rd aEm x.1.2.1 x.2.1).AH,()),())).bind λa=>if An (!(!a.1.1)) (inb x.2.1 x.1.2.1.length) then if(!a.1.1)||(!decide ((rd aEm x.1.2.1 x.2.1).id=x.2.1)) then I (.inr<|.inl (A0,())) else I (.inl (x.1,(w64<|x.2.1+1),())) else G else G else I (.inr<|.inr (x.1,()))
def pY:=AZ dJ
def uI:Loop:=⟨[(1,Z29),(3,j6)],[(1,Z29)],0,[(2,.bool)],pY⟩
def akr:LF f30 [] [1,1,0,1,0,0] uI:=sq (v:= .nil) VQ (b:=dJ) kN
def PS(x:Y2×D):Option ((Bool×D)×D):=(D7 (x.1.1,0,99999,())).bind λe=>if !e.1.1 then I ((A0,()),()) else if !decide ((j8 x.1.2.1:Int)=4) then I ((A0,()),()) else if !decide ((j8 x.1.2.2.1:Int)=3) then I ((A0,()),()) else if U (30<(j8 x.1.2.2.2.1:Int)) then I ((A0,()),()) else if U (6<(j8 x.1.2.2.2.2.1:Int)) then I ((A0,()),()) else if U (6<(j8 x.1.2.2.2.2.2.1:Int)) then I ((A0,()),()) else(AP (pY (x.1,0,())) (λa=>I (a,())) λa=>(AP (pX (a.1,0,())) (λb=>I (b,())) λb=>(AP (pW (b.1,0,())) (λc=>I (c,())) λc=>(AP (pV (c.1,0,())) (λd=>I (d,())) λd=>I ((Y,()),())))))
def xo:Ent:=(30,G,⟨[Z30],[.bool],PS⟩)
def afe:o6 xo:=sk (v:=t1<|t1<|.two (t1<|.one<|.loop uI)<|.two (t1<|.one<|.loop uH)<|.two (t1<|.one<|.loop uG)<|.two (t1<|.one<|.loop uF) .nil) (fn:=f30) VQ<|kC akr<|kC ajp<|kC ajl<|kC ak3 kN
def akR:Cx:=cX [MN] [] []
def xe:o9 akR:=v7<|gC NX<|AI
def cY(x:Y2×Y2×Y2×o4):Rnd (Y2×Y2×Y2×o4) D (Y2×Y2×D):=if U (x.2.2.2.1<(j8 x.1.2.1:Int)) then if inb x.2.2.2.1 x.1.2.1.length then(Gr (((rd aEm x.1.2.1 x.2.2.2.1).id,(rd aEm x.1.2.1 x.2.2.2.1).up,(rd aEm x.1.2.1 x.2.2.2.1).log,(rd aEm x.1.2.1 x.2.2.2.1).fo,(rd aEm x.1.2.1 x.2.2.2.1).AH,()),())).bind λa=>if Ab (x.2.2.1.2.1.length+([(A8.mk a.1.1.1 a.1.1.2.1 a.1.1.2.2.1 a.1.1.2.2.2.1 a.1.1.2.2.2.2.1)]:List A8).length) then I (.inl (x.1,x.2.1,(x.2.2.1.1,(x.2.2.1.2.1++([(A8.mk a.1.1.1 a.1.1.2.1 a.1.1.2.2.1 a.1.1.2.2.2.1 a.1.1.2.2.2.2.1)]:List A8)),x.2.2.1.2.2),(w64<|x.2.2.2.1+1),())) else G else G else I (.inr<|.inr (x.2.1,x.2.2.1,()))
def aw:=AZ cY
def uO:Loop:=⟨[(1,Z29),(2,Z2),(3,Z2),(4,j6)],[(2,Z2),(3,Z2)],0,[],aw⟩
def akl:LF f54 [] [1,1,0,1,0,0] uO:=sq (v:= .nil) xe (b:=cY) kN
def PO(x:Y2×D):Option ((Y2×D)×D):=if Ab (([]:List Bool).length+x.1.2.2.1.length) then if Ab (([]:List AL).length+x.1.2.2.2.1.length) then if Ab (([]:List A3).length+x.1.2.2.2.2.1.length) then if Ab (([]:List A3).length+x.1.2.2.2.2.2.1.length) then(AP (aw (x.1,(0,([]:List A8),([]:List Bool),([]:List AL),([]:List A3),([]:List A3),()),(x.1.1,([]:List A8),(([]:List Bool)++x.1.2.2.1),(([]:List AL)++x.1.2.2.2.1),(([]:List A3)++x.1.2.2.2.2.1),(([]:List A3)++x.1.2.2.2.2.2.1),()),0,())) (λ_=>G) λa=>I (a.2,())) else G else G else G else G
def yO:Ent:=(54,G,⟨[Z30],[Z3],PO⟩)
def afm:o6 yO:=sk (v:=t1<|t1<|.two (t1<|.one<|.loop uO) .nil) (fn:=f54) xe<|kC akl kN
def ak6:Cx:=cX [xo,yO,aA1] [] []
def amx:o9 ak6:=v7<|gC afe<|gC afm<|gC ai4<|AI
def Nc(x:Y2×Y6×D):Option ((Y2×Bool×D)×D):=(PS (x.1,())).bind λb=>if !b.1.1 then I (((0,([]:List A8),([]:List Bool),([]:List AL),([]:List A3),([]:List A3),()),A0,()),()) else if U (99999<=x.1.1) then(PO (x.1,())).bind λc=>I ((c.1.1,A0,()),()) else(PO (x.1,())).bind λd=>(Vo (d.1.1,x.2)).bind λa=>if !a.1.2.1 then(PO (x.1,())).bind λe=>I ((e.1.1,A0,()),()) else(PO (a.1.1,())).bind λf=>I ((f.1.1,Y,()),())
def xp:Ent:=(36,G,⟨[Z30,Z13],[Z3,.bool],Nc⟩)
def aff:o6 xp:=sk (v:= .nil) (fn:=f36) amx kN
def ahg:Cx:=cX [qV,xp] [] []
def vZ:o9 ahg:=v7<|gC adC<|gC aff<|AI
def bT(x:List Event×Y2×Y2×o4):Rnd (List Event×Y2×Y2×o4) D (Y2×Y2×D):=if U (x.2.2.2.1<(j8 x.1:Int)) then if inb x.2.2.2.1 x.1.length then(Nc (x.2.2.1,((rd aEy x.1 x.2.2.2.1).ki,(rd aEy x.1 x.2.2.2.1).at_,(rd aEy x.1 x.2.2.2.1).fr,(rd aEy x.1 x.2.2.2.1).nu,(rd aEy x.1 x.2.2.2.1).wo,(rd aEy x.1 x.2.2.2.1).mix,(rd aEy x.1 x.2.2.2.1).kp,(rd aEy x.1 x.2.2.2.1).to,(rd aEy x.1 x.2.2.2.1).un,(rd aEy x.1 x.2.2.2.1).tx,()),())).bind λa=>I (.inl (x.1,x.2.1,a.1.1,(w64<|x.2.2.2.1+1),())) else G else I (.inr<|.inr (x.2.1,x.2.2.1,()))
def aL:=AZ bT
def ae4:Loop:=⟨[(0,.sl .CJ),(2,Z2),(3,Z2),(4,j6)],[(2,Z2),(3,Z2)],0,[],aL⟩
def ahH:LF f14 [] [1,1,1,0,1,0,0] ae4:=sq (v:= .nil) vZ (b:=bT) kN
def cS(x:List Event×D):Option ((Y2×D)×D):=(RH ()).bind λa=>if U (2000<(j8 x.1:Int)) then I (a.1,()) else(AP (aL (x.1,(0,([]:List A8),([]:List Bool),([]:List AL),([]:List A3),([]:List A3),()),a.1.1,0,())) (λ_=>G) λb=>I (b.2,()))
def uU:Ent:=(14,G,⟨[.fz .CJ],[Z3],cS⟩)
def ael:o6 uU:=sk (v:=t1<|t1<|t1<|.two (t1<|.one<|.loop ae4) .nil) (fn:=f14) vZ<|kC ahH kN
def aeZ:Cx:=cX [] [] []
def afH:o9 aeZ:=v7<|AI
def aR(x:List A8×D):Option ((List A8×D)×D):=if U ((j8 x.1:Int)=0) then I ((([]:List A8),()),()) else if U (0<=(j8 x.1:Int))&&U ((j8 x.1:Int)<=4294967296) then I (((BR (BS (AK (j8 x.1:Int))<|dfl .AX).length x.1++Bo x.1.length (BS (AK (j8 x.1:Int))<|dfl .AX)),()),()) else G
def adK:Ent:=(70,G,⟨[.fz .AX],[.row 45 .AX],aR⟩)
def ae8:o6 adK:=sk (v:= .nil) (fn:=f70) afH kN
def afZ:Cx:=cX [] [] []
def agu:o9 afZ:=v7<|AI
def bN(x:List Bool×D):Option ((List Bool×D)×D):=if U ((j8 x.1:Int)=0) then I ((([]:List Bool),()),()) else if U (0<=(j8 x.1:Int))&&U ((j8 x.1:Int)<=4294967296) then I (((BR (BS (AK (j8 x.1:Int))<|dfl .bool).length x.1++Bo x.1.length (BS (AK (j8 x.1:Int))<|dfl .bool)),()),()) else G
def sn:Ent:=(71,G,⟨[.fz .bool],[.row 4 .bool],bN⟩)
def aeB:o6 sn:=sk (v:= .nil) (fn:=f71) agu kN
def aeY:Cx:=cX [] [] []
def afG:o9 aeY:=v7<|AI
def aQ(x:List AL×D):Option ((List AL×D)×D):=if U ((j8 x.1:Int)=0) then I ((([]:List AL),()),()) else if U (0<=(j8 x.1:Int))&&U ((j8 x.1:Int)<=4294967296) then I (((BR (BS (AK (j8 x.1:Int))<|dfl .Aj).length x.1++Bo x.1.length (BS (AK (j8 x.1:Int))<|dfl .Aj)),()),()) else G
def adJ:Ent:=(72,G,⟨[.fz .Aj],[.row 59 .Aj],aQ⟩)
def ae7:o6 adJ:=sk (v:= .nil) (fn:=f72) afG kN
def afa:Cx:=cX [] [] []
def agv:o9 afa:=v7<|AI
def NY(x:List A3×D):Option ((List A3×D)×D):=if U ((j8 x.1:Int)=0) then I ((([]:List A3),()),()) else if U (0<=(j8 x.1:Int))&&U ((j8 x.1:Int)<=4294967296) then I (((BR (BS (AK (j8 x.1:Int))<|dfl .note).length x.1++Bo x.1.length (BS (AK (j8 x.1:Int))<|dfl .note)),()),()) else G
def pr:Ent:=(73,G,⟨[.fz .note],[.row 36 .note],NY⟩)
def ad5:o6 pr:=sk (v:= .nil) (fn:=f73) agv kN
def afc:Cx:=cX [] [] []
def agx:o9 afc:=v7<|AI
def pb(x:List AE×D):Option ((List AE×D)×D):=if U ((j8 x.1:Int)=0) then I ((([]:List AE),()),()) else if U (0<=(j8 x.1:Int))&&U ((j8 x.1:Int)<=4294967296) then I (((BR (BS (AK (j8 x.1:Int))<|dfl .half).length x.1++Bo x.1.length (BS (AK (j8 x.1:Int))<|dfl .half)),()),()) else G
def sG:Ent:=(116,G,⟨[.fz .half],[.row 107 .half],pb⟩)
def aeD:o6 sG:=sk (v:= .nil) (fn:=f116) agx kN
def aer:Cx:=cX [] [] []
def afL:o9 aer:=v7<|AI
def pL(x:List AN×D):Option ((List AN×D)×D):=if U ((j8 x.1:Int)=0) then I ((([]:List AN),()),()) else if U (0<=(j8 x.1:Int))&&U ((j8 x.1:Int)<=4294967296) then I (((BR (BS (AK (j8 x.1:Int))<|dfl .mixed).length x.1++Bo x.1.length (BS (AK (j8 x.1:Int))<|dfl .mixed)),()),()) else G
def ada:Ent:=(117,G,⟨[.fz .mixed],[.row 142 .mixed],pL⟩)
def ae9:o6 ada:=sk (v:= .nil) (fn:=f117) afL kN
def afs:Cx:=cX [sG,ada] [] []
def tU:o9 afs:=v7<|gC aeD<|gC ae9<|AI
def bK(x:Y1×Y1×y8):Rnd (Y1×Y1×y8) D (Y1×Y1×D):=if U (x.2.2.2.1<x.2.2.1) then if inb x.2.2.2.1 x.2.1.2.2.2.2.1.length then(pL ((rd aEl x.2.1.2.2.2.2.1 x.2.2.2.1).got,())).bind λa=>if inb x.2.2.2.1 x.2.1.2.2.2.2.1.length then I (.inl (x.1,(x.2.1.1,x.2.1.2.1,x.2.1.2.2.1,x.2.1.2.2.2.1,(Bp x.2.1.2.2.2.2.1 (AK x.2.2.2.1)<|AE.mk ((rd aEl x.2.1.2.2.2.2.1 x.2.2.2.1).fr) ((rd aEl x.2.1.2.2.2.2.1 x.2.2.2.1).nu) ((rd aEl x.2.1.2.2.2.2.1 x.2.2.2.1).to) ((rd aEl x.2.1.2.2.2.2.1 x.2.2.2.1).un) ((rd aEl x.2.1.2.2.2.2.1 x.2.2.2.1).sz) a.1.1),()),x.2.2.1,(w64<|x.2.2.2.1+1),())) else G else G else I (.inr<|.inr (x.1,x.2.1,()))
def oS:=AZ bK
def adp:Loop:=⟨[(2,Z20),(3,Z20),(12,j6),(13,j6)],[(2,Z20),(3,Z20)],0,[],oS⟩
def agR:LF f74 [] [1,1,1,0,1,0,0] adp:=sq (v:= .nil) tU (b:=bK) kN
def Hh(x:Y1×D):Option ((Y1×D)×D):=(pb x.1.2.2.2.2).bind λa=>(AP (oS ((0,A0,noB,0,([]:List AE),()),(x.1.1,x.1.2.1,x.1.2.2.1,x.1.2.2.2.1,a.1),(j8 a.1.1:Int),0,())) (λ_=>G) λb=>I (b.2,()))
def LN:Ent:=(74,G,⟨[Z12],[Z1],Hh⟩)
def MH:o6 LN:=sk (v:=t1<|t1<|t1<|.two (t1<|.one<|.loop adp) .nil) (fn:=f74) tU<|kC agR kN
def aho:Cx:=cX [adK,sn,adJ,pr,LN] [] []
def va:o9 aho:=v7<|gC ae8<|gC aeB<|gC ae7<|gC ad5<|gC MH<|AI
def bV(x:Y2×Y2×y8):Rnd (Y2×Y2×y8) D (Y2×Y2×D):=if U (x.2.2.2.1<x.2.2.1) then if inb x.2.2.2.1 x.2.1.2.1.length then(Hh (((rd aEm x.2.1.2.1 x.2.2.2.1).id,(rd aEm x.2.1.2.1 x.2.2.2.1).up,(rd aEm x.2.1.2.1 x.2.2.2.1).log,(rd aEm x.2.1.2.1 x.2.2.2.1).fo,(rd aEm x.2.1.2.1 x.2.2.2.1).AH,()),())).bind λa=>if inb x.2.2.2.1 x.2.1.2.1.length then I (.inl (x.1,(x.2.1.1,(Bp x.2.1.2.1 (AK x.2.2.2.1)<|A8.mk a.1.1.1 a.1.1.2.1 a.1.1.2.2.1 a.1.1.2.2.2.1 a.1.1.2.2.2.2.1),x.2.1.2.2),x.2.2.1,(w64<|x.2.2.2.1+1),())) else G else G else I (.inr<|.inr (x.1,x.2.1,()))
def aP:=AZ bV
def adq:Loop:=⟨[(2,Z2),(3,Z2),(25,j6),(26,j6)],[(2,Z2),(3,Z2)],0,[],aP⟩
def ahJ:LF f39 [] [1,1,0,1,0,0] adq:=sq (v:= .nil) va (b:=bV) kN
def JZ(x:Y2×D):Option ((Y2×D)×D):=(aR (x.1.2.1,())).bind λa=>(bN (x.1.2.2.1,())).bind λb=>(aQ (x.1.2.2.2.1,())).bind λc=>(NY (x.1.2.2.2.2.1,())).bind λd=>(NY x.1.2.2.2.2.2).bind λe=>(AP (aP ((0,([]:List A8),([]:List Bool),([]:List AL),([]:List A3),([]:List A3),()),(x.1.1,a.1.1,b.1.1,c.1.1,d.1.1,e.1),(j8 a.1.1:Int),0,())) (λ_=>G) λf=>I (f.2,()))
def bm:Ent:=(39,G,⟨[Z30],[Z3],JZ⟩)
def oe:o6 bm:=sk (v:=t1<|t1<|.two (t1<|.one<|.loop adq) .nil) (fn:=f39) va<|kC ahJ kN
def aqI:Cx:=cX [] [] [(11,13)]
def atH:o9 aqI:=v7<|AI
def C6(x:aEn):Option ((Bool×D)×D):=let a:=((U<|x.2.1<=x.1)&&(U<|x.1<=x.2.2.1));I ((a,()),())
def FK:Ent:=(60,G,⟨[j6,j6,j6],[.bool],C6⟩)
def FW:o6 FK:=sk (v:= .nil) (fn:=f60) atH kN
def anF:Cx:=cX [FK] [] []
def aoP:o9 anF:=v7<|gC FW<|AI
def FV(x:o4):Option ((Bool×D)×D):=(C6 (x.1,0,3,())).bind λa=>I (a.1,())
def Ix:Ent:=(62,G,⟨[j6],[.bool],FV⟩)
def JY:o6 Ix:=sk (v:= .nil) (fn:=f62) aoP kN
def afI:Cx:=cX [Ix] [] []
def agy:o9 afI:=v7<|gC JY<|AI
def pn(x:o4):Option ((Y1×D)×D):=(FV x).bind λa=>if !a.1.1 then I (((0,A0,noB,0,([]:List AE),()),()),()) else I (((x.1,Y,noB,0,([]:List AE),()),()),())
def sJ:Ent:=(66,G,⟨[j6],[Z1],pn⟩)
def aeE:o6 sJ:=sk (v:= .nil) (fn:=f66) agy kN
def afw:Cx:=cX [bm,sJ] [] []
def sr:o9 afw:=v7<|gC oe<|gC aeE<|AI
def UP(x:Y2×Y2×o4):Rnd (Y2×Y2×o4) D (Y2×Y2×D):=if U (x.2.2.1<4) then(pn x.2.2).bind λa=>if Ab (x.2.1.2.1.length+([(A8.mk a.1.1.1 a.1.1.2.1 a.1.1.2.2.1 a.1.1.2.2.2.1 a.1.1.2.2.2.2.1)]:List A8).length) then if U (0<x.2.2.1) then if Ab (x.2.1.2.2.1.length+([Y]:List Bool).length) then I (.inl (x.1,(x.2.1.1,(x.2.1.2.1++([(A8.mk a.1.1.1 a.1.1.2.1 a.1.1.2.2.1 a.1.1.2.2.2.1 a.1.1.2.2.2.2.1)]:List A8)),(x.2.1.2.2.1++([Y]:List Bool)),x.2.1.2.2.2),(w64<|x.2.2.1+1),())) else G else I (.inl (x.1,(x.2.1.1,(x.2.1.2.1++([(A8.mk a.1.1.1 a.1.1.2.1 a.1.1.2.2.1 a.1.1.2.2.2.1 a.1.1.2.2.2.2.1)]:List A8)),x.2.1.2.2),(w64<|x.2.2.1+1),())) else G else I (.inr<|.inr (x.1,x.2.1,()))
def aT:=AZ UP
def adW:Loop:=⟨[(0,Z2),(1,Z2),(2,j6)],[(0,Z2),(1,Z2)],0,[],aT⟩
def agS:LF f37 [] [1,1,0,1,0,0] adW:=sq (v:= .nil) sr (b:=UP) kN
def ba(x:D):Option ((Y2×D)×D):=(AP (aT ((0,([]:List A8),([]:List Bool),([]:List AL),([]:List A3),([]:List A3),()),(0,([]:List A8),([]:List Bool),([]:List AL),([]:List A3),([]:List A3),()),0,())) (λ_=>G) λa=>(JZ a.2).bind λb=>I (b.1,()))
def tI:Ent:=(37,G,⟨[],[Z3],ba⟩)
def aeQ:o6 tI:=sk (v:=t1<|t1<|.two (t1<|.one<|.loop adW) .nil) (fn:=f37) sr<|kC agS kN
def anN:Cx:=cX [FK] [] [(20,29)]
def aoV:o9 anN:=v7<|gC FW<|AI
def fF(x:Y2×Y6×D):Option ((Bool×D)×Y2×D):=(C6 (x.2.1.2.1,0,(w64<|(j8 x.1.2.2.1:Int) - 1),())).bind λa=>if An (!(!a.1.1)) (inb x.2.1.2.1 x.1.2.2.1.length) then if(!a.1.1)||(U<|(rd aEz x.1.2.2.1 x.2.1.2.1)=(U<|x.2.1.1=9)) then I ((A0,()),(x.1,())) else if inb x.2.1.2.1 x.1.2.2.1.length then I ((Y,()),((x.1.1,x.1.2.1,(Bp x.1.2.2.1 (AK x.2.1.2.1)<|U<|x.2.1.1=9),x.1.2.2.2),())) else G else G
def zL:Ent:=(67,G,⟨[Z2,Z13],[.bool],fF⟩)
def ah8:o6 zL:=sk (v:= .nil) (fn:=f67) aoV kN
def ahp:Cx:=cX [] [] []
def aiz:o9 ahp:=v7<|AI
def Ut(x:List AL×o4):Option ((List AL×D)×D):=if U (0<=x.2.1)&&U (x.2.1<=(j8 x.1:Int)) then if Ab (([]:List AL).length+(BR (AK x.2.1) x.1).length) then if U (0<=(w64<|x.2.1+1))&&U ((w64<|x.2.1+1)<=(j8 x.1:Int)) then if Ab ((([]:List AL)++(BR (AK x.2.1) x.1)).length+(Bo (AK<|w64<|x.2.1+1) x.1).length) then I ((((([]:List AL)++(BR (AK x.2.1) x.1))++(Bo (AK<|w64<|x.2.1+1) x.1)),()),()) else G else G else G else G
def uX:Ent:=(104,G,⟨[.fz .Aj,j6],[.row 59 .Aj],Ut⟩)
def aeg:o6 uX:=sk (v:= .nil) (fn:=f104) aiz kN
def ajF:Cx:=cX [Ix] [] []
def alB:o9 ajF:=v7<|gC JY<|AI
def Jb(x:y8):Option ((o4)×D):=(BT (X:=Int×Int×Bool×D) (λa=>if a.2.2.1 then I (((-1),()),()) else if U (a.1<a.2.1) then I (((w64<|a.1+1),()),()) else I (((w64<|a.1 - 1),()),()))<|(FV (x.1,())).bind λb=>if !b.1.1 then I (.inr (x.1,x.2.1,Y,())) else(FV x.2).bind λc=>if !c.1.1 then I (.inr (x.1,x.2.1,Y,())) else I (.inr (x.1,x.2.1,(U<|x.1=x.2.1),())))
def rZ:Ent:=(44,G,⟨[j6,j6],[j6],Jb⟩)
def adY:o6 rZ:=sk (v:=t1<|.two (.one<|.join [(0,j6),(1,j6),(5,.bool)] .nil .nil) .nil) (fn:=f44) alB kN
def alR:Cx:=cX [rZ,FK,Ix] [] [(56,63),(82,89)]
def an5:o9 alR:=v7<|gC adY<|gC FW<|gC JY<|AI
def VM(x:Y6×D):Option ((Bool×D)×D):=(FV (x.1.2.1,())).bind λb=>if !b.1.1 then I ((A0,()),()) else(FV (x.1.2.2.1,())).bind λc=>if !c.1.1 then I ((A0,()),()) else(FV (x.1.2.2.2.1,())).bind λd=>if !d.1.1 then I ((A0,()),()) else(FV (x.1.2.2.2.2.2.1,())).bind λe=>if !e.1.1 then I ((A0,()),()) else(C6 (x.1.2.2.2.2.1,1,99,())).bind λf=>if !f.1.1 then I ((A0,()),()) else(C6 (x.1.2.2.2.2.2.2.1,1,999,())).bind λg=>if !g.1.1 then I ((A0,()),()) else if U (x.1.1=1) then(C6 (x.1.2.2.2.2.2.2.2.1,1,24,())).bind λh=>if h.1.1 then(C6 (x.1.2.2.2.2.2.2.2.2.1,0,999,())).bind λi=>if i.1.1 then if An (U<|(x.1.2.2.2.2.2.2.2.2.2.1.size:Int)=4) ((Jb (x.1.2.1,x.1.2.2.2.2.2.1,())).isSome) then let j:=((U<|(x.1.2.2.2.2.2.2.2.2.2.1.size:Int)=4)&&(U<|x.1.2.2.1=((Jb (x.1.2.1,x.1.2.2.2.2.2.1,())).getD ((0,()),())).1.1));I ((j,()),()) else G else if An A0 ((Jb (x.1.2.1,x.1.2.2.2.2.2.1,())).isSome) then I ((A0,()),()) else G else if An A0 ((Jb (x.1.2.1,x.1.2.2.2.2.2.1,())).isSome) then I ((A0,()),()) else G else(BT (X:=Y6×Bool×D) (λa=>if a.2.1 then if U (a.1.2.2.2.2.2.2.2.1=0) then if U (a.1.2.2.2.2.2.2.2.2.1=0) then if An (U<|a.1.2.2.2.2.2.2.2.2.2.1=noB) ((Jb (a.1.2.2.1,a.1.2.2.2.2.2.1,())).isSome) then let k:=((U<|a.1.2.2.2.2.2.2.2.2.2.1=noB)&&(U<|a.1.2.1=((Jb (a.1.2.2.1,a.1.2.2.2.2.2.1,())).getD ((0,()),())).1.1));I ((k,()),()) else G else if An A0 ((Jb (a.1.2.2.1,a.1.2.2.2.2.2.1,())).isSome) then I ((A0,()),()) else G else if An A0 ((Jb (a.1.2.2.1,a.1.2.2.2.2.2.1,())).isSome) then I ((A0,()),()) else G else I ((A0,()),()))<|(if U (x.1.1=2) then I (.inr (x.1,(U<|x.1.1=2),())) else I (.inr (x.1,(U<|x.1.1=3),()))))
def fZ:Ent:=(146,G,⟨[Z13],[.bool],VM⟩)
def sa:o6 fZ:=sk (v:=t1<|t1<|.two (t1<|.one<|t1<|t1<|.join [(1,Z14),(65,.bool)] .nil .nil) .nil) (fn:=f146) an5 kN
def ajI:Cx:=cX [] [] []
def wY:o9 ajI:=v7<|AI
def bk(x:Int×List Int×y8):Rnd (Int×List Int×y8) D (o4):=if U (x.2.2.2.1<x.2.2.1) then if inb x.2.2.2.1 x.2.1.length then let a:=(rd aEt x.2.1 x.2.2.2.1);let b:=(BJ (w64<|x.1+(w64<|(w64 a) * (w64<|(BJ x.2.2.2.1 1000)+1))) 65521);I (.inl (b,x.2.1,x.2.2.1,(w64<|x.2.2.2.1+1),())) else G else I (.inr<|.inr (x.1,()))
def ai:=AZ bk
def tD:Loop:=⟨[(3,j6),(6,.sl .u8),(7,j6),(8,j6)],[(3,j6)],0,[],ai⟩
def aiY:LF f182 [] [1,1,0,1,0,0] tD:=sq (v:= .nil) wY (b:=bk) kN
def Uz(x:List Int×D):Option ((o4)×D):=(AP (ai (0,x.1,(j8 x.1:Int),0,())) (λ_=>G) λa=>I (a,()))
def wS:Ent:=(182,G,⟨[.fz .u8],[j6],Uz⟩)
def afR:o6 wS:=sk (v:=t1<|t1<|.two (t1<|.one<|.loop tD) .nil) (fn:=f182) wY<|kC aiY kN
def afY:Cx:=cX [] [] []
def agt:o9 afY:=v7<|AI
def bM(x:List Int×D):Option ((List Int×D)×D):=if U ((j8 x.1:Int)=0) then I ((([]:List Int),()),()) else if U (0<=(j8 x.1:Int))&&U ((j8 x.1:Int)<=4294967296) then I (((BR (BS (AK (j8 x.1:Int))<|dfl .u8).length x.1++Bo x.1.length (BS (AK (j8 x.1:Int))<|dfl .u8)),()),()) else G
def sj:Ent:=(183,G,⟨[.fz .u8],[.row 5 .u8],bM⟩)
def aeA:o6 sj:=sk (v:= .nil) (fn:=f183) agt kN
def aiG:Cx:=cX [fZ,wS,sj] [] []
def ak5:o9 aiG:=v7<|gC sa<|gC afR<|gC aeA<|AI
def PJ(x:Y6×D):Option ((List Int×D)×D):=(VM x).bind λc=>if !c.1.1 then I ((([]:List Int),()),()) else(BT (X:=List Int×D) (λb=>(Uz b).bind λa=>if Ab (b.1.length+([(w8<|w64<|Ay a.1.1 256),(w8<|BJ a.1.1 256)]:List Int).length) then(bM ((b.1++([(w8<|w64<|Ay a.1.1 256),(w8<|BJ a.1.1 256)]:List Int)),())).bind λd=>I (d.1,()) else G)<|(if U (x.1.1=1) then if Ab (([(w8 x.1.1),(w8 x.1.2.1),(w8 x.1.2.2.1),(w8 x.1.2.2.2.1),(w8 x.1.2.2.2.2.1),(w8 x.1.2.2.2.2.2.1),(w8<|w64<|Ay x.1.2.2.2.2.2.2.1 256),(w8<|BJ x.1.2.2.2.2.2.2.1 256)]:List Int).length+([(w8 x.1.2.2.2.2.2.2.2.1),(w8<|w64<|Ay x.1.2.2.2.2.2.2.2.2.1 256),(w8<|BJ x.1.2.2.2.2.2.2.2.2.1 256)]:List Int).length) then if Ab ((([(w8 x.1.1),(w8 x.1.2.1),(w8 x.1.2.2.1),(w8 x.1.2.2.2.1),(w8 x.1.2.2.2.2.1),(w8 x.1.2.2.2.2.2.1),(w8<|w64<|Ay x.1.2.2.2.2.2.2.1 256),(w8<|BJ x.1.2.2.2.2.2.2.1 256)]:List Int)++([(w8 x.1.2.2.2.2.2.2.2.1),(w8<|w64<|Ay x.1.2.2.2.2.2.2.2.2.1 256),(w8<|BJ x.1.2.2.2.2.2.2.2.2.1 256)]:List Int)).length+(BA x.1.2.2.2.2.2.2.2.2.2.1).length) then I (.inr (((([(w8 x.1.1),(w8 x.1.2.1),(w8 x.1.2.2.1),(w8 x.1.2.2.2.1),(w8 x.1.2.2.2.2.1),(w8 x.1.2.2.2.2.2.1),(w8<|w64<|Ay x.1.2.2.2.2.2.2.1 256),(w8<|BJ x.1.2.2.2.2.2.2.1 256)]:List Int)++([(w8 x.1.2.2.2.2.2.2.2.1),(w8<|w64<|Ay x.1.2.2.2.2.2.2.2.2.1 256),(w8<|BJ x.1.2.2.2.2.2.2.2.2.1 256)]:List Int))++(BA x.1.2.2.2.2.2.2.2.2.2.1)),())) else G else G else I (.inr (([(w8 x.1.1),(w8 x.1.2.1),(w8 x.1.2.2.1),(w8 x.1.2.2.2.1),(w8 x.1.2.2.2.2.1),(w8 x.1.2.2.2.2.2.1),(w8<|w64<|Ay x.1.2.2.2.2.2.2.1 256),(w8<|BJ x.1.2.2.2.2.2.2.1 256)]:List Int),()))))
def rE:Ent:=(145,G,⟨[Z13],[.row 5 .u8],PJ⟩)
def adH:o6 rE:=sk (v:=t1<|t1<|t1<|.join [(3,.row 5 .u8)] .nil .nil) (fn:=f145) ak5 kN
def afK:Cx:=cX [rE] [] [(9,11)]
def ah0:o9 afK:=v7<|gC adH<|AI
def bB(x:List Int×D):Option ((Y6×Bool×D)×D):=if(!decide ((j8 x.1:Int)=10))&&(!decide ((j8 x.1:Int)=17)) then I (((0,0,0,0,0,0,0,0,0,noB,()),A0,()),()) else if inb 0 x.1.length then if inb 1 x.1.length then if inb 2 x.1.length then if inb 3 x.1.length then if inb 4 x.1.length then if inb 5 x.1.length then if inb 6 x.1.length then if inb 7 x.1.length then let b:=(w64<|rd aEt x.1 0);let c:=(w64<|rd aEt x.1 1);let d:=(w64<|rd aEt x.1 2);let e:=(w64<|rd aEt x.1 3);let f:=(w64<|rd aEt x.1 4);let g:=(w64<|rd aEt x.1 5);let h:=(w64<|(w64<|256 * (w64<|rd aEt x.1 6))+(w64<|rd aEt x.1 7));(BT (X:=List Int×Y6×Y6×D) (λa=>(PJ a.2.2).bind λi=>if !decide ((BF i.1.1)=(BF a.1)) then I (((0,0,0,0,0,0,0,0,0,noB,()),A0,()),()) else I ((a.2.2.1,Y,()),()))<|(if U ((j8 x.1:Int)=17) then if inb 8 x.1.length then let j:=(w64<|rd aEt x.1 8);(if inb 9 x.1.length then if inb 10 x.1.length then let k:=(w64<|(w64<|256 * (w64<|rd aEt x.1 9))+(w64<|rd aEt x.1 10));(if(U (0<=15)&&U (15<=(j8 x.1:Int)))&&(U (0<=11)&&U (11<=15)) then let l:=(BF<|Bo (AK 11)<|BR (AK 15) x.1);I (.inr (x.1,(0,0,0,0,0,0,0,0,0,noB,()),(b,c,d,e,f,g,h,j,k,l,()),())) else G) else G else G) else G else I (.inr (x.1,(0,0,0,0,0,0,0,0,0,noB,()),(b,c,d,e,f,g,h,0,0,noB,()),())))) else G else G else G else G else G else G else G else G
def sL:Ent:=(105,G,⟨[.fz .u8],[Z13,.bool],bB⟩)
def aeK:o6 sL:=sk (v:=t1<|t1<|t1<|.join [(0,.sl .u8),(2,Z14),(4,Z14)] .nil .nil) (fn:=f105) ah0 kN
def aeX:Cx:=cX [] [] []
def afF:o9 aeX:=v7<|AI
def R6(x:List A1×D):Option ((List A1×D)×D):=if U ((j8 x.1:Int)=0) then I ((([]:List A1),()),()) else if U (0<=(j8 x.1:Int))&&U ((j8 x.1:Int)<=4294967296) then I (((BR (BS (AK (j8 x.1:Int))<|dfl .str).length x.1++Bo x.1.length (BS (AK (j8 x.1:Int))<|dfl .str)),()),()) else G
def ao:Ent:=(118,G,⟨[.fz .str],[.row 9 .str],R6⟩)
def oR:o6 ao:=sk (v:= .nil) (fn:=f118) afF kN
def alG:Cx:=cX [FK] [] [(11,18)]
def xm:o9 alG:=v7<|gC FW<|AI
def dP(x:A1×y8):Rnd (A1×y8) (Int×Bool×D) (o4):=if U (x.2.2.1<(x.1.size:Int)) then if inb x.2.2.1 x.1.size then(C6 ((w64<|bt x.1 x.2.2.1),48,57,())).bind λa=>if !a.1.1 then I (.inr<|.inl (0,A0,())) else if inb x.2.2.1 x.1.size then let b:=(w64<|(w64<|10 * x.2.1)+(w64<|w8<|(bt x.1 x.2.2.1) - 48));I (.inl (x.1,b,(w64<|x.2.2.1+1),())) else G else G else I (.inr<|.inr (x.2.1,()))
def q6:=AZ dP
def uh:Loop:=⟨[(0,.str),(4,j6),(5,j6)],[(4,j6)],0,[(2,j6),(3,.bool)],q6⟩
def aky:LF f119 [] [1,1,1,0,1,0,0] uh:=sq (v:= .nil) xm (b:=dP) kN
def PT(x:A1×D):Option ((Int×Bool×D)×D):=(C6 ((x.1.size:Int),1,5,())).bind λb=>if An (!(!b.1.1)) (inb 0 x.1.size) then if(!b.1.1)||((U<|(bt x.1 0)=48)&&(U<|1<(x.1.size:Int))) then I ((0,A0,()),()) else(AP (q6 (x.1,0,0,())) (λa=>I (a,())) λa=>I ((a.1,Y,()),())) else G
def du:Ent:=(119,G,⟨[.str],[j6,.bool],PT⟩)
def q5:o6 du:=sk (v:=t1<|t1<|t1<|.two (t1<|.one<|.loop uh) .nil) (fn:=f119) xm<|kC aky kN
def ahS:Cx:=cX [FK,ao,du] [] [(26,29),(38,41)]
def rH:o9 ahS:=v7<|gC FW<|gC oR<|gC q5<|AI
def bY(x:A1×List A1×y8):Rnd (A1×List A1×y8) D (A1×List A1×y8):=if U (x.2.2.2.1<(x.1.size:Int)) then if An (U<|x.2.2.2.1<(w64<|x.2.2.1+3)) (inb x.2.2.2.1 x.1.size) then if(U<|x.2.2.2.1<(w64<|x.2.2.1+3))&&(!decide ((bt x.1 x.2.2.2.1)=58)) then I (.inl (x.1,x.2.1,x.2.2.1,(w64<|x.2.2.2.1+1),())) else I (.inr<|.inr x) else G else if An A0 (inb x.2.2.2.1 x.1.size) then I (.inr<|.inr x) else G
def oq:=AZ bY
def sQ:Loop:=⟨[(0,.str),(4,.row 9 .str),(5,j6),(6,j6)],[(0,.str),(4,.row 9 .str),(5,j6),(6,j6)],2,[],oq⟩
def ahC:LF f81 [] [1,1,1,0,0,0,1,0,1,0,0,0] sQ:=sq (v:= .nil) rH (b:=bY) kN
def R9(x:A1×List A1×o4):Rnd (A1×List A1×o4) D (List A1×o4):=if U (x.2.2.1<(x.1.size:Int)) then(AP (oq (x.1,x.2.1,x.2.2.1,x.2.2)) (λ_=>I<|.inr<|.inl ()) λa=>(if An (!(U<|(a.1.size:Int)<=a.2.2.2.1)) (inb a.2.2.2.1 a.1.size) then if(U<|(a.1.size:Int)<=a.2.2.2.1)||(!decide ((bt a.1 a.2.2.2.1)=58)) then I (.inr<|.inr (a.2.1,a.2.2.1,())) else if(U (0<=a.2.2.2.1)&&U (a.2.2.2.1<=(a.1.size:Int)))&&(U (0<=a.2.2.1)&&U (a.2.2.1<=a.2.2.2.1)) then(PT ((a.1.extract (AK a.2.2.1)<|AK a.2.2.2.1),())).bind λc=>let b:=(w64<|(w64<|a.2.2.2.1+1)+c.1.1);(if !c.1.2.1 then I (.inr<|.inr (a.2.1,a.2.2.1,())) else(C6 (c.1.1,1,60,())).bind λd=>if !d.1.1 then I (.inr<|.inr (a.2.1,a.2.2.1,())) else if U ((a.1.size:Int)<=b) then I (.inr<|.inr (a.2.1,a.2.2.1,())) else if inb b a.1.size then if !decide ((bt a.1 b)=59) then I (.inr<|.inr (a.2.1,a.2.2.1,())) else if(U (0<=b)&&U (b<=(a.1.size:Int)))&&(U (0<=(w64<|a.2.2.2.1+1))&&U ((w64<|a.2.2.2.1+1)<=b)) then if Ab (a.2.1.length+([(a.1.extract (AK<|w64<|a.2.2.2.1+1)<|AK b)]:List A1).length) then I (.inl (a.1,(a.2.1++([(a.1.extract (AK<|w64<|a.2.2.2.1+1)<|AK b)]:List A1)),(w64<|b+1),())) else G else G else G) else G else G)) else I (.inr<|.inr x.2)
def ou:=AZ R9
def sR:Loop:=⟨[(0,.str),(4,.row 9 .str),(5,j6)],[(4,.row 9 .str),(5,j6)],0,[],ou⟩
def ahL:LF f81 [] [1,1,1,0,0,0] sR:=sq (v:=t1<|.one<|t1<|.two (.one<|.loop sQ) .nil) rH (b:=R9)<|kC ahC kN
def PI(x:A1×D):Option ((List A1×o4)×D):=(AP (ou (x.1,([]:List A1),0,())) (λ_=>G) λa=>(R6 (a.1,())).bind λb=>I ((b.1.1,a.2),()))
def bp:Ent:=(81,G,⟨[.str],[.row 9 .str,j6],PI⟩)
def oo:o6 bp:=sk (v:=t1<|t1<|t1<|.two (.one<|.loop sR) .nil) (fn:=f81) rH<|kC ahL kN
def aiF:Cx:=cX [Ix] [] []
def ak4:o9 aiF:=v7<|gC JY<|AI
def cL(x:o4):Option ((Y3×D)×D):=(FV x).bind λa=>if !a.1.1 then I (((0,0,0,([]:List A3),([]:List Mark),([]:List A3),()),()),()) else I (((x.1,0,1,([]:List A3),([]:List Mark),([]:List A3),()),()),())
def vW:Ent:=(120,G,⟨[j6],[Z4],cL⟩)
def aex:o6 vW:=sk (v:= .nil) (fn:=f120) ak4 kN
def anE:Cx:=cX [] [] [(21,24)]
def yx:o9 anE:=v7<|AI
def eL(x:Int×Int×List Mark×y8):Rnd (Int×Int×List Mark×y8) (o4) D:=if U (x.2.2.2.2.1<x.2.2.2.1) then if inb x.2.2.2.2.1 x.2.2.1.length then let a:=(rd aEs x.2.2.1 x.2.2.2.2.1).mf;let b:=(rd aEs x.2.2.1 x.2.2.2.2.1).mn;let c:=(rd aEs x.2.2.1 x.2.2.2.2.1).mu;if(U<|a=x.1)&&(U<|b=x.2.1) then I (.inr<|.inl x.2.2.2.2) else I (.inl (x.1,x.2.1,x.2.2.1,x.2.2.2.1,(w64<|x.2.2.2.2.1+1),())) else G else I (.inr<|.inr ())
def qd:=AZ eL
def vj:Loop:=⟨[(1,j6),(2,j6),(9,.sl .mark),(10,j6),(11,j6)],[],0,[(6,j6)],qd⟩
def alw:LF f185 [] [1,0,1,0,0] vj:=sq (v:= .nil) yx (b:=eL) kN
def KU(x:List Mark×y8):Option ((o4)×D):=(AP (qd (x.2.1,x.2.2.1,x.1,(j8 x.1:Int),0,())) (λa=>I (a,())) λa=>I (((-1),()),()))
def Vm:Ent:=(185,G,⟨[.fz .mark,j6,j6],[j6],KU⟩)
def bW:o6 Vm:=sk (v:=t1<|.two (t1<|.one<|.loop vj) .nil) (fn:=f185) yx<|kC alw kN
def an8:Cx:=cX [FK] [] []
def za:o9 an8:=v7<|gC FW<|AI
def di(x:A1×o4):Rnd (A1×o4) (Bool×D) (A1×D):=if U (x.2.1<(x.1.size:Int)) then if inb x.2.1 x.1.size then(C6 ((w64<|bt x.1 x.2.1),32,126,())).bind λa=>if !a.1.1 then I (.inr<|.inl (A0,())) else I (.inl (x.1,(w64<|x.2.1+1),())) else G else I (.inr<|.inr (x.1,()))
def qI:=AZ di
def wN:Loop:=⟨[(0,.str),(3,j6)],[(0,.str)],0,[(2,.bool)],qI⟩
def alr:LF f132 [] [1,0,1,0,0] wN:=sq (v:= .nil) za (b:=di) kN
def Nk(x:A1×D):Option ((Bool×D)×D):=(AP (qI (x.1,0,())) (λa=>I (a,())) λa=>(C6 ((a.1.size:Int),1,24,())).bind λb=>I (b.1,()))
def zD:Ent:=(132,G,⟨[.str],[.bool],Nk⟩)
def ah1:o6 zD:=sk (v:=t1<|.two (t1<|.one<|.loop wN) .nil) (fn:=f132) za<|kC alr kN
def anQ:Cx:=cX [FK,Ix,zD] [] [(22,24)]
def aoY:o9 anQ:=v7<|gC FW<|gC JY<|gC ah1<|AI
def Nn(x:Y4×D):Option ((Bool×D)×D):=(FV (x.1.1,())).bind λb=>if b.1.1 then(FV (x.1.2.2.1,())).bind λc=>if c.1.1 then(C6 (x.1.2.1,1,99,())).bind λd=>if d.1.1 then(C6 (x.1.2.2.2.1,1,999,())).bind λa=>if An a.1.1 ((Nk x.1.2.2.2.2).isSome) then let e:=(a.1.1&&(((Nk x.1.2.2.2.2).getD ((A0,()),())).1.1));I ((e,()),()) else G else if An A0 ((Nk x.1.2.2.2.2).isSome) then I ((A0,()),()) else G else if An A0 ((Nk x.1.2.2.2.2).isSome) then I ((A0,()),()) else G else if An A0 ((Nk x.1.2.2.2.2).isSome) then I ((A0,()),()) else G
def Rv:Ent:=(100,G,⟨[Z6],[.bool],Nn⟩)
def Uj:o6 Rv:=sk (v:= .nil) (fn:=f100) aoY kN
def anL:Cx:=cX [] [] [(13,20)]
def aoT:o9 anL:=v7<|AI
def LR(x:Int×aEn):Option ((Bool×D)×D):=let a:=((U<|x.1<x.2.2.1)||((U<|x.1=x.2.2.1)&&(U<|x.2.1<x.2.2.2.1)));I ((a,()),())
def Vn:Ent:=(236,G,⟨[j6,j6,j6,j6],[.bool],LR⟩)
def bX:o6 Vn:=sk (v:= .nil) (fn:=f236) aoT kN
def akE:Cx:=cX [Rv,Vn] [] [(16,37)]
def xl:o9 akE:=v7<|gC Uj<|gC bX<|AI
def dO(x:List A3×List A3×y8):Rnd (List A3×List A3×y8) (Bool×D) D:=if U (x.2.2.2.1<x.2.2.1) then if inb x.2.2.2.1 x.2.1.length then let b:=(rd y7 x.2.1 x.2.2.2.1).fr;let c:=(rd y7 x.2.1 x.2.2.2.1).nu;let d:=(rd y7 x.2.1 x.2.2.2.1).to;let e:=(rd y7 x.2.1 x.2.2.2.1).un;let f:=(rd y7 x.2.1 x.2.2.2.1).tx;(Nn ((b,c,d,e,f,()),())).bind λa=>if An ((!(!a.1.1))&&(U<|0<x.2.2.2.1)) (inb (w64<|x.2.2.2.1 - 1) x.1.length) then if An ((!(!a.1.1))&&(U<|0<x.2.2.2.1)) (inb (w64<|x.2.2.2.1 - 1) x.1.length) then if An ((!(!a.1.1))&&(U<|0<x.2.2.2.1)) ((LR ((rd y7 x.1<|w64<|x.2.2.2.1 - 1).fr,(rd y7 x.1<|w64<|x.2.2.2.1 - 1).nu,b,c,())).isSome) then if(!a.1.1)||((U<|0<x.2.2.2.1)&&(!(((LR ((rd y7 x.1<|w64<|x.2.2.2.1 - 1).fr,(rd y7 x.1<|w64<|x.2.2.2.1 - 1).nu,b,c,())).getD ((A0,()),())).1.1))) then I (.inr<|.inl (A0,())) else I (.inl (x.1,x.2.1,x.2.2.1,(w64<|x.2.2.2.1+1),())) else G else G else G else G else I (.inr<|.inr ())
def pz:=AZ dO
def ug:Loop:=⟨[(0,.sl .note),(5,.sl .note),(6,j6),(7,j6)],[],0,[(2,.bool)],pz⟩
def akx:LF f195 [] [1,0,1,0,0] ug:=sq (v:= .nil) xl (b:=dO) kN
def VI(x:List A3×D):Option ((Bool×D)×D):=(AP (pz (x.1,x.1,(j8 x.1:Int),0,())) (λa=>I (a,())) λa=>I ((Y,()),()))
def xy:Ent:=(195,G,⟨[.fz .note],[.bool],VI⟩)
def agT:o6 xy:=sk (v:=t1<|.two (t1<|.one<|.loop ug) .nil) (fn:=f195) xl<|kC akx kN
def anC:Cx:=cX [FK,Ix] [] [(12,14)]
def aoO:o9 anC:=v7<|gC FW<|gC JY<|AI
def fC(x:Y5×D):Option ((Bool×D)×D):=(FV (x.1.1,())).bind λb=>if b.1.1 then(C6 (x.1.2.1,1,99,())).bind λa=>if An a.1.1 ((C6 (x.1.2.2.1,1,999,())).isSome) then let c:=(a.1.1&&(((C6 (x.1.2.2.1,1,999,())).getD ((A0,()),())).1.1));I ((c,()),()) else G else if An A0 ((C6 (x.1.2.2.1,1,999,())).isSome) then I ((A0,()),()) else G
def zE:Ent:=(237,G,⟨[Z11],[.bool],fC⟩)
def ah2:o6 zE:=sk (v:= .nil) (fn:=f237) aoO kN
def alH:Cx:=cX [Vn,zE] [] [(16,37)]
def yS:o9 alH:=v7<|gC bX<|gC ah2<|AI
def dQ(x:List Mark×List Mark×y8):Rnd (List Mark×List Mark×y8) (Bool×D) D:=if U (x.2.2.2.1<x.2.2.1) then if inb x.2.2.2.1 x.2.1.length then let b:=(rd aEs x.2.1 x.2.2.2.1).mf;let c:=(rd aEs x.2.1 x.2.2.2.1).mn;let d:=(rd aEs x.2.1 x.2.2.2.1).mu;(fC ((b,c,d,()),())).bind λa=>if An ((!(!a.1.1))&&(U<|0<x.2.2.2.1)) (inb (w64<|x.2.2.2.1 - 1) x.1.length) then if An ((!(!a.1.1))&&(U<|0<x.2.2.2.1)) (inb (w64<|x.2.2.2.1 - 1) x.1.length) then if An ((!(!a.1.1))&&(U<|0<x.2.2.2.1)) ((LR ((rd aEs x.1<|w64<|x.2.2.2.1 - 1).mf,(rd aEs x.1<|w64<|x.2.2.2.1 - 1).mn,b,c,())).isSome) then if(!a.1.1)||((U<|0<x.2.2.2.1)&&(!(((LR ((rd aEs x.1<|w64<|x.2.2.2.1 - 1).mf,(rd aEs x.1<|w64<|x.2.2.2.1 - 1).mn,b,c,())).getD ((A0,()),())).1.1))) then I (.inr<|.inl (A0,())) else I (.inl (x.1,x.2.1,x.2.2.1,(w64<|x.2.2.2.1+1),())) else G else G else G else G else I (.inr<|.inr ())
def q7:=AZ dQ
def uj:Loop:=⟨[(0,.sl .mark),(5,.sl .mark),(6,j6),(7,j6)],[],0,[(2,.bool)],q7⟩
def akz:LF f196 [] [1,0,1,0,0] uj:=sq (v:= .nil) yS (b:=dQ) kN
def eJ(x:List Mark×D):Option ((Bool×D)×D):=(AP (q7 (x.1,x.1,(j8 x.1:Int),0,())) (λa=>I (a,())) λa=>I ((Y,()),()))
def y0:Ent:=(196,G,⟨[.fz .mark],[.bool],eJ⟩)
def ag0:o6 y0:=sk (v:=t1<|.two (t1<|.one<|.loop uj) .nil) (fn:=f196) yS<|kC akz kN
def aok:Cx:=cX [FK] [] [(10,23)]
def apW:o9 aok:=v7<|gC FW<|AI
def Vt(x:Int×Y4×D):Option ((Bool×D)×D):=if An (!decide (x.1=x.2.1.2.2.1)) ((C6 (x.1,x.2.1.1,x.2.1.2.2.1,())).isSome) then if An ((!decide (x.1=x.2.1.2.2.1))&&(!(((C6 (x.1,x.2.1.1,x.2.1.2.2.1,())).getD ((A0,()),())).1.1))) ((C6 (x.1,x.2.1.2.2.1,x.2.1.1,())).isSome) then let a:=((!decide (x.1=x.2.1.2.2.1))&&((((C6 (x.1,x.2.1.1,x.2.1.2.2.1,())).getD ((A0,()),())).1.1)||(((C6 (x.1,x.2.1.2.2.1,x.2.1.1,())).getD ((A0,()),())).1.1)));I ((a,()),()) else G else G
def zr:Ent:=(197,G,⟨[j6,Z6],[.bool],Vt⟩)
def aib:o6 zr:=sk (v:= .nil) (fn:=f197) apW kN
def anS:Cx:=cX [FK,Ix,Vm,xy,y0,zr] [] [(123,127)]
def fM:o9 anS:=v7<|gC FW<|gC JY<|gC bW<|gC agT<|gC ag0<|gC aib<|AI
def eC(x:Y3×List A3×y8):Rnd (Y3×List A3×y8) (Bool×D) D:=if U (x.2.2.2.1<x.2.2.1) then if inb x.2.2.2.1 x.2.1.length then let a:=(rd y7 x.2.1 x.2.2.2.1).fr;let ny:=(rd y7 x.2.1 x.2.2.2.1).nu;let acm:=(rd y7 x.2.1 x.2.2.2.1).to;let b:=(rd y7 x.2.1 x.2.2.2.1).un;let azt:=(rd y7 x.2.1 x.2.2.2.1).tx;(if U (a=x.1.1) then if U (x.1.2.2.1<=ny) then I (.inr<|.inl (A0,())) else if !decide (acm=x.1.1) then I (.inr<|.inl (A0,())) else if U (x.1.2.1<b) then(KU (x.1.2.2.2.2.1,a,ny,())).bind λazO=>if U (azO.1.1<0) then I (.inr<|.inl (A0,())) else I (.inl (x.1,x.2.1,x.2.2.1,(w64<|x.2.2.2.1+1),())) else I (.inl (x.1,x.2.1,x.2.2.1,(w64<|x.2.2.2.1+1),())) else if !decide (acm=x.1.1) then I (.inr<|.inl (A0,())) else if U (x.1.2.1<b) then(KU (x.1.2.2.2.2.1,a,ny,())).bind λayn=>if U (ayn.1.1<0) then I (.inr<|.inl (A0,())) else I (.inl (x.1,x.2.1,x.2.2.1,(w64<|x.2.2.2.1+1),())) else I (.inl (x.1,x.2.1,x.2.2.1,(w64<|x.2.2.2.1+1),()))) else G else I (.inr<|.inr ())
def qP:=AZ eC
def wh:Loop:=⟨[(1,Z7),(131,.sl .note),(132,j6),(133,j6)],[],4,[(2,.bool)],qP⟩
def am0:LF f158 [] [1,1,1,1,1,0,1,0,0] wh:=sq (v:= .nil) fM (b:=eC) kN
def eE(x:Y3×List Mark×y8):Rnd (Y3×List Mark×y8) (Bool×D) (Y3×D):=if U (x.2.2.2.1<x.2.2.1) then if inb x.2.2.2.1 x.2.1.length then let ayg:=(rd aEs x.2.1 x.2.2.2.1).mf;let b:=(rd aEs x.2.1 x.2.2.2.1).mn;let a:=(rd aEs x.2.1 x.2.2.2.1).mu;if U (ayg=x.1.1) then if(U<|x.1.2.2.1<=b)||(U<|a<=x.1.2.1) then I (.inr<|.inl (A0,())) else I (.inl (x.1,x.2.1,x.2.2.1,(w64<|x.2.2.2.1+1),())) else if U (a<=x.1.2.1) then I (.inr<|.inl (A0,())) else I (.inl (x.1,x.2.1,x.2.2.1,(w64<|x.2.2.2.1+1),())) else G else I (.inr<|.inr (x.1,()))
def qQ:=AZ eE
def wi:Loop:=⟨[(1,Z7),(104,.sl .mark),(105,j6),(106,j6)],[(1,Z7)],2,[(2,.bool)],qQ⟩
def am4:LF f158 [] [1,1,1,1,0,1,0,0] wi:=sq (v:= .nil) fM (b:=eE) kN
def eF(x:Y3×List A3×y8):Rnd (Y3×List A3×y8) (Bool×D) (Y3×D):=if U (x.2.2.2.1<x.2.2.1) then if inb x.2.2.2.1 x.2.1.length then let a:=(rd y7 x.2.1 x.2.2.2.1).fr;let b:=(rd y7 x.2.1 x.2.2.2.1).nu;let d:=(rd y7 x.2.1 x.2.2.2.1).to;let c:=(rd y7 x.2.1 x.2.2.2.1).un;let e:=(rd y7 x.2.1 x.2.2.2.1).tx;if U (a=x.1.1) then if U (x.1.2.2.1<=b) then I (.inr<|.inl (A0,())) else if U (c<=x.1.2.1) then I (.inr<|.inl (A0,())) else(Vt (x.1.1,(a,b,d,c,e,()),())).bind λf=>if !f.1.1 then I (.inr<|.inl (A0,())) else(KU (x.1.2.2.2.2.1,a,b,())).bind λg=>if U (0<=g.1.1) then I (.inr<|.inl (A0,())) else I (.inl (x.1,x.2.1,x.2.2.1,(w64<|x.2.2.2.1+1),())) else if U (c<=x.1.2.1) then I (.inr<|.inl (A0,())) else(Vt (x.1.1,(a,b,d,c,e,()),())).bind λh=>if !h.1.1 then I (.inr<|.inl (A0,())) else(KU (x.1.2.2.2.2.1,a,b,())).bind λi=>if U (0<=i.1.1) then I (.inr<|.inl (A0,())) else I (.inl (x.1,x.2.1,x.2.2.1,(w64<|x.2.2.2.1+1),())) else G else I (.inr<|.inr (x.1,()))
def qR:=AZ eF
def wj:Loop:=⟨[(1,Z7),(60,.sl .note),(61,j6),(62,j6)],[(1,Z7)],0,[(2,.bool)],qR⟩
def ame:LF f158 [] [1,1,1,0,1,0,0] wj:=sq (v:= .nil) fM (b:=eF) kN
def Pa(x:Y3×D):Option ((Bool×D)×D):=(FV (x.1.1,())).bind λb=>if !b.1.1 then I ((A0,()),()) else(C6 (x.1.2.1,0,999,())).bind λc=>if !c.1.1 then I ((A0,()),()) else(C6 (x.1.2.2.1,1,100,())).bind λd=>if !d.1.1 then I ((A0,()),()) else if U (6<(j8 x.1.2.2.2.1:Int)) then I ((A0,()),()) else if U (12<(j8 x.1.2.2.2.2.1:Int)) then I ((A0,()),()) else if U (6<(j8 x.1.2.2.2.2.2.1:Int)) then I ((A0,()),()) else(VI (x.1.2.2.2.1,())).bind λe=>if !e.1.1 then I ((A0,()),()) else(eJ (x.1.2.2.2.2.1,())).bind λf=>if !f.1.1 then I ((A0,()),()) else(VI x.1.2.2.2.2.2).bind λg=>if !g.1.1 then I ((A0,()),()) else(AP (qR (x.1,x.1.2.2.2.1,(j8 x.1.2.2.2.1:Int),0,())) (λa=>I (a,())) λa=>(AP (qQ (a.1,a.1.2.2.2.2.1,(j8 a.1.2.2.2.2.1:Int),0,())) (λU6=>I (U6,())) λU6=>(AP (qP (U6.1,U6.1.2.2.2.2.2.1,(U6.1.2.2.2.2.2.1.length:Int),0,())) (λacj=>I (acj,())) λacj=>I ((Y,()),()))))
def gL:Ent:=(158,G,⟨[Z8],[.bool],Pa⟩)
def tB:o6 gL:=sk (v:=t1<|t1<|t1<|.two (t1<|.one<|.loop wj)<|.two (t1<|.one<|.loop wi)<|.two (t1<|.one<|.loop wh) .nil) (fn:=f158) fM<|kC ame<|kC am4<|kC am0 kN
def alK:Cx:=cX [] [] []
def fe:o9 alK:=v7<|AI
def cb(x:Int×Y3×Y3×List Mark×y8):Rnd (Int×Y3×Y3×List Mark×y8) D (Y3×Y3×D):=if U (x.2.2.2.2.2.1<x.2.2.2.2.1) then if inb x.2.2.2.2.2.1 x.2.2.2.1.length then let b:=(rd aEs x.2.2.2.1 x.2.2.2.2.2.1).mf;let c:=(rd aEs x.2.2.2.1 x.2.2.2.2.2.1).mn;let a:=(rd aEs x.2.2.2.1 x.2.2.2.2.2.1).mu;if U (x.1<a) then if Ab (x.2.2.1.2.2.2.2.1.length+([(Mark.mk b c a)]:List Mark).length) then I (.inl (x.1,x.2.1,(x.2.2.1.1,x.2.2.1.2.1,x.2.2.1.2.2.1,x.2.2.1.2.2.2.1,(x.2.2.1.2.2.2.2.1++([(Mark.mk b c a)]:List Mark)),x.2.2.1.2.2.2.2.2),x.2.2.2.1,x.2.2.2.2.1,(w64<|x.2.2.2.2.2.1+1),())) else G else I (.inl (x.1,x.2.1,x.2.2.1,x.2.2.2.1,x.2.2.2.2.1,(w64<|x.2.2.2.2.2.1+1),())) else G else I (.inr<|.inr (x.2.1,x.2.2.1,()))
def pd:=AZ cb
def um:Loop:=⟨[(1,j6),(4,Z9),(5,Z31),(37,.sl .mark),(38,j6),(39,j6)],[(4,Z9),(5,Z31)],2,[],pd⟩
def akf:LF f239 [] [1,1,1,0,1,0,0] um:=sq (v:= .nil) fe (b:=cb) kN
def cc(x:Int×Y3×Y3×Y3×List A3×y8):Rnd (Int×Y3×Y3×Y3×List A3×y8) D (Int×Y3×Y3×Y3×D):=if U (x.2.2.2.2.2.2.1<x.2.2.2.2.2.1) then if inb x.2.2.2.2.2.2.1 x.2.2.2.2.1.length then let b:=(rd y7 x.2.2.2.2.1 x.2.2.2.2.2.2.1).fr;let c:=(rd y7 x.2.2.2.2.1 x.2.2.2.2.2.2.1).nu;let d:=(rd y7 x.2.2.2.2.1 x.2.2.2.2.2.2.1).to;let a:=(rd y7 x.2.2.2.2.1 x.2.2.2.2.2.2.1).un;let e:=(rd y7 x.2.2.2.2.1 x.2.2.2.2.2.2.1).tx;if U (x.1<a) then if Ab (x.2.2.2.1.2.2.2.1.length+([(A3.mk b c d a e)]:List A3).length) then I (.inl (x.1,x.2.1,x.2.2.1,(x.2.2.2.1.1,x.2.2.2.1.2.1,x.2.2.2.1.2.2.1,(x.2.2.2.1.2.2.2.1++([(A3.mk b c d a e)]:List A3)),x.2.2.2.1.2.2.2.2),x.2.2.2.2.1,x.2.2.2.2.2.1,(w64<|x.2.2.2.2.2.2.1+1),())) else G else I (.inl (x.1,x.2.1,x.2.2.1,x.2.2.2.1,x.2.2.2.2.1,x.2.2.2.2.2.1,(w64<|x.2.2.2.2.2.2.1+1),())) else G else I (.inr<|.inr (x.1,x.2.1,x.2.2.1,x.2.2.2.1,()))
def pe:=AZ cc
def uo:Loop:=⟨[(1,j6),(2,Z7),(4,Z9),(5,Z31),(19,.sl .note),(20,j6),(21,j6)],[(1,j6),(2,Z7),(4,Z9),(5,Z31)],0,[],pe⟩
def al0:LF f239 [] [1,1,0,1,0,0] uo:=sq (v:= .nil) fe (b:=cc) kN
def dw(x:Y3×o4):Option ((Y3×D)×D):=(AP (pe (x.2.1,x.1,(0,0,0,([]:List A3),([]:List Mark),([]:List A3),()),(x.1.1,x.2.1,x.1.2.2.1,([]:List A3),([]:List Mark),x.1.2.2.2.2.2),x.1.2.2.2.1,(j8 x.1.2.2.2.1:Int),0,())) (λ_=>G) λa=>(AP (pd (a.1,a.2.2.1,a.2.2.2.1,a.2.1.2.2.2.2.1,(j8 a.2.1.2.2.2.2.1:Int),0,())) (λ_=>G) λb=>I (b.2,())))
def y5:Ent:=(239,G,⟨[Z8,j6],[Z8],dw⟩)
def ag5:o6 y5:=sk (v:=t1<|t1<|.two (t1<|.one<|.loop uo)<|.two (t1<|.one<|.loop um) .nil) (fn:=f239) fe<|kC al0<|kC akf kN
def aom:Cx:=cX [y5] [] [(12,15),(24,27)]
def apY:o9 aom:=v7<|gC ag5<|AI
def Vz(x:Y3×A1×o4):Option ((Y3×Bool×D)×D):=let a:=((U<|x.2.1=(B [116,105,109,101]))&&(U<|x.1.2.1<x.2.2.1));(if a then(dw (x.1,x.2.2)).bind λb=>I ((b.1.1,Y,()),()) else let c:=((U<|x.2.1=(B [110,101,120,116]))&&(U<|x.1.2.2.1<x.2.2.1));(if c then I (((x.1.1,x.1.2.1,x.2.2.1,x.1.2.2.2),Y,()),()) else I ((x.1,A0,()),())))
def zt:Ent:=(199,G,⟨[Z8,.str,j6],[Z8,.bool],Vz⟩)
def aid:o6 zt:=sk (v:= .nil) (fn:=f199) apY kN
def ahX:Cx:=cX [Rv,Rh] [] []
def aj3:o9 ahX:=v7<|gC Uj<|gC UI<|AI
def MQ(x:Y4×D):Option ((A1×D)×D):=(Nn x).bind λe=>if !e.1.1 then I ((noB,()),()) else(Iy (x.1.1,())).bind λa=>if U (a.1.1.size+(B [32]).size<=4611686018427387904) then(Iy (x.1.2.1,())).bind λb=>if U ((a.1.1++(B [32])).size+b.1.1.size<=4611686018427387904) then if U (((a.1.1++(B [32]))++b.1.1).size+(B [32]).size<=4611686018427387904) then(Iy (x.1.2.2.1,())).bind λc=>if U ((((a.1.1++(B [32]))++b.1.1)++(B [32])).size+c.1.1.size<=4611686018427387904) then if U (((((a.1.1++(B [32]))++b.1.1)++(B [32]))++c.1.1).size+(B [32]).size<=4611686018427387904) then(Iy (x.1.2.2.2.1,())).bind λd=>if U ((((((a.1.1++(B [32]))++b.1.1)++(B [32]))++c.1.1)++(B [32])).size+d.1.1.size<=4611686018427387904) then if U (((((((a.1.1++(B [32]))++b.1.1)++(B [32]))++c.1.1)++(B [32]))++d.1.1).size+(B [32]).size<=4611686018427387904) then if U ((((((((a.1.1++(B [32]))++b.1.1)++(B [32]))++c.1.1)++(B [32]))++d.1.1)++(B [32])).size+x.1.2.2.2.2.1.size<=4611686018427387904) then let f:=((((((((a.1.1++(B [32]))++b.1.1)++(B [32]))++c.1.1)++(B [32]))++d.1.1)++(B [32]))++x.1.2.2.2.2.1);I ((f,()),()) else G else G else G else G else G else G else G else G
def Uq:Ent:=(151,G,⟨[Z6],[.str],MQ⟩)
def ak:o6 Uq:=sk (v:= .nil) (fn:=f151) aj3 kN
def aj9:Cx:=cX [du] [] []
def wW:o9 aj9:=v7<|gC q5<|AI
def cE(x:List Int×List A1×y8):Rnd (List Int×List A1×y8) (List Int×Bool×D) (List Int×D):=if U (x.2.2.2.1<x.2.2.1) then if inb x.2.2.2.1 x.2.1.length then let b:=(rd aEv x.2.1 x.2.2.2.1);(PT (b,())).bind λa=>if !a.1.2.1 then I (.inr<|.inl (([]:List Int),A0,())) else if Ab (x.1.length+([a.1.1]:List Int).length) then I (.inl ((x.1++([a.1.1]:List Int)),x.2.1,x.2.2.1,(w64<|x.2.2.2.1+1),())) else G else G else I (.inr<|.inr (x.1,()))
def pK:=AZ cE
def tz:Loop:=⟨[(4,.row 3 .int),(9,.sl .str),(10,j6),(11,j6)],[(4,.row 3 .int)],0,[(2,.row 3 .int),(3,.bool)],pK⟩
def aiV:LF f202 [] [1,1,0,1,0,0] tz:=sq (v:= .nil) wW (b:=cE) kN
def RY(x:List A1×D):Option ((List Int×Bool×D)×D):=(AP (pK (([]:List Int),x.1,(j8 x.1:Int),0,())) (λa=>I (a,())) λa=>I ((a.1,Y,()),()))
def rX:Ent:=(202,G,⟨[.fz .str],[.row 3 .int,.bool],RY⟩)
def ado:o6 rX:=sk (v:=t1<|t1<|.two (t1<|.one<|.loop tz) .nil) (fn:=f202) wW<|kC aiV kN
def ajE:Cx:=cX [Rv,Uq,rX,vD] [] [(43,46)]
def alA:o9 ajE:=v7<|gC Uj<|gC ak<|gC ado<|gC aeL<|AI
def VC(x:A1×D):Option ((Y4×Bool×D)×D):=(qj (x.1,(B [32]),5,())).bind λb=>if !decide ((j8 b.1.1:Int)=5) then I (((0,0,0,0,noB,()),A0,()),()) else if U (0<=4)&&U (4<=(j8 b.1.1:Int)) then(RY ((BR (AK 4) b.1.1),())).bind λa=>if !a.1.2.1 then I (((0,0,0,0,noB,()),A0,()),()) else if inb 0 a.1.1.length then if inb 1 a.1.1.length then if inb 2 a.1.1.length then if inb 3 a.1.1.length then if inb 4 b.1.1.length then(Nn (((rd aEo a.1.1 0),(rd aEo a.1.1 1),(rd aEo a.1.1 2),(rd aEo a.1.1 3),(rd aEv b.1.1 4),()),())).bind λc=>if An (!(!c.1.1)) ((MQ (((rd aEo a.1.1 0),(rd aEo a.1.1 1),(rd aEo a.1.1 2),(rd aEo a.1.1 3),(rd aEv b.1.1 4),()),())).isSome) then if(!c.1.1)||(!decide (((MQ (((rd aEo a.1.1 0),(rd aEo a.1.1 1),(rd aEo a.1.1 2),(rd aEo a.1.1 3),(rd aEv b.1.1 4),()),())).getD ((noB,()),())).1.1=x.1)) then I (((0,0,0,0,noB,()),A0,()),()) else I ((((rd aEo a.1.1 0),(rd aEo a.1.1 1),(rd aEo a.1.1 2),(rd aEo a.1.1 3),(rd aEv b.1.1 4),()),Y,()),()) else G else G else G else G else G else G else G
def xG:Ent:=(200,G,⟨[.str],[Z6,.bool],VC⟩)
def afQ:o6 xG:=sk (v:= .nil) (fn:=f200) alA kN
def anB:Cx:=cX [] [] [(21,24)]
def yv:o9 anB:=v7<|AI
def eG(x:Int×Int×List A3×y8):Rnd (Int×Int×List A3×y8) (o4) D:=if U (x.2.2.2.2.1<x.2.2.2.1) then if inb x.2.2.2.2.1 x.2.2.1.length then let a:=(rd y7 x.2.2.1 x.2.2.2.2.1).fr;let b:=(rd y7 x.2.2.1 x.2.2.2.2.1).nu;let c:=(rd y7 x.2.2.1 x.2.2.2.2.1).to;let d:=(rd y7 x.2.2.1 x.2.2.2.2.1).un;let e:=(rd y7 x.2.2.1 x.2.2.2.2.1).tx;if(U<|a=x.1)&&(U<|b=x.2.1) then I (.inr<|.inl x.2.2.2.2) else I (.inl (x.1,x.2.1,x.2.2.1,x.2.2.2.1,(w64<|x.2.2.2.2.1+1),())) else G else I (.inr<|.inr ())
def qb:=AZ eG
def vh:Loop:=⟨[(1,j6),(2,j6),(9,.sl .note),(10,j6),(11,j6)],[],0,[(6,j6)],qb⟩
def alu:LF f52 [] [1,0,1,0,0] vh:=sq (v:= .nil) yv (b:=eG) kN
def IL(x:List A3×y8):Option ((o4)×D):=(AP (qb (x.2.1,x.2.2.1,x.1,(j8 x.1:Int),0,())) (λa=>I (a,())) λa=>I (((-1),()),()))
def No:Ent:=(52,G,⟨[.fz .note,j6,j6],[j6],IL⟩)
def PD:o6 No:=sk (v:=t1<|.two (t1<|.one<|.loop vh) .nil) (fn:=f52) yv<|kC alu kN
def anA:Cx:=cX [Vn] [] [(11,25)]
def zc:o9 anA:=v7<|gC bX<|AI
def dk(x:List A3×Y4×o4):Rnd (List A3×Y4×o4) D (List A3×Y4×o4):=if An (U<|x.2.2.1<(j8 x.1:Int)) (inb x.2.2.1 x.1.length) then if An (U<|x.2.2.1<(j8 x.1:Int)) (inb x.2.2.1 x.1.length) then if An (U<|x.2.2.1<(j8 x.1:Int)) ((LR ((rd y7 x.1 x.2.2.1).fr,(rd y7 x.1 x.2.2.1).nu,x.2.1.1,x.2.1.2.1,())).isSome) then if(U<|x.2.2.1<(j8 x.1:Int))&&(((LR ((rd y7 x.1 x.2.2.1).fr,(rd y7 x.1 x.2.2.1).nu,x.2.1.1,x.2.1.2.1,())).getD ((A0,()),())).1.1) then I (.inl (x.1,x.2.1,(w64<|x.2.2.1+1),())) else I (.inr<|.inr x) else G else G else G
def qJ:=AZ dk
def vg:Loop:=⟨[(0,.sl .note),(3,Z5),(5,j6)],[(0,.sl .note),(3,Z5),(5,j6)],0,[],qJ⟩
def als:LF f242 [] [1,1,0,0,0] vg:=sq (v:= .nil) zc (b:=dk) kN
def PZ(x:List A3×Y4×D):Option ((List A3×D)×D):=(AP (qJ (x.1,x.2.1,0,())) (λ_=>G) λa=>(if U (0<=a.2.2.1)&&U (a.2.2.1<=(j8 a.1:Int)) then if Ab (([]:List A3).length+(BR (AK a.2.2.1) a.1).length) then if Ab ((([]:List A3)++(BR (AK a.2.2.1) a.1)).length+([(A3.mk a.2.1.1 a.2.1.2.1 a.2.1.2.2.1 a.2.1.2.2.2.1 a.2.1.2.2.2.2.1)]:List A3).length) then if U (0<=a.2.2.1)&&U (a.2.2.1<=(j8 a.1:Int)) then if Ab (((([]:List A3)++(BR (AK a.2.2.1) a.1))++([(A3.mk a.2.1.1 a.2.1.2.1 a.2.1.2.2.1 a.2.1.2.2.2.1 a.2.1.2.2.2.2.1)]:List A3)).length+(Bo (AK a.2.2.1) a.1).length) then I (((((([]:List A3)++(BR (AK a.2.2.1) a.1))++([(A3.mk a.2.1.1 a.2.1.2.1 a.2.1.2.2.1 a.2.1.2.2.2.1 a.2.1.2.2.2.2.1)]:List A3))++(Bo (AK a.2.2.1) a.1)),()),()) else G else G else G else G else G))
def gH:Ent:=(242,G,⟨[.fz .note,Z6],[.row 36 .note],PZ⟩)
def tv:o6 gH:=sk (v:=t1<|t1<|.two (.one<|.loop vg) .nil) (fn:=f242) zc<|kC als kN
def anD:Cx:=cX [Vn] [] [(11,25)]
def yw:o9 anD:=v7<|gC bX<|AI
def eK(x:List Mark×Y5×o4):Rnd (List Mark×Y5×o4) D (List Mark×Y5×o4):=if An (U<|x.2.2.1<(j8 x.1:Int)) (inb x.2.2.1 x.1.length) then if An (U<|x.2.2.1<(j8 x.1:Int)) (inb x.2.2.1 x.1.length) then if An (U<|x.2.2.1<(j8 x.1:Int)) ((LR ((rd aEs x.1 x.2.2.1).mf,(rd aEs x.1 x.2.2.1).mn,x.2.1.1,x.2.1.2.1,())).isSome) then if(U<|x.2.2.1<(j8 x.1:Int))&&(((LR ((rd aEs x.1 x.2.2.1).mf,(rd aEs x.1 x.2.2.1).mn,x.2.1.1,x.2.1.2.1,())).getD ((A0,()),())).1.1) then I (.inl (x.1,x.2.1,(w64<|x.2.2.1+1),())) else I (.inr<|.inr x) else G else G else G
def qc:=AZ eK
def vi:Loop:=⟨[(0,.sl .mark),(3,Z10),(5,j6)],[(0,.sl .mark),(3,Z10),(5,j6)],0,[],qc⟩
def alv:LF f245 [] [1,1,0,0,0] vi:=sq (v:= .nil) yw (b:=eK) kN
def Rp(x:List Mark×Y5×D):Option ((List Mark×D)×D):=(AP (qc (x.1,x.2.1,0,())) (λ_=>G) λa=>(if U (0<=a.2.2.1)&&U (a.2.2.1<=(j8 a.1:Int)) then if Ab (([]:List Mark).length+(BR (AK a.2.2.1) a.1).length) then if Ab ((([]:List Mark)++(BR (AK a.2.2.1) a.1)).length+([(Mark.mk a.2.1.1 a.2.1.2.1 a.2.1.2.2.1)]:List Mark).length) then if U (0<=a.2.2.1)&&U (a.2.2.1<=(j8 a.1:Int)) then if Ab (((([]:List Mark)++(BR (AK a.2.2.1) a.1))++([(Mark.mk a.2.1.1 a.2.1.2.1 a.2.1.2.2.1)]:List Mark)).length+(Bo (AK a.2.2.1) a.1).length) then I (((((([]:List Mark)++(BR (AK a.2.2.1) a.1))++([(Mark.mk a.2.1.1 a.2.1.2.1 a.2.1.2.2.1)]:List Mark))++(Bo (AK a.2.2.1) a.1)),()),()) else G else G else G else G else G))
def gI:Ent:=(245,G,⟨[.fz .mark,Z11],[.row 61 .mark],Rp⟩)
def u7:o6 gI:=sk (v:=t1<|t1<|.two (.one<|.loop vi) .nil) (fn:=f245) yw<|kC alv kN
def anP:Cx:=cX [No,Rv,Vm,gH,gI] [] []
def aoX:o9 anP:=v7<|gC PD<|gC Uj<|gC bW<|gC tv<|gC u7<|AI
def Vg(x:Y3×Y4×D):Option ((Y3×Bool×D)×D):=(Nn x.2).bind λa=>if !a.1.1 then I ((x.1,A0,()),()) else if U (x.2.1.2.2.2.1<=x.1.2.1) then I ((x.1,A0,()),()) else(IL (x.1.2.2.2.1,x.2.1.1,x.2.1.2.1,())).bind λb=>if U (0<=b.1.1) then I ((x.1,A0,()),()) else(IL (x.1.2.2.2.2.2.1,x.2.1.1,x.2.1.2.1,())).bind λc=>if U (0<=c.1.1) then I ((x.1,A0,()),()) else(KU (x.1.2.2.2.2.1,x.2.1.1,x.2.1.2.1,())).bind λd=>if U (0<=d.1.1) then I ((x.1,A0,()),()) else if U (12<(w64<|(w64<|(j8 x.1.2.2.2.1:Int)+(j8 x.1.2.2.2.2.1:Int))+1)) then I ((x.1,A0,()),()) else if U (x.2.1.2.2.1=x.1.1) then(PZ (x.1.2.2.2.2.2.1,x.2)).bind λe=>(Rp (x.1.2.2.2.2.1,(x.2.1.1,x.2.1.2.1,x.2.1.2.2.2.1,()),())).bind λf=>I (((x.1.1,x.1.2.1,x.1.2.2.1,x.1.2.2.2.1,f.1.1,e.1),Y,()),()) else(PZ (x.1.2.2.2.1,x.2)).bind λg=>I (((x.1.1,x.1.2.1,x.1.2.2.1,g.1.1,x.1.2.2.2.2),Y,()),())
def zO:Ent:=(241,G,⟨[Z8,Z6],[Z8,.bool],Vg⟩)
def ahr:o6 zO:=sk (v:= .nil) (fn:=f241) aoX kN
def anJ:Cx:=cX [No,zO,gH] [] [(19,23),(38,42),(59,66)]
def aoR:o9 anJ:=v7<|gC PD<|gC ahr<|gC tv<|AI
def Ve(x:Y3×A1×Y4×D):Option ((Y3×Bool×D)×D):=(BT (X:=A1×Y3×Y4×Y3×Bool×D) (λa=>if a.2.2.2.2.1 then let c:=(w64<|a.2.1.2.2.1+1);(Vg ((a.2.1.1,a.2.1.2.1,c,a.2.1.2.2.2),a.2.2.1,())).bind λd=>I (d.1,()) else let e:=((U<|a.1=(B [116,97,107,101]))&&(!decide (a.2.2.1.1=a.2.1.1)));(if e then(Vg (a.2.1,a.2.2.1,())).bind λf=>I (f.1,()) else(IL (a.2.1.2.2.2.1,a.2.2.1.1,a.2.2.1.2.1,())).bind λb=>if An (!(U<|0<=b.1.1)) ((IL (a.2.1.2.2.2.2.2.1,a.2.2.1.1,a.2.2.1.2.1,())).isSome) then let g:=((U<|0<=b.1.1)||(U<|0<=((IL (a.2.1.2.2.2.2.2.1,a.2.2.1.1,a.2.2.1.2.1,())).getD ((0,()),())).1.1));(if g then I ((a.2.1,A0,()),()) else let h:=(U<|a.1=(B [104,101,108,100]));(if h then(PZ (a.2.1.2.2.2.1,a.2.2.1,())).bind λi=>I (((a.2.1.1,a.2.1.2.1,a.2.1.2.2.1,i.1.1,a.2.1.2.2.2.2),Y,()),()) else let j:=(U<|a.1=(B [105,110,98,111,120]));(if j then(PZ (a.2.1.2.2.2.2.2.1,a.2.2.1,())).bind λk=>I (((a.2.1.1,a.2.1.2.1,a.2.1.2.2.1,a.2.1.2.2.2.1,a.2.1.2.2.2.2.1,k.1),Y,()),()) else I ((a.2.1,A0,()),())))) else G))<|(if U (x.2.1=(B [111,119,110])) then let l:=((U<|x.2.2.1.1=x.1.1)&&(U<|x.2.2.1.2.1=x.1.2.2.1));I (.inr (x.2.1,x.1,x.2.2.1,(0,0,0,([]:List A3),([]:List Mark),([]:List A3),()),l,())) else I (.inr (x.2.1,x.1,x.2.2.1,(0,0,0,([]:List A3),([]:List Mark),([]:List A3),()),A0,()))))
def zH:Ent:=(201,G,⟨[Z8,.str,Z6],[Z8,.bool],Ve⟩)
def ah4:o6 zH:=sk (v:=t1<|.two (.one<|.join [(1,.str),(3,Z7),(5,Z5),(6,Z9),(8,.bool)] .nil .nil) .nil) (fn:=f201) aoR kN
def akF:Cx:=cX [] [] []
def an0:o9 akF:=v7<|AI
def Rl(x:List A3×o4):Option ((List A3×D)×D):=if U (0<=x.2.1)&&U (x.2.1<=(j8 x.1:Int)) then if Ab (([]:List A3).length+(BR (AK x.2.1) x.1).length) then if U (0<=(w64<|x.2.1+1))&&U ((w64<|x.2.1+1)<=(j8 x.1:Int)) then if Ab ((([]:List A3)++(BR (AK x.2.1) x.1)).length+(Bo (AK<|w64<|x.2.1+1) x.1).length) then I ((((([]:List A3)++(BR (AK x.2.1) x.1))++(Bo (AK<|w64<|x.2.1+1) x.1)),()),()) else G else G else G else G
def xz:Ent:=(244,G,⟨[.fz .note,j6],[.row 36 .note],Rl⟩)
def agU:o6 xz:=sk (v:= .nil) (fn:=f244) an0 kN
def anK:Cx:=cX [No,Vm,xz,gI] [] [(41,49),(70,78),(90,91)]
def aoS:o9 anK:=v7<|gC PD<|gC bW<|gC agU<|gC u7<|AI
def Vf(x:Y3×A1×Y5×D):Option ((Y3×Bool×D)×D):=(IL (x.1.2.2.2.1,x.2.2.1.1,x.2.2.1.2.1,())).bind λc=>(IL (x.1.2.2.2.2.2.1,x.2.2.1.1,x.2.2.1.2.1,())).bind λd=>(KU (x.1.2.2.2.2.1,x.2.2.1.1,x.2.2.1.2.1,())).bind λe=>(BT (X:=A1×Y3×Y5×Y3×Int×Int×Bool×Bool×D) (λa=>if a.2.2.2.2.2.2.2.1 then(Rl (a.2.1.2.2.2.1,a.2.2.2.2.1,())).bind λf=>(Rp (a.2.1.2.2.2.2.1,a.2.2.1,())).bind λg=>I (((a.2.1.1,a.2.1.2.1,a.2.1.2.2.1,f.1.1,g.1.1,a.2.1.2.2.2.2.2),Y,()),()) else(BT (X:=A1×Y3×Y5×Y3×Int×Bool×Bool×D) (λb=>if b.2.2.2.2.2.2.1 then(Rl (b.2.1.2.2.2.2.2.1,b.2.2.2.2.1,())).bind λh=>I (((b.2.1.1,b.2.1.2.1,b.2.1.2.2.1,b.2.1.2.2.2.1,b.2.1.2.2.2.2.1,h.1),Y,()),()) else let i:=((U<|b.1=(B [109,97,114,107]))&&(!b.2.2.2.2.2.1));(if i then(Rp (b.2.1.2.2.2.2.1,b.2.2.1,())).bind λj=>I (((b.2.1.1,b.2.1.2.1,b.2.1.2.2.1,b.2.1.2.2.2.1,j.1.1,b.2.1.2.2.2.2.2),Y,()),()) else I ((b.2.1,A0,()),())))<|(if U (a.1=(B [101,97,116])) then if An (U<|0<=a.2.2.2.2.2.1) (inb a.2.2.2.2.2.1 a.2.1.2.2.2.2.2.1.length) then let k:=((U<|0<=a.2.2.2.2.2.1)&&(U<|(rd y7 a.2.1.2.2.2.2.2.1 a.2.2.2.2.2.1).un=a.2.2.1.2.2.1));I (.inr (a.1,a.2.1,a.2.2.1,a.2.2.2.1,a.2.2.2.2.2.1,a.2.2.2.2.2.2.1,k,())) else G else if An A0 (inb a.2.2.2.2.2.1 a.2.1.2.2.2.2.2.1.length) then I (.inr (a.1,a.2.1,a.2.2.1,a.2.2.2.1,a.2.2.2.2.2.1,a.2.2.2.2.2.2.1,A0,())) else G)))<|(if U (x.2.1=(B [108,101,116])) then if An (U<|0<=c.1.1) (inb c.1.1 x.1.2.2.2.1.length) then let l:=((U<|0<=c.1.1)&&(U<|(rd y7 x.1.2.2.2.1 c.1.1).un=x.2.2.1.2.2.1));I (.inr (x.2.1,x.1,x.2.2.1,(0,0,0,([]:List A3),([]:List Mark),([]:List A3),()),c.1.1,d.1.1,(U<|0<=e.1.1),l,())) else G else if An A0 (inb c.1.1 x.1.2.2.2.1.length) then I (.inr (x.2.1,x.1,x.2.2.1,(0,0,0,([]:List A3),([]:List Mark),([]:List A3),()),c.1.1,d.1.1,(U<|0<=e.1.1),A0,())) else G))
def zI:Ent:=(204,G,⟨[Z8,.str,Z11],[Z8,.bool],Vf⟩)
def ah5:o6 zI:=sk (v:=t1<|t1<|t1<|.two (.one<|.join [(1,.str),(3,Z7),(5,Z10),(6,Z9),(8,j6),(9,j6),(10,.bool),(33,.bool)] .nil<|t1<|.join [(1,.str),(3,Z7),(5,Z10),(6,Z9),(9,j6),(10,.bool),(62,.bool)] .nil .nil) .nil) (fn:=f204) aoS kN
def aon:Cx:=cX [du,yu,zt,xG,zH,rX,wq,zI] [] [(69,71)]
def apJ:o9 aon:=v7<|gC q5<|gC agZ<|gC aid<|gC afQ<|gC ah4<|gC ado<|gC af8<|gC ah5<|AI
def Vu(x:Y3×A1×D):Option ((Y3×Bool×D)×D):=(VX (x.2.1,(B [32]),())).bind λc=>if !c.1.2.2.1 then I ((x.1,A0,()),()) else(BT (X:=Y3×Y3×A1×A1×A1×Bool×D) (λa=>if a.2.2.2.2.2.1 then(PT (a.2.2.2.1,())).bind λf=>if f.1.2.1 then(Vz (a.1,a.2.2.1,f.1.1,())).bind λn=>I (n.1,()) else I ((a.1,A0,()),()) else(BT (X:=Y3×Y3×A1×A1×A1×Bool×D) (λb=>if b.2.2.2.2.2.1 then(VC (b.2.2.2.1,())).bind λg=>if g.1.2.1 then(Ve (b.1,b.2.2.1,g.1.1,())).bind λo=>I (o.1,()) else I ((b.1,A0,()),()) else(BT (X:=Y3×Y3×A1×A1×Bool×D) (λe=>if e.2.2.2.2.1 then(cW (e.2.2.2.1,(B [32]),())).bind λp=>(RY p.1).bind λd=>if d.1.2.1&&(U<|(j8 d.1.1:Int)=3) then if inb 0 d.1.1.length then if inb 1 d.1.1.length then if inb 2 d.1.1.length then(Vf (e.1,e.2.2.1,((rd aEo d.1.1 0),(rd aEo d.1.1 1),(rd aEo d.1.1 2),()),())).bind λq=>I (q.1,()) else G else G else G else I ((e.1,A0,()),()) else I ((e.1,A0,()),())) (let h:=(U<|b.2.2.2.2.1=(B [108,101,116]));(if h then I (.inr (b.1,b.2.1,b.2.2.1,b.2.2.2.1,h,())) else let i:=(U<|b.2.2.2.2.1=(B [101,97,116]));(if i then I (.inr (b.1,b.2.1,b.2.2.1,b.2.2.2.1,i,())) else let r:=(U<|b.2.2.2.2.1=(B [109,97,114,107]));I (.inr (b.1,b.2.1,b.2.2.1,b.2.2.2.1,r,()))))))) (let j:=(U<|a.2.2.2.2.1=(B [111,119,110]));(if j then I (.inr (a.1,a.2.1,a.2.2.1,a.2.2.2.1,a.2.2.2.2.1,j,())) else let k:=(U<|a.2.2.2.2.1=(B [116,97,107,101]));(if k then I (.inr (a.1,a.2.1,a.2.2.1,a.2.2.2.1,a.2.2.2.2.1,k,())) else let l:=(U<|a.2.2.2.2.1=(B [104,101,108,100]));(if l then I (.inr (a.1,a.2.1,a.2.2.1,a.2.2.2.1,a.2.2.2.2.1,l,())) else let s:=(U<|a.2.2.2.2.1=(B [105,110,98,111,120]));I (.inr (a.1,a.2.1,a.2.2.1,a.2.2.2.1,a.2.2.2.2.1,s,())))))))) (let m:=(U<|c.1.1=(B [116,105,109,101]));(if m then I (.inr (x.1,(0,0,0,([]:List A3),([]:List Mark),([]:List A3),()),c.1.1,c.1.2.1,c.1.1,m,())) else let t:=(U<|c.1.1=(B [110,101,120,116]));I (.inr (x.1,(0,0,0,([]:List A3),([]:List Mark),([]:List A3),()),c.1.1,c.1.2.1,c.1.1,t,())))))
def zu:Ent:=(159,G,⟨[Z8,.str],[Z8,.bool],Vu⟩)
def aie:o6 zu:=sk (v:=t1<|t1<|t1<|.two (t1<|.one<|.join [(2,Z7),(4,Z9),(6,.str),(7,.str),(24,.str),(25,.bool)] .nil<|t1<|.join [(2,Z7),(4,Z9),(6,.str),(7,.str),(24,.str),(40,.bool)] .nil<|t1<|.join [(2,Z7),(4,Z9),(6,.str),(7,.str),(57,.bool)] .nil .nil) .nil) (fn:=f159) apJ kN
def afb:Cx:=cX [] [] []
def agw:o9 afb:=v7<|AI
def q9(x:List Mark×D):Option ((List Mark×D)×D):=if U ((j8 x.1:Int)=0) then I ((([]:List Mark),()),()) else if U (0<=(j8 x.1:Int))&&U ((j8 x.1:Int)<=4294967296) then I (((BR (BS (AK (j8 x.1:Int))<|dfl .mark).length x.1++Bo x.1.length (BS (AK (j8 x.1:Int))<|dfl .mark)),()),()) else G
def sF:Ent:=(205,G,⟨[.fz .mark],[.row 61 .mark],q9⟩)
def aeC:o6 sF:=sk (v:= .nil) (fn:=f205) agw kN
def ajA:Cx:=cX [pr,sF] [] []
def al6:o9 ajA:=v7<|gC ad5<|gC aeC<|AI
def RZ(x:Y3×D):Option ((Y3×D)×D):=(NY (x.1.2.2.2.1,())).bind λa=>(q9 (x.1.2.2.2.2.1,())).bind λb=>(NY x.1.2.2.2.2.2).bind λc=>I (((x.1.1,x.1.2.1,x.1.2.2.1,a.1.1,b.1.1,c.1),()),())
def xD:Ent:=(160,G,⟨[Z8],[Z4],RZ⟩)
def afM:o6 xD:=sk (v:= .nil) (fn:=f160) al6 kN
def anU:Cx:=cX [gL,zu,xD] [] [(22,24)]
def aoZ:o9 anU:=v7<|gC tB<|gC aie<|gC afM<|AI
def Ru(x:Y3×A1×D):Option ((Y3×Bool×D)×D):=(Pa (x.1,())).bind λb=>if !b.1.1 then I (((0,0,0,([]:List A3),([]:List Mark),([]:List A3),()),A0,()),()) else(RZ (x.1,())).bind λc=>(Vu (c.1.1,x.2)).bind λa=>if An (!(!a.1.2.1)) ((Pa (a.1.1,())).isSome) then if(!a.1.2.1)||(!(((Pa (a.1.1,())).getD ((A0,()),())).1.1)) then(RZ (x.1,())).bind λd=>I ((d.1.1,A0,()),()) else(RZ (a.1.1,())).bind λe=>I ((e.1.1,Y,()),()) else G
def gM:Ent:=(121,G,⟨[Z8,.str],[Z4,.bool],Ru⟩)
def tC:o6 gM:=sk (v:= .nil) (fn:=f121) aoZ kN
def anT:Cx:=cX [Ix,vW,gM] [] []
def z6:o9 anT:=v7<|gC JY<|gC aex<|gC tC<|AI
def VL(x:Y3×Y3×List A1×y8):Rnd (Y3×Y3×List A1×y8) (Y3×Bool×D) (Y3×Y3×D):=if U (x.2.2.2.2.1<x.2.2.2.1) then if inb x.2.2.2.2.1 x.2.2.1.length then let b:=(rd aEv x.2.2.1 x.2.2.2.2.1);(Ru (x.2.1,b,())).bind λa=>if !a.1.2.1 then I (.inr<|.inl ((0,0,0,([]:List A3),([]:List Mark),([]:List A3),()),A0,())) else I (.inl (x.1,a.1.1,x.2.2.1,x.2.2.2.1,(w64<|x.2.2.2.2.1+1),())) else G else I (.inr<|.inr (x.1,x.2.1,()))
def qS:=AZ VL
def wm:Loop:=⟨[(4,Z9),(6,Z9),(17,.sl .str),(18,j6),(19,j6)],[(4,Z9),(6,Z9)],0,[(4,Z9),(5,.bool)],qS⟩
def amf:LF f82 [] [1,1,1,0,1,0,0] wm:=sq (v:= .nil) z6 (b:=VL) kN
def fI(x:Int×List A1×D):Option ((Y3×Bool×D)×D):=(FV (x.1,())).bind λb=>if !b.1.1 then I (((0,0,0,([]:List A3),([]:List Mark),([]:List A3),()),A0,()),()) else(cL (x.1,())).bind λc=>(AP (qS ((0,0,0,([]:List A3),([]:List Mark),([]:List A3),()),c.1.1,x.2.1,(j8 x.2.1:Int),0,())) (λa=>I (a,())) λa=>I ((a.2.1,Y,()),()))
def zP:Ent:=(82,G,⟨[j6,.fz .str],[Z4,.bool],fI⟩)
def ahy:o6 zP:=sk (v:=t1<|t1<|t1<|.two (t1<|.one<|.loop wm) .nil) (fn:=f82) z6<|kC amf kN
def akD:Cx:=cX [bp,zP] [] []
def amz:o9 akD:=v7<|gC oo<|gC ahy<|AI
def LP(x:Int×A1×D):Option ((Y3×Bool×D)×D):=(PI x.2).bind λa=>(fI (x.1,a.1.1,())).bind λb=>I (b.1,())
def dt:Ent:=(43,G,⟨[j6,.str],[Z4,.bool],LP⟩)
def py:o6 dt:=sk (v:= .nil) (fn:=f43) amz kN
def alL:Cx:=cX [FK,bp] [] [(12,18),(41,44)]
def an3:o9 alL:=v7<|gC FW<|gC oo<|AI
def Nf(x:Y7×D):Option ((Bool×D)×D):=if An (!(U<|2400<(x.1.1.size:Int))) ((C6 (x.1.2.1,0,(x.1.1.size:Int),())).isSome) then if(U<|2400<(x.1.1.size:Int))||(!(((C6 (x.1.2.1,0,(x.1.1.size:Int),())).getD ((A0,()),())).1.1)) then I ((A0,()),()) else(PI (x.1.1,())).bind λa=>if U (0<=x.1.2.1)&&U (x.1.2.1<=(x.1.1.size:Int)) then(PI ((x.1.1.extract (0)<|AK x.1.2.1),())).bind λb=>let c:=((U<|a.1.2.1=(x.1.1.size:Int))&&(U<|b.1.2.1=x.1.2.1));I ((c,()),()) else G else G
def Rj:Ent:=(78,G,⟨[Z15],[.bool],Nf⟩)
def UO:o6 Rj:=sk (v:= .nil) (fn:=f78) an3 kN
def anG:Cx:=cX [FK,Ix] [] [(54,57)]
def gO:o9 anG:=v7<|gC FW<|gC JY<|AI
def eP(x:Y9×Y8×List AN×Int×Int×List AN×y8):Rnd (Y9×Y8×List AN×Int×Int×List AN×y8) (Bool×D) (Y9×List AN×y8):=if U (x.2.2.2.2.2.2.2.1<x.2.2.2.2.2.2.1) then if inb x.2.2.2.2.2.2.2.1 x.2.2.2.2.2.1.length then let a:=(rd aEx x.2.2.2.2.2.1 x.2.2.2.2.2.2.2.1).nu;let b:=(rd aEx x.2.2.2.2.2.1 x.2.2.2.2.2.2.2.1).da;if U (a=x.2.1.1) then I (.inr<|.inl (A0,())) else I (.inl (x.1,x.2.1,x.2.2.1,x.2.2.2.1,x.2.2.2.2.1,x.2.2.2.2.2.1,x.2.2.2.2.2.2.1,(w64<|x.2.2.2.2.2.2.2.1+1),())) else G else I (.inr<|.inr (x.1,x.2.2.1,x.2.2.2.1,x.2.2.2.2.1,()))
def qe:=AZ eP
def vl:Loop:=⟨[(1,Z17),(4,Z32),(42,.sl .mixed),(43,j6),(44,j6),(62,.sl .mixed),(63,j6),(64,j6)],[(1,Z17),(42,.sl .mixed),(43,j6),(44,j6)],2,[(2,.bool)],qe⟩
def am3:LF f79 [] [1,1,0,1,0,0,1,1,0,0,1,1,1,0,0] vl:=sq (v:= .nil) gO (b:=eP) kN
def eQ(x:Y9×List AN×y8):Rnd (Y9×List AN×y8) (Bool×D) D:=if U (x.2.2.2.1<x.2.2.1) then if inb x.2.2.2.1 x.2.1.length then let b:=(rd aEx x.2.1 x.2.2.2.1).nu;let c:=(rd aEx x.2.1 x.2.2.2.1).da;(C6 (b,0,999,())).bind λd=>if(!d.1.1)||(!decide ((c.size:Int)=4)) then I (.inr<|.inl (A0,())) else if U (0<=x.2.2.2.1)&&U (x.2.2.2.1<=(j8 x.1.2.2.2.2.2.1:Int)) then(AP (qe (x.1,(b,c,()),x.2.1,x.2.2.1,x.2.2.2.1,(BR (AK x.2.2.2.1) x.1.2.2.2.2.2.1),((BR (AK x.2.2.2.1) x.1.2.2.2.2.2.1).length:Int),0,())) (λa=>I<|.inr<|.inl a) λa=>I<|.inl (a.1,a.2.1,a.2.2.1,(w64<|a.2.2.2.1+1),())) else G else G else I (.inr<|.inr ())
def qf:=AZ eQ
def vm:Loop:=⟨[(1,Z17),(42,.sl .mixed),(43,j6),(44,j6)],[],0,[(2,.bool)],qf⟩
def alx:LF f79 [] [1,1,0,1,0,0] vm:=sq (v:=t1<|t1<|.two (.one<|t1<|t1<|t1<|.one<|.loop vl) .nil) gO (b:=eQ)<|kC am3 kN
def fD(x:Y9×D):Option ((Bool×D)×D):=(FV (x.1.1,())).bind λb=>if !b.1.1 then I ((A0,()),()) else(FV (x.1.2.2.1,())).bind λc=>if !c.1.1 then I ((A0,()),()) else(C6 (x.1.2.1,1,99,())).bind λd=>if !d.1.1 then I ((A0,()),()) else(C6 (x.1.2.2.2.1,1,999,())).bind λe=>if !e.1.1 then I ((A0,()),()) else(C6 (x.1.2.2.2.2.1,1,24,())).bind λf=>if !f.1.1 then I ((A0,()),()) else if U (14<(j8 x.1.2.2.2.2.2.1:Int)) then I ((A0,()),()) else(AP (qf (x.1,x.1.2.2.2.2.2.1,(j8 x.1.2.2.2.2.2.1:Int),0,())) (λa=>I (a,())) λa=>I ((Y,()),()))
def zG:Ent:=(79,G,⟨[Z18],[.bool],fD⟩)
def ah3:o6 zG:=sk (v:=t1<|t1<|.two (t1<|.one<|.loop vm) .nil) (fn:=f79) gO<|kC alx kN
def anH:Cx:=cX [] [] [(21,24)]
def yy:o9 anH:=v7<|AI
def VJ(x:Int×Int×List AE×y8):Rnd (Int×Int×List AE×y8) (o4) D:=if U (x.2.2.2.2.1<x.2.2.2.1) then if inb x.2.2.2.2.1 x.2.2.1.length then let a:=(rd aEl x.2.2.1 x.2.2.2.2.1).fr;let b:=(rd aEl x.2.2.1 x.2.2.2.2.1).nu;let c:=(rd aEl x.2.2.1 x.2.2.2.2.1).to;let d:=(rd aEl x.2.2.1 x.2.2.2.2.1).un;let e:=(rd aEl x.2.2.1 x.2.2.2.2.1).sz;let f:=(rd aEl x.2.2.1 x.2.2.2.2.1).got;if(U<|a=x.1)&&(U<|b=x.2.1) then I (.inr<|.inl x.2.2.2.2) else I (.inl (x.1,x.2.1,x.2.2.1,x.2.2.2.1,(w64<|x.2.2.2.2.1+1),())) else G else I (.inr<|.inr ())
def qg:=AZ VJ
def vn:Loop:=⟨[(1,j6),(2,j6),(9,.sl .half),(10,j6),(11,j6)],[],0,[(6,j6)],qg⟩
def aly:LF f80 [] [1,0,1,0,0] vn:=sq (v:= .nil) yy (b:=VJ) kN
def Rr(x:List AE×y8):Option ((o4)×D):=(AP (qg (x.2.1,x.2.2.1,x.1,(j8 x.1:Int),0,())) (λa=>I (a,())) λa=>I (((-1),()),()))
def gJ:Ent:=(80,G,⟨[.fz .half,j6,j6],[j6],Rr⟩)
def u9:o6 gJ:=sk (v:=t1<|.two (t1<|.one<|.loop vn) .nil) (fn:=f80) yy<|kC aly kN
def ajG:Cx:=cX [dt,Ix,Rj,zG,gJ] [] [(61,62),(76,84)]
def wX:o9 ajG:=v7<|gC py<|gC JY<|gC UO<|gC ah3<|gC u9<|AI
def cK(x:Y1×List AE×y8):Rnd (Y1×List AE×y8) (Bool×D) D:=if U (x.2.2.2.1<x.2.2.1) then if inb x.2.2.2.1 x.2.1.length then let a:=(rd aEl x.2.1 x.2.2.2.1).fr;let b:=(rd aEl x.2.1 x.2.2.2.1).nu;let d:=(rd aEl x.2.1 x.2.2.2.1).to;let e:=(rd aEl x.2.1 x.2.2.2.1).un;let f:=(rd aEl x.2.1 x.2.2.2.1).sz;let g:=(rd aEl x.2.1 x.2.2.2.1).got;(fD ((a,b,d,e,f,g,()),())).bind λc=>if An (!(!c.1.1)) ((Rr (x.1.2.2.2.2.1,a,b,())).isSome) then if(!c.1.1)||(U<|((Rr (x.1.2.2.2.2.1,a,b,())).getD ((0,()),())).1.1<x.2.2.2.1) then I (.inr<|.inl (A0,())) else I (.inl (x.1,x.2.1,x.2.2.1,(w64<|x.2.2.2.1+1),())) else G else G else I (.inr<|.inr ())
def ab:=AZ cK
def su:Loop:=⟨[(1,Z19),(65,.sl .half),(66,j6),(67,j6)],[],0,[(2,.bool)],ab⟩
def aiW:LF f42 [] [1,1,1,1,1,0,1,0,0] su:=sq (v:= .nil) wX (b:=cK) kN
def Hm(x:Y1×D):Option ((Bool×D)×D):=(BT (X:=Y1×D) (λa=>(LP (a.1.1,a.1.2.2.1,())).bind λc=>if U (0<=a.1.2.2.2.1)&&U (a.1.2.2.2.1<=(a.1.2.2.1.size:Int)) then(LP (a.1.1,(a.1.2.2.1.extract (0)<|AK a.1.2.2.2.1),())).bind λd=>if(!c.1.2.1)||(!d.1.2.1) then I ((A0,()),()) else(AP (ab (a.1,a.1.2.2.2.2.1,(j8 a.1.2.2.2.2.1:Int),0,())) (λb=>I (b,())) λb=>I ((Y,()),())) else G)<|(FV (x.1.1,())).bind λe=>if !e.1.1 then I (.inl ((A0,()),())) else(Nf ((x.1.2.2.1,x.1.2.2.2.1,()),())).bind λf=>if !f.1.1 then I (.inl ((A0,()),())) else if U (3<(j8 x.1.2.2.2.2.1:Int)) then I (.inl ((A0,()),())) else if !x.1.2.1 then if U (0<(j8 x.1.2.2.2.2.1:Int)) then I (.inl ((A0,()),())) else I (.inr x) else I (.inr x))
def Jc:Ent:=(42,G,⟨[Z12],[.bool],Hm⟩)
def KP:o6 Jc:=sk (v:=t1<|.join [(1,Z19)] .nil<|t1<|t1<|t1<|.two (t1<|.one<|.loop su) .nil) (fn:=f42) wX<|kC aiW kN
def aiD:Cx:=cX [Jc,dt] [] []
def aj6:o9 aiD:=v7<|gC KP<|gC py<|AI
def Iu(x:Y1×D):Option ((Y3×D)×D):=(Hm x).bind λa=>if !a.1.1 then I (((0,0,0,([]:List A3),([]:List Mark),([]:List A3),()),()),()) else(LP (x.1.1,x.1.2.2.1,())).bind λb=>I ((b.1.1,()),())
def LM:Ent:=(18,G,⟨[Z12],[Z4],Iu⟩)
def MJ:o6 LM:=sk (v:= .nil) (fn:=f18) aj6 kN
def aoi:Cx:=cX [FK] [] []
def apV:o9 aoi:=v7<|gC FW<|AI
def fU(x:A1×D):Option ((Bool×D)×D):=(C6 ((x.1.size:Int),1,60,())).bind λa=>I (a.1,())
def iK:Ent:=(192,G,⟨[.str],[.bool],fU⟩)
def vS:o6 iK:=sk (v:= .nil) (fn:=f192) apV kN
def an9:Cx:=cX [Rh] [] []
def aoN:o9 an9:=v7<|gC UI<|AI
def PY(x:A1×D):Option ((A1×D)×D):=(Iy ((x.1.size:Int),())).bind λa=>if U (a.1.1.size+(B [58]).size<=4611686018427387904) then if U ((a.1.1++(B [58])).size+x.1.size<=4611686018427387904) then if U (((a.1.1++(B [58]))++x.1).size+(B [59]).size<=4611686018427387904) then let b:=(((a.1.1++(B [58]))++x.1)++(B [59]));I ((b,()),()) else G else G else G
def gG:Ent:=(193,G,⟨[.str],[.str],PY⟩)
def tu:o6 gG:=sk (v:= .nil) (fn:=f193) aoN kN
def ahT:Cx:=cX [Rj,iK,gG] [] [(23,25)]
def vc:o9 ahT:=v7<|gC UO<|gC vS<|gC tu<|AI
def RA(x:Y7×Y7×A1×List A1×y8):Rnd (Y7×Y7×A1×List A1×y8) (Y7×Bool×D) (Y7×Y7×A1×D):=if U (x.2.2.2.2.2.1<x.2.2.2.2.1) then if inb x.2.2.2.2.2.1 x.2.2.2.1.length then let a:=(rd aEv x.2.2.2.1 x.2.2.2.2.2.1);(fU (a,())).bind λc=>if(!c.1.1)||(U<|2400<(x.2.2.1.size:Int)) then I (.inr<|.inl (x.1,A0,())) else(PY (a,())).bind λb=>if U (x.2.2.1.size+b.1.1.size<=4611686018427387904) then I (.inl (x.1,x.2.1,(x.2.2.1++b.1.1),x.2.2.2.1,x.2.2.2.2.1,(w64<|x.2.2.2.2.2.1+1),())) else G else G else I (.inr<|.inr (x.1,x.2.1,x.2.2.1,()))
def R7:=AZ RA
def sS:Loop:=⟨[(2,Z21),(4,Z21),(6,.str),(13,.sl .str),(14,j6),(15,j6)],[(2,Z21),(4,Z21),(6,.str)],0,[(4,Z21),(5,.bool)],R7⟩
def ahM:LF f155 [] [1,1,1,0,1,0,0] sS:=sq (v:= .nil) vc (b:=RA) kN
def RJ(x:Y7×List A1×D):Option ((Y7×Bool×D)×D):=(Nf (x.1,())).bind λb=>if !b.1.1 then I (((noB,0,()),A0,()),()) else(AP (R7 (x.1,(noB,0,()),noB,x.2.1,(j8 x.2.1:Int),0,())) (λa=>I (a,())) λa=>(if U (2400<(a.2.2.1.size:Int)) then I ((a.1,A0,()),()) else I (((a.2.2.1,(a.2.2.1.size:Int),()),Y,()),())))
def rD:Ent:=(155,G,⟨[Z15,.fz .str],[Z15,.bool],RJ⟩)
def adG:o6 rD:=sk (v:=t1<|t1<|t1<|.two (t1<|.one<|.loop sS) .nil) (fn:=f155) vc<|kC ahM kN
def ahq:Cx:=cX [Rh] [] []
def aj0:o9 ahq:=v7<|gC UI<|AI
def PH(x:A1×aEn):Option ((A1×D)×D):=if U (x.1.size+(B [32]).size<=4611686018427387904) then(Iy (x.2.1,())).bind λa=>if U ((x.1++(B [32])).size+a.1.1.size<=4611686018427387904) then if U (((x.1++(B [32]))++a.1.1).size+(B [32]).size<=4611686018427387904) then(Iy (x.2.2.1,())).bind λb=>if U ((((x.1++(B [32]))++a.1.1)++(B [32])).size+b.1.1.size<=4611686018427387904) then if U (((((x.1++(B [32]))++a.1.1)++(B [32]))++b.1.1).size+(B [32]).size<=4611686018427387904) then(Iy x.2.2.2).bind λc=>if U ((((((x.1++(B [32]))++a.1.1)++(B [32]))++b.1.1)++(B [32])).size+c.1.1.size<=4611686018427387904) then let d:=((((((x.1++(B [32]))++a.1.1)++(B [32]))++b.1.1)++(B [32]))++c.1.1);I ((d,()),()) else G else G else G else G else G else G
def bo:Ent:=(149,G,⟨[.str,j6,j6,j6],[.str],PH⟩)
def og:o6 bo:=sk (v:= .nil) (fn:=f149) aj0 kN
def ajH:Cx:=cX [ao,bo,Uq,Rh,gL] [] []
def cj:o9 ajH:=v7<|gC oR<|gC og<|gC ak<|gC UI<|gC tB<|AI
def cM(x:List A1×List A3×y8):Rnd (List A1×List A3×y8) D (List A1×D):=if U (x.2.2.2.1<x.2.2.1) then if inb x.2.2.2.1 x.2.1.length then let b:=(rd y7 x.2.1 x.2.2.2.1).fr;let c:=(rd y7 x.2.1 x.2.2.2.1).nu;let ayf:=(rd y7 x.2.1 x.2.2.2.1).to;let d:=(rd y7 x.2.1 x.2.2.2.1).un;let aye:=(rd y7 x.2.1 x.2.2.2.1).tx;(MQ ((b,c,ayf,d,aye,()),())).bind λa=>if U ((B [105,110,98,111,120,32]).size+a.1.1.size<=4611686018427387904) then if Ab (x.1.length+([((B [105,110,98,111,120,32])++a.1.1)]:List A1).length) then I (.inl ((x.1++([((B [105,110,98,111,120,32])++a.1.1)]:List A1)),x.2.1,x.2.2.1,(w64<|x.2.2.2.1+1),())) else G else G else G else I (.inr<|.inr (x.1,()))
def ae:=AZ cM
def sw:Loop:=⟨[(3,.row 9 .str),(66,.sl .note),(67,j6),(68,j6)],[(3,.row 9 .str)],4,[],ae⟩
def aip:LF f156 [] [1,1,1,1,1,1,1,0,1,0,0] sw:=sq (v:= .nil) cj (b:=cM) kN
def bh(x:Y3×List A1×List A3×y8):Rnd (Y3×List A1×List A3×y8) D (Y3×List A1×D):=if U (x.2.2.2.2.1<x.2.2.2.1) then if inb x.2.2.2.2.1 x.2.2.1.length then let b:=(rd y7 x.2.2.1 x.2.2.2.2.1).fr;let c:=(rd y7 x.2.2.1 x.2.2.2.2.1).nu;let d:=(rd y7 x.2.2.1 x.2.2.2.2.1).to;let e:=(rd y7 x.2.2.1 x.2.2.2.2.1).un;let f:=(rd y7 x.2.2.1 x.2.2.2.2.1).tx;(MQ ((b,c,d,e,f,()),())).bind λa=>if U ((B [104,101,108,100,32]).size+a.1.1.size<=4611686018427387904) then if Ab (x.2.1.length+([((B [104,101,108,100,32])++a.1.1)]:List A1).length) then I (.inl (x.1,(x.2.1++([((B [104,101,108,100,32])++a.1.1)]:List A1)),x.2.2.1,x.2.2.2.1,(w64<|x.2.2.2.2.1+1),())) else G else G else G else I (.inr<|.inr (x.1,x.2.1,()))
def af:=AZ bh
def sx:Loop:=⟨[(1,Z7),(3,.row 9 .str),(52,.sl .note),(53,j6),(54,j6)],[(1,Z7),(3,.row 9 .str)],2,[],af⟩
def ait:LF f156 [] [1,1,1,1,1,1,0,1,0,0] sx:=sq (v:= .nil) cj (b:=bh) kN
def bj(x:Y3×List A1×List Mark×y8):Rnd (Y3×List A1×List Mark×y8) D (Y3×List A1×D):=if U (x.2.2.2.2.1<x.2.2.2.1) then if inb x.2.2.2.2.1 x.2.2.1.length then let b:=(rd aEs x.2.2.1 x.2.2.2.2.1).mf;let c:=(rd aEs x.2.2.1 x.2.2.2.2.1).mn;let d:=(rd aEs x.2.2.1 x.2.2.2.2.1).mu;(PH ((B [109,97,114,107]),b,c,d,())).bind λa=>if Ab (x.2.1.length+([a.1.1]:List A1).length) then I (.inl (x.1,(x.2.1++([a.1.1]:List A1)),x.2.2.1,x.2.2.2.1,(w64<|x.2.2.2.2.1+1),())) else G else G else I (.inr<|.inr (x.1,x.2.1,()))
def ah:=AZ bj
def tA:Loop:=⟨[(1,Z7),(3,.row 9 .str),(34,.sl .mark),(35,j6),(36,j6)],[(1,Z7),(3,.row 9 .str)],0,[],ah⟩
def aiX:LF f156 [] [1,1,1,1,1,0,1,0,0] tA:=sq (v:= .nil) cj (b:=bj) kN
def VG(x:Y3×D):Option ((List A1×D)×D):=(Pa x).bind λg=>if !g.1.1 then I ((([]:List A1),()),()) else(BT (X:=Y3×List A1×D) (λa=>(BT (X:=Y3×List A1×D) (λb=>(AP (ah (b.1,b.2.1,b.1.2.2.2.2.1,(j8 b.1.2.2.2.2.1:Int),0,())) (λ_=>G) λc=>(AP (af (c.1,c.2.1,c.1.2.2.2.1,(j8 c.1.2.2.2.1:Int),0,())) (λ_=>G) λd=>(AP (ae (d.2.1,d.1.2.2.2.2.2.1,(j8 d.1.2.2.2.2.2.1:Int),0,())) (λ_=>G) λnv=>(R6 nv).bind λh=>I (h.1,())))))<|(if U (1<a.1.2.2.1) then(Iy (a.1.2.2.1,())).bind λe=>if U ((B [110,101,120,116,32]).size+e.1.1.size<=4611686018427387904) then if Ab (a.2.1.length+([((B [110,101,120,116,32])++e.1.1)]:List A1).length) then I (.inr (a.1,(a.2.1++([((B [110,101,120,116,32])++e.1.1)]:List A1)),())) else G else G else I (.inr a))))<|(if U (0<x.1.2.1) then(Iy (x.1.2.1,())).bind λf=>if U ((B [116,105,109,101,32]).size+f.1.1.size<=4611686018427387904) then if Ab ([((B [116,105,109,101,32])++f.1.1)]:List A1).length then I (.inr (x.1,([((B [116,105,109,101,32])++f.1.1)]:List A1),())) else G else G else I (.inr (x.1,([]:List A1),()))))
def rb:Ent:=(156,G,⟨[Z8],[.row 9 .str],VG⟩)
def adZ:o6 rb:=sk (v:=t1<|t1<|t1<|.join [(1,Z7),(3,.row 9 .str)] .nil<|.join [(1,Z7),(3,.row 9 .str)] .nil<|.two (t1<|.one<|.loop tA)<|.two (t1<|.one<|.loop sx)<|.two (t1<|.one<|.loop sw) .nil) (fn:=f156) cj<|kC aiX<|kC ait<|kC aip kN
def ajC:Cx:=cX [Rj,iK,gG] [] [(14,21)]
def al8:o9 ajC:=v7<|gC UO<|gC vS<|gC tu<|AI
def Rb(x:Y7×A1×D):Option ((Y7×Bool×D)×D):=(Nf (x.1,())).bind λc=>if !c.1.1 then I (((noB,0,()),A0,()),()) else(fU x.2).bind λa=>if An (!(!a.1.1)) ((PY x.2).isSome) then if(!a.1.1)||(U<|2400<(w64<|(x.1.1.size:Int)+((((PY x.2).getD ((noB,()),())).1.1).size:Int))) then I ((x.1,A0,()),()) else(PY x.2).bind λb=>if U (x.1.1.size+b.1.1.size<=4611686018427387904) then I ((((x.1.1++b.1.1),x.1.2),Y,()),()) else G else G
def xF:Ent:=(188,G,⟨[Z15,.str],[Z15,.bool],Rb⟩)
def afP:o6 xF:=sk (v:= .nil) (fn:=f188) al8 kN
def apR:Cx:=cX [dt,gM,rD,rb,xF] [] []
def apw:o9 apR:=v7<|gC py<|gC tC<|gC adG<|gC adZ<|gC afP<|AI
def Nr(x:Y1×A1×D):Option ((Y1×Bool×D)×D):=(LP (x.1.1,x.1.2.2.1,())).bind λb=>(Ru (b.1.1,x.2)).bind λe=>if !e.1.2.1 then I ((x.1,A0,()),()) else(Rb ((x.1.2.2.1,x.1.2.2.2.1,()),x.2)).bind λc=>(BT (X:=Y1×Y1×Y7×Bool×D) (λa=>if !a.2.2.2.1 then I ((a.1,A0,()),()) else I (((a.1.1,a.1.2.1,a.2.2.1.1,a.2.2.1.2.1,a.1.2.2.2.2),Y,()),()))<|(if !c.1.2.1 then(VG (b.1.1,())).bind λf=>(RJ ((x.1.2.2.1,x.1.2.2.2.1,()),f.1)).bind λd=>if !d.1.2.1 then I (.inl ((x.1,A0,()),())) else(Rb (d.1.1,x.2)).bind λg=>I (.inr (x.1,(0,A0,noB,0,([]:List AE),()),g.1)) else I (.inr (x.1,(0,A0,noB,0,([]:List AE),()),c.1))))
def WL:Ent:=(148,G,⟨[Z12,.str],[Z12,.bool],Nr⟩)
def rQ:o6 WL:=sk (v:=t1<|t1<|t1<|t1<|.join [(2,Z19),(4,Z20),(10,Z21),(11,.bool)] .nil .nil) (fn:=f148) apw kN
def afv:Cx:=cX [Rj] [] []
def aiQ:o9 afv:=v7<|gC UO<|AI
def bZ(x:Y7×D):Option ((Y7×D)×D):=(Nf x).bind λa=>if !a.1.1 then I (((noB,0,()),()),()) else I (((x.1.1,(x.1.1.size:Int),()),()),())
def tH:Ent:=(194,G,⟨[Z15],[Z15],bZ⟩)
def aeP:o6 tH:=sk (v:= .nil) (fn:=f194) aiQ kN
def anI:Cx:=cX [tH] [] []
def aoQ:o9 anI:=v7<|gC aeP<|AI
def Nl(x:Y1×D):Option ((Y1×D)×D):=(bZ ((x.1.2.2.1,x.1.2.2.2.1,()),())).bind λa=>I (((x.1.1,x.1.2.1,a.1.1.1,a.1.1.2.1,x.1.2.2.2.2),()),())
def fK:Ent:=(157,G,⟨[Z12],[Z12],Nl⟩)
def qh:o6 fK:=sk (v:= .nil) (fn:=f157) aoQ kN
def anO:Cx:=cX [] [] []
def aoW:o9 anO:=v7<|AI
def fG(x:Int×Y6×D):Option ((List Frame×D)×D):=I ((([(Frame.mk x.1 x.2.1.2.2.1 x.2.1.2.1 x.2.1.2.2.2.1 x.2.1.2.2.2.2.1 x.2.1.2.2.2.2.2.1 x.2.1.2.2.2.2.2.2.1 0 0 noB)]:List Frame),()),())
def zM:Ent:=(184,G,⟨[j6,Z13],[.row 124 .frame],fG⟩)
def ah9:o6 zM:=sk (v:= .nil) (fn:=f184) aoW kN
def apS:Cx:=cX [] [(28,28)] []
def aAA:o9 apS:=v7<|AI
def fV(x:Y8×List AN×List AN×y8):Rnd (Y8×List AN×List AN×y8) D (Y8×List AN×D):=if U (x.2.2.2.2.1<x.2.2.2.1) then if inb x.2.2.2.2.1 x.2.2.1.length then let a:=(rd aEx x.2.2.1 x.2.2.2.2.1).nu;let b:=(rd aEx x.2.2.1 x.2.2.2.2.1).da;if !decide (a=x.1.1) then if Ab (x.2.1.length+([(AN.mk a b)]:List AN).length) then I (.inl (x.1,(x.2.1++([(AN.mk a b)]:List AN)),x.2.2.1,x.2.2.2.1,(w64<|x.2.2.2.2.1+1),())) else G else I (.inl (x.1,x.2.1,x.2.2.1,x.2.2.2.1,(w64<|x.2.2.2.2.1+1),())) else G else I (.inr<|.inr (x.1,x.2.1,()))
def cZ:=AZ fV
def yp:Loop:=⟨[(3,Z32),(5,.row 142 .mixed),(8,.sl .mixed),(9,j6),(10,j6)],[(3,Z32),(5,.row 142 .mixed)],0,[],cZ⟩
def ap9:LF f186 [] [1,1,0,1,0,0] yp:=sq (v:= .nil) aAA (b:=fV) kN
def WR(x:List AN×Y8×D):Option ((List AN×D)×D):=(AP (cZ (x.2.1,([]:List AN),x.1,(j8 x.1:Int),0,())) (λ_=>G) λa=>(if U (14<=(j8 a.2.1:Int)) then if U (0<=1)&&U (1<=(j8 a.2.1:Int)) then if Ab ((Bo (AK 1) a.2.1).length+([(AN.mk a.1.1 a.1.2.1)]:List AN).length) then I ((((Bo (AK 1) a.2.1)++([(AN.mk a.1.1 a.1.2.1)]:List AN)),()),()) else G else G else if Ab (a.2.1.length+([(AN.mk a.1.1 a.1.2.1)]:List AN).length) then I (((a.2.1++([(AN.mk a.1.1 a.1.2.1)]:List AN)),()),()) else G))
def aAV:Ent:=(186,G,⟨[.fz .mixed,Z16],[.row 142 .mixed],WR⟩)
def akH:o6 aAV:=sk (v:=t1<|t1<|.two (t1<|.one<|.loop yp) .nil) (fn:=f186) aAA<|kC ap9 kN
def aol:Cx:=cX [FK] [] [(8,9)]
def apX:o9 aol:=v7<|gC FW<|AI
def Vy(x:y8):Option ((Bool×D)×D):=(C6 (x.1,1,6,())).bind λa=>if An a.1.1 ((C6 (x.2.1,0,999,())).isSome) then let b:=(a.1.1&&(((C6 (x.2.1,0,999,())).getD ((A0,()),())).1.1));I ((b,()),()) else G
def iL:Ent:=(232,G,⟨[j6,j6],[.bool],Vy⟩)
def ui:o6 iL:=sk (v:= .nil) (fn:=f232) apX kN
def ajD:Cx:=cX [FK] [] []
def al9:o9 ajD:=v7<|gC FW<|AI
def PN(x:o4):Option ((o4)×D):=(C6 (x.1,0,65535,())).bind λa=>if !a.1.1 then I ((0,()),()) else let b:=(BJ (w64<|(w64<|25173 * x.1)+13849) 65536);I ((b,()),())
def rY:Ent:=(233,G,⟨[j6],[j6],PN⟩)
def adX:o6 rY:=sk (v:= .nil) (fn:=f233) al9 kN
def ahY:Cx:=cX [iL,rY] [] []
def rI:o9 ahY:=v7<|gC ui<|gC adX<|AI
def uA(x:Int×List Int×aEn):Rnd (Int×List Int×aEn) (o4) (o4):=if U (x.2.2.2.2.1<=x.1) then if inb x.2.2.2.2.1 x.2.1.length then let a:=(w64<|x.2.2.2.1+(rd aEo x.2.1 x.2.2.2.2.1));(if U (x.2.2.1<a) then I (.inr<|.inl x.2.2.2.2) else I (.inl (x.1,x.2.1,x.2.2.1,a,(w64<|x.2.2.2.2.1+1),()))) else G else I (.inr<|.inr (x.1,()))
def al:=AZ uA
def sX:Loop:=⟨[(0,j6),(5,.row 3 .int),(8,j6),(9,j6),(10,j6)],[(0,j6)],2,[(4,j6)],al⟩
def ahD:LF f234 [] [1,1,1,1,1,1,1,1,0,1,0,0] sX:=sq (v:= .nil) rI (b:=uA) kN
def uB(x:Int×Int×List Int×y8):Rnd (Int×Int×List Int×y8) D (Int×Int×List Int×o4):=if U (x.2.2.2.2.1<=x.1) then if !decide ((w64<|x.2.2.2.2.1 * (w64<|x.2.2.2.2.1 - 1))=0) then if Ab (x.2.2.1.length+([(w64<|Ay 60<|w64<|x.2.2.2.2.1 * (w64<|x.2.2.2.2.1 - 1))]:List Int).length) then if inb x.2.2.2.2.1 ((x.2.2.1++([(w64<|Ay 60<|w64<|x.2.2.2.2.1 * (w64<|x.2.2.2.2.1 - 1))]:List Int)).length) then let a:=(w64<|x.2.2.2.1+(rd aEo (x.2.2.1++([(w64<|Ay 60<|w64<|x.2.2.2.2.1 * (w64<|x.2.2.2.2.1 - 1))]:List Int)) x.2.2.2.2.1));I (.inl (x.1,x.2.1,(x.2.2.1++([(w64<|Ay 60<|w64<|x.2.2.2.2.1 * (w64<|x.2.2.2.2.1 - 1))]:List Int)),a,(w64<|x.2.2.2.2.1+1),())) else G else G else G else I (.inr<|.inr (x.1,x.2.1,x.2.2.1,x.2.2.2.1,()))
def an:=AZ uB
def sY:Loop:=⟨[(0,j6),(1,j6),(5,.row 3 .int),(6,j6),(7,j6)],[(0,j6),(1,j6),(5,.row 3 .int),(6,j6)],0,[],an⟩
def ahP:LF f234 [] [1,1,1,1,1,0,1,0,0] sY:=sq (v:= .nil) rI (b:=uB) kN
def cJ(x:y8):Option ((o4)×D):=(Vy x).bind λc=>if !c.1.1 then I ((0,()),()) else if U (x.2.1<x.1) then I ((1,()),()) else if !decide (x.1=0) then if inb 1 (([0,(w64<|(w64<|Ay 60 x.1)+10)]:List Int).length) then let d:=(rd aEo ([0,(w64<|(w64<|Ay 60 x.1)+10)]:List Int) 1);(AP (an (x.1,x.2.1,([0,(w64<|(w64<|Ay 60 x.1)+10)]:List Int),d,2,())) (λ_=>G) (λa=>(PN ((w64<|(w64<|31 * a.2.1)+a.1),())).bind λe=>(PN e.1).bind λf=>if !decide (a.2.2.2.1=0) then let g:=(BJ (w64<|Ay f.1.1 16) a.2.2.2.1);(AP (al (a.1,a.2.2.1,g,0,1,())) (λb=>I (b,())) λb=>I (b,())) else G)) else G else G
def uf:Ent:=(234,G,⟨[j6,j6],[j6],cJ⟩)
def aet:o6 uf:=sk (v:=t1<|t1<|t1<|t1<|t1<|.two (t1<|.one<|.loop sY)<|t1<|t1<|.two (t1<|.one<|.loop sX) .nil) (fn:=f234) rI<|kC ahP<|kC ahD kN
def afu:Cx:=cX [] [] []
def aiP:o9 afu:=v7<|AI
def qi(x:List Int×D):Option ((List Int×D)×D):=if U ((j8 x.1:Int)=0) then I ((([]:List Int),()),()) else if U (0<=(j8 x.1:Int))&&U ((j8 x.1:Int)<=4294967296) then I (((BR (BS (AK (j8 x.1:Int))<|dfl .int).length x.1++Bo x.1.length (BS (AK (j8 x.1:Int))<|dfl .int)),()),()) else G
def tG:Ent:=(235,G,⟨[.fz .int],[.row 3 .int],qi⟩)
def aeO:o6 tG:=sk (v:= .nil) (fn:=f235) aiP kN
def aop:Cx:=cX [iL,rY,uf,tG] [] []
def fO:o9 aop:=v7<|gC ui<|gC adX<|gC aet<|gC aeO<|AI
def Vj(x:Int×List Bool×aEn):Rnd (Int×List Bool×aEn) D (Int×List Bool×aEn):=if inb x.2.2.2.2.1 x.2.1.length then if rd aEz x.2.1 x.2.2.2.2.1 then if !decide (x.1=0) then let a:=(BJ (w64<|x.2.2.2.2.1+1) x.1);I (.inl (x.1,x.2.1,x.2.2.1,x.2.2.2.1,a,())) else G else I (.inr<|.inr x) else G
def cI:=AZ Vj
def yG:Loop:=⟨[(0,j6),(5,.abx 218 .bool),(6,j6),(7,j6),(8,j6)],[(0,j6),(5,.abx 218 .bool),(6,j6),(7,j6),(8,j6)],2,[],cI⟩
def anw:LF f190 [] [1,1,1,1,1,0,1,0,0,1,0,0,1,1,0,0,0] yG:=sq (v:= .nil) fO (b:=Vj) kN
def gj(x:List Int×List Bool×o4):Rnd (List Int×List Bool×o4) D (List Int×D):=if U (x.2.2.1<6) then if inb x.2.2.1 x.2.1.length&&inb x.2.2.1 6 then let a:=(rd aEz x.2.1 x.2.2.1);(if a then if Ab (x.1.length+([x.2.2.1]:List Int).length) then I (.inl ((x.1++([x.2.2.1]:List Int)),x.2.1,(w64<|x.2.2.1+1),())) else G else I (.inl (x.1,x.2.1,(w64<|x.2.2.1+1),()))) else G else I (.inr<|.inr (x.1,()))
def qv:=AZ gj
def yF:Loop:=⟨[(9,.row 3 .int),(47,.arr .bool),(48,j6)],[(9,.row 3 .int)],4,[],qv⟩
def ant:LF f190 [] [1,1,1,1,1,1,1,0,1,0,0] yF:=sq (v:= .nil) fO (b:=gj) kN
def gk(x:Int×List Bool×y8):Rnd (Int×List Bool×y8) D (List Bool×D):=if U (0<x.2.2.2.1) then(PN (x.2.2.1,())).bind λb=>if !decide (x.1=0) then let c:=(BJ (w64<|Ay b.1.1 16) x.1);(AP (cI (x.1,x.2.1,b.1.1,x.2.2.2.1,c,())) (λ_=>I<|.inr<|.inl ()) λa=>(if inb a.2.2.2.2.1 a.2.1.length then I (.inl (a.1,(Bp a.2.1 (AK a.2.2.2.2.1) Y),a.2.2.1,(w64<|a.2.2.2.1 - 1),())) else G)) else G else I (.inr<|.inr (x.2.1,()))
def qw:=AZ gk
def yH:Loop:=⟨[(0,j6),(5,.abx 218 .bool),(6,j6),(7,j6)],[(5,.abx 218 .bool)],0,[],qw⟩
def ao5:LF f190 [] [1,1,1,1,1,0,1,0,0] yH:=sq (v:=t1<|.two (.one<|t1<|t1<|.two (.one<|.loop yG) .nil) .nil) fO (b:=gk)<|kC anw kN
def Vw(x:y8):Option ((List Int×D)×D):=(Vy x).bind λa=>if !a.1.1 then I ((([]:List Int),()),()) else if U (x.2.1<x.1) then I ((([x.2.1]:List Int),()),()) else(PN ((w64<|(w64<|7 * x.2.1)+1),())).bind λb=>(cJ x).bind λc=>(AP (qw (x.1,(BS 6<|dfl .bool),b.1.1,c.1)) (λ_=>G) λd=>(AP (qv (([]:List Int),d.1,0,())) (λ_=>G) λe=>(qi e).bind λf=>I (f.1,())))
def iM:Ent:=(190,G,⟨[j6,j6],[.row 3 .int],Vw⟩)
def vA:o6 iM:=sk (v:=t1<|t1<|t1<|t1<|t1<|.two (t1<|.one<|.loop yH)<|t1<|.two (t1<|.one<|.loop yF) .nil) (fn:=f190) fO<|kC ao5<|kC ant kN
def aoh:Cx:=cX [] [] []
def aA7:o9 aoh:=v7<|AI
def yl(x:A1×List Int×y8):Rnd (A1×List Int×y8) D (List Int×D):=if U (x.2.2.2.1<x.2.2.1) then if inb x.2.2.2.1 x.2.1.length then if inb x.2.2.2.1 x.1.size then if inb x.2.2.2.1 x.2.1.length then let a:=(Dp .u8 (rd aEt x.2.1 x.2.2.2.1)<|bt x.1 x.2.2.2.1);I (.inl (x.1,(Bp x.2.1 (AK x.2.2.2.1) a),x.2.2.1,(w64<|x.2.2.2.1+1),())) else G else G else G else I (.inr<|.inr (x.2.1,()))
def qp:=AZ yl
def xQ:Loop:=⟨[(1,.str),(5,.Cd 5 .u8),(10,j6),(11,j6)],[(5,.Cd 5 .u8)],0,[],qp⟩
def ao2:LF f191 [] [1,1,0,1,0,0] xQ:=sq (v:= .nil) aA7 (b:=yl) kN
def Vr(x:A1×A1×D):Option ((A1×D)×D):=if Ab x.1.size then(AP (qp (x.2.1,(BA x.1),((BA x.1).length:Int),0,())) (λ_=>G) λa=>I (((BF a.1),()),())) else G
def iJ:Ent:=(191,G,⟨[.str,.str],[.str],Vr⟩)
def vR:o6 iJ:=sk (v:=t1<|t1<|.two (t1<|.one<|.loop xQ) .nil) (fn:=f191) aA7<|kC ao2 kN
def alP:Cx:=cX [FK,iM,iJ] [] [(31,34)]
def eU:o9 alP:=v7<|gC FW<|gC vA<|gC vR<|AI
def VE(x:Int×List AN×List A1×Bool×A1×Int×Int×List AN×Int×Int×List Int×y8):Rnd (Int×List AN×List A1×Bool×A1×Int×Int×List AN×Int×Int×List Int×y8) D (Int×List AN×List A1×Bool×A1×Int×Int×List AN×y8):=if U (x.2.2.2.2.2.2.2.2.2.2.2.2.1<x.2.2.2.2.2.2.2.2.2.2.2.1) then if inb x.2.2.2.2.2.2.2.2.2.2.2.2.1 x.2.2.2.2.2.2.2.2.2.2.1.length then let U7:=(rd aEo x.2.2.2.2.2.2.2.2.2.2.1 x.2.2.2.2.2.2.2.2.2.2.2.2.1);(if inb U7 x.2.2.1.length then if U ((rd aEv x.2.2.1 U7)=noB) then let ayw:=(w64<|x.2.2.2.2.2.2.1+1);I (.inl (x.1,x.2.1,x.2.2.1,x.2.2.2.1,x.2.2.2.2.1,U7,ayw,x.2.2.2.2.2.2.2.1,x.2.2.2.2.2.2.2.2.1,x.2.2.2.2.2.2.2.2.2.1,x.2.2.2.2.2.2.2.2.2.2.1,x.2.2.2.2.2.2.2.2.2.2.2.1,(w64<|x.2.2.2.2.2.2.2.2.2.2.2.2.1+1),())) else if inb U7 x.2.2.1.length then(Vr (x.2.2.2.2.1,(rd aEv x.2.2.1 U7),())).bind λazQ=>I (.inl (x.1,x.2.1,x.2.2.1,x.2.2.2.1,azQ.1.1,x.2.2.2.2.2.1,x.2.2.2.2.2.2.1,x.2.2.2.2.2.2.2.1,x.2.2.2.2.2.2.2.2.1,x.2.2.2.2.2.2.2.2.2.1,x.2.2.2.2.2.2.2.2.2.2.1,x.2.2.2.2.2.2.2.2.2.2.2.1,(w64<|x.2.2.2.2.2.2.2.2.2.2.2.2.1+1),())) else G else G) else G else I (.inr<|.inr (x.1,x.2.1,x.2.2.1,x.2.2.2.1,x.2.2.2.2.1,x.2.2.2.2.2.1,x.2.2.2.2.2.2.1,x.2.2.2.2.2.2.2.1,x.2.2.2.2.2.2.2.2.1,x.2.2.2.2.2.2.2.2.2.1,()))
def az:=AZ VE
def ux:Loop:=⟨[(0,j6),(1,.sl .mixed),(5,.row 9 .str),(6,.bool),(9,.str),(10,j6),(11,j6),(20,.sl .mixed),(21,j6),(22,j6),(41,.row 3 .int),(42,j6),(43,j6)],[(0,j6),(1,.sl .mixed),(5,.row 9 .str),(6,.bool),(9,.str),(10,j6),(11,j6),(20,.sl .mixed),(21,j6),(22,j6)],4,[],az⟩
def ajn:LF f230 [] [1,1,1,0,1,0,0,1,0,1,1,0,0,1,1,0,0,1,1,1,0,1,0,0] ux:=sq (v:= .nil) eU (b:=VE) kN
def Nb(x:Int×List AN×List A1×Bool×List AN×y8):Rnd (Int×List AN×List A1×Bool×List AN×y8) D (Int×List AN×List A1×Bool×D):=if U (x.2.2.2.2.2.2.1<x.2.2.2.2.2.1) then if inb x.2.2.2.2.2.2.1 x.2.2.2.2.1.length then let acn:=(rd aEx x.2.2.2.2.1 x.2.2.2.2.2.2.1).nu;let a:=(rd aEx x.2.2.2.2.1 x.2.2.2.2.2.2.1).da;(C6 (acn,0,999,())).bind λazR=>if(!azR.1.1)||(!decide ((a.size:Int)=4)) then I (.inl (x.1,x.2.1,x.2.2.1,x.2.2.2.1,x.2.2.2.2.1,x.2.2.2.2.2.1,(w64<|x.2.2.2.2.2.2.1+1),())) else(Vw (x.1,acn,())).bind λacp=>(AP (az (x.1,x.2.1,x.2.2.1,x.2.2.2.1,a,(-1),0,x.2.2.2.2.1,x.2.2.2.2.2.1,x.2.2.2.2.2.2.1,acp.1.1,(j8 acp.1.1:Int),0,())) (λ_=>I<|.inr<|.inl ()) λGU=>(if U (GU.2.2.2.2.2.2.1=1) then if inb GU.2.2.2.2.2.1 GU.2.2.1.length then I (.inl (GU.1,GU.2.1,(Bp GU.2.2.1 (AK GU.2.2.2.2.2.1) GU.2.2.2.2.1),Y,GU.2.2.2.2.2.2.2.1,GU.2.2.2.2.2.2.2.2.1,(w64<|GU.2.2.2.2.2.2.2.2.2.1+1),())) else G else I (.inl (GU.1,GU.2.1,GU.2.2.1,GU.2.2.2.1,GU.2.2.2.2.2.2.2.1,GU.2.2.2.2.2.2.2.2.1,(w64<|GU.2.2.2.2.2.2.2.2.2.1+1),())))) else G else I (.inr<|.inr (x.1,x.2.1,x.2.2.1,x.2.2.2.1,()))
def UQ:=AZ Nb
def uy:Loop:=⟨[(0,j6),(1,.sl .mixed),(5,.row 9 .str),(6,.bool),(20,.sl .mixed),(21,j6),(22,j6)],[(0,j6),(1,.sl .mixed),(5,.row 9 .str),(6,.bool)],2,[],UQ⟩
def aki:LF f230 [] [1,1,1,0,1,0,0,1,0,1,1,0,0] uy:=sq (v:=t1<|t1<|.two (.one<|t1<|t1<|t1<|.two (t1<|.one<|.loop ux) .nil) .nil) eU (b:=Nb)<|kC ajn kN
def rS(x:Int×List AN×List A1×Bool×D):Rnd (Int×List AN×List A1×Bool×D) D (List A1×D):=if x.2.2.2.1 then(AP (UQ (x.1,x.2.1,x.2.2.1,A0,x.2.1,(j8 x.2.1:Int),0,())) (λ_=>I<|.inr<|.inl ()) λayq=>I<|.inl ayq) else I (.inr<|.inr (x.2.2.1,()))
def pj:=AZ rS
def uz:Loop:=⟨[(0,j6),(1,.sl .mixed),(5,.row 9 .str),(6,.bool)],[(5,.row 9 .str)],0,[],pj⟩
def al3:LF f230 [] [1,1,1,0,1,0,0] uz:=sq (v:=t1<|.one<|t1<|t1<|.one<|.loop uy) eU (b:=rS)<|kC aki kN
def dz(x:Int×List AN×D):Option ((List A1×D)×D):=(C6 (x.1,1,6,())).bind λa=>if !a.1.1 then I ((([]:List A1),()),()) else if U (0<=x.1)&&U (x.1<=4294967296) then(AP (pj (x.1,x.2.1,(BS (AK x.1)<|dfl .str),Y,())) (λ_=>G) λayp=>I (ayp,())) else G
def yB:Ent:=(230,G,⟨[j6,.fz .mixed],[.row 9 .str],dz⟩)
def ag8:o6 yB:=sk (v:=t1<|t1<|t1<|.two (t1<|.one<|.loop uz) .nil) (fn:=f230) eU<|kC al3 kN
def alO:Cx:=cX [FK,yB] [] []
def fg:o9 alO:=v7<|gC FW<|gC ag8<|AI
def cg(x:Int×A1×o4):Rnd (Int×A1×o4) (A1×Bool×D) (Int×A1×D):=if U (x.2.2.1<(x.2.1.size:Int)) then if inb x.2.2.1 x.2.1.size then if !decide ((bt x.2.1 x.2.2.1)=0) then I (.inr<|.inl (noB,A0,())) else I (.inl (x.1,x.2.1,(w64<|x.2.2.1+1),())) else G else I (.inr<|.inr (x.1,x.2.1,()))
def ph:=AZ cg
def uv:Loop:=⟨[(0,j6),(6,.str),(9,j6)],[(0,j6),(6,.str)],2,[(4,.str),(5,.bool)],ph⟩
def akh:LF f187 [] [1,1,1,1,0,1,0,0] uv:=sq (v:= .nil) fg (b:=cg) kN
def VD(x:Int×A1×List A1×y8):Rnd (Int×A1×List A1×y8) (A1×Bool×D) (Int×A1×D):=if U (x.2.2.2.2.1<x.2.2.2.1) then if inb x.2.2.2.2.1 x.2.2.1.length then let a:=(rd aEv x.2.2.1 x.2.2.2.2.1);(if U (a=noB) then I (.inr<|.inl (noB,A0,())) else if U (x.2.1.size+a.size<=4611686018427387904) then I (.inl (x.1,(x.2.1++a),x.2.2.1,x.2.2.2.1,(w64<|x.2.2.2.2.1+1),())) else G) else G else I (.inr<|.inr (x.1,x.2.1,()))
def ay:=AZ VD
def uw:Loop:=⟨[(0,j6),(6,.str),(18,.row 9 .str),(19,j6),(20,j6)],[(0,j6),(6,.str)],0,[(4,.str),(5,.bool)],ay⟩
def al2:LF f187 [] [1,1,1,0,1,0,0] uw:=sq (v:= .nil) fg (b:=VD) kN
def dy(x:Int×List AN×D):Option ((A1×Bool×D)×D):=(C6 (x.1,1,24,())).bind λd=>if !d.1.1 then I ((noB,A0,()),()) else(dz ((w64<|Ay (w64<|(w64<|x.1+4) - 1) 4),x.2)).bind λc=>(AP (ay (x.1,noB,c.1.1,(j8 c.1.1:Int),0,())) (λb=>I (b,())) λb=>(AP (ph (b.1,b.2.1,b.1,())) (λa=>I (a,())) λa=>(if U (0<=a.1)&&U (a.1<=(a.2.1.size:Int)) then let e:=(a.2.1.extract (0)<|AK a.1);I ((e,Y,()),()) else G)))
def yA:Ent:=(187,G,⟨[j6,.fz .mixed],[.str,.bool],dy⟩)
def ag7:o6 yA:=sk (v:=t1<|t1<|t1<|.two (t1<|.one<|.loop uw)<|.two (t1<|.one<|.loop uv) .nil) (fn:=f187) fg<|kC al2<|kC akh kN
def ahQ:Cx:=cX [LM,No,gJ,WL,Uq,fK,zM,Vm,aAV,yA] [(85,85)] [(34,41)]
def aj1:o9 ahQ:=v7<|gC MJ<|gC PD<|gC u9<|gC rQ<|gC ak<|gC qh<|gC ah9<|gC bW<|gC akH<|gC ag7<|AI
def Uu(x:Y1×Y6×D):Option ((Y1×List Frame×D)×D):=(Iu (x.1,())).bind λc=>let i:=(U<|x.2.1.2.2.2.2.2.2.1<=c.1.1.2.1);(if i then(fG (3,x.2)).bind λj=>I ((x.1,j.1),()) else(IL (c.1.1.2.2.2.1,x.2.1.2.2.2.1,x.2.1.2.2.2.2.1,())).bind λd=>if An (!(U<|0<=d.1.1)) ((KU (c.1.1.2.2.2.2.1,x.2.1.2.2.2.1,x.2.1.2.2.2.2.1,())).isSome) then let k:=((U<|0<=d.1.1)||(U<|0<=((KU (c.1.1.2.2.2.2.1,x.2.1.2.2.2.1,x.2.1.2.2.2.2.1,())).getD ((0,()),())).1.1));(if k then(Nl (x.1,())).bind λl=>(fG (2,x.2)).bind λm=>I ((l.1.1,m.1),()) else let n:=(U<|x.2.1.2.2.2.1=x.1.1);(if n then I ((x.1,([]:List Frame),()),()) else(Rr (x.1.2.2.2.2.1,x.2.1.2.2.2.1,x.2.1.2.2.2.2.1,())).bind λe=>(BT (X:=Y1×Y6×Y1×o4) (λa=>if inb a.2.2.2.1 a.1.2.2.2.2.1.length then if !decide ((rd aEl a.1.2.2.2.2.1 a.2.2.2.1).to=a.2.1.2.2.2.2.2.1) then I ((a.1,([]:List Frame),()),()) else if !decide ((rd aEl a.1.2.2.2.2.1 a.2.2.2.1).un=a.2.1.2.2.2.2.2.2.1) then I ((a.1,([]:List Frame),()),()) else if !decide ((rd aEl a.1.2.2.2.2.1 a.2.2.2.1).sz=a.2.1.2.2.2.2.2.2.2.1) then I ((a.1,([]:List Frame),()),()) else(WR ((rd aEl a.1.2.2.2.2.1 a.2.2.2.1).got,a.2.1.2.2.2.2.2.2.2.2,())).bind λb=>(dy ((rd aEl (Bp a.1.2.2.2.2.1 (AK a.2.2.2.1)<|AE.mk ((rd aEl a.1.2.2.2.2.1 a.2.2.2.1).fr) ((rd aEl a.1.2.2.2.2.1 a.2.2.2.1).nu) ((rd aEl a.1.2.2.2.2.1 a.2.2.2.1).to) ((rd aEl a.1.2.2.2.2.1 a.2.2.2.1).un) ((rd aEl a.1.2.2.2.2.1 a.2.2.2.1).sz) b.1.1) a.2.2.2.1).sz,(rd aEl (Bp a.1.2.2.2.2.1 (AK a.2.2.2.1)<|AE.mk ((rd aEl a.1.2.2.2.2.1 a.2.2.2.1).fr) ((rd aEl a.1.2.2.2.2.1 a.2.2.2.1).nu) ((rd aEl a.1.2.2.2.2.1 a.2.2.2.1).to) ((rd aEl a.1.2.2.2.2.1 a.2.2.2.1).un) ((rd aEl a.1.2.2.2.2.1 a.2.2.2.1).sz) b.1.1) a.2.2.2.1).got,())).bind λf=>if !f.1.2.1 then I (((a.1.1,a.1.2.1,a.1.2.2.1,a.1.2.2.2.1,(Bp a.1.2.2.2.2.1 (AK a.2.2.2.1)<|AE.mk ((rd aEl a.1.2.2.2.2.1 a.2.2.2.1).fr) ((rd aEl a.1.2.2.2.2.1 a.2.2.2.1).nu) ((rd aEl a.1.2.2.2.2.1 a.2.2.2.1).to) ((rd aEl a.1.2.2.2.2.1 a.2.2.2.1).un) ((rd aEl a.1.2.2.2.2.1 a.2.2.2.1).sz) b.1.1),()),([]:List Frame),()),()) else if U (0<=a.2.2.2.1)&&U (a.2.2.2.1<=((Bp a.1.2.2.2.2.1 (AK a.2.2.2.1)<|AE.mk ((rd aEl a.1.2.2.2.2.1 a.2.2.2.1).fr) ((rd aEl a.1.2.2.2.2.1 a.2.2.2.1).nu) ((rd aEl a.1.2.2.2.2.1 a.2.2.2.1).to) ((rd aEl a.1.2.2.2.2.1 a.2.2.2.1).un) ((rd aEl a.1.2.2.2.2.1 a.2.2.2.1).sz) b.1.1).length:Int)) then if Ab (([]:List AE).length+(BR (AK a.2.2.2.1)<|Bp a.1.2.2.2.2.1 (AK a.2.2.2.1)<|AE.mk ((rd aEl a.1.2.2.2.2.1 a.2.2.2.1).fr) ((rd aEl a.1.2.2.2.2.1 a.2.2.2.1).nu) ((rd aEl a.1.2.2.2.2.1 a.2.2.2.1).to) ((rd aEl a.1.2.2.2.2.1 a.2.2.2.1).un) ((rd aEl a.1.2.2.2.2.1 a.2.2.2.1).sz) b.1.1).length) then if U (0<=(w64<|a.2.2.2.1+1))&&U ((w64<|a.2.2.2.1+1)<=((Bp a.1.2.2.2.2.1 (AK a.2.2.2.1)<|AE.mk ((rd aEl a.1.2.2.2.2.1 a.2.2.2.1).fr) ((rd aEl a.1.2.2.2.2.1 a.2.2.2.1).nu) ((rd aEl a.1.2.2.2.2.1 a.2.2.2.1).to) ((rd aEl a.1.2.2.2.2.1 a.2.2.2.1).un) ((rd aEl a.1.2.2.2.2.1 a.2.2.2.1).sz) b.1.1).length:Int)) then if Ab ((([]:List AE)++(BR (AK a.2.2.2.1)<|Bp a.1.2.2.2.2.1 (AK a.2.2.2.1)<|AE.mk ((rd aEl a.1.2.2.2.2.1 a.2.2.2.1).fr) ((rd aEl a.1.2.2.2.2.1 a.2.2.2.1).nu) ((rd aEl a.1.2.2.2.2.1 a.2.2.2.1).to) ((rd aEl a.1.2.2.2.2.1 a.2.2.2.1).un) ((rd aEl a.1.2.2.2.2.1 a.2.2.2.1).sz) b.1.1)).length+(Bo (AK<|w64<|a.2.2.2.1+1)<|Bp a.1.2.2.2.2.1 (AK a.2.2.2.1)<|AE.mk ((rd aEl a.1.2.2.2.2.1 a.2.2.2.1).fr) ((rd aEl a.1.2.2.2.2.1 a.2.2.2.1).nu) ((rd aEl a.1.2.2.2.2.1 a.2.2.2.1).to) ((rd aEl a.1.2.2.2.2.1 a.2.2.2.1).un) ((rd aEl a.1.2.2.2.2.1 a.2.2.2.1).sz) b.1.1).length) then(MQ ((a.2.1.2.2.2.1,a.2.1.2.2.2.2.1,a.2.1.2.2.2.2.2.1,a.2.1.2.2.2.2.2.2.1,f.1.1,()),())).bind λg=>if U ((B [116,97,107,101,32]).size+g.1.1.size<=4611686018427387904) then(Nr ((a.1.1,a.1.2.1,a.1.2.2.1,a.1.2.2.2.1,((([]:List AE)++(BR (AK a.2.2.2.1)<|Bp a.1.2.2.2.2.1 (AK a.2.2.2.1)<|AE.mk ((rd aEl a.1.2.2.2.2.1 a.2.2.2.1).fr) ((rd aEl a.1.2.2.2.2.1 a.2.2.2.1).nu) ((rd aEl a.1.2.2.2.2.1 a.2.2.2.1).to) ((rd aEl a.1.2.2.2.2.1 a.2.2.2.1).un) ((rd aEl a.1.2.2.2.2.1 a.2.2.2.1).sz) b.1.1))++(Bo (AK<|w64<|a.2.2.2.1+1)<|Bp a.1.2.2.2.2.1 (AK a.2.2.2.1)<|AE.mk ((rd aEl a.1.2.2.2.2.1 a.2.2.2.1).fr) ((rd aEl a.1.2.2.2.2.1 a.2.2.2.1).nu) ((rd aEl a.1.2.2.2.2.1 a.2.2.2.1).to) ((rd aEl a.1.2.2.2.2.1 a.2.2.2.1).un) ((rd aEl a.1.2.2.2.2.1 a.2.2.2.1).sz) b.1.1)),()),((B [116,97,107,101,32])++g.1.1),())).bind λh=>if !h.1.2.1 then let o:=((([]:List AE)++(BR (AK a.2.2.2.1)<|Bp a.1.2.2.2.2.1 (AK a.2.2.2.1)<|AE.mk ((rd aEl a.1.2.2.2.2.1 a.2.2.2.1).fr) ((rd aEl a.1.2.2.2.2.1 a.2.2.2.1).nu) ((rd aEl a.1.2.2.2.2.1 a.2.2.2.1).to) ((rd aEl a.1.2.2.2.2.1 a.2.2.2.1).un) ((rd aEl a.1.2.2.2.2.1 a.2.2.2.1).sz) b.1.1))++(Bo (AK<|w64<|a.2.2.2.1+1)<|Bp a.1.2.2.2.2.1 (AK a.2.2.2.1)<|AE.mk ((rd aEl a.1.2.2.2.2.1 a.2.2.2.1).fr) ((rd aEl a.1.2.2.2.2.1 a.2.2.2.1).nu) ((rd aEl a.1.2.2.2.2.1 a.2.2.2.1).to) ((rd aEl a.1.2.2.2.2.1 a.2.2.2.1).un) ((rd aEl a.1.2.2.2.2.1 a.2.2.2.1).sz) b.1.1));I (((a.1.1,a.1.2.1,a.1.2.2.1,a.1.2.2.2.1,o,()),([]:List Frame),()),()) else(Nl (h.1.1,())).bind λp=>(fG (2,a.2.1,())).bind λq=>I ((p.1.1,q.1),()) else G else G else G else G else G else G)<|(if U (e.1.1<0) then if Ab (x.1.2.2.2.2.1.length+([(AE.mk x.2.1.2.2.2.1 x.2.1.2.2.2.2.1 x.2.1.2.2.2.2.2.1 x.2.1.2.2.2.2.2.2.1 x.2.1.2.2.2.2.2.2.2.1 ([]:List AN))]:List AE).length) then if U (3<((x.1.2.2.2.2.1++([(AE.mk x.2.1.2.2.2.1 x.2.1.2.2.2.2.1 x.2.1.2.2.2.2.2.1 x.2.1.2.2.2.2.2.2.1 x.2.1.2.2.2.2.2.2.2.1 ([]:List AN))]:List AE)).length:Int)) then if U (0<=1)&&U (1<=((x.1.2.2.2.2.1++([(AE.mk x.2.1.2.2.2.1 x.2.1.2.2.2.2.1 x.2.1.2.2.2.2.2.1 x.2.1.2.2.2.2.2.2.1 x.2.1.2.2.2.2.2.2.2.1 ([]:List AN))]:List AE)).length:Int)) then let r:=(w64<|((Bo (AK 1)<|x.1.2.2.2.2.1++([(AE.mk x.2.1.2.2.2.1 x.2.1.2.2.2.2.1 x.2.1.2.2.2.2.2.1 x.2.1.2.2.2.2.2.2.1 x.2.1.2.2.2.2.2.2.2.1 ([]:List AN))]:List AE)).length:Int) - 1);I (.inr ((x.1.1,x.1.2.1,x.1.2.2.1,x.1.2.2.2.1,(Bo (AK 1)<|x.1.2.2.2.2.1++([(AE.mk x.2.1.2.2.2.1 x.2.1.2.2.2.2.1 x.2.1.2.2.2.2.2.1 x.2.1.2.2.2.2.2.2.1 x.2.1.2.2.2.2.2.2.2.1 ([]:List AN))]:List AE)),()),x.2.1,(0,A0,noB,0,([]:List AE),()),r,())) else G else let s:=(w64<|((x.1.2.2.2.2.1++([(AE.mk x.2.1.2.2.2.1 x.2.1.2.2.2.2.1 x.2.1.2.2.2.2.2.1 x.2.1.2.2.2.2.2.2.1 x.2.1.2.2.2.2.2.2.2.1 ([]:List AN))]:List AE)).length:Int) - 1);I (.inr ((x.1.1,x.1.2.1,x.1.2.2.1,x.1.2.2.2.1,(x.1.2.2.2.2.1++([(AE.mk x.2.1.2.2.2.1 x.2.1.2.2.2.2.1 x.2.1.2.2.2.2.2.1 x.2.1.2.2.2.2.2.2.1 x.2.1.2.2.2.2.2.2.2.1 ([]:List AN))]:List AE)),()),x.2.1,(0,A0,noB,0,([]:List AE),()),s,())) else G else I (.inr (x.1,x.2.1,(0,A0,noB,0,([]:List AE),()),e.1)))))) else G)
def uY:Ent:=(147,G,⟨[Z1,Z13],[Z12,.fz .frame],Uu⟩)
def aeh:o6 uY:=sk (v:=t1<|t1<|t1<|t1<|.join [(2,Z20),(3,Z14),(4,Z20),(7,j6)] .nil .nil) (fn:=f147) aj1 kN
def ago:Cx:=cX [LM,Jc,No,LN,fZ,uY,WL,bo] [] [(70,77)]
def ai2:o9 ago:=v7<|gC MJ<|gC KP<|gC PD<|gC MH<|gC sa<|gC aeh<|gC rQ<|gC og<|AI
def RB(x:Y1×Y6×D):Option ((Y1×List Frame×D)×D):=(Hm (x.1,())).bind λf=>if !f.1.1 then I (((0,A0,noB,0,([]:List AE),()),([]:List Frame),()),()) else(Hh (x.1,())).bind λa=>if !x.1.2.1 then I ((a.1.1,([]:List Frame),()),()) else(VM x.2).bind λg=>if !g.1.1 then I ((a.1.1,([]:List Frame),()),()) else if !decide (x.2.1.2.2.1=x.1.1) then I ((a.1.1,([]:List Frame),()),()) else if U (x.2.1.1=1) then(Uu (a.1.1,x.2)).bind λe=>(Hh (e.1.1,())).bind λh=>I ((h.1.1,e.1.2),()) else if U (x.2.1.1=2) then(Iu (x.1,())).bind λb=>(IL (b.1.1.2.2.2.1,x.2.1.2.2.2.1,x.2.1.2.2.2.2.1,())).bind λc=>(BT (X:=Y6×Y1×Y1×Bool×D) (λd=>if d.2.2.2.1 then(PH ((B [108,101,116]),d.1.2.2.2.1,d.1.2.2.2.2.1,d.1.2.2.2.2.2.2.1,())).bind λi=>(Nr (d.2.2.1,i.1)).bind λj=>I ((j.1.1,([]:List Frame),()),()) else I ((d.2.2.1,([]:List Frame),()),()))<|(if U (0<=c.1.1) then if inb c.1.1 b.1.1.2.2.2.1.length then if An (U<|(rd y7 b.1.1.2.2.2.1 c.1.1).to=x.2.1.2.2.2.2.2.1) (inb c.1.1 b.1.1.2.2.2.1.length) then I (.inr (x.2.1,(0,A0,noB,0,([]:List AE),()),a.1.1,((U<|(rd y7 b.1.1.2.2.2.1 c.1.1).to=x.2.1.2.2.2.2.2.1)&&(U<|(rd y7 b.1.1.2.2.2.1 c.1.1).un=x.2.1.2.2.2.2.2.2.1)),())) else G else G else if An A0 (inb c.1.1 b.1.1.2.2.2.1.length) then I (.inr (x.2.1,(0,A0,noB,0,([]:List AE),()),a.1.1,A0,())) else G)) else I ((a.1.1,([]:List Frame),()),())
def tO:Ent:=(106,G,⟨[Z12,Z13],[Z12,.fz .frame],RB⟩)
def aeU:o6 tO:=sk (v:=t1<|t1<|t1<|t1<|.two (t1<|.one<|t1<|t1<|t1<|.two (t1<|t1<|.join [(3,Z14),(4,Z20),(6,Z20),(78,.bool)] .nil .nil) .nil) .nil) (fn:=f106) ai2 kN
def apQ:Cx:=cX [rE] [] []
def aA9:o9 apQ:=v7<|gC adH<|AI
def fT(x:Y2×List Frame×y8):Rnd (Y2×List Frame×y8) D (Y2×D):=if U (x.2.2.2.1<x.2.2.1) then if inb x.2.2.2.1 x.2.1.length then let d:=(rd aEw x.2.1 x.2.2.2.1).ki;let a:=(rd aEw x.2.1 x.2.2.2.1).src;let b:=(rd aEw x.2.1 x.2.2.2.1).dst;let e:=(rd aEw x.2.1 x.2.2.2.1).fr;let f:=(rd aEw x.2.1 x.2.2.2.1).nu;let g:=(rd aEw x.2.1 x.2.2.2.1).to;let h:=(rd aEw x.2.1 x.2.2.2.1).un;let i:=(rd aEw x.2.1 x.2.2.2.1).sz;let j:=(rd aEw x.2.1 x.2.2.2.1).mix;let k:=(rd aEw x.2.1 x.2.2.2.1).da;if U ((j8 x.1.2.2.2.1:Int)<30) then(PJ ((d,a,b,e,f,g,h,i,j,k,()),())).bind λc=>if Ab (x.1.2.2.2.1.length+([(AL.mk a b (BF c.1.1) A0)]:List AL).length) then I (.inl ((x.1.1,x.1.2.1,x.1.2.2.1,(x.1.2.2.2.1++([(AL.mk a b (BF c.1.1) A0)]:List AL)),x.1.2.2.2.2),x.2.1,x.2.2.1,(w64<|x.2.2.2.1+1),())) else G else I (.inl (x.1,x.2.1,x.2.2.1,(w64<|x.2.2.2.1+1),())) else G else I (.inr<|.inr (x.1,()))
def dN:=AZ fT
def yn:Loop:=⟨[(0,Z2),(6,.sl .frame),(7,j6),(8,j6)],[(0,Z2)],0,[],dN⟩
def ap8:LF f107 [0] [1,0,0] yn:=sq (v:= .nil) aA9 (b:=fT) kN
def Nq(x:Y2×List Frame×D):Option (D×Y2×D):=(AP (dN (x.1,x.2.1,(j8 x.2.1:Int),0,())) (λ_=>G) λa=>I ((),a))
def iW:Ent:=(107,G,⟨[Z2,.fz .frame],[],Nq⟩)
def vf:o6 iW:=sk (v:=t1<|.one<|.loop yn) (fn:=f107) aA9<|kC ap8 kN
def ajB:Cx:=cX [FK,uX,sL,tO,iW] [] [(137,141)]
def al7:o9 ajB:=v7<|gC FW<|gC aeg<|gC aeK<|gC aeU<|gC vf<|AI
def Ra(x:Y2×Y6×D):Option ((Bool×D)×Y2×D):=(C6 (x.2.1.2.2.2.2.1,0,(w64<|(j8 x.1.2.2.2.1:Int) - 1),())).bind λj=>if !j.1.1 then I ((A0,()),(x.1,())) else if inb x.2.1.2.2.2.2.1 x.1.2.2.2.1.length then let d:=(rd aEq x.1.2.2.2.1 x.2.1.2.2.2.2.1).src;let e:=(rd aEq x.1.2.2.2.1 x.2.1.2.2.2.2.1).dst;let b:=(rd aEq x.1.2.2.2.1 x.2.1.2.2.2.2.1).data;let i:=(rd aEq x.1.2.2.2.1 x.2.1.2.2.2.2.1).sp;if U (x.2.1.1=5) then(Ut (x.1.2.2.2.1,x.2.1.2.2.2.2.1,())).bind λk=>I ((Y,()),((x.1.1,x.1.2.1,x.1.2.2.1,k.1.1,x.1.2.2.2.2),())) else if U (x.2.1.1=6) then(C6 (x.2.1.2.2.2.2.2.1,0,(w64<|(b.size:Int) - 1),())).bind λl=>if !l.1.1 then I ((A0,()),(x.1,())) else if i then I ((A0,()),(x.1,())) else(C6 (x.2.1.2.2.2.2.2.2.1,1,255,())).bind λm=>if !m.1.1 then I ((A0,()),(x.1,())) else if Ab b.size then if inb x.2.1.2.2.2.2.2.1 ((BA b).length) then if inb x.2.1.2.2.2.2.2.1 ((BA b).length) then let n:=(Dp .u8 (rd aEt (BA b) x.2.1.2.2.2.2.2.1)<|w8 x.2.1.2.2.2.2.2.2.1);(if inb x.2.1.2.2.2.2.1 x.1.2.2.2.1.length then let g:=(BF<|Bp (BA b) (AK x.2.1.2.2.2.2.2.1) n);(if inb x.2.1.2.2.2.2.1 ((Bp x.1.2.2.2.1 (AK x.2.1.2.2.2.2.1)<|AL.mk ((rd aEq x.1.2.2.2.1 x.2.1.2.2.2.2.1).src) ((rd aEq x.1.2.2.2.1 x.2.1.2.2.2.2.1).dst) g<|(rd aEq x.1.2.2.2.1 x.2.1.2.2.2.2.1).sp).length) then I ((Y,()),((x.1.1,x.1.2.1,x.1.2.2.1,(Bp (Bp x.1.2.2.2.1 (AK x.2.1.2.2.2.2.1)<|AL.mk ((rd aEq x.1.2.2.2.1 x.2.1.2.2.2.2.1).src) ((rd aEq x.1.2.2.2.1 x.2.1.2.2.2.2.1).dst) g<|(rd aEq x.1.2.2.2.1 x.2.1.2.2.2.2.1).sp) (AK x.2.1.2.2.2.2.1)<|AL.mk ((rd aEq (Bp x.1.2.2.2.1 (AK x.2.1.2.2.2.2.1)<|AL.mk ((rd aEq x.1.2.2.2.1 x.2.1.2.2.2.2.1).src) ((rd aEq x.1.2.2.2.1 x.2.1.2.2.2.2.1).dst) g<|(rd aEq x.1.2.2.2.1 x.2.1.2.2.2.2.1).sp) x.2.1.2.2.2.2.1).src) ((rd aEq (Bp x.1.2.2.2.1 (AK x.2.1.2.2.2.2.1)<|AL.mk ((rd aEq x.1.2.2.2.1 x.2.1.2.2.2.2.1).src) ((rd aEq x.1.2.2.2.1 x.2.1.2.2.2.2.1).dst) g<|(rd aEq x.1.2.2.2.1 x.2.1.2.2.2.2.1).sp) x.2.1.2.2.2.2.1).dst) ((rd aEq (Bp x.1.2.2.2.1 (AK x.2.1.2.2.2.2.1)<|AL.mk ((rd aEq x.1.2.2.2.1 x.2.1.2.2.2.2.1).src) ((rd aEq x.1.2.2.2.1 x.2.1.2.2.2.2.1).dst) g<|(rd aEq x.1.2.2.2.1 x.2.1.2.2.2.2.1).sp) x.2.1.2.2.2.2.1).data) Y),x.1.2.2.2.2),())) else G) else G) else G else G else G else if U (x.2.1.1=4) then if inb (if e<d then e else d) x.1.2.2.1.length then if !(rd aEz x.1.2.2.1<|if e<d then e else d) then I ((A0,()),(x.1,())) else(BT (X:=Y2×Y12×D) (λc=>if Ab c.2.1.2.2.1.size then(bB ((BA c.2.1.2.2.1),())).bind λh=>(BT (X:=Y2×Y12×Y6×Bool×D) (λa=>if a.2.2.2.1 then if inb a.2.1.2.1 a.1.2.1.length then(RB (((rd aEm a.1.2.1 a.2.1.2.1).id,(rd aEm a.1.2.1 a.2.1.2.1).up,(rd aEm a.1.2.1 a.2.1.2.1).log,(rd aEm a.1.2.1 a.2.1.2.1).fo,(rd aEm a.1.2.1 a.2.1.2.1).AH,()),a.2.2.1,())).bind λf=>if inb a.2.1.2.1 a.1.2.1.length then(Nq ((a.1.1,(Bp a.1.2.1 (AK a.2.1.2.1)<|A8.mk f.1.1.1 f.1.1.2.1 f.1.1.2.2.1 f.1.1.2.2.2.1 f.1.1.2.2.2.2.1),a.1.2.2),f.1.2)).bind λo=>I ((Y,()),o.2) else G else G else I ((Y,()),(a.1,())))<|(if h.1.2.1 then I (.inr (c.1,c.2.1,h.1.1,((U<|h.1.1.2.1=c.2.1.1)&&(U<|h.1.1.2.2.1=c.2.1.2.1)),())) else I (.inr (c.1,c.2.1,h.1.1,A0,())))) else G)<|(if U (x.2.1.2.2.2.2.2.2.1=0) then(Ut (x.1.2.2.2.1,x.2.1.2.2.2.2.1,())).bind λp=>I (.inr ((x.1.1,x.1.2.1,x.1.2.2.1,p.1.1,x.1.2.2.2.2),(d,e,b,i,()),())) else I (.inr (x.1,(d,e,b,i,()),())))) else G else I ((Y,()),(x.1,())) else G
def xE:Ent:=(68,G,⟨[Z2,Z13],[.bool],Ra⟩)
def afO:o6 xE:=sk (v:=t1<|t1<|t1<|.two (t1<|.one<|t1<|t1<|t1<|t1<|t1<|.two (t1<|.join [(0,Z2),(5,Z33)] .nil<|t1<|.join [(0,Z2),(5,Z33),(7,Z14),(142,.bool)] .nil .nil) .nil) .nil) (fn:=f68) al7 kN
def alI:Cx:=cX [LN,WL,fK] [] []
def an1:o9 alI:=v7<|gC MH<|gC rQ<|gC qh<|AI
def Nd(x:Y1×A1×D):Option ((Y1×Bool×D)×D):=(Nr x).bind λa=>if !a.1.2.1 then(Hh (x.1,())).bind λb=>I ((b.1.1,A0,()),()) else(Nl (a.1.1,())).bind λc=>(Hh c.1).bind λd=>I ((d.1.1,Y,()),())
def eR:Ent:=(150,G,⟨[Z12,.str],[Z1,.bool],Nd⟩)
def q8:o6 eR:=sk (v:= .nil) (fn:=f150) an1 kN
def ahZ:Cx:=cX [LM,Jc,LN,eR,Uq] [] []
def aj4:o9 ahZ:=v7<|gC MJ<|gC KP<|gC MH<|gC q8<|gC ak<|AI
def Uw(x:Y1×Int×Int×A1×D):Option ((Y1×o4)×D):=(Hm (x.1,())).bind λd=>if !d.1.1 then I (((0,A0,noB,0,([]:List AE),()),0,()),()) else if !x.1.2.1 then(Hh (x.1,())).bind λe=>I ((e.1.1,0,()),()) else(Iu (x.1,())).bind λb=>(MQ ((x.1.1,b.1.1.2.2.1,x.2),())).bind λc=>if U ((B [111,119,110,32]).size+c.1.1.size<=4611686018427387904) then(Nd (x.1,((B [111,119,110,32])++c.1.1),())).bind λa=>if !a.1.2.1 then I ((a.1.1,0,()),()) else I ((a.1.1,b.1.1.2.2.1,()),()) else G
def vT:Ent:=(108,G,⟨[Z12,j6,j6,.str],[Z1,j6],Uw⟩)
def aeu:o6 vT:=sk (v:= .nil) (fn:=f108) aj4 kN
def afx:Cx:=cX [LM,Jc,LN,eR,Rh] [] []
def aiR:o9 afx:=v7<|gC MJ<|gC KP<|gC MH<|gC q8<|gC UI<|AI
def Uk(x:Y1×D):Option ((Y1×Bool×D)×D):=(Hm x).bind λb=>if !b.1.1 then I (((0,A0,noB,0,([]:List AE),()),A0,()),()) else if !x.1.2.1 then(Hh x).bind λc=>I ((c.1.1,A0,()),()) else(Iu x).bind λd=>(Iy ((w64<|d.1.1.2.1+1),())).bind λa=>if U ((B [116,105,109,101,32]).size+a.1.1.size<=4611686018427387904) then(Nd (x.1,((B [116,105,109,101,32])++a.1.1),())).bind λe=>I (e.1,()) else G
def tJ:Ent:=(109,G,⟨[Z12],[Z1,.bool],Uk⟩)
def aeR:o6 tJ:=sk (v:= .nil) (fn:=f109) aiR kN
def anR:Cx:=cX [FK,ao] [] []
def yz:o9 anR:=v7<|gC FW<|gC oR<|AI
def eB(x:A1×List A1×o4):Rnd (A1×List A1×o4) D (List A1×D):=if U (x.2.2.1<(x.1.size:Int)) then if U (0<=4)&&U (4<=4294967296) then if U (0<=x.2.2.1)&&U (x.2.2.1<=(x.1.size:Int)) then if Ab (x.2.1.length+([(BF<|BR (BS (AK 4)<|dfl .u8).length (BA<|x.1.extract (AK x.2.2.1)<|x.1.size)++Bo (BA<|x.1.extract (AK x.2.2.1)<|x.1.size).length (BS (AK 4)<|dfl .u8))]:List A1).length) then I (.inl (x.1,(x.2.1++([(BF<|BR (BS (AK 4)<|dfl .u8).length (BA<|x.1.extract (AK x.2.2.1)<|x.1.size)++Bo (BA<|x.1.extract (AK x.2.2.1)<|x.1.size).length (BS (AK 4)<|dfl .u8))]:List A1)),(w64<|x.2.2.1+4),())) else G else G else G else I (.inr<|.inr (x.2.1,()))
def qO:=AZ eB
def wc:Loop:=⟨[(0,.str),(3,.row 9 .str),(4,j6)],[(3,.row 9 .str)],0,[],qO⟩
def amd:LF f76 [] [1,1,1,0,1,0,0] wc:=sq (v:= .nil) yz (b:=eB) kN
def Vk(x:A1×D):Option ((List A1×D)×D):=(C6 ((x.1.size:Int),1,24,())).bind λa=>if !a.1.1 then I ((([]:List A1),()),()) else(AP (qO (x.1,([]:List A1),0,())) (λ_=>G) λb=>(R6 b).bind λc=>I (c.1,()))
def gK:Ent:=(76,G,⟨[.str],[.row 9 .str],Vk⟩)
def ss:o6 gK:=sk (v:=t1<|t1<|t1<|.two (t1<|.one<|.loop wc) .nil) (fn:=f76) yz<|kC amd kN
def alQ:Cx:=cX [gK,iM,iJ] [] []
def yT:o9 alQ:=v7<|gC ss<|gC vA<|gC vR<|AI
def VF(x:List A1×A1×List Int×y8):Rnd (List A1×A1×List Int×y8) D (A1×D):=if U (x.2.2.2.2.1<x.2.2.2.1) then if inb x.2.2.2.2.1 x.2.2.1.length then let a:=(rd aEo x.2.2.1 x.2.2.2.2.1);(if U (x.2.2.2.2.1=0) then if inb a x.1.length then I (.inl (x.1,(rd aEv x.1 a),x.2.2.1,x.2.2.2.1,(w64<|x.2.2.2.2.1+1),())) else G else if inb a x.1.length then(Vr (x.2.1,(rd aEv x.1 a),())).bind λb=>I (.inl (x.1,b.1.1,x.2.2.1,x.2.2.2.1,(w64<|x.2.2.2.2.1+1),())) else G) else G else I (.inr<|.inr (x.2.1,()))
def UR:=AZ VF
def vB:Loop:=⟨[(5,.row 9 .str),(6,.str),(14,.row 3 .int),(15,j6),(16,j6)],[(6,.str)],0,[],UR⟩
def akG:LF f153 [] [1,1,1,0,1,0,0] vB:=sq (v:= .nil) yT (b:=VF) kN
def eA(x:A1×o4):Option ((A1×D)×D):=(Vk (x.1,())).bind λa=>(Vw ((j8 a.1.1:Int),x.2)).bind λb=>(AP (UR (a.1.1,noB,b.1.1,(j8 b.1.1:Int),0,())) (λ_=>G) λc=>I (c,()))
def yC:Ent:=(153,G,⟨[.str,j6],[.str],eA⟩)
def ag9:o6 yC:=sk (v:=t1<|t1<|t1<|.two (t1<|.one<|.loop vB) .nil) (fn:=f153) yT<|kC akG kN
def aiC:Cx:=cX [LM,Jc,rZ,No,FK,yC] [] []
def aj5:o9 aiC:=v7<|gC MJ<|gC KP<|gC adY<|gC PD<|gC FW<|gC ag9<|AI
def Ux(x:Y1×aEn):Option ((Y6×Bool×D)×D):=(Hm (x.1,())).bind λe=>if !e.1.1 then I (((0,0,0,0,0,0,0,0,0,noB,()),A0,()),()) else if !x.1.2.1 then I (((0,0,0,0,0,0,0,0,0,noB,()),A0,()),()) else(C6 (x.2.2.2.1,0,999,())).bind λf=>if !f.1.1 then I (((0,0,0,0,0,0,0,0,0,noB,()),A0,()),()) else(Iu (x.1,())).bind λa=>(IL (a.1.1.2.2.2.1,x.2.1,x.2.2.1,())).bind λb=>if U (b.1.1<0) then I (((0,0,0,0,0,0,0,0,0,noB,()),A0,()),()) else if inb b.1.1 a.1.1.2.2.2.1.length then let g:=(rd y7 a.1.1.2.2.2.1 b.1.1).fr;let h:=(rd y7 a.1.1.2.2.2.1 b.1.1).nu;let c:=(rd y7 a.1.1.2.2.2.1 b.1.1).to;let i:=(rd y7 a.1.1.2.2.2.1 b.1.1).un;let d:=(rd y7 a.1.1.2.2.2.1 b.1.1).tx;(Jb (x.1.1,c,())).bind λj=>(eA (d,x.2.2.2)).bind λk=>I (((1,x.1.1,j.1.1,g,h,c,i,(d.size:Int),x.2.2.2.1,k.1),Y,()),()) else G
def vU:Ent:=(110,G,⟨[Z12,j6,j6,j6],[Z13,.bool],Ux⟩)
def aev:o6 vU:=sk (v:= .nil) (fn:=f110) aj5 kN
def ahU:Cx:=cX [Rj,bp] [] []
def aj2:o9 ahU:=v7<|gC UO<|gC oo<|AI
def cG(x:Y7×o4):Option ((Y7×D)×D):=(Nf (x.1,())).bind λc=>if !c.1.1 then I (((noB,0,()),()),()) else if U (0<=(w64<|x.1.2.1+(if 0<(if(w64<|(x.1.1.size:Int) - x.1.2.1)<x.2.1 then(w64<|(x.1.1.size:Int) - x.1.2.1) else x.2.1) then(if(w64<|(x.1.1.size:Int) - x.1.2.1)<x.2.1 then(w64<|(x.1.1.size:Int) - x.1.2.1) else x.2.1) else 0)))&&U ((w64<|x.1.2.1+(if 0<(if(w64<|(x.1.1.size:Int) - x.1.2.1)<x.2.1 then(w64<|(x.1.1.size:Int) - x.1.2.1) else x.2.1) then(if(w64<|(x.1.1.size:Int) - x.1.2.1)<x.2.1 then(w64<|(x.1.1.size:Int) - x.1.2.1) else x.2.1) else 0))<=(x.1.1.size:Int)) then let b:=(x.1.1.extract (0)<|AK<|w64<|x.1.2.1+(if 0<(if(w64<|(x.1.1.size:Int) - x.1.2.1)<x.2.1 then(w64<|(x.1.1.size:Int) - x.1.2.1) else x.2.1) then(if(w64<|(x.1.1.size:Int) - x.1.2.1)<x.2.1 then(w64<|(x.1.1.size:Int) - x.1.2.1) else x.2.1) else 0));(PI (b,())).bind λa=>if U (0<=a.1.2.1)&&U (a.1.2.1<=(b.size:Int)) then let d:=(b.extract (0)<|AK a.1.2.1);I (((d,a.1.2),()),()) else G else G
def ua:Ent:=(154,G,⟨[Z15,j6],[Z15],cG⟩)
def aec:o6 ua:=sk (v:= .nil) (fn:=f154) aj2 kN
def agp:Cx:=cX [Jc,ua] [] []
def ai3:o9 agp:=v7<|gC KP<|gC aec<|AI
def Un(x:Y1×o4):Option ((Y1×D)×D):=(Hm (x.1,())).bind λb=>if !b.1.1 then I (((0,A0,noB,0,([]:List AE),()),()),()) else(cG ((x.1.2.2.1,x.1.2.2.2.1,()),x.2)).bind λa=>I (((x.1.1,A0,a.1.1.1,a.1.1.2.1,([]:List AE),()),()),())
def tP:Ent:=(111,G,⟨[Z12,j6],[Z1],Un⟩)
def aeV:o6 tP:=sk (v:= .nil) (fn:=f111) ai3 kN
def afy:Cx:=cX [Jc,LN] [] []
def ai0:o9 afy:=v7<|gC KP<|gC MH<|AI
def Ul(x:Y1×D):Option ((Y1×D)×D):=(Hm x).bind λb=>if !b.1.1 then I (((0,A0,noB,0,([]:List AE),()),()),()) else(Hh x).bind λa=>I (((a.1.1.1,Y,a.1.1.2.2),()),())
def tL:Ent:=(112,G,⟨[Z12],[Z1],Ul⟩)
def aeS:o6 tL:=sk (v:= .nil) (fn:=f112) ai0 kN
def aiE:Cx:=cX [LM,Jc,No,LN,bo,eR] [] [(29,30)]
def aj7:o9 aiE:=v7<|gC MJ<|gC KP<|gC PD<|gC MH<|gC og<|gC q8<|AI
def Uy(x:Y1×y8):Option ((Y1×Y4×Bool×D)×D):=(Hm (x.1,())).bind λd=>if !d.1.1 then I (((0,A0,noB,0,([]:List AE),()),(0,0,0,0,noB,()),A0,()),()) else(Iu (x.1,())).bind λa=>(IL (a.1.1.2.2.2.2.2.1,x.2)).bind λb=>if(!x.1.2.1)||(U<|b.1.1<0) then(Hh (x.1,())).bind λe=>I ((e.1.1,(0,0,0,0,noB,()),A0,()),()) else if inb b.1.1 a.1.1.2.2.2.2.2.1.length then(PH ((B [101,97,116]),x.2.1,x.2.2.1,(rd y7 a.1.1.2.2.2.2.2.1 b.1.1).un,())).bind λf=>(Nd (x.1,f.1)).bind λc=>if !c.1.2.1 then I ((c.1.1,(0,0,0,0,noB,()),A0,()),()) else if inb b.1.1 a.1.1.2.2.2.2.2.1.length then let g:=(rd y7 a.1.1.2.2.2.2.2.1 b.1.1).fr;let h:=(rd y7 a.1.1.2.2.2.2.2.1 b.1.1).nu;let i:=(rd y7 a.1.1.2.2.2.2.2.1 b.1.1).to;let j:=(rd y7 a.1.1.2.2.2.2.2.1 b.1.1).un;let k:=(rd y7 a.1.1.2.2.2.2.2.1 b.1.1).tx;I ((c.1.1,(g,h,i,j,k,()),Y,()),()) else G else G
def vV:Ent:=(113,G,⟨[Z12,j6,j6],[Z1,Z6,.bool],Uy⟩)
def aew:o6 vV:=sk (v:= .nil) (fn:=f113) aj7 kN
def afz:Cx:=cX [LM,Jc,LN,rD,rb] [] []
def ai1:o9 afz:=v7<|gC MJ<|gC KP<|gC MH<|gC adG<|gC adZ<|AI
def Um(x:Y1×D):Option ((Y1×Bool×D)×D):=(Hm x).bind λc=>if !c.1.1 then I (((0,A0,noB,0,([]:List AE),()),A0,()),()) else(Hh x).bind λa=>if !x.1.2.1 then I ((a.1.1,A0,()),()) else(Iu x).bind λd=>(VG d.1).bind λe=>(RJ ((x.1.2.2.1,x.1.2.2.2.1,()),e.1)).bind λb=>I (((a.1.1.1,a.1.1.2.1,b.1.1.1,b.1.1.2.1,a.1.1.2.2.2.2),b.1.2),())
def tM:Ent:=(114,G,⟨[Z12],[Z1,.bool],Um⟩)
def aeT:o6 tM:=sk (v:= .nil) (fn:=f114) ai1 kN
def afJ:Cx:=cX [Jc,LN,fK] [] [(15,22)]
def agz:o9 afJ:=v7<|gC KP<|gC MH<|gC qh<|AI
def US(x:Y1×D):Option ((Y1×Bool×D)×D):=(Hm x).bind λb=>if !b.1.1 then I (((0,A0,noB,0,([]:List AE),()),A0,()),()) else(Hh x).bind λa=>if(!x.1.2.1)||(U<|x.1.2.2.2.1=(x.1.2.2.1.size:Int)) then I ((a.1.1,A0,()),()) else(Nl a.1).bind λc=>I ((c.1.1,Y,()),())
def sK:Ent:=(115,G,⟨[Z12],[Z12,.bool],US⟩)
def aeF:o6 sK:=sk (v:= .nil) (fn:=f115) agz kN
def anM:Cx:=cX [Ix,iW,vT,tJ,vU,tP,tL,vV,tM,sK] [] []
def aoU:o9 anM:=v7<|gC JY<|gC vf<|gC aeu<|gC aeR<|gC aev<|gC aeV<|gC aeS<|gC aew<|gC aeT<|gC aeF<|AI
def Rt(x:Y2×Y6×D):Option ((Bool×D)×Y2×D):=(FV (x.2.1.2.1,())).bind λj=>if !j.1.1 then I ((A0,()),(x.1,())) else if inb x.2.1.2.1 x.1.2.1.length then let e:=(rd aEm x.1.2.1 x.2.1.2.1).id;let a:=(rd aEm x.1.2.1 x.2.1.2.1).up;let f:=(rd aEm x.1.2.1 x.2.1.2.1).log;let g:=(rd aEm x.1.2.1 x.2.1.2.1).fo;let h:=(rd aEm x.1.2.1 x.2.1.2.1).AH;(BT (X:=Y2×Y6×Y1×Bool×D) (λc=>if inb c.2.1.2.1 c.1.2.1.length then I (c.2.2.2,((c.1.1,(Bp c.1.2.1 (AK c.2.1.2.1)<|A8.mk c.2.2.1.1 c.2.2.1.2.1 c.2.2.1.2.2.1 c.2.2.1.2.2.2.1 c.2.2.1.2.2.2.2.1),c.1.2.2),())) else G)<|(if U (x.2.1.1=1) then if U (6<=(j8 x.1.2.2.2.2.1:Int)) then I (.inl ((A0,()),(x.1,()))) else(Uw ((e,a,f,g,h,()),x.2.1.2.2.2.2.2.2.2)).bind λi=>if U (i.1.2.1=0) then I (.inl ((A0,()),(x.1,()))) else if Ab (x.1.2.2.2.2.1.length+([(A3.mk x.2.1.2.1 i.1.2.1 x.2.1.2.2.2.2.2.2.2.1 x.2.1.2.2.2.2.2.2.2.2.1 x.2.1.2.2.2.2.2.2.2.2.2.1)]:List A3).length) then I (.inr ((x.1.1,x.1.2.1,x.1.2.2.1,x.1.2.2.2.1,(x.1.2.2.2.2.1++([(A3.mk x.2.1.2.1 i.1.2.1 x.2.1.2.2.2.2.2.2.2.1 x.2.1.2.2.2.2.2.2.2.2.1 x.2.1.2.2.2.2.2.2.2.2.2.1)]:List A3)),x.1.2.2.2.2.2),x.2.1,i.1.1,Y,())) else G else if U (x.2.1.1=2) then(Uk ((e,a,f,g,h,()),())).bind λk=>I (.inr (x.1,x.2.1,k.1)) else if U (x.2.1.1=3) then(Ux ((e,a,f,g,h,()),x.2.1.2.2.1,x.2.1.2.2.2.1,x.2.1.2.2.2.2.2.1,())).bind λb=>if b.1.2.1 then(Nq (x.1,([(Frame.mk b.1.1.1 b.1.1.2.1 b.1.1.2.2.1 b.1.1.2.2.2.1 b.1.1.2.2.2.2.1 b.1.1.2.2.2.2.2.1 b.1.1.2.2.2.2.2.2.1 b.1.1.2.2.2.2.2.2.2.1 b.1.1.2.2.2.2.2.2.2.2.1 b.1.1.2.2.2.2.2.2.2.2.2.1)]:List Frame),())).bind λl=>I (.inr (l.2.1,x.2.1,(e,a,f,g,h,()),b.1.2)) else I (.inr (x.1,x.2.1,(e,a,f,g,h,()),b.1.2)) else if U (x.2.1.1=7) then(Un ((e,a,f,g,h,()),x.2.1.2.2.2.2.2.2.1,())).bind λm=>I (.inr (x.1,x.2.1,m.1.1,a,())) else if U (x.2.1.1=8) then(Ul ((e,a,f,g,h,()),())).bind λn=>I (.inr (x.1,x.2.1,n.1.1,(!a),())) else if U (x.2.1.1=11) then if U (6<=(j8 x.1.2.2.2.2.2.1:Int)) then I (.inl ((A0,()),(x.1,()))) else(Uy ((e,a,f,g,h,()),x.2.1.2.2.1,x.2.1.2.2.2.1,())).bind λd=>if !d.1.2.2.1 then I (.inl ((A0,()),(x.1,()))) else if Ab (x.1.2.2.2.2.2.1.length+([(A3.mk d.1.2.1.1 d.1.2.1.2.1 d.1.2.1.2.2.1 d.1.2.1.2.2.2.1 d.1.2.1.2.2.2.2.1)]:List A3).length) then I (.inr ((x.1.1,x.1.2.1,x.1.2.2.1,x.1.2.2.2.1,x.1.2.2.2.2.1,(x.1.2.2.2.2.2.1++([(A3.mk d.1.2.1.1 d.1.2.1.2.1 d.1.2.1.2.2.1 d.1.2.1.2.2.2.1 d.1.2.1.2.2.2.2.1)]:List A3)),()),x.2.1,d.1.1,Y,())) else G else if U (x.2.1.1=12) then(Um ((e,a,f,g,h,()),())).bind λo=>I (.inr (x.1,x.2.1,o.1)) else if U (x.2.1.1=13) then(US ((e,a,f,g,h,()),())).bind λp=>I (.inr (x.1,x.2.1,p.1)) else I (.inr (x.1,x.2.1,(e,a,f,g,h,()),A0,())))) else G
def zJ:Ent:=(69,G,⟨[Z2,Z13],[.bool],Rt⟩)
def ah7:o6 zJ:=sk (v:=t1<|t1<|t1<|t1<|.join [(0,Z2),(3,Z25),(5,Z34),(6,.bool)] .nil .nil) (fn:=f69) aoU kN
def alJ:Cx:=cX [bm,zL,xE,zJ] [] [(28,30)]
def an2:o9 alJ:=v7<|gC oe<|gC ah8<|gC afO<|gC ah7<|AI
def Hl(x:Y2×Y6×D):Option ((Y2×Bool×D)×D):=(JZ (x.1,())).bind λc=>(BT (X:=Y2×Y2×Y2×Bool×D) (λb=>if(!b.2.2.2.1)||(U<|b.1.1=99999) then(JZ (b.1,())).bind λm=>I ((m.1.1,A0,()),()) else(JZ (((w64<|b.2.2.1.1+1),b.2.2.1.2),())).bind λn=>I ((n.1.1,Y,()),()))<|(BT (X:=Y2×Y6×Y2×Y2×Int×Bool×D) (λa=>if a.2.2.2.2.2.1 then(fF (a.2.2.2.1,a.2.1,())).bind λd=>I (.inr (a.1,a.2.2.1,d.2.1,d.1)) else let e:=(U<|a.2.2.2.2.1=4);(if e then if e then(Ra (a.2.2.2.1,a.2.1,())).bind λf=>I (.inr (a.1,a.2.2.1,f.2.1,f.1)) else(Rt (a.2.2.2.1,a.2.1,())).bind λg=>I (.inr (a.1,a.2.2.1,g.2.1,g.1)) else let h:=(U<|a.2.2.2.2.1=5);(if h then if h then(Ra (a.2.2.2.1,a.2.1,())).bind λi=>I (.inr (a.1,a.2.2.1,i.2.1,i.1)) else(Rt (a.2.2.2.1,a.2.1,())).bind λj=>I (.inr (a.1,a.2.2.1,j.2.1,j.1)) else let o:=(U<|a.2.2.2.2.1=6);(if o then(Ra (a.2.2.2.1,a.2.1,())).bind λk=>I (.inr (a.1,a.2.2.1,k.2.1,k.1)) else(Rt (a.2.2.2.1,a.2.1,())).bind λl=>I<|.inr (a.1,a.2.2.1,l.2.1,l.1)))))<|(if U (x.2.1.1=9) then I (.inr (x.1,x.2.1,(0,([]:List A8),([]:List Bool),([]:List AL),([]:List A3),([]:List A3),()),c.1.1,x.2.1.1,(U<|x.2.1.1=9),())) else I (.inr (x.1,x.2.1,(0,([]:List A8),([]:List Bool),([]:List AL),([]:List A3),([]:List A3),()),c.1.1,x.2.1.1,(U<|x.2.1.1=10),())))))
def VP:Ent:=(38,G,⟨[Z30,Z13],[Z3,.bool],Hl⟩)
def bL:o6 VP:=sk (v:=t1<|t1<|t1<|.join [(2,Z29),(4,Z2),(6,Z2),(7,.bool)] (t1<|.one<|.join [(2,Z29),(3,Z25),(4,Z2),(6,Z2),(11,j6),(14,.bool)] .nil .nil) .nil) (fn:=f38) an2 kN
def ahV:Cx:=cX [tI,VP] [] []
def vd:o9 ahV:=v7<|gC aeQ<|gC bL<|AI
def bd(x:Y2×Y2×List Event×y8):Rnd (Y2×Y2×List Event×y8) D (Y2×Y2×D):=if U (x.2.2.2.2.1<x.2.2.2.1) then if inb x.2.2.2.2.1 x.2.2.1.length then let a:=(rd aEy x.2.2.1 x.2.2.2.2.1).ki;let b:=(rd aEy x.2.2.1 x.2.2.2.2.1).at_;let c:=(rd aEy x.2.2.1 x.2.2.2.2.1).fr;let d:=(rd aEy x.2.2.1 x.2.2.2.2.1).nu;let e:=(rd aEy x.2.2.1 x.2.2.2.2.1).wo;let f:=(rd aEy x.2.2.1 x.2.2.2.2.1).mix;let g:=(rd aEy x.2.2.1 x.2.2.2.2.1).kp;let h:=(rd aEy x.2.2.1 x.2.2.2.2.1).to;let i:=(rd aEy x.2.2.1 x.2.2.2.2.1).un;let j:=(rd aEy x.2.2.1 x.2.2.2.2.1).tx;(Hl (x.2.1,(a,b,c,d,e,f,g,h,i,j,()),())).bind λk=>I (.inl (x.1,k.1.1,x.2.2.1,x.2.2.2.1,(w64<|x.2.2.2.2.1+1),())) else G else I (.inr<|.inr (x.1,x.2.1,()))
def aS:=AZ bd
def sU:Loop:=⟨[(2,Z2),(3,Z2),(11,.sl .CJ),(12,j6),(13,j6)],[(2,Z2),(3,Z2)],0,[],aS⟩
def ahN:LF f15 [] [1,1,1,0,1,0,0] sU:=sq (v:= .nil) vd (b:=bd) kN
def cH(x:List Event×D):Option ((Y2×D)×D):=(ba ()).bind λa=>if U (2000<(j8 x.1:Int)) then I (a.1,()) else(AP (aS ((0,([]:List A8),([]:List Bool),([]:List AL),([]:List A3),([]:List A3),()),a.1.1,x.1,(j8 x.1:Int),0,())) (λ_=>G) λb=>I (b.2,()))
def ub:Ent:=(15,G,⟨[.fz .CJ],[Z3],cH⟩)
def aed:o6 ub:=sk (v:=t1<|t1<|t1<|.two (t1<|.one<|.loop sU) .nil) (fn:=f15) vd<|kC ahN kN
def aoo:Cx:=cX [Rv] [] []
def aA8:o9 aoo:=v7<|gC Uj<|AI
def fH(x:List A3×List A3×y8):Rnd (List A3×List A3×y8) (Bool×D) (List A3×D):=if U (x.2.2.2.1<x.2.2.1) then if inb x.2.2.2.1 x.2.1.length then let a:=(rd y7 x.2.1 x.2.2.2.1).fr;let b:=(rd y7 x.2.1 x.2.2.2.1).nu;let c:=(rd y7 x.2.1 x.2.2.2.1).to;let d:=(rd y7 x.2.1 x.2.2.2.1).un;let e:=(rd y7 x.2.1 x.2.2.2.1).tx;(Nn ((a,b,c,d,e,()),())).bind λf=>if !f.1.1 then I (.inr<|.inl (A0,())) else I (.inl (x.1,x.2.1,x.2.2.1,(w64<|x.2.2.2.1+1),())) else G else I (.inr<|.inr (x.1,()))
def qu:=AZ fH
def xH:Loop:=⟨[(0,.sl .note),(5,.sl .note),(6,j6),(7,j6)],[(0,.sl .note)],0,[(2,.bool)],qu⟩
def ao4:LF f61 [] [1,0,1,0,0] xH:=sq (v:= .nil) aA8 (b:=fH) kN
def Vv(x:List A3×D):Option ((Bool×D)×D):=(AP (qu (x.1,x.1,(j8 x.1:Int),0,())) (λa=>I (a,())) (λa=>let b:=(U<|(j8 a.1:Int)<=6);I ((b,()),())))
def zv:Ent:=(61,G,⟨[.fz .note],[.bool],Vv⟩)
def aif:o6 zv:=sk (v:=t1<|.two (t1<|.one<|.loop xH) .nil) (fn:=f61) aA8<|kC ao4 kN
def alM:Cx:=cX [Jc,FK,zv,Ix] [] [(54,56)]
def ff:o9 alM:=v7<|gC KP<|gC FW<|gC aif<|gC JY<|AI
def cd(x:List AL×y8):Rnd (List AL×y8) (Bool×D) D:=if U (x.2.2.1<x.2.1) then if inb x.2.2.1 x.1.length then let a:=(rd aEq x.1 x.2.2.1).src;let b:=(rd aEq x.1 x.2.2.1).dst;let c:=(rd aEq x.1 x.2.2.1).data;let f:=(rd aEq x.1 x.2.2.1).sp;(FV (a,())).bind λd=>if !d.1.1 then I (.inr<|.inl (A0,())) else(FV (b,())).bind λe=>if !e.1.1 then I (.inr<|.inl (A0,())) else if !decide ((w64<|a - b)=1) then if !decide ((w64<|b - a)=1) then I (.inr<|.inl (A0,())) else if U (40<(c.size:Int)) then I (.inr<|.inl (A0,())) else I (.inl (x.1,x.2.1,(w64<|x.2.2.1+1),())) else if U (40<(c.size:Int)) then I (.inr<|.inl (A0,())) else I (.inl (x.1,x.2.1,(w64<|x.2.2.1+1),())) else G else I (.inr<|.inr ())
def pf:=AZ cd
def ur:Loop:=⟨[(60,.sl .Aj),(61,j6),(62,j6)],[],2,[(2,.bool)],pf⟩
def akg:LF f31 [] [1,1,1,0,1,0,0] ur:=sq (v:= .nil) ff (b:=cd) kN
def cf(x:Y2×List A8×y8):Rnd (Y2×List A8×y8) (Bool×D) (Y2×D):=if U (x.2.2.2.1<x.2.2.1) then if inb x.2.2.2.1 x.2.1.length then let a:=(rd aEm x.2.1 x.2.2.2.1).id;let b:=(rd aEm x.2.1 x.2.2.2.1).up;let c:=(rd aEm x.2.1 x.2.2.2.1).log;let d:=(rd aEm x.2.1 x.2.2.2.1).fo;let e:=(rd aEm x.2.1 x.2.2.2.1).AH;if An (!(!decide (a=x.2.2.2.1))) ((Hm ((a,b,c,d,e,()),())).isSome) then if(!decide (a=x.2.2.2.1))||(!(((Hm ((a,b,c,d,e,()),())).getD ((A0,()),())).1.1)) then I (.inr<|.inl (A0,())) else I (.inl (x.1,x.2.1,x.2.2.1,(w64<|x.2.2.2.1+1),())) else G else G else I (.inr<|.inr (x.1,()))
def pg:=AZ cf
def uu:Loop:=⟨[(1,Z29),(42,.sl .AX),(43,j6),(44,j6)],[(1,Z29)],0,[(2,.bool)],pg⟩
def al1:LF f31 [] [1,1,0,1,0,0] uu:=sq (v:= .nil) ff (b:=cf) kN
def PU(x:Y2×D):Option ((Bool×D)×D):=(C6 (x.1.1,0,99999,())).bind λc=>if !c.1.1 then I ((A0,()),()) else if !decide ((j8 x.1.2.1:Int)=4) then I ((A0,()),()) else if !decide ((j8 x.1.2.2.1:Int)=3) then I ((A0,()),()) else if U (30<(j8 x.1.2.2.2.1:Int)) then I ((A0,()),()) else(Vv (x.1.2.2.2.2.1,())).bind λd=>if !d.1.1 then I ((A0,()),()) else(Vv x.1.2.2.2.2.2).bind λe=>if !e.1.1 then I ((A0,()),()) else(AP (pg (x.1,x.1.2.1,(j8 x.1.2.1:Int),0,())) (λa=>I (a,())) λa=>(AP (pf (a.1.2.2.2.1,(j8 a.1.2.2.2.1:Int),0,())) (λb=>I (b,())) λb=>I ((Y,()),())))
def fY:Ent:=(31,G,⟨[Z30],[.bool],PU⟩)
def sV:o6 fY:=sk (v:=t1<|t1<|.two (t1<|.one<|.loop uu)<|.two (t1<|.one<|.loop ur) .nil) (fn:=f31) ff<|kC al1<|kC akg kN
def ahR:Cx:=cX [VP] [] [(9,12)]
def vb:o9 ahR:=v7<|gC bL<|AI
def R8(x:Y2×Y2×o4):Rnd (Y2×Y2×o4) D (Y2×Y2×D):=if(U<|x.2.2.1<400)&&(U<|0<(j8 x.1.2.2.2.1:Int)) then(Hl (x.1,(4,0,0,0,0,0,0,0,0,noB,()),())).bind λa=>if !a.1.2.1 then I (.inr<|.inr (x.1,x.2.1,())) else I (.inl (a.1.1,x.2.1,(w64<|x.2.2.1+1),())) else I (.inr<|.inr (x.1,x.2.1,()))
def UG:=AZ R8
def ads:Loop:=⟨[(1,Z35),(2,Z2),(3,j6)],[(1,Z29),(2,Z2)],0,[],UG⟩
def ahK:LF f75 [] [1,0,1,0,0] ads:=sq (v:= .nil) vb (b:=R8) kN
def RI(x:Y2×D):Option ((Y2×D)×D):=(AP (UG (x.1,(0,([]:List A8),([]:List Bool),([]:List AL),([]:List A3),([]:List A3),()),0,())) (λ_=>G) λa=>I ((a.1,()),()))
def uZ:Ent:=(75,G,⟨[Z30],[Z30],RI⟩)
def aei:o6 uZ:=sk (v:=t1<|.two (t1<|.one<|.loop ads) .nil) (fn:=f75) vb<|kC ahK kN
def aoj:Cx:=cX [LM,VP,uZ,gK] [] []
def W1:o9 aoj:=v7<|gC MJ<|gC bL<|gC aei<|gC ss<|AI
def fA(x:Y2×Y2×Int×Y4×List A3×Int×aEn):Rnd (Y2×Y2×Int×Y4×List A3×Int×aEn) D (Y2×Y2×Int×List A3×y8):=if U (x.2.2.2.2.2.2.2.2.1<x.2.2.2.2.2.2.2.1) then(Hl (x.1,(3,x.2.2.1,x.2.2.2.1.1,x.2.2.2.1.2.1,0,x.2.2.2.2.2.2.2.2.1,0,0,0,noB,()),())).bind λayl=>(RI (ayl.1.1,())).bind λayk=>I (.inl (ayk.1.1,x.2.1,x.2.2.1,x.2.2.2.1,x.2.2.2.2.1,x.2.2.2.2.2.1,x.2.2.2.2.2.2.1,x.2.2.2.2.2.2.2.1,(w64<|x.2.2.2.2.2.2.2.2.1+1),())) else I (.inr<|.inr (x.1,x.2.1,x.2.2.1,x.2.2.2.2.1,x.2.2.2.2.2.1,x.2.2.2.2.2.2.1,()))
def c9:=AZ fA
def xR:Loop:=⟨[(1,Z29),(2,Z2),(4,j6),(6,Z5),(38,.row 36 .note),(39,j6),(40,j6),(47,j6),(48,j6)],[(1,Z29),(2,Z2),(4,j6),(38,.row 36 .note),(39,j6),(40,j6)],6,[],c9⟩
def anq:LF f40 [] [1,1,1,0,1,0,0,1,0,0,1,0,0,1,1,0,0,1,1,0,0] xR:=sq (v:= .nil) W1 (b:=fA) kN
def Vb(x:Y2×Y2×Int×List A3×y8):Rnd (Y2×Y2×Int×List A3×y8) D (Y2×Y2×o4):=if U (x.2.2.2.2.2.1<x.2.2.2.2.1) then if inb x.2.2.2.2.2.1 x.2.2.2.1.length then let ayu:=(rd y7 x.2.2.2.1 x.2.2.2.2.2.1).fr;let ayt:=(rd y7 x.2.2.2.1 x.2.2.2.2.2.1).nu;let ays:=(rd y7 x.2.2.2.1 x.2.2.2.2.2.1).to;let b:=(rd y7 x.2.2.2.1 x.2.2.2.2.2.1).un;let a:=(rd y7 x.2.2.2.1 x.2.2.2.2.2.1).tx;(Vk (a,())).bind λaym=>(AP (c9 (x.1,x.2.1,x.2.2.1,(ayu,ayt,ays,b,a,()),x.2.2.2.1,x.2.2.2.2.1,x.2.2.2.2.2.1,(j8 aym.1.1:Int),0,())) (λ_=>I<|.inr<|.inl ()) λQw=>I<|.inl (Qw.1,Qw.2.1,Qw.2.2.1,Qw.2.2.2.1,Qw.2.2.2.2.1,(w64<|Qw.2.2.2.2.2.1+1),())) else G else I (.inr<|.inr (x.1,x.2.1,x.2.2.1,()))
def cB:=AZ Vb
def xS:Loop:=⟨[(1,Z29),(2,Z2),(4,j6),(38,.row 36 .note),(39,j6),(40,j6)],[(1,Z29),(2,Z2),(4,j6)],4,[],cB⟩
def ans:LF f40 [] [1,1,1,0,1,0,0,1,0,0,1,0,0] xS:=sq (v:=t1<|t1<|.two (.one<|t1<|t1<|.one<|.loop xR) .nil) W1 (b:=Vb)<|kC anq kN
def Vc(x:Y2×Y2×o4):Rnd (Y2×Y2×o4) D (Y2×Y2×D):=if U (x.2.2.1<4) then if inb x.2.2.1 x.1.2.1.length then(Iu (((rd aEm x.1.2.1 x.2.2.1).id,(rd aEm x.1.2.1 x.2.2.1).up,(rd aEm x.1.2.1 x.2.2.1).log,(rd aEm x.1.2.1 x.2.2.1).fo,(rd aEm x.1.2.1 x.2.2.1).AH,()),())).bind λZz=>(AP (cB (x.1,x.2.1,x.2.2.1,Zz.1.1.2.2.2.1,(Zz.1.1.2.2.2.1.length:Int),0,())) (λ_=>I<|.inr<|.inl ()) λns=>I<|.inl (ns.1,ns.2.1,(w64<|ns.2.2.1+1),())) else G else I (.inr<|.inr (x.1,x.2.1,()))
def cC:=AZ Vc
def xT:Loop:=⟨[(1,Z29),(2,Z2),(4,j6)],[(1,Z29),(2,Z2)],2,[],cC⟩
def anv:LF f40 [] [1,1,1,0,1,0,0] xT:=sq (v:=t1<|.two (.one<|t1<|.one<|.loop xS) .nil) W1 (b:=Vc)<|kC ans kN
def Vd(x:Y2×Y2×o4):Rnd (Y2×Y2×o4) D (Y2×Y2×D):=if U (x.2.2.1<4) then(Hl (x.1,(8,x.2.2.1,0,0,0,0,0,0,0,noB,()),())).bind λa=>(Hl (a.1.1,(9,x.2.2.1,0,0,0,0,0,0,0,noB,()),())).bind λb=>I (.inl (b.1.1,x.2.1,(w64<|x.2.2.1+1),())) else I (.inr<|.inr (x.1,x.2.1,()))
def cD:=AZ Vd
def xU:Loop:=⟨[(1,Z35),(2,Z2),(3,j6)],[(1,Z29),(2,Z2)],0,[],cD⟩
def ao3:LF f40 [] [1,0,1,0,0] xU:=sq (v:= .nil) W1 (b:=Vd) kN
def Vs(x:Y2×D):Option ((Y2×D)×D):=(AP (cD (x.1,(0,([]:List A8),([]:List Bool),([]:List AL),([]:List A3),([]:List A3),()),0,())) (λ_=>G) λa=>(RI (a.1,())).bind λb=>(AP (cC (b.1.1,a.2.1,0,())) (λ_=>G) λayo=>I ((ayo.1,()),())))
def zq:Ent:=(40,G,⟨[Z30],[Z30],Vs⟩)
def aiZ:o6 zq:=sk (v:=t1<|.two (t1<|.one<|.loop xU)<|t1<|.two (t1<|.one<|.loop xT) .nil) (fn:=f40) W1<|kC ao3<|kC anv kN
def ahW:Cx:=cX [fY,bm,zq] [] [(18,20)]
def ve:o9 ahW:=v7<|gC sV<|gC oe<|gC aiZ<|AI
def Ui(x:Int×Y2×Y2×o4):Rnd (Int×Y2×Y2×o4) D (Y2×Y2×D):=if(U<|x.2.2.2.1<(if 20<x.1 then 20 else x.1))&&(U<|x.2.2.1.1<79999) then(Vs (x.2.2.1,())).bind λa=>I (.inl (x.1,x.2.1,a.1.1,(w64<|x.2.2.2.1+1),())) else I (.inr<|.inr (x.2.1,x.2.2.1,()))
def UH:=AZ Ui
def sW:Loop:=⟨[(1,j6),(4,Z2),(5,Z35),(6,j6)],[(4,Z2),(5,Z29)],0,[],UH⟩
def ahO:LF f16 [] [1,1,1,0,1,0,0] sW:=sq (v:= .nil) ve (b:=Ui) kN
def RO(x:Y2×o4):Option ((Y2×D)×D):=(PU (x.1,())).bind λa=>if !a.1.1 then I (((0,([]:List A8),([]:List Bool),([]:List AL),([]:List A3),([]:List A3),()),()),()) else(JZ (x.1,())).bind λb=>(AP (UH (x.2.1,(0,([]:List A8),([]:List Bool),([]:List AL),([]:List A3),([]:List A3),()),b.1.1,0,())) (λ_=>G) λc=>I (c.2,()))
def ue:Ent:=(16,G,⟨[Z30,j6],[Z30],RO⟩)
def aes:o6 ue:=sk (v:=t1<|t1<|t1<|.two (t1<|.one<|.loop sW) .nil) (fn:=f16) ve<|kC ahO kN
def akC:Cx:=cX [] [] []
def xk:o9 akC:=v7<|AI
def VB(x:List A3×List A3×o4):Rnd (List A3×List A3×o4) (Bool×D) D:=if U (x.2.2.1<(j8 x.1:Int)) then if inb x.2.2.1 x.1.length then if inb x.2.2.1 x.2.1.length then if !(Ov ((rd y7 x.1 x.2.2.1).fr) ((rd y7 x.1 x.2.2.1).nu) ((rd y7 x.1 x.2.2.1).to) ((rd y7 x.1 x.2.2.1).un) ((rd y7 x.1 x.2.2.1).tx) ((rd y7 x.2.1 x.2.2.1).fr) ((rd y7 x.2.1 x.2.2.1).nu) ((rd y7 x.2.1 x.2.2.1).to) ((rd y7 x.2.1 x.2.2.1).un)<|(rd y7 x.2.1 x.2.2.1).tx) then I (.inr<|.inl (A0,())) else I (.inl (x.1,x.2.1,(w64<|x.2.2.1+1),())) else G else G else I (.inr<|.inr ())
def px:=AZ VB
def vO:Loop:=⟨[(0,.sl .note),(1,.sl .note),(5,j6)],[],0,[(4,.bool)],px⟩
def akw:LF f27 [] [1,1,0,1,0,0] vO:=sq (v:= .nil) xk (b:=VB) kN
def Rk(x:List A3×List A3×D):Option ((Bool×D)×D):=if !decide ((j8 x.1:Int)=(j8 x.2.1:Int)) then I ((A0,()),()) else(AP (px (x.1,x.2.1,0,())) (λa=>I (a,())) λa=>I ((Y,()),()))
def xw:Ent:=(27,G,⟨[.fz .note,.fz .note],[.bool],Rk⟩)
def agM:o6 xw:=sk (v:=t1<|t1<|.two (t1<|.one<|.loop vO) .nil) (fn:=f27) xk<|kC akw kN
def aj8:Cx:=cX [] [] []
def rh:o9 aj8:=v7<|AI
def Ur(x:List AE×List AE×y8):Rnd (List AE×List AE×y8) (Bool×D) (List AE×List AE×o4):=if inb x.2.2.1 x.1.length then if U (x.2.2.2.1<(((rd aEl x.1 x.2.2.1).got).length:Int)) then if inb x.2.2.1 x.1.length then if inb x.2.2.2.1 (((rd aEl x.1 x.2.2.1).got).length) then if inb x.2.2.1 x.2.1.length then if inb x.2.2.2.1 (((rd aEl x.2.1 x.2.2.1).got).length) then if !(U ((rd aEx ((rd aEl x.1 x.2.2.1).got) x.2.2.2.1).nu=(rd aEx ((rd aEl x.2.1 x.2.2.1).got) x.2.2.2.1).nu)&&(U ((rd aEx ((rd aEl x.1 x.2.2.1).got) x.2.2.2.1).da=(rd aEx ((rd aEl x.2.1 x.2.2.1).got) x.2.2.2.1).da)&&Y)) then I (.inr<|.inl (A0,())) else I (.inl (x.1,x.2.1,x.2.2.1,(w64<|x.2.2.2.1+1),())) else G else G else G else G else I (.inr<|.inr (x.1,x.2.1,x.2.2.1,())) else G
def pI:=AZ Ur
def tq:Loop:=⟨[(0,.sl .half),(1,.sl .half),(5,j6),(6,j6)],[(0,.sl .half),(1,.sl .half),(5,j6)],2,[(4,.bool)],pI⟩
def ais:LF f77 [] [1,1,0,1,0,0,1,0,0,1,1,0,0] tq:=sq (v:= .nil) rh (b:=Ur) kN
def Us(x:List AE×List AE×o4):Rnd (List AE×List AE×o4) (Bool×D) D:=if U (x.2.2.1<(j8 x.1:Int)) then if inb x.2.2.1 x.1.length then if inb x.2.2.1 x.2.1.length then if !decide ((rd aEl x.1 x.2.2.1).fr=(rd aEl x.2.1 x.2.2.1).fr) then I (.inr<|.inl (A0,())) else if inb x.2.2.1 x.1.length then if inb x.2.2.1 x.2.1.length then if !decide ((rd aEl x.1 x.2.2.1).nu=(rd aEl x.2.1 x.2.2.1).nu) then I (.inr<|.inl (A0,())) else if inb x.2.2.1 x.1.length then if inb x.2.2.1 x.2.1.length then if !decide ((rd aEl x.1 x.2.2.1).to=(rd aEl x.2.1 x.2.2.1).to) then I (.inr<|.inl (A0,())) else if inb x.2.2.1 x.1.length then if inb x.2.2.1 x.2.1.length then if !decide ((rd aEl x.1 x.2.2.1).un=(rd aEl x.2.1 x.2.2.1).un) then I (.inr<|.inl (A0,())) else if inb x.2.2.1 x.1.length then if inb x.2.2.1 x.2.1.length then if !decide ((rd aEl x.1 x.2.2.1).sz=(rd aEl x.2.1 x.2.2.1).sz) then I (.inr<|.inl (A0,())) else if inb x.2.2.1 x.1.length then if inb x.2.2.1 x.2.1.length then if !decide ((((rd aEl x.1 x.2.2.1).got).length:Int)=(((rd aEl x.2.1 x.2.2.1).got).length:Int)) then I (.inr<|.inl (A0,())) else(AP (pI (x.1,x.2.1,x.2.2.1,0,())) (λa=>I<|.inr<|.inl a) λa=>I<|.inl (a.1,a.2.1,(w64<|a.2.2.1+1),())) else G else G else G else G else G else G else G else G else G else G else G else G else I (.inr<|.inr ())
def pJ:=AZ Us
def tr:Loop:=⟨[(0,.sl .half),(1,.sl .half),(5,j6)],[],0,[(4,.bool)],pJ⟩
def aiU:LF f77 [] [1,1,0,1,0,0] tr:=sq (v:=t1<|.two (.one<|t1<|t1<|.one<|.loop tq) .nil) rh (b:=Us)<|kC ais kN
def PM(x:List AE×List AE×D):Option ((Bool×D)×D):=if !decide ((j8 x.1:Int)=(j8 x.2.1:Int)) then I ((A0,()),()) else(AP (pJ (x.1,x.2.1,0,())) (λa=>I (a,())) λa=>I ((Y,()),()))
def xC:Ent:=(77,G,⟨[.fz .half,.fz .half],[.bool],PM⟩)
def af1:o6 xC:=sk (v:=t1<|t1<|.two (t1<|.one<|.loop tr) .nil) (fn:=f77) rh<|kC aiU kN
def ajk:Cx:=cX [xC] [] [(25,29)]
def al5:o9 ajk:=v7<|gC af1<|AI
def dM(x:Y1×Y1×D):Option ((Bool×D)×D):=if U (x.1.1=x.2.1.1) then if U (x.1.2.1=x.2.1.2.1) then if An (U (x.1.2.2.1=x.2.1.2.2.1)&&(U (x.1.2.2.2.1=x.2.1.2.2.2.1)&&Y)) ((PM (x.1.2.2.2.2.1,x.2.1.2.2.2.2)).isSome) then let a:=((U (x.1.2.2.1=x.2.1.2.2.1)&&(U (x.1.2.2.2.1=x.2.1.2.2.2.1)&&Y))&&(((PM (x.1.2.2.2.2.1,x.2.1.2.2.2.2)).getD ((A0,()),())).1.1));I ((a,()),()) else G else if An A0 ((PM (x.1.2.2.2.2.1,x.2.1.2.2.2.2)).isSome) then I ((A0,()),()) else G else if An A0 ((PM (x.1.2.2.2.2.1,x.2.1.2.2.2.2)).isSome) then I ((A0,()),()) else G
def xB:Ent:=(41,G,⟨[Z12,Z12],[.bool],dM⟩)
def af0:o6 xB:=sk (v:= .nil) (fn:=f41) al5 kN
def akB:Cx:=cX [xw,xB] [] []
def eS:o9 akB:=v7<|gC agM<|gC af0<|AI
def V8(x:Y2×Y2×o4):Rnd (Y2×Y2×o4) (Bool×D) D:=if U (x.2.2.1<(j8 x.1.2.2.2.1:Int)) then if inb x.2.2.1 x.1.2.2.2.1.length then if inb x.2.2.1 x.2.1.2.2.2.1.length then if !(U ((rd aEq x.1.2.2.2.1 x.2.2.1).src=(rd aEq x.2.1.2.2.2.1 x.2.2.1).src)&&(U ((rd aEq x.1.2.2.2.1 x.2.2.1).dst=(rd aEq x.2.1.2.2.2.1 x.2.2.1).dst)&&(U ((rd aEq x.1.2.2.2.1 x.2.2.1).data=(rd aEq x.2.1.2.2.2.1 x.2.2.1).data)&&(U ((rd aEq x.1.2.2.2.1 x.2.2.1).sp=(rd aEq x.2.1.2.2.2.1 x.2.2.1).sp)&&Y)))) then I (.inr<|.inl (A0,())) else I (.inl (x.1,x.2.1,(w64<|x.2.2.1+1),())) else G else G else I (.inr<|.inr ())
def pM:=AZ V8
def vL:Loop:=⟨[(2,Z29),(3,Z29),(7,j6)],[],4,[(4,.bool)],pM⟩
def ajm:LF f17 [] [1,1,1,1,0,1,0,0] vL:=sq (v:= .nil) eS (b:=V8) kN
def V9(x:Y2×Y2×o4):Rnd (Y2×Y2×o4) (Bool×D) (Y2×Y2×D):=if U (x.2.2.1<(j8 x.1.2.2.1:Int)) then if inb x.2.2.1 x.1.2.2.1.length then if inb x.2.2.1 x.2.1.2.2.1.length then if !decide ((rd aEz x.1.2.2.1 x.2.2.1)=(rd aEz x.2.1.2.2.1 x.2.2.1)) then I (.inr<|.inl (A0,())) else I (.inl (x.1,x.2.1,(w64<|x.2.2.1+1),())) else G else G else I (.inr<|.inr (x.1,x.2.1,()))
def pN:=AZ V9
def vM:Loop:=⟨[(2,Z29),(3,Z29),(6,j6)],[(2,Z29),(3,Z29)],2,[(4,.bool)],pN⟩
def ake:LF f17 [] [1,1,1,0,1,0,0] vM:=sq (v:= .nil) eS (b:=V9) kN
def VA(x:Y2×Y2×o4):Rnd (Y2×Y2×o4) (Bool×D) (Y2×Y2×D):=if U (x.2.2.1<(j8 x.1.2.1:Int)) then if inb x.2.2.1 x.1.2.1.length then if inb x.2.2.1 x.2.1.2.1.length then(dM (((rd aEm x.1.2.1 x.2.2.1).id,(rd aEm x.1.2.1 x.2.2.1).up,(rd aEm x.1.2.1 x.2.2.1).log,(rd aEm x.1.2.1 x.2.2.1).fo,(rd aEm x.1.2.1 x.2.2.1).AH,()),((rd aEm x.2.1.2.1 x.2.2.1).id,(rd aEm x.2.1.2.1 x.2.2.1).up,(rd aEm x.2.1.2.1 x.2.2.1).log,(rd aEm x.2.1.2.1 x.2.2.1).fo,(rd aEm x.2.1.2.1 x.2.2.1).AH,()),())).bind λa=>if !a.1.1 then I (.inr<|.inl (A0,())) else I (.inl (x.1,x.2.1,(w64<|x.2.2.1+1),())) else G else G else I (.inr<|.inr (x.1,x.2.1,()))
def pv:=AZ VA
def vN:Loop:=⟨[(2,Z29),(3,Z29),(5,j6)],[(2,Z29),(3,Z29)],0,[(4,.bool)],pv⟩
def akv:LF f17 [] [1,1,0,1,0,0] vN:=sq (v:= .nil) eS (b:=VA) kN
def VH(x:Y2×Y2×D):Option ((Bool×D)×D):=if !decide (x.1.1=x.2.1.1) then I ((A0,()),()) else if !decide ((j8 x.1.2.1:Int)=(j8 x.2.1.2.1:Int)) then I ((A0,()),()) else if !decide ((j8 x.1.2.2.1:Int)=(j8 x.2.1.2.2.1:Int)) then I ((A0,()),()) else if !decide ((j8 x.1.2.2.2.1:Int)=(j8 x.2.1.2.2.2.1:Int)) then I ((A0,()),()) else(Rk (x.1.2.2.2.2.1,x.2.1.2.2.2.2.1,())).bind λd=>if !d.1.1 then I ((A0,()),()) else(Rk (x.1.2.2.2.2.2.1,x.2.1.2.2.2.2.2)).bind λe=>if !e.1.1 then I ((A0,()),()) else(AP (pv (x.1,x.2.1,0,())) (λa=>I (a,())) λa=>(AP (pN (a.1,a.2.1,0,())) (λb=>I (b,())) λb=>(AP (pM (b.1,b.2.1,0,())) (λc=>I (c,())) λc=>I ((Y,()),()))))
def xv:Ent:=(17,G,⟨[Z30,Z30],[.bool],VH⟩)
def agL:o6 xv:=sk (v:=t1<|t1<|.two (t1<|.one<|.loop vN)<|.two (t1<|.one<|.loop vM)<|.two (t1<|.one<|.loop vL) .nil) (fn:=f17) eS<|kC akv<|kC ake<|kC ajm kN
def aog:Cx:=cX [] [] []
def aA6:o9 aog:=v7<|AI
def gh(x:List A3×Y4×o4):Rnd (List A3×Y4×o4) (Bool×D) D:=if U (x.2.2.1<(j8 x.1:Int)) then if inb x.2.2.1 x.1.length then if Ov ((rd y7 x.1 x.2.2.1).fr) ((rd y7 x.1 x.2.2.1).nu) ((rd y7 x.1 x.2.2.1).to) ((rd y7 x.1 x.2.2.1).un) ((rd y7 x.1 x.2.2.1).tx) x.2.1.1 x.2.1.2.1 x.2.1.2.2.1 x.2.1.2.2.2.1 x.2.1.2.2.2.2.1 then I (.inr<|.inl (Y,())) else I (.inl (x.1,x.2.1,(w64<|x.2.2.1+1),())) else G else I (.inr<|.inr ())
def vP:=AZ gh
def xP:Loop:=⟨[(0,.sl .note),(3,Z5),(5,j6)],[],0,[(4,.bool)],vP⟩
def ao1:LF f19 [] [1,0,1,0,0] xP:=sq (v:= .nil) aA6 (b:=gh) kN
def fS(x:List A3×Y4×D):Option ((Bool×D)×D):=(AP (vP (x.1,x.2.1,0,())) (λa=>I (a,())) λa=>I ((A0,()),()))
def aA2:Ent:=(19,G,⟨[.fz .note,Z6],[.bool],fS⟩)
def ain:o6 aA2:=sk (v:=t1<|.two (t1<|.one<|.loop xP) .nil) (fn:=f19) aA6<|kC ao1 kN
def alN:Cx:=cX [fY,VP] [] []
def an4:o9 alN:=v7<|gC sV<|gC bL<|AI
def dx(x:Y2×Y6×D):Option ((Y2×Bool×D)×D):=(PU (x.1,())).bind λa=>if !a.1.1 then I (((0,([]:List A8),([]:List Bool),([]:List AL),([]:List A3),([]:List A3),()),A0,()),()) else(Hl x).bind λb=>I (b.1,())
def y6:Ent:=(20,G,⟨[Z30,Z13],[Z3,.bool],dx⟩)
def ag6:o6 y6:=sk (v:= .nil) (fn:=f20) an4 kN
def afr:Cx:=cX [adI,uU,ub,ue,xv,LM,aA2,y6] [] [(25,28),(47,54)]
def aiO:o9 afr:=v7<|gC ae6<|gC ael<|gC aed<|gC aes<|gC agL<|gC MJ<|gC ain<|gC ag6<|AI
def Ub(x:List Int×D):Option ((Bool×D)×D):=if U (1048576<(j8 x.1:Int)) then I ((Y,()),()) else(UF x).bind λd=>(cS d.1).bind λe=>(cH d.1).bind λb=>(VH (b.1.1,e.1)).bind λg=>if(!g.1.1)||(U<|6<=(j8 b.1.1.2.2.2.2.1:Int)) then(VH (b.1.1,e.1)).bind λh=>I (h.1,()) else(RO (b.1.1,4,())).bind λc=>(dx (c.1.1,(1,0,0,0,0,0,0,3,999,(B [111,110,101,32,109,111,114,101]),()),())).bind λf=>(RO (f.1.1,4,())).bind λa=>if(!f.1.2.1)||(!decide ((j8 a.1.1.2.2.2.2.1:Int)=(w64<|(j8 b.1.1.2.2.2.2.1:Int)+1))) then if inb 0 c.1.1.2.1.length then(Iu (((rd aEm c.1.1.2.1 0).id,(rd aEm c.1.1.2.1 0).up,(rd aEm c.1.1.2.1 0).log,(rd aEm c.1.1.2.1 0).fo,(rd aEm c.1.1.2.1 0).AH,()),())).bind λi=>let j:=(U<|99<i.1.1.2.2.1);I ((j,()),()) else G else if inb 3 a.1.1.2.1.length then(Iu (((rd aEm a.1.1.2.1 3).id,(rd aEm a.1.1.2.1 3).up,(rd aEm a.1.1.2.1 3).log,(rd aEm a.1.1.2.1 3).fo,(rd aEm a.1.1.2.1 3).AH,()),())).bind λk=>if inb (j8 b.1.1.2.2.2.2.1:Int) a.1.1.2.2.2.2.1.length then(fS (k.1.1.2.2.2.2.2.1,((rd y7 a.1.1.2.2.2.2.1 (j8 b.1.1.2.2.2.2.1:Int)).fr,(rd y7 a.1.1.2.2.2.2.1 (j8 b.1.1.2.2.2.2.1:Int)).nu,(rd y7 a.1.1.2.2.2.2.1 (j8 b.1.1.2.2.2.2.1:Int)).to,(rd y7 a.1.1.2.2.2.2.1 (j8 b.1.1.2.2.2.2.1:Int)).un,(rd y7 a.1.1.2.2.2.2.1 (j8 b.1.1.2.2.2.2.1:Int)).tx,()),())).bind λl=>I (l.1,()) else G else G
def ahz:Ent:=(4,G,⟨[.fz .u8],[.bool],Ub⟩)
def aeN:o6 ahz:=sk (v:= .nil) (fn:=f4) aiO kN
end Go.VS
end
