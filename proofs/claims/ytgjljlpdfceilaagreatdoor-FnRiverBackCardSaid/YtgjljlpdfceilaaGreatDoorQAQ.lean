/- Part 7. -/
import Derived.Test.YtgjljlpdfceilaaGreatDoorQAP
open Bool renaming false->A0,true->Y
open Decidable renaming decide->U
open Int renaming tdiv->B0,tmod->BK,toNat->AK
open List renaming drop->Bp,length->j8,replicate->BS,set->Bq,take->BR
open Option renaming none->G,some->I
set_option linter.all false
noncomputable section
namespace Go.VS
open Go Go.Proofs Tryz
set_option linter.unusedVariables false
set_option maxRecDepth 100000
def U9:y8 LM:=soX (fn:=f85) (l:=5) (g:=9) ajU aFb rfl aFb awb awa
def alA:Cx:=cX [LN] [] []
def anb:y9 alA:=aE1<|gC MI<|AI
def dm(x:Y0×List A1×D):Option ((A1×D)×Y0×D):=(Ce (x.1,(j8 x.2.1:Int),())).bind λa=>if inb a.1.1 x.2.1.length then let b:=(rd aFf x.2.1 a.1.1);I ((b,()),a.2) else G
def yJ:Ent:=(101,G,⟨[Z0,.fz .str],[.str],dm⟩)
def afp:y8 yJ:=sk (v:= .nil) (fn:=f101) anb kN
def agd:Cx:=cX [LN,Ix,LM,yJ] [] []
def ahn:y9 agd:=aE1<|gC MI<|gC JX<|gC U9<|gC afp<|AI
def UU(x:Y10×D):Option (D×Y10×D):=(Ce (x.1.1,4,())).bind λc=>(dm (c.2.1,([(B [97]),(B [104,101,108,108,111]),(B [97,32,108,111,110,103,101,114,32,109,101,115,115,97,103,101]),(B [97,98,99,100]),(B [49,50,51,52,53,54,55,56]),(B [106,117,115,116,32,116,119,101,110,116,121,45,102,111,117,114,32,98,121,116,101,115,32,33,33]),(B [109,105,120,101,100,32,98,108,111,99,107,115])]:List A1),())).bind λb=>(BT (X:=Y10×Int×A1×D) (λa=>if inb a.2.1 a.1.2.2.1.length then(G5 (((rd aE5 a.1.2.2.1 a.2.1).id,(rd aE5 a.1.2.2.1 a.2.1).up,(rd aE5 a.1.2.2.1 a.2.1).log,(rd aE5 a.1.2.2.1 a.2.1).fo,(rd aE5 a.1.2.2.1 a.2.1).AH,()),())).bind λf=>(Ce (a.1.1,4,())).bind λd=>(Ce (d.2.1,12,())).bind λe=>(Fl ((e.2.1,a.1.2),(1,a.2.1,0,0,0,0,0,d.1.1,(w64<|(w64<|f.1.1.2.1+1)+e.1.1),a.2.2),())).bind λg=>I ((),g.2) else G)<|(if U (24<(b.1.1.size:Int)) then if U (0<=24)&&U (24<=(b.1.1.size:Int)) then let h:=(b.1.1.extract (0)<|AK 24);I (.inr ((b.2.1,x.1.2),c.1.1,h,())) else G else I (.inr ((b.2.1,x.1.2),c.1.1,b.1))))
def rO:Ent:=(63,G,⟨[Z22],[],UU⟩)
def acr:y8 rO:=sk (v:=t1<|t1<|.join [(0,Z24),(2,j6),(3,.str)] .nil .nil) (fn:=f63) ahn kN
def aeo:Cx:=cX [LN,LM] [] [(12,18)]
def adg:y9 aeo:=aE1<|gC MI<|gC U9<|AI
def pY(x:Y10×aE7):Rnd (Y10×aE7) D (Y10×D):=if(U<|x.2.2.2.1<x.2.1)&&(U<|0<(j8 x.1.2.2.2.2.1:Int)) then(BT (X:=Y10×Int×Int×Int×Y6×D) (λe=>(BT (X:=Y10×Int×Int×Int×Y6×D) (λc=>(BT (X:=Y10×Int×Int×Int×Y6×Bool×D) (λb=>if b.2.2.2.2.2.1 then(Ce (b.1.1,17,())).bind λg=>(Ce (g.2.1,255,())).bind λh=>(Fl ((h.2.1,b.1.2),(b.2.2.2.2.1.1,b.2.2.2.2.1.2.1,b.2.2.2.2.1.2.2.1,b.2.2.2.2.1.2.2.2.1,b.2.2.2.2.1.2.2.2.2.1,g.1.1,(w64<|1+h.1.1),b.2.2.2.2.1.2.2.2.2.2.2.2),())).bind λo=>I (.inl (o.2.1,b.2.1,b.2.2.1,(w64<|b.2.2.2.1+1),())) else I (.inl (b.1,b.2.1,b.2.2.1,(w64<|b.2.2.2.1+1),())))<|(if U (c.2.2.2.2.1.1=6) then(Ce (c.1.1,2,())).bind λi=>I (.inr ((i.2.1,c.1.2),c.2.1,c.2.2.1,c.2.2.2.1,c.2.2.2.2.1,(U<|i.1.1=0),())) else I (.inr (c.1,c.2.1,c.2.2.1,c.2.2.2.1,c.2.2.2.2.1,A0,())))))<|(Fl (e.1,e.2.2.2.2)).bind λf=>if !f.1.1 then(Fl (f.2.1,(5,0,0,0,0,0,0,0,0,noB,()),())).bind λp=>I (.inr (p.2.1,e.2)) else I (.inr (f.2.1,e.2))))<|(BT (X:=Y10×Int×Int×Int×Y6×Bool×D) (λa=>if a.2.2.2.2.2.1 then(Ce (a.1.1,5,())).bind λd=>if U (d.1.1=0) then I (.inr ((d.2.1,a.1.2),a.2.1,a.2.2.1,a.2.2.2.1,(5,a.2.2.2.2.1.2),())) else if U (d.1.1=1) then I (.inr ((d.2.1,a.1.2),a.2.1,a.2.2.1,a.2.2.2.1,(a.2.2.2.2.1.1,a.2.2.2.2.1.2.1,a.2.2.2.2.1.2.2.1,a.2.2.2.2.1.2.2.2.1,a.2.2.2.2.1.2.2.2.2.1,a.2.2.2.2.1.2.2.2.2.2.1,1,a.2.2.2.2.1.2.2.2.2.2.2.2),())) else if U (d.1.1=2) then(Ce (d.2.1,(j8 a.1.2.2.2.2.1:Int),())).bind λj=>(Ce (j.2.1,17,())).bind λk=>(Ce (k.2.1,255,())).bind λl=>I (.inr ((l.2.1,a.1.2),a.2.1,a.2.2.1,a.2.2.2.1,(6,a.2.2.2.2.1.2.1,a.2.2.2.2.1.2.2.1,a.2.2.2.2.1.2.2.2.1,j.1.1,k.1.1,(w64<|1+l.1.1),a.2.2.2.2.1.2.2.2.2.2.2.2),())) else(Ce (d.2.1,(j8 a.1.2.2.2.2.1:Int),())).bind λm=>I (.inr ((m.2.1,a.1.2),a.2.1,a.2.2.1,a.2.2.2.1,(a.2.2.2.2.1.1,a.2.2.2.2.1.2.1,a.2.2.2.2.1.2.2.1,a.2.2.2.2.1.2.2.2.1,m.1.1,a.2.2.2.2.1.2.2.2.2.2),())) else I (.inr (a.1,a.2.1,a.2.2.1,a.2.2.2.1,a.2.2.2.2.1,())))<|(if U (0<x.2.2.1) then(Ce (x.1.1,x.2.2.1,())).bind λn=>I (.inr ((n.2.1,x.1.2),x.2.1,x.2.2.1,x.2.2.2.1,(4,0,0,0,0,0,0,0,0,noB,()),(U<|n.1.1=0),())) else I (.inr (x.1,x.2.1,x.2.2.1,x.2.2.2.1,(4,0,0,0,0,0,0,0,0,noB,()),A0,()))))) else I (.inr<|.inr (x.1,()))
def acn:=AW pY
def acu:Loop:=⟨[(0,Z24),(1,j6),(2,j6),(6,j6)],[(0,Z24)],0,[],acn⟩
def aed:LF f84 [0] [1,0,0] acu:=sq (v:=t1<|.two (.one<|t1<|.join [(0,Z24),(1,j6),(2,j6),(6,j6),(7,Z25)] (.join [(0,Z24),(1,j6),(2,j6),(6,j6),(7,Z25),(33,.bool)] .nil .nil)<|.join [(0,Z24),(1,j6),(2,j6),(6,j6),(7,Z25)] .nil<|.join [(0,Z24),(1,j6),(2,j6),(6,j6),(7,Z25),(102,.bool)] .nil .nil) .nil) adg (b:=pY) kN
def NV(x:Y10×aE2):Option (D×Y10×D):=(AO (acn (x.1,x.2.1,x.2.2.1,0,())) (λ_=>G) λa=>I ((),a))
def aw:Ent:=(84,G,⟨[Z22,j6,j6],[],NV⟩)
def p9:y8 aw:=sk (v:=t1<|.one<|.loop acu) (fn:=f84) adg<|kC aed kN
def afH:Cx:=cX [LN,Ix] [] []
def si:y9 afH:=aE1<|gC MI<|gC JX<|AI
def pr(x:Y10×Y4×aE2):Rnd (Y10×Y4×aE2) (Y10×Int×Y4×Bool×D) (Y10×Y4×D):=if U (x.2.2.2.1<4) then if inb x.2.2.1 x.1.2.2.1.length then(G5 (((rd aE5 x.1.2.2.1 x.2.2.1).id,(rd aE5 x.1.2.2.1 x.2.2.1).up,(rd aE5 x.1.2.2.1 x.2.2.1).log,(rd aE5 x.1.2.2.1 x.2.2.1).fo,(rd aE5 x.1.2.2.1 x.2.2.1).AH,()),())).bind λa=>if U (0<(j8 a.1.1.2.2.2.1:Int)) then(Ce (x.1.1,(j8 a.1.1.2.2.2.1:Int),())).bind λb=>if inb b.1.1 a.1.1.2.2.2.1.length then let c:=(rd aE3 a.1.1.2.2.2.1 b.1.1).fr;let d:=(rd aE3 a.1.1.2.2.2.1 b.1.1).nu;let e:=(rd aE3 a.1.1.2.2.2.1 b.1.1).to;let f:=(rd aE3 a.1.1.2.2.2.1 b.1.1).un;let g:=(rd aE3 a.1.1.2.2.2.1 b.1.1).tx;I (.inr<|.inl ((b.2.1,x.1.2),x.2.2.1,(c,d,e,f,g,()),Y,())) else G else let h:=(BK (w64<|x.2.2.1+1) 4);I (.inl (x.1,x.2.1,h,(w64<|x.2.2.2.1+1),())) else G else I (.inr<|.inr (x.1,x.2.1,()))
def ach:=AW pr
def adE:Loop:=⟨[(0,Z24),(3,Z5),(5,j6),(6,j6)],[(0,Z24),(3,Z5)],0,[(0,Z24),(2,j6),(3,Z5),(4,.bool)],ach⟩
def af7:LF f122 [0] [1,1,0,1,0,0] adE:=sq (v:= .nil) si (b:=pr) kN
def bG(x:Y10×D):Option ((Int×Y4×Bool×D)×Y10×D):=(Ce (x.1.1,4,())).bind λb=>(AO (ach ((b.2.1,x.1.2),(0,0,0,0,noB,()),b.1.1,0,())) (λa=>I (a.2,(a.1,()))) λa=>I ((0,(0,0,0,0,noB,()),A0,()),(a.1,())))
def sx:Ent:=(122,G,⟨[Z22],[j6,Z6,.bool],bG⟩)
def ae1:y8 sx:=sk (v:=t1<|t1<|.two (t1<|.one<|.loop adE) .nil) (fn:=f122) si<|kC af7 kN
def aen:Cx:=cX [LN,aw,LM,sx] [] []
def adf:y9 aen:=aE1<|gC MI<|gC p9<|gC U9<|gC ae1<|AI
def pX(x:Y10×Int×Int×Int×Y4×aE2):Rnd (Y10×Int×Int×Int×Y4×aE2) D (Y10×aE2):=if U (x.2.2.2.2.2.2.1<x.2.1) then(Fl (x.1,(3,x.2.2.2.1,x.2.2.2.2.1.1,x.2.2.2.2.1.2.1,0,(w64<|x.2.2.2.2.2.1+x.2.2.2.2.2.2.1),0,0,0,noB,()),())).bind λa=>let b:=(w64<|x.2.2.2.2.2.2.1+1);I (.inl (a.2.1,x.2.1,x.2.2.1,x.2.2.2.1,x.2.2.2.2.1,x.2.2.2.2.2.1,b,())) else I (.inr<|.inr (x.1,x.2.1,x.2.2.1,()))
def acf:=AW pX
def acs:Loop:=⟨[(0,Z24),(1,j6),(2,j6),(6,j6),(7,Z5),(9,j6),(10,j6)],[(0,Z24),(1,j6),(2,j6)],0,[],acf⟩
def aec:LF f83 [0] [1,1,1,0,1,0,0] acs:=sq (v:= .nil) adf (b:=pX) kN
def PF(x:Y10×aE2):Option (D×Y10×D):=(bG (x.1,())).bind λa=>if !a.1.2.2.1 then I ((),a.2) else(Ce (a.2.1.1,2,())).bind λc=>(Ce (c.2.1,40,())).bind λd=>(AO (acf ((d.2.1,a.2.1.2),x.2.1,x.2.2.1,a.1.1,a.1.2.1,(w64<|c.1.1 * d.1.1),0,())) (λ_=>G) λb=>(Ce (b.1.1,(w64<|b.2.1+4),())).bind λe=>(NV ((e.2.1,b.1.2),e.1.1,b.2.2)).bind λf=>I ((),f.2))
def po:Ent:=(83,G,⟨[Z22,j6,j6],[],PF⟩)
def ace:y8 po:=sk (v:=t1<|t1<|t1<|.two (t1<|.one<|.loop acs) .nil) (fn:=f83) adf<|kC aec kN
def afI:Cx:=cX [LN,po,aw,LM] [] [(89,96)]
def UT:y9 afI:=aE1<|gC MI<|gC ace<|gC p9<|gC U9<|AI
def px(x:Y10×aE2):Rnd (Y10×aE2) D (Y10×D):=if U (0<x.2.2.1) then(Fl (x.1,(2,x.2.1,0,0,0,0,0,0,0,noB,()),())).bind λa=>I (.inl (a.2.1,x.2.1,(w64<|x.2.2.1 - 1),())) else I (.inr<|.inr (x.1,()))
def acj:=AW px
def adG:Loop:=⟨[(0,Z24),(5,j6),(6,j6)],[(0,Z24)],5,[],acj⟩
def af2:LF f86 [0] [1,1,1,1,0,1,0,1,1,1,0,1,0,0] adG:=sq (v:= .nil) UT (b:=px) kN
def pZ(x:Y10×aE7):Rnd (Y10×aE7) D (Y10×v7):=if U (x.2.2.2.1<x.2.2.1) then(Fl (x.1,(4,0,0,0,x.2.2.2.1,0,1,0,0,noB,()),())).bind λa=>I (.inl (a.2.1,x.2.1,x.2.2.1,(w64<|x.2.2.2.1+1),())) else I (.inr<|.inr (x.1,x.2.1,()))
def ack:=AW pZ
def adH:Loop:=⟨[(0,Z24),(2,j6),(3,j6),(4,j6)],[(0,Z24),(2,j6)],2,[],ack⟩
def af4:LF f86 [0] [1,1,0,1,0,0,1,0,0,1,1,0,0] adH:=sq (v:= .nil) UT (b:=pZ) kN
def pv(x:Y10×aE2):Rnd (Y10×aE2) D (Y10×D):=if(U<|x.2.2.1<12)&&(U<|x.2.1<(j8 x.1.2.2.2.2.1:Int)) then(Fl (x.1,(4,0,0,0,x.2.1,0,0,0,0,noB,()),())).bind λa=>I (.inl (a.2.1,x.2.1,(w64<|x.2.2.1+1),())) else I (.inr<|.inr (x.1,()))
def aci:=AW pv
def adF:Loop:=⟨[(0,Z24),(7,j6),(8,j6)],[(0,Z24)],7,[],aci⟩
def af1:LF f86 [0] [1,1,1,1,1,1,1,0,1,0,0] adF:=sq (v:= .nil) UT (b:=pv) kN
def pa(x:Y10×v7):Rnd (Y10×v7) D (Y10×D):=(Ce (x.1.1,2,())).bind λa=>if U (x.2.1<(w64<|1+a.1.1)) then let c:=(j8 x.1.2.2.2.2.1:Int);(AO (ack ((a.2.1,x.1.2),x.2.1,c,0,())) (λ_=>I<|.inr<|.inl ()) λb=>I<|.inl (b.1,(w64<|b.2.1+1),())) else I (.inr<|.inr ((a.2.1,x.1.2),()))
def acm:=AW pa
def adI:Loop:=⟨[(0,Z24),(2,j6)],[(0,Z24)],0,[],acm⟩
def af8:LF f86 [0] [1,1,0,1,0,0] adI:=sq (v:=t1<|.two (.one<|t1<|t1<|.one<|.loop adH) .nil) UT (b:=pa)<|kC af4 kN
def bD(x:Y10×D):Option (D×Y10×D):=(NV (x.1,40,0,())).bind λg=>(PF (g.2.1,6,0,())).bind λh=>(AO (acm (h.2.1,0,())) (λ_=>G) λb=>(Ce (b.1.1,4,())).bind λc=>(BT (X:=Y10×D) (λd=>let i:=(j8 d.1.2.2.2.2.1:Int);(PF (d.1,6,0,())).bind λj=>(AO (aci (j.2.1,i,0,())) (λ_=>G) λk=>(NV (k.1,40,0,())).bind λl=>I ((),l.2)))<|(Ce (c.2.1,3,())).bind λa=>if U (a.1.1=0) then(Ce (a.2.1,40,())).bind λe=>(Fl ((e.2.1,b.1.2),(7,c.1.1,0,0,0,0,e.1.1,0,0,noB,()),())).bind λm=>(Fl (m.2.1,(8,c.1.1,0,0,0,0,0,0,0,noB,()),())).bind λn=>I (.inr n.2) else if U (a.1.1=1) then(Ce (a.2.1,9,())).bind λf=>(AO (acj ((f.2.1,b.1.2),c.1.1,f.1)) (λ_=>G) λo=>I<|.inr o) else I (.inr ((a.2.1,b.1.2),()))))
def sy:Ent:=(86,G,⟨[Z22],[],bD⟩)
def ae2:y8 sy:=sk (v:=t1<|t1<|.two (t1<|.one<|.loop adI)<|t1<|.join [(0,Z24)] (t1<|.one<|t1<|t1<|t1<|.two (t1<|.one<|.loop adG) .nil)<|t1<|t1<|.two (t1<|.one<|.loop adF) .nil) (fn:=f86) UT<|kC af8<|kC af2<|kC af1 kN
def afG:Cx:=cX [LN,Ix,rO,po,aw,LM,sy] [] []
def sg:y9 afG:=aE1<|gC MI<|gC JX<|gC acr<|gC ace<|gC p9<|gC U9<|gC ae2<|AI
def pq(x:Y10×v7):Rnd (Y10×v7) D (Y10×D):=if U (x.2.1<4) then(PF (x.1,7,0,())).bind λa=>(NV (a.2.1,20,0,())).bind λb=>I (.inl (b.2.1,(w64<|x.2.1+1),())) else I (.inr<|.inr (x.1,()))
def acg:=AW pq
def adD:Loop:=⟨[(0,Z24),(8,j6)],[(0,Z24)],1,[],acg⟩
def af6:LF f45 [0] [1,1,0,1,1,1,1,1,1,1,1,1,1,1,1,1,1,1,1,1,1,1,1,1,0,0] adD:=sq (v:= .nil) sg (b:=pq) kN
def bF(x:Y10×v7):Option (D×Y10×D):=(Ce (x.1.1,4,())).bind λj=>(Ce (j.2.1,24,())).bind λg=>(BT (X:=Y10×Int×Int×Int×Bool×D) (λa=>if a.2.2.2.2.1 then(UU (a.1,())).bind λE=>I ((),E.2) else(BT (X:=Y10×Int×Int×Int×Bool×D) (λd=>if d.2.2.2.2.1 then(Ce (d.1.1,7,())).bind λl=>(PF ((l.2.1,d.1.2),(w64<|1+l.1.1),d.2.1,())).bind λF=>I ((),F.2) else(BT (X:=Y10×Int×Int×Int×Bool×D) (λf=>if f.2.2.2.2.1 then(Ce (f.1.1,20,())).bind λm=>(NV ((m.2.1,f.1.2),(w64<|1+m.1.1),f.2.1,())).bind λH=>I ((),H.2) else(BT (X:=Y10×Int×Int×Bool×D) (λc=>if c.2.2.2.1 then(Fl (c.1,(2,c.2.1,0,0,0,0,0,0,0,noB,()),())).bind λJ=>I ((),J.2) else let K:=(U<|c.2.2.1=13);(if K then(Ce (c.1.1,50,())).bind λn=>(Fl ((n.2.1,c.1.2),(7,c.2.1,0,0,0,0,n.1.1,0,0,noB,()),())).bind λL=>I ((),L.2) else(BT (X:=Y10×Int×Int×Bool×D) (λe=>if e.2.2.2.1 then(Fl (e.1,(8,e.2.1,0,0,0,0,0,0,0,noB,()),())).bind λM=>I ((),M.2) else let N:=(U<|e.2.2.1=16);(if N then(Ce (e.1.1,2,())).bind λo=>(Ce (o.2.1,3,())).bind λp=>(Fl ((p.2.1,e.1.2),((w64<|9+o.1.1),p.1.1,0,0,0,0,0,0,0,noB,()),())).bind λO=>I ((),O.2) else(BT (X:=Y10×Int×Int×Bool×D) (λb=>if b.2.2.2.1 then if inb b.2.1 b.1.2.2.1.length then(G5 (((rd aE5 b.1.2.2.1 b.2.1).id,(rd aE5 b.1.2.2.1 b.2.1).up,(rd aE5 b.1.2.2.1 b.2.1).log,(rd aE5 b.1.2.2.1 b.2.1).fo,(rd aE5 b.1.2.2.1 b.2.1).AH,()),())).bind λh=>if U (0<(j8 h.1.1.2.2.2.2.2.1:Int)) then(Ce (b.1.1,(j8 h.1.1.2.2.2.2.2.1:Int),())).bind λi=>if inb i.1.1 h.1.1.2.2.2.2.2.1.length then let P:=(rd aE3 h.1.1.2.2.2.2.2.1 i.1.1).fr;let Q:=(rd aE3 h.1.1.2.2.2.2.2.1 i.1.1).nu;let v55:=(rd aE3 h.1.1.2.2.2.2.2.1 i.1.1).to;let v56:=(rd aE3 h.1.1.2.2.2.2.2.1 i.1.1).un;let v57:=(rd aE3 h.1.1.2.2.2.2.2.1 i.1.1).tx;(Fl ((i.2.1,b.1.2),(11,b.2.1,P,Q,0,0,0,0,0,noB,()),())).bind λR=>I ((),R.2) else G else I ((),(b.1,())) else G else let S:=(U<|b.2.2.1=19);(if S then(Ce (b.1.1,2,())).bind λq=>(Fl ((q.2.1,b.1.2),((w64<|12+q.1.1),b.2.1,0,0,0,0,0,0,0,noB,()),())).bind λT=>I ((),T.2) else(BT (X:=Y10×Bool×D) (λk=>if k.2.1 then(bD (k.1,())).bind λV=>I ((),V.2) else(AO (acg (k.1,0,())) (λ_=>G) λW=>I ((),W))) (let r:=(U<|b.2.2.1=20);(if r then I (.inr (b.1,r,())) else let s:=(U<|b.2.2.1=21);(if s then I (.inr (b.1,s,())) else let Y:=(U<|b.2.2.1=22);I (.inr (b.1,Y,())))))))) (let t:=(U<|e.2.2.1=17);(if t then I (.inr (e.1,e.2.1,e.2.2.1,t,())) else let Z:=(U<|e.2.2.1=18);I (.inr (e.1,e.2.1,e.2.2.1,Z,()))))))) (let u:=(U<|c.2.2.1=14);(if u then I (.inr (c.1,c.2.1,c.2.2.1,u,())) else let v40:=(U<|c.2.2.1=15);I (.inr (c.1,c.2.1,c.2.2.1,v40,()))))))) (let v:=(U<|f.2.2.2.1=11);(if v then I (.inr (f.1,f.2.2.1,f.2.2.2.1,v,())) else let v31:=(U<|f.2.2.2.1=12);I (.inr (f.1,f.2.2.1,f.2.2.2.1,v31,())))))) (let w:=(U<|d.2.2.2.1=9);(if w then I (.inr (d.1,d.2.1,d.2.2.1,d.2.2.2.1,w,())) else let v24:=(U<|d.2.2.2.1=10);I (.inr (d.1,d.2.1,d.2.2.1,d.2.2.2.1,v24,())))))) (let y:=(U<|a.2.2.2.1=3);(if y then I (.inr (a.1,a.2.1,a.2.2.1,a.2.2.2.1,y,())) else let z:=(U<|a.2.2.2.1=4);(if z then I (.inr (a.1,a.2.1,a.2.2.1,a.2.2.2.1,z,())) else let A:=(U<|a.2.2.2.1=5);(if A then I (.inr (a.1,a.2.1,a.2.2.1,a.2.2.2.1,A,())) else let B:=(U<|a.2.2.2.1=6);(if B then I (.inr (a.1,a.2.1,a.2.2.1,a.2.2.2.1,B,())) else let C:=(U<|a.2.2.2.1=7);(if C then I (.inr (a.1,a.2.1,a.2.2.1,a.2.2.2.1,C,())) else let v17:=(U<|a.2.2.2.1=8);I (.inr (a.1,a.2.1,a.2.2.1,a.2.2.2.1,v17,()))))))))))<|(if U (g.1.1=0) then I (.inr ((g.2.1,x.1.2),x.2.1,j.1.1,g.1.1,(U<|g.1.1=0),())) else if U (g.1.1=1) then I (.inr ((g.2.1,x.1.2),x.2.1,j.1.1,g.1.1,(U<|g.1.1=1),())) else I (.inr ((g.2.1,x.1.2),x.2.1,j.1.1,g.1.1,(U<|g.1.1=2),()))))
def sw:Ent:=(45,G,⟨[Z22,j6],[],bF⟩)
def ae0:y8 sw:=sk (v:=t1<|t1<|.one<|.join [(0,Z24),(1,j6),(4,j6),(18,j6),(27,.bool)] .nil<|t1<|.join [(0,Z24),(1,j6),(4,j6),(18,j6),(33,.bool)] .nil<|t1<|.join [(0,Z24),(1,j6),(4,j6),(18,j6),(49,.bool)] .nil<|t1<|.join [(0,Z24),(4,j6),(18,j6),(61,.bool)] .nil<|t1<|t1<|t1<|.join [(0,Z24),(4,j6),(18,j6),(79,.bool)] .nil<|t1<|t1<|t1<|.join [(0,Z24),(4,j6),(18,j6),(102,.bool)] .nil<|t1<|t1<|t1<|.join [(0,Z24),(153,.bool)] .nil<|t1<|t1<|.one<|.loop adD) (fn:=f45) sg<|kC af6 kN
def al9:Cx:=cX [LN,rQ,sw,rO] [] []
def yd:y9 al9:=aE1<|gC MI<|gC acw<|gC ae0<|gC acr<|AI
def s8(x:Y0×Y11×aE2):Rnd (Y0×Y11×aE2) D (Y0×Y11×D):=if U (0<x.2.2.2.1) then(bF ((x.1,x.2.1.2),x.2.2.1,())).bind λa=>I (.inl (a.2.1.1,((),a.2.1.2),x.2.2.1,(w64<|x.2.2.2.1 - 1),())) else I (.inr<|.inr (x.1,((),x.2.1.2),()))
def adi:=AW s8
def vD:Loop:=⟨[(0,Z23),(5,Z28),(6,j6),(7,j6)],[(0,Z23),(5,Z28)],0,[],adi⟩
def ak2:LF f34 [0] [1,1,1,1,0,1,0,0] vD:=sq (v:= .nil) yd (b:=s8) kN
def dk(x:Y0×v7):Option ((Y11×D)×Y0×D):=(RO ()).bind λa=>(Ce (x.1,5,())).bind λb=>if inb b.1.1 (([0,0,3,6,12]:List Int).length) then let f:=(rd aE8 ([0,0,3,6,12]:List Int) b.1.1);(UU ((b.2.1,a.1.1.1,a.1.1.2.1,a.1.1.2.2.1,a.1.1.2.2.2.1,a.1.1.2.2.2.2.1,a.1.1.2.2.2.2.2.1,([]:List Event),()),())).bind λc=>(Ce (c.2.1.1,x.2)).bind λd=>(AO (adi (d.2.1,((),c.2.1.2),f,d.1)) (λ_=>G) λe=>I ((((),e.2.1.2),()),(e.1,()))) else G
def yI:Ent:=(34,G,⟨[Z0,j6],[Z28],dk⟩)
def afo:y8 yI:=sk (v:=t1<|t1<|t1<|t1<|.two (t1<|.one<|.loop vD) .nil) (fn:=f34) yd<|kC ak2 kN
def aeQ:Cx:=cX [zq,LN,yI] [] []
def aeq:y9 aeQ:=aE1<|gC agp<|gC MI<|gC afo<|AI
def UE(x:List Int×D):Option ((List Event×D)×D):=(fD x).bind λc=>(Ce (c.1.1,60,())).bind λa=>if U (a.1.1=0) then(Ce (a.2.1,2,())).bind λb=>if U (0<=(w64<|2000+b.1.1))&&U ((w64<|2000+b.1.1)<=4294967296) then I (((BS (AK<|w64<|2000+b.1.1)<|dfl .CM),()),()) else G else(dk (a.2.1,26,())).bind λd=>I (d.1.1.2.2.2.2.2.2.2,())
def adC:Ent:=(12,G,⟨[.fz .u8],[.row 51 .CM],UE⟩)
def adx:y8 adC:=sk (v:= .nil) (fn:=f12) aeq kN
def alP:Cx:=cX [Gr,KO,IP,Vq] [] [(57,64)]
def Va:y9 alP:=aE1<|gC HI<|gC LI<|gC Iw<|gC bo<|AI
def di(x:Y2×v7):Rnd (Y2×v7) (Bool×D) D:=if U (x.2.1<(j8 x.1.2.2.2.2.2.1:Int)) then if inb x.2.1 x.1.2.2.2.2.2.1.length then(Nk (((rd aE3 x.1.2.2.2.2.2.1 x.2.1).fr,(rd aE3 x.1.2.2.2.2.2.1 x.2.1).nu,(rd aE3 x.1.2.2.2.2.2.1 x.2.1).to,(rd aE3 x.1.2.2.2.2.2.1 x.2.1).un,(rd aE3 x.1.2.2.2.2.2.1 x.2.1).tx,()),())).bind λa=>if !a.1.1 then I (.inr<|.inl (A0,())) else I (.inl (x.1,(w64<|x.2.1+1),())) else G else I (.inr<|.inr ())
def q6:=AW di
def vO:Loop:=⟨[(1,Z29),(7,j6)],[],6,[(2,.bool)],q6⟩
def akU:LF f30 [] [1,1,1,1,1,0,1,0,0] vO:=sq (v:= .nil) Va (b:=di) kN
def cw(x:Y2×v7):Rnd (Y2×v7) (Bool×D) (Y2×D):=if U (x.2.1<(j8 x.1.2.2.2.2.1:Int)) then if inb x.2.1 x.1.2.2.2.2.1.length then(Nk (((rd aE3 x.1.2.2.2.2.1 x.2.1).fr,(rd aE3 x.1.2.2.2.2.1 x.2.1).nu,(rd aE3 x.1.2.2.2.2.1 x.2.1).to,(rd aE3 x.1.2.2.2.2.1 x.2.1).un,(rd aE3 x.1.2.2.2.2.1 x.2.1).tx,()),())).bind λa=>if !a.1.1 then I (.inr<|.inl (A0,())) else I (.inl (x.1,(w64<|x.2.1+1),())) else G else I (.inr<|.inr (x.1,()))
def q7:=AW cw
def vP:Loop:=⟨[(1,Z29),(6,j6)],[(1,Z29)],4,[(2,.bool)],q7⟩
def akV:LF f30 [] [1,1,1,1,0,1,0,0] vP:=sq (v:= .nil) Va (b:=cw) kN
def cy(x:Y2×v7):Rnd (Y2×v7) (Bool×D) (Y2×D):=if U (x.2.1<(j8 x.1.2.2.2.1:Int)) then if inb x.2.1 x.1.2.2.2.1.length then let a:=(rd aFa x.1.2.2.2.1 x.2.1).src;let b:=(rd aFa x.1.2.2.2.1 x.2.1).dst;let c:=(rd aFa x.1.2.2.2.1 x.2.1).data;let f:=(rd aFa x.1.2.2.2.1 x.2.1).sp;(FR (a,())).bind λd=>if !d.1.1 then I (.inr<|.inl (A0,())) else(FR (b,())).bind λe=>if !e.1.1 then I (.inr<|.inl (A0,())) else if !decide ((w64<|a - b)=1) then if !decide ((w64<|b - a)=1) then I (.inr<|.inl (A0,())) else if U (40<(c.size:Int)) then I (.inr<|.inl (A0,())) else I (.inl (x.1,(w64<|x.2.1+1),())) else if U (40<(c.size:Int)) then I (.inr<|.inl (A0,())) else I (.inl (x.1,(w64<|x.2.1+1),())) else G else I (.inr<|.inr (x.1,()))
def qX:=AW cy
def vQ:Loop:=⟨[(1,Z29),(4,j6)],[(1,Z29)],2,[(2,.bool)],qX⟩
def aju:LF f30 [] [1,1,1,0,1,0,0] vQ:=sq (v:= .nil) Va (b:=cy) kN
def dA(x:Y2×v7):Rnd (Y2×v7) (Bool×D) (Y2×D):=if U (x.2.1<(j8 x.1.2.1:Int)) then if inb x.2.1 x.1.2.1.length then(Iu (((rd aE5 x.1.2.1 x.2.1).id,(rd aE5 x.1.2.1 x.2.1).up,(rd aE5 x.1.2.1 x.2.1).log,(rd aE5 x.1.2.1 x.2.1).fo,(rd aE5 x.1.2.1 x.2.1).AH,()),())).bind λa=>if Al (!(!a.1.1)) (inb x.2.1 x.1.2.1.length) then if(!a.1.1)||(!decide ((rd aE5 x.1.2.1 x.2.1).id=x.2.1)) then I (.inr<|.inl (A0,())) else I (.inl (x.1,(w64<|x.2.1+1),())) else G else G else I (.inr<|.inr (x.1,()))
def qY:=AW dA
def vR:Loop:=⟨[(1,Z29),(3,j6)],[(1,Z29)],0,[(2,.bool)],qY⟩
def akA:LF f30 [] [1,1,0,1,0,0] vR:=sq (v:= .nil) Va (b:=dA) kN
def PT(x:Y2×D):Option ((Bool×D)×D):=(D9 (x.1.1,0,99999,())).bind λe=>if !e.1.1 then I ((A0,()),()) else if !decide ((j8 x.1.2.1:Int)=4) then I ((A0,()),()) else if !decide ((j8 x.1.2.2.1:Int)=3) then I ((A0,()),()) else if U (30<(j8 x.1.2.2.2.1:Int)) then I ((A0,()),()) else if U (6<(j8 x.1.2.2.2.2.1:Int)) then I ((A0,()),()) else if U (6<(j8 x.1.2.2.2.2.2.1:Int)) then I ((A0,()),()) else(AO (qY (x.1,0,())) (λa=>I (a,())) λa=>(AO (qX (a.1,0,())) (λb=>I (b,())) λb=>(AO (q7 (b.1,0,())) (λc=>I (c,())) λc=>(AO (q6 (c.1,0,())) (λd=>I (d,())) λd=>I ((Y,()),())))))
def xv:Ent:=(30,G,⟨[Z30],[.bool],PT⟩)
def aff:y8 xv:=sk (v:=t1<|t1<|.two (t1<|.one<|.loop vR)<|.two (t1<|.one<|.loop vQ)<|.two (t1<|.one<|.loop vP)<|.two (t1<|.one<|.loop vO) .nil) (fn:=f30) Va<|kC akA<|kC aju<|kC akV<|kC akU kN
def alD:Cx:=cX [MP] [] []
def yf:y9 alD:=aE1<|gC NX<|AI
def dS(x:Y2×Y2×Y2×v7):Rnd (Y2×Y2×Y2×v7) D (Y2×Y2×D):=if U (x.2.2.2.1<(j8 x.1.2.1:Int)) then if inb x.2.2.2.1 x.1.2.1.length then(Gq (((rd aE5 x.1.2.1 x.2.2.2.1).id,(rd aE5 x.1.2.1 x.2.2.2.1).up,(rd aE5 x.1.2.1 x.2.2.2.1).log,(rd aE5 x.1.2.1 x.2.2.2.1).fo,(rd aE5 x.1.2.1 x.2.2.2.1).AH,()),())).bind λa=>if Ac (x.2.2.1.2.1.length+([(A7.mk a.1.1.1 a.1.1.2.1 a.1.1.2.2.1 a.1.1.2.2.2.1 a.1.1.2.2.2.2.1)]:List A7).length) then I (.inl (x.1,x.2.1,(x.2.2.1.1,(x.2.2.1.2.1++([(A7.mk a.1.1.1 a.1.1.2.1 a.1.1.2.2.1 a.1.1.2.2.2.1 a.1.1.2.2.2.2.1)]:List A7)),x.2.2.1.2.2),(w64<|x.2.2.2.1+1),())) else G else G else I (.inr<|.inr (x.2.1,x.2.2.1,()))
def bE:=AW dS
def vF:Loop:=⟨[(1,Z29),(2,Z2),(3,Z2),(4,j6)],[(2,Z2),(3,Z2)],0,[],bE⟩
def ak4:LF f54 [] [1,1,0,1,0,0] vF:=sq (v:= .nil) yf (b:=dS) kN
def PQ(x:Y2×D):Option ((Y2×D)×D):=if Ac (([]:List Bool).length+x.1.2.2.1.length) then if Ac (([]:List AL).length+x.1.2.2.2.1.length) then if Ac (([]:List A3).length+x.1.2.2.2.2.1.length) then if Ac (([]:List A3).length+x.1.2.2.2.2.2.1.length) then(AO (bE (x.1,(0,([]:List A7),([]:List Bool),([]:List AL),([]:List A3),([]:List A3),()),(x.1.1,([]:List A7),(([]:List Bool)++x.1.2.2.1),(([]:List AL)++x.1.2.2.2.1),(([]:List A3)++x.1.2.2.2.2.1),(([]:List A3)++x.1.2.2.2.2.2.1),()),0,())) (λ_=>G) λa=>I (a.2,())) else G else G else G else G
def yK:Ent:=(54,G,⟨[Z30],[Z3],PQ⟩)
def afq:y8 yK:=sk (v:=t1<|t1<|.two (t1<|.one<|.loop vF) .nil) (fn:=f54) yf<|kC ak4 kN
def alQ:Cx:=cX [xv,yK,aAB] [] []
def anC:y9 alQ:=aE1<|gC aff<|gC afq<|gC aiS<|AI
def Nc(x:Y2×Y6×D):Option ((Y2×Bool×D)×D):=(PT (x.1,())).bind λb=>if !b.1.1 then I (((0,([]:List A7),([]:List Bool),([]:List AL),([]:List A3),([]:List A3),()),A0,()),()) else if U (99999<=x.1.1) then(PQ (x.1,())).bind λc=>I ((c.1.1,A0,()),()) else(PQ (x.1,())).bind λd=>(Vt (d.1.1,x.2)).bind λa=>if !a.1.2.1 then(PQ (x.1,())).bind λe=>I ((e.1.1,A0,()),()) else(PQ (a.1.1,())).bind λf=>I ((f.1.1,Y,()),())
def xw:Ent:=(36,G,⟨[Z30,Z13],[Z3,.bool],Nc⟩)
def afg:y8 xw:=sk (v:= .nil) (fn:=f36) anC kN
def ai1:Cx:=cX [rQ,xw] [] []
def vb:y9 ai1:=aE1<|gC acw<|gC afg<|AI
def bm(x:List Event×Y2×Y2×v7):Rnd (List Event×Y2×Y2×v7) D (Y2×Y2×D):=if U (x.2.2.2.1<(j8 x.1:Int)) then if inb x.2.2.2.1 x.1.length then(Nc (x.2.2.1,((rd aFi x.1 x.2.2.2.1).ki,(rd aFi x.1 x.2.2.2.1).at_,(rd aFi x.1 x.2.2.2.1).fr,(rd aFi x.1 x.2.2.2.1).nu,(rd aFi x.1 x.2.2.2.1).wo,(rd aFi x.1 x.2.2.2.1).mix,(rd aFi x.1 x.2.2.2.1).kp,(rd aFi x.1 x.2.2.2.1).to,(rd aFi x.1 x.2.2.2.1).un,(rd aFi x.1 x.2.2.2.1).tx,()),())).bind λa=>I (.inl (x.1,x.2.1,a.1.1,(w64<|x.2.2.2.1+1),())) else G else I (.inr<|.inr (x.2.1,x.2.2.1,()))
def aV:=AW bm
def ads:Loop:=⟨[(0,.sl .CM),(2,Z2),(3,Z2),(4,j6)],[(2,Z2),(3,Z2)],0,[],aV⟩
def ahO:LF f14 [] [1,1,1,0,1,0,0] ads:=sq (v:= .nil) vb (b:=bm) kN
def cO(x:List Event×D):Option ((Y2×D)×D):=(RO ()).bind λa=>if U (2000<(j8 x.1:Int)) then I (a.1,()) else(AO (aV (x.1,(0,([]:List A7),([]:List Bool),([]:List AL),([]:List A3),([]:List A3),()),a.1.1,0,())) (λ_=>G) λb=>I (b.2,()))
def vw:Ent:=(14,G,⟨[.fz .CM],[Z3],cO⟩)
def aeE:y8 vw:=sk (v:=t1<|t1<|t1<|.two (t1<|.one<|.loop ads) .nil) (fn:=f14) vb<|kC ahO kN
def aeT:Cx:=cX [] [] []
def aem:y9 aeT:=aE1<|AI
def ae(x:List A7×D):Option ((List A7×D)×D):=if U ((j8 x.1:Int)=0) then I ((([]:List A7),()),()) else if U (0<=(j8 x.1:Int))&&U ((j8 x.1:Int)<=4294967296) then I (((BR (BS (AK (j8 x.1:Int))<|dfl .AQ).length x.1++Bp x.1.length (BS (AK (j8 x.1:Int))<|dfl .AQ)),()),()) else G
def ad3:Ent:=(70,G,⟨[.fz .AQ],[.row 45 .AQ],ae⟩)
def adw:y8 ad3:=sk (v:= .nil) (fn:=f70) aem kN
def aeu:Cx:=cX [] [] []
def agL:y9 aeu:=aE1<|AI
def bJ(x:List Bool×D):Option ((List Bool×D)×D):=if U ((j8 x.1:Int)=0) then I ((([]:List Bool),()),()) else if U (0<=(j8 x.1:Int))&&U ((j8 x.1:Int)<=4294967296) then I (((BR (BS (AK (j8 x.1:Int))<|dfl .bool).length x.1++Bp x.1.length (BS (AK (j8 x.1:Int))<|dfl .bool)),()),()) else G
def tC:Ent:=(71,G,⟨[.fz .bool],[.row 4 .bool],bJ⟩)
def ae4:y8 tC:=sk (v:= .nil) (fn:=f71) agL kN
def aeS:Cx:=cX [] [] []
def ael:y9 aeS:=aE1<|AI
def ab(x:List AL×D):Option ((List AL×D)×D):=if U ((j8 x.1:Int)=0) then I ((([]:List AL),()),()) else if U (0<=(j8 x.1:Int))&&U ((j8 x.1:Int)<=4294967296) then I (((BR (BS (AK (j8 x.1:Int))<|dfl .Ak).length x.1++Bp x.1.length (BS (AK (j8 x.1:Int))<|dfl .Ak)),()),()) else G
def ad2:Ent:=(72,G,⟨[.fz .Ak],[.row 59 .Ak],ab⟩)
def adv:y8 ad2:=sk (v:= .nil) (fn:=f72) ael kN
def aev:Cx:=cX [] [] []
def agM:y9 aev:=aE1<|AI
def NY(x:List A3×D):Option ((List A3×D)×D):=if U ((j8 x.1:Int)=0) then I ((([]:List A3),()),()) else if U (0<=(j8 x.1:Int))&&U ((j8 x.1:Int)<=4294967296) then I (((BR (BS (AK (j8 x.1:Int))<|dfl .note).length x.1++Bp x.1.length (BS (AK (j8 x.1:Int))<|dfl .note)),()),()) else G
def qW:Ent:=(73,G,⟨[.fz .note],[.row 36 .note],NY⟩)
def acq:y8 qW:=sk (v:= .nil) (fn:=f73) agM kN
def aex:Cx:=cX [] [] []
def afw:y9 aex:=aE1<|AI
def qL(x:List AE×D):Option ((List AE×D)×D):=if U ((j8 x.1:Int)=0) then I ((([]:List AE),()),()) else if U (0<=(j8 x.1:Int))&&U ((j8 x.1:Int)<=4294967296) then I (((BR (BS (AK (j8 x.1:Int))<|dfl .half).length x.1++Bp x.1.length (BS (AK (j8 x.1:Int))<|dfl .half)),()),()) else G
def tG:Ent:=(116,G,⟨[.fz .half],[.row 107 .half],qL⟩)
def ae6:y8 tG:=sk (v:= .nil) (fn:=f116) afw kN
def aep:Cx:=cX [] [] []
def afW:y9 aep:=aE1<|AI
def pj(x:List AN×D):Option ((List AN×D)×D):=if U ((j8 x.1:Int)=0) then I ((([]:List AN),()),()) else if U (0<=(j8 x.1:Int))&&U ((j8 x.1:Int)<=4294967296) then I (((BR (BS (AK (j8 x.1:Int))<|dfl .mixed).length x.1++Bp x.1.length (BS (AK (j8 x.1:Int))<|dfl .mixed)),()),()) else G
def ade:Ent:=(117,G,⟨[.fz .mixed],[.row 142 .mixed],pj⟩)
def ady:y8 ade:=sk (v:= .nil) (fn:=f117) afW kN
def ag7:Cx:=cX [tG,ade] [] []
def uX:y9 ag7:=aE1<|gC ae6<|gC ady<|AI
def ba(x:Y1×Y1×aE2):Rnd (Y1×Y1×aE2) D (Y1×Y1×D):=if U (x.2.2.2.1<x.2.2.1) then if inb x.2.2.2.1 x.2.1.2.2.2.2.1.length then(pj ((rd aE6 x.2.1.2.2.2.2.1 x.2.2.2.1).got,())).bind λa=>if inb x.2.2.2.1 x.2.1.2.2.2.2.1.length then I (.inl (x.1,(x.2.1.1,x.2.1.2.1,x.2.1.2.2.1,x.2.1.2.2.2.1,(Bq x.2.1.2.2.2.2.1 (AK x.2.2.2.1)<|AE.mk ((rd aE6 x.2.1.2.2.2.2.1 x.2.2.2.1).fr) ((rd aE6 x.2.1.2.2.2.2.1 x.2.2.2.1).nu) ((rd aE6 x.2.1.2.2.2.2.1 x.2.2.2.1).to) ((rd aE6 x.2.1.2.2.2.2.1 x.2.2.2.1).un) ((rd aE6 x.2.1.2.2.2.2.1 x.2.2.2.1).sz) a.1.1),()),x.2.2.1,(w64<|x.2.2.2.1+1),())) else G else G else I (.inr<|.inr (x.1,x.2.1,()))
def pJ:=AW ba
def adV:Loop:=⟨[(2,Z20),(3,Z20),(12,j6),(13,j6)],[(2,Z20),(3,Z20)],0,[],pJ⟩
def afd:LF f74 [] [1,1,1,0,1,0,0] adV:=sq (v:= .nil) uX (b:=ba) kN
def Hi(x:Y1×D):Option ((Y1×D)×D):=(qL x.1.2.2.2.2).bind λa=>(AO (pJ ((0,A0,noB,0,([]:List AE),()),(x.1.1,x.1.2.1,x.1.2.2.1,x.1.2.2.2.1,a.1),(j8 a.1.1:Int),0,())) (λ_=>G) λb=>I (b.2,()))
def LP:Ent:=(74,G,⟨[Z12],[Z1],Hi⟩)
def MH:y8 LP:=sk (v:=t1<|t1<|t1<|.two (t1<|.one<|.loop adV) .nil) (fn:=f74) uX<|kC afd kN
def ai9:Cx:=cX [ad3,tC,ad2,qW,LP] [] []
def vc:y9 ai9:=aE1<|gC adw<|gC ae4<|gC adv<|gC acq<|gC MH<|AI
def bp(x:Y2×Y2×aE2):Rnd (Y2×Y2×aE2) D (Y2×Y2×D):=if U (x.2.2.2.1<x.2.2.1) then if inb x.2.2.2.1 x.2.1.2.1.length then(Hi (((rd aE5 x.2.1.2.1 x.2.2.2.1).id,(rd aE5 x.2.1.2.1 x.2.2.2.1).up,(rd aE5 x.2.1.2.1 x.2.2.2.1).log,(rd aE5 x.2.1.2.1 x.2.2.2.1).fo,(rd aE5 x.2.1.2.1 x.2.2.2.1).AH,()),())).bind λa=>if inb x.2.2.2.1 x.2.1.2.1.length then I (.inl (x.1,(x.2.1.1,(Bq x.2.1.2.1 (AK x.2.2.2.1)<|A7.mk a.1.1.1 a.1.1.2.1 a.1.1.2.2.1 a.1.1.2.2.2.1 a.1.1.2.2.2.2.1),x.2.1.2.2),x.2.2.1,(w64<|x.2.2.2.1+1),())) else G else G else I (.inr<|.inr (x.1,x.2.1,()))
def aZ:=AW bp
def tI:Loop:=⟨[(2,Z2),(3,Z2),(25,j6),(26,j6)],[(2,Z2),(3,Z2)],0,[],aZ⟩
def ahQ:LF f39 [] [1,1,0,1,0,0] tI:=sq (v:= .nil) vc (b:=bp) kN
def JZ(x:Y2×D):Option ((Y2×D)×D):=(ae (x.1.2.1,())).bind λa=>(bJ (x.1.2.2.1,())).bind λb=>(ab (x.1.2.2.2.1,())).bind λc=>(NY (x.1.2.2.2.2.1,())).bind λd=>(NY x.1.2.2.2.2.2).bind λe=>(AO (aZ ((0,([]:List A7),([]:List Bool),([]:List AL),([]:List A3),([]:List A3),()),(x.1.1,a.1.1,b.1.1,c.1.1,d.1.1,e.1),(j8 a.1.1:Int),0,())) (λ_=>G) λf=>I (f.2,()))
def cq:Ent:=(39,G,⟨[Z30],[Z3],JZ⟩)
def pR:y8 cq:=sk (v:=t1<|t1<|.two (t1<|.one<|.loop tI) .nil) (fn:=f39) vc<|kC ahQ kN
def aqf:Cx:=cX [] [] [(11,13)]
def asA:y9 aqf:=aE1<|AI
def C5(x:aE7):Option ((Bool×D)×D):=let a:=((U<|x.2.1<=x.1)&&(U<|x.1<=x.2.2.1));I ((a,()),())
def FE:Ent:=(60,G,⟨[j6,j6,j6],[.bool],C5⟩)
def FU:y8 FE:=sk (v:= .nil) (fn:=f60) asA kN
def amr:Cx:=cX [FE] [] []
def aoo:y9 amr:=aE1<|gC FU<|AI
def FT(x:v7):Option ((Bool×D)×D):=(C5 (x.1,0,3,())).bind λa=>I (a.1,())
def Iy:Ent:=(62,G,⟨[j6],[.bool],FT⟩)
def JY:y8 Iy:=sk (v:= .nil) (fn:=f62) aoo kN
def aey:Cx:=cX [Iy] [] []
def afx:y9 aey:=aE1<|gC JY<|AI
def qT(x:v7):Option ((Y1×D)×D):=(FT x).bind λa=>if !a.1.1 then I (((0,A0,noB,0,([]:List AE),()),()),()) else I (((x.1,Y,noB,0,([]:List AE),()),()),())
def sb:Ent:=(66,G,⟨[j6],[Z1],qT⟩)
def ae7:y8 sb:=sk (v:= .nil) (fn:=f66) afx kN
def agB:Cx:=cX [cq,sb] [] []
def uY:y9 agB:=aE1<|gC pR<|gC ae7<|AI
def UP(x:Y2×Y2×v7):Rnd (Y2×Y2×v7) D (Y2×Y2×D):=if U (x.2.2.1<4) then(qT x.2.2).bind λa=>if Ac (x.2.1.2.1.length+([(A7.mk a.1.1.1 a.1.1.2.1 a.1.1.2.2.1 a.1.1.2.2.2.1 a.1.1.2.2.2.2.1)]:List A7).length) then if U (0<x.2.2.1) then if Ac (x.2.1.2.2.1.length+([Y]:List Bool).length) then I (.inl (x.1,(x.2.1.1,(x.2.1.2.1++([(A7.mk a.1.1.1 a.1.1.2.1 a.1.1.2.2.1 a.1.1.2.2.2.1 a.1.1.2.2.2.2.1)]:List A7)),(x.2.1.2.2.1++([Y]:List Bool)),x.2.1.2.2.2),(w64<|x.2.2.1+1),())) else G else I (.inl (x.1,(x.2.1.1,(x.2.1.2.1++([(A7.mk a.1.1.1 a.1.1.2.1 a.1.1.2.2.1 a.1.1.2.2.2.1 a.1.1.2.2.2.2.1)]:List A7)),x.2.1.2.2),(w64<|x.2.2.1+1),())) else G else I (.inr<|.inr (x.1,x.2.1,()))
def af:=AW UP
def adZ:Loop:=⟨[(0,Z2),(1,Z2),(2,j6)],[(0,Z2),(1,Z2)],0,[],af⟩
def agO:LF f37 [] [1,1,0,1,0,0] adZ:=sq (v:= .nil) uY (b:=UP) kN
def bz(x:D):Option ((Y2×D)×D):=(AO (af ((0,([]:List A7),([]:List Bool),([]:List AL),([]:List A3),([]:List A3),()),(0,([]:List A7),([]:List Bool),([]:List AL),([]:List A3),([]:List A3),()),0,())) (λ_=>G) λa=>(JZ a.2).bind λb=>I (b.1,()))
def uP:Ent:=(37,G,⟨[],[Z3],bz⟩)
def aeK:y8 uP:=sk (v:=t1<|t1<|.two (t1<|.one<|.loop adZ) .nil) (fn:=f37) uY<|kC agO kN
def anT:Cx:=cX [FE] [] [(20,29)]
def aou:y9 anT:=aE1<|gC FU<|AI
def fS(x:Y2×Y6×D):Option ((Bool×D)×Y2×D):=(C5 (x.2.1.2.1,0,(w64<|(j8 x.1.2.2.1:Int) - 1),())).bind λa=>if Al (!(!a.1.1)) (inb x.2.1.2.1 x.1.2.2.1.length) then if(!a.1.1)||(U<|(rd aFj x.1.2.2.1 x.2.1.2.1)=(U<|x.2.1.1=9)) then I ((A0,()),(x.1,())) else if inb x.2.1.2.1 x.1.2.2.1.length then I ((Y,()),((x.1.1,x.1.2.1,(Bq x.1.2.2.1 (AK x.2.1.2.1)<|U<|x.2.1.1=9),x.1.2.2.2),())) else G else G
def zP:Ent:=(67,G,⟨[Z2,Z13],[.bool],fS⟩)
def ah5:y8 zP:=sk (v:= .nil) (fn:=f67) aou kN
def aiA:Cx:=cX [] [] []
def aje:y9 aiA:=aE1<|AI
def Uu(x:List AL×v7):Option ((List AL×D)×D):=if U (0<=x.2.1)&&U (x.2.1<=(j8 x.1:Int)) then if Ac (([]:List AL).length+(BR (AK x.2.1) x.1).length) then if U (0<=(w64<|x.2.1+1))&&U ((w64<|x.2.1+1)<=(j8 x.1:Int)) then if Ac ((([]:List AL)++(BR (AK x.2.1) x.1)).length+(Bp (AK<|w64<|x.2.1+1) x.1).length) then I ((((([]:List AL)++(BR (AK x.2.1) x.1))++(Bp (AK<|w64<|x.2.1+1) x.1)),()),()) else G else G else G else G
def wB:Ent:=(104,G,⟨[.fz .Ak,j6],[.row 59 .Ak],Uu⟩)
def aee:y8 wB:=sk (v:= .nil) (fn:=f104) aje kN
def ajQ:Cx:=cX [Iy] [] []
def alX:y9 ajQ:=aE1<|gC JY<|AI
def Iv(x:aE2):Option ((v7)×D):=(BT (X:=Int×Int×Bool×D) (λa=>if a.2.2.1 then I (((-1),()),()) else if U (a.1<a.2.1) then I (((w64<|a.1+1),()),()) else I (((w64<|a.1 - 1),()),()))<|(FT (x.1,())).bind λb=>if !b.1.1 then I (.inr (x.1,x.2.1,Y,())) else(FT x.2).bind λc=>if !c.1.1 then I (.inr (x.1,x.2.1,Y,())) else I (.inr (x.1,x.2.1,(U<|x.1=x.2.1),())))
def dO:Ent:=(44,G,⟨[j6,j6],[j6],Iv⟩)
def pn:y8 dO:=sk (v:=t1<|.two (.one<|.join [(0,j6),(1,j6),(5,.bool)] .nil .nil) .nil) (fn:=f44) alX kN
def al1:Cx:=cX [dO,FE,Iy] [] [(56,63),(82,89)]
def anK:y9 al1:=aE1<|gC pn<|gC FU<|gC JY<|AI
def VW(x:Y6×D):Option ((Bool×D)×D):=(FT (x.1.2.1,())).bind λb=>if !b.1.1 then I ((A0,()),()) else(FT (x.1.2.2.1,())).bind λc=>if !c.1.1 then I ((A0,()),()) else(FT (x.1.2.2.2.1,())).bind λd=>if !d.1.1 then I ((A0,()),()) else(FT (x.1.2.2.2.2.2.1,())).bind λe=>if !e.1.1 then I ((A0,()),()) else(C5 (x.1.2.2.2.2.1,1,99,())).bind λf=>if !f.1.1 then I ((A0,()),()) else(C5 (x.1.2.2.2.2.2.2.1,1,999,())).bind λg=>if !g.1.1 then I ((A0,()),()) else if U (x.1.1=1) then(C5 (x.1.2.2.2.2.2.2.2.1,1,24,())).bind λh=>if h.1.1 then(C5 (x.1.2.2.2.2.2.2.2.2.1,0,999,())).bind λi=>if i.1.1 then if Al (U<|(x.1.2.2.2.2.2.2.2.2.2.1.size:Int)=4) ((Iv (x.1.2.1,x.1.2.2.2.2.2.1,())).isSome) then let j:=((U<|(x.1.2.2.2.2.2.2.2.2.2.1.size:Int)=4)&&(U<|x.1.2.2.1=((Iv (x.1.2.1,x.1.2.2.2.2.2.1,())).getD ((0,()),())).1.1));I ((j,()),()) else G else if Al A0 ((Iv (x.1.2.1,x.1.2.2.2.2.2.1,())).isSome) then I ((A0,()),()) else G else if Al A0 ((Iv (x.1.2.1,x.1.2.2.2.2.2.1,())).isSome) then I ((A0,()),()) else G else(BT (X:=Y6×Bool×D) (λa=>if a.2.1 then if U (a.1.2.2.2.2.2.2.2.1=0) then if U (a.1.2.2.2.2.2.2.2.2.1=0) then if Al (U<|a.1.2.2.2.2.2.2.2.2.2.1=noB) ((Iv (a.1.2.2.1,a.1.2.2.2.2.2.1,())).isSome) then let k:=((U<|a.1.2.2.2.2.2.2.2.2.2.1=noB)&&(U<|a.1.2.1=((Iv (a.1.2.2.1,a.1.2.2.2.2.2.1,())).getD ((0,()),())).1.1));I ((k,()),()) else G else if Al A0 ((Iv (a.1.2.2.1,a.1.2.2.2.2.2.1,())).isSome) then I ((A0,()),()) else G else if Al A0 ((Iv (a.1.2.2.1,a.1.2.2.2.2.2.1,())).isSome) then I ((A0,()),()) else G else I ((A0,()),()))<|(if U (x.1.1=2) then I (.inr (x.1,(U<|x.1.1=2),())) else I (.inr (x.1,(U<|x.1.1=3),()))))
def ft:Ent:=(146,G,⟨[Z13],[.bool],VW⟩)
def su:y8 ft:=sk (v:=t1<|t1<|.two (t1<|.one<|t1<|t1<|.join [(1,Z14),(65,.bool)] .nil .nil) .nil) (fn:=f146) anK kN
def ajT:Cx:=cX [] [] []
def xp:y9 ajT:=aE1<|AI
def cn(x:Int×List Int×aE2):Rnd (Int×List Int×aE2) D (v7):=if U (x.2.2.2.1<x.2.2.1) then if inb x.2.2.2.1 x.2.1.length then let a:=(rd aFd x.2.1 x.2.2.2.1);let b:=(BK (w64<|x.1+(w64<|(w64 a) * (w64<|(BK x.2.2.2.1 1000)+1))) 65521);I (.inl (b,x.2.1,x.2.2.1,(w64<|x.2.2.2.1+1),())) else G else I (.inr<|.inr (x.1,()))
def av:=AW cn
def tW:Loop:=⟨[(3,j6),(6,.sl .u8),(7,j6),(8,j6)],[(3,j6)],0,[],av⟩
def aj2:LF f182 [] [1,1,0,1,0,0] tW:=sq (v:= .nil) xp (b:=cn) kN
def V5(x:List Int×D):Option ((v7)×D):=(AO (av (0,x.1,(j8 x.1:Int),0,())) (λ_=>G) λa=>I (a,()))
def wP:Ent:=(182,G,⟨[.fz .u8],[j6],V5⟩)
def afF:y8 wP:=sk (v:=t1<|t1<|.two (t1<|.one<|.loop tW) .nil) (fn:=f182) xp<|kC aj2 kN
def aet:Cx:=cX [] [] []
def agK:y9 aet:=aE1<|AI
def bH(x:List Int×D):Option ((List Int×D)×D):=if U ((j8 x.1:Int)=0) then I ((([]:List Int),()),()) else if U (0<=(j8 x.1:Int))&&U ((j8 x.1:Int)<=4294967296) then I (((BR (BS (AK (j8 x.1:Int))<|dfl .u8).length x.1++Bp x.1.length (BS (AK (j8 x.1:Int))<|dfl .u8)),()),()) else G
def tB:Ent:=(183,G,⟨[.fz .u8],[.row 5 .u8],bH⟩)
def ae3:y8 tB:=sk (v:= .nil) (fn:=f183) agK kN
def ahm:Cx:=cX [ft,wP,tB] [] []
def ajM:y9 ahm:=aE1<|gC su<|gC afF<|gC ae3<|AI
def PK(x:Y6×D):Option ((List Int×D)×D):=(VW x).bind λc=>if !c.1.1 then I ((([]:List Int),()),()) else(BT (X:=List Int×D) (λb=>(V5 b).bind λa=>if Ac (b.1.length+([(w8<|w64<|B0 a.1.1 256),(w8<|BK a.1.1 256)]:List Int).length) then(bH ((b.1++([(w8<|w64<|B0 a.1.1 256),(w8<|BK a.1.1 256)]:List Int)),())).bind λd=>I (d.1,()) else G)<|(if U (x.1.1=1) then if Ac (([(w8 x.1.1),(w8 x.1.2.1),(w8 x.1.2.2.1),(w8 x.1.2.2.2.1),(w8 x.1.2.2.2.2.1),(w8 x.1.2.2.2.2.2.1),(w8<|w64<|B0 x.1.2.2.2.2.2.2.1 256),(w8<|BK x.1.2.2.2.2.2.2.1 256)]:List Int).length+([(w8 x.1.2.2.2.2.2.2.2.1),(w8<|w64<|B0 x.1.2.2.2.2.2.2.2.2.1 256),(w8<|BK x.1.2.2.2.2.2.2.2.2.1 256)]:List Int).length) then if Ac ((([(w8 x.1.1),(w8 x.1.2.1),(w8 x.1.2.2.1),(w8 x.1.2.2.2.1),(w8 x.1.2.2.2.2.1),(w8 x.1.2.2.2.2.2.1),(w8<|w64<|B0 x.1.2.2.2.2.2.2.1 256),(w8<|BK x.1.2.2.2.2.2.2.1 256)]:List Int)++([(w8 x.1.2.2.2.2.2.2.2.1),(w8<|w64<|B0 x.1.2.2.2.2.2.2.2.2.1 256),(w8<|BK x.1.2.2.2.2.2.2.2.2.1 256)]:List Int)).length+(BA x.1.2.2.2.2.2.2.2.2.2.1).length) then I (.inr (((([(w8 x.1.1),(w8 x.1.2.1),(w8 x.1.2.2.1),(w8 x.1.2.2.2.1),(w8 x.1.2.2.2.2.1),(w8 x.1.2.2.2.2.2.1),(w8<|w64<|B0 x.1.2.2.2.2.2.2.1 256),(w8<|BK x.1.2.2.2.2.2.2.1 256)]:List Int)++([(w8 x.1.2.2.2.2.2.2.2.1),(w8<|w64<|B0 x.1.2.2.2.2.2.2.2.2.1 256),(w8<|BK x.1.2.2.2.2.2.2.2.2.1 256)]:List Int))++(BA x.1.2.2.2.2.2.2.2.2.2.1)),())) else G else G else I (.inr (([(w8 x.1.1),(w8 x.1.2.1),(w8 x.1.2.2.1),(w8 x.1.2.2.2.1),(w8 x.1.2.2.2.2.1),(w8 x.1.2.2.2.2.2.1),(w8<|w64<|B0 x.1.2.2.2.2.2.2.1 256),(w8<|BK x.1.2.2.2.2.2.2.1 256)]:List Int),()))))
def rj:Ent:=(145,G,⟨[Z13],[.row 5 .u8],PK⟩)
def adB:y8 rj:=sk (v:=t1<|t1<|t1<|.join [(3,.row 5 .u8)] .nil .nil) (fn:=f145) ajM kN
def afV:Cx:=cX [rj] [] [(9,11)]
def afz:y9 afV:=aE1<|gC adB<|AI
def bQ(x:List Int×D):Option ((Y6×Bool×D)×D):=if(!decide ((j8 x.1:Int)=10))&&(!decide ((j8 x.1:Int)=17)) then I (((0,0,0,0,0,0,0,0,0,noB,()),A0,()),()) else if inb 0 x.1.length then if inb 1 x.1.length then if inb 2 x.1.length then if inb 3 x.1.length then if inb 4 x.1.length then if inb 5 x.1.length then if inb 6 x.1.length then if inb 7 x.1.length then let b:=(w64<|rd aFd x.1 0);let c:=(w64<|rd aFd x.1 1);let d:=(w64<|rd aFd x.1 2);let e:=(w64<|rd aFd x.1 3);let f:=(w64<|rd aFd x.1 4);let g:=(w64<|rd aFd x.1 5);let h:=(w64<|(w64<|256 * (w64<|rd aFd x.1 6))+(w64<|rd aFd x.1 7));(BT (X:=List Int×Y6×Y6×D) (λa=>(PK a.2.2).bind λi=>if !decide ((BH i.1.1)=(BH a.1)) then I (((0,0,0,0,0,0,0,0,0,noB,()),A0,()),()) else I ((a.2.2.1,Y,()),()))<|(if U ((j8 x.1:Int)=17) then if inb 8 x.1.length then let j:=(w64<|rd aFd x.1 8);(if inb 9 x.1.length then if inb 10 x.1.length then let k:=(w64<|(w64<|256 * (w64<|rd aFd x.1 9))+(w64<|rd aFd x.1 10));(if(U (0<=15)&&U (15<=(j8 x.1:Int)))&&(U (0<=11)&&U (11<=15)) then let l:=(BH<|Bp (AK 11)<|BR (AK 15) x.1);I (.inr (x.1,(0,0,0,0,0,0,0,0,0,noB,()),(b,c,d,e,f,g,h,j,k,l,()),())) else G) else G else G) else G else I (.inr (x.1,(0,0,0,0,0,0,0,0,0,noB,()),(b,c,d,e,f,g,h,0,0,noB,()),())))) else G else G else G else G else G else G else G else G
def sf:Ent:=(105,G,⟨[.fz .u8],[Z13,.bool],bQ⟩)
def ae9:y8 sf:=sk (v:=t1<|t1<|t1<|.join [(0,.sl .u8),(2,Z14),(4,Z14)] .nil .nil) (fn:=f105) afz kN
def aeR:Cx:=cX [] [] []
def aek:y9 aeR:=aE1<|AI
def R9(x:List A1×D):Option ((List A1×D)×D):=if U ((j8 x.1:Int)=0) then I ((([]:List A1),()),()) else if U (0<=(j8 x.1:Int))&&U ((j8 x.1:Int)<=4294967296) then I (((BR (BS (AK (j8 x.1:Int))<|dfl .str).length x.1++Bp x.1.length (BS (AK (j8 x.1:Int))<|dfl .str)),()),()) else G
def bC:Ent:=(118,G,⟨[.fz .str],[.row 9 .str],R9⟩)
def pB:y8 bC:=sk (v:= .nil) (fn:=f118) aek kN
def akq:Cx:=cX [FE] [] [(11,18)]
def yo:y9 akq:=aE1<|gC FU<|AI
def dG(x:A1×aE2):Rnd (A1×aE2) (Int×Bool×D) (v7):=if U (x.2.2.1<(x.1.size:Int)) then if inb x.2.2.1 x.1.size then(C5 ((w64<|bt x.1 x.2.2.1),48,57,())).bind λa=>if !a.1.1 then I (.inr<|.inl (0,A0,())) else if inb x.2.2.1 x.1.size then let b:=(w64<|(w64<|10 * x.2.1)+(w64<|w8<|(bt x.1 x.2.2.1) - 48));I (.inl (x.1,b,(w64<|x.2.2.1+1),())) else G else G else I (.inr<|.inr (x.2.1,()))
def qH:=AW dG
def vC:Loop:=⟨[(0,.str),(4,j6),(5,j6)],[(4,j6)],0,[(2,j6),(3,.bool)],qH⟩
def akI:LF f119 [] [1,1,1,0,1,0,0] vC:=sq (v:= .nil) yo (b:=dG) kN
def PU(x:A1×D):Option ((Int×Bool×D)×D):=(C5 ((x.1.size:Int),1,5,())).bind λb=>if Al (!(!b.1.1)) (inb 0 x.1.size) then if(!b.1.1)||((U<|(bt x.1 0)=48)&&(U<|1<(x.1.size:Int))) then I ((0,A0,()),()) else(AO (qH (x.1,0,0,())) (λa=>I (a,())) λa=>I ((a.1,Y,()),())) else G
def ey:Ent:=(119,G,⟨[.str],[j6,.bool],PU⟩)
def qG:y8 ey:=sk (v:=t1<|t1<|t1<|.two (t1<|.one<|.loop vC) .nil) (fn:=f119) yo<|kC akI kN
def aiE:Cx:=cX [FE,bC,ey] [] [(26,29),(38,41)]
def rq:y9 aiE:=aE1<|gC FU<|gC pB<|gC qG<|AI
def bu(x:A1×List A1×aE2):Rnd (A1×List A1×aE2) D (A1×List A1×aE2):=if U (x.2.2.2.1<(x.1.size:Int)) then if Al (U<|x.2.2.2.1<(w64<|x.2.2.1+3)) (inb x.2.2.2.1 x.1.size) then if(U<|x.2.2.2.1<(w64<|x.2.2.1+3))&&(!decide ((bt x.1 x.2.2.2.1)=58)) then I (.inl (x.1,x.2.1,x.2.2.1,(w64<|x.2.2.2.1+1),())) else I (.inr<|.inr x) else G else if Al A0 (inb x.2.2.2.1 x.1.size) then I (.inr<|.inr x) else G
def pV:=AW bu
def tL:Loop:=⟨[(0,.str),(4,.row 9 .str),(5,j6),(6,j6)],[(0,.str),(4,.row 9 .str),(5,j6),(6,j6)],2,[],pV⟩
def ahJ:LF f81 [] [1,1,1,0,0,0,1,0,1,0,0,0] tL:=sq (v:= .nil) rq (b:=bu) kN
def RD(x:A1×List A1×v7):Rnd (A1×List A1×v7) D (List A1×v7):=if U (x.2.2.1<(x.1.size:Int)) then(AO (pV (x.1,x.2.1,x.2.2.1,x.2.2)) (λ_=>I<|.inr<|.inl ()) λa=>(if Al (!(U<|(a.1.size:Int)<=a.2.2.2.1)) (inb a.2.2.2.1 a.1.size) then if(U<|(a.1.size:Int)<=a.2.2.2.1)||(!decide ((bt a.1 a.2.2.2.1)=58)) then I (.inr<|.inr (a.2.1,a.2.2.1,())) else if(U (0<=a.2.2.2.1)&&U (a.2.2.2.1<=(a.1.size:Int)))&&(U (0<=a.2.2.1)&&U (a.2.2.1<=a.2.2.2.1)) then(PU ((a.1.extract (AK a.2.2.1)<|AK a.2.2.2.1),())).bind λc=>let b:=(w64<|(w64<|a.2.2.2.1+1)+c.1.1);(if !c.1.2.1 then I (.inr<|.inr (a.2.1,a.2.2.1,())) else(C5 (c.1.1,1,60,())).bind λd=>if !d.1.1 then I (.inr<|.inr (a.2.1,a.2.2.1,())) else if U ((a.1.size:Int)<=b) then I (.inr<|.inr (a.2.1,a.2.2.1,())) else if inb b a.1.size then if !decide ((bt a.1 b)=59) then I (.inr<|.inr (a.2.1,a.2.2.1,())) else if(U (0<=b)&&U (b<=(a.1.size:Int)))&&(U (0<=(w64<|a.2.2.2.1+1))&&U ((w64<|a.2.2.2.1+1)<=b)) then if Ac (a.2.1.length+([(a.1.extract (AK<|w64<|a.2.2.2.1+1)<|AK b)]:List A1).length) then I (.inl (a.1,(a.2.1++([(a.1.extract (AK<|w64<|a.2.2.2.1+1)<|AK b)]:List A1)),(w64<|b+1),())) else G else G else G) else G else G)) else I (.inr<|.inr x.2)
def pW:=AW RD
def tM:Loop:=⟨[(0,.str),(4,.row 9 .str),(5,j6)],[(4,.row 9 .str),(5,j6)],0,[],pW⟩
def ahS:LF f81 [] [1,1,1,0,0,0] tM:=sq (v:=t1<|.one<|t1<|.two (.one<|.loop tL) .nil) rq (b:=RD)<|kC ahJ kN
def PJ(x:A1×D):Option ((List A1×v7)×D):=(AO (pW (x.1,([]:List A1),0,())) (λ_=>G) λa=>(R9 (a.1,())).bind λb=>I ((b.1.1,a.2),()))
def ct:Ent:=(81,G,⟨[.str],[.row 9 .str,j6],PJ⟩)
def pU:y8 ct:=sk (v:=t1<|t1<|t1<|.two (.one<|.loop tM) .nil) (fn:=f81) rq<|kC ahS kN
def ahl:Cx:=cX [Iy] [] []
def ajL:y9 ahl:=aE1<|gC JY<|AI
def cg(x:v7):Option ((Y3×D)×D):=(FT x).bind λa=>if !a.1.1 then I (((0,0,0,([]:List A3),([]:List Mark),([]:List A3),()),()),()) else I (((x.1,0,1,([]:List A3),([]:List Mark),([]:List A3),()),()),())
def vY:Ent:=(120,G,⟨[j6],[Z4],cg⟩)
def aeb:y8 vY:=sk (v:= .nil) (fn:=f120) ajL kN
def amq:Cx:=cX [] [] [(21,24)]
def zx:y9 amq:=aE1<|AI
def eL(x:Int×Int×List Mark×aE2):Rnd (Int×Int×List Mark×aE2) (v7) D:=if U (x.2.2.2.2.1<x.2.2.2.1) then if inb x.2.2.2.2.1 x.2.2.1.length then let a:=(rd aFc x.2.2.1 x.2.2.2.2.1).mf;let b:=(rd aFc x.2.2.1 x.2.2.2.2.1).mn;let c:=(rd aFc x.2.2.1 x.2.2.2.2.1).mu;if(U<|a=x.1)&&(U<|b=x.2.1) then I (.inr<|.inl x.2.2.2.2) else I (.inl (x.1,x.2.1,x.2.2.1,x.2.2.2.1,(w64<|x.2.2.2.2.1+1),())) else G else I (.inr<|.inr ())
def qu:=AW eL
def xX:Loop:=⟨[(1,j6),(2,j6),(9,.sl .mark),(10,j6),(11,j6)],[],0,[(6,j6)],qu⟩
def am7:LF f185 [] [1,0,1,0,0] xX:=sq (v:= .nil) zx (b:=eL) kN
def KR(x:List Mark×aE2):Option ((v7)×D):=(AO (qu (x.2.1,x.2.2.1,x.1,(j8 x.1:Int),0,())) (λa=>I (a,())) λa=>I (((-1),()),()))
def Vr:Ent:=(185,G,⟨[.fz .mark,j6,j6],[j6],KR⟩)
def bq:y8 Vr:=sk (v:=t1<|.two (t1<|.one<|.loop xX) .nil) (fn:=f185) zx<|kC am7 kN
def amk:Cx:=cX [FE] [] []
def zt:y9 amk:=aE1<|gC FU<|AI
def eY(x:A1×v7):Rnd (A1×v7) (Bool×D) (A1×D):=if U (x.2.1<(x.1.size:Int)) then if inb x.2.1 x.1.size then(C5 ((w64<|bt x.1 x.2.1),32,126,())).bind λa=>if !a.1.1 then I (.inr<|.inl (A0,())) else I (.inl (x.1,(w64<|x.2.1+1),())) else G else I (.inr<|.inr (x.1,()))
def rE:=AW eY
def xS:Loop:=⟨[(0,.str),(3,j6)],[(0,.str)],0,[(2,.bool)],rE⟩
def am3:LF f132 [] [1,0,1,0,0] xS:=sq (v:= .nil) zt (b:=eY) kN
def Nl(x:A1×D):Option ((Bool×D)×D):=(AO (rE (x.1,0,())) (λa=>I (a,())) λa=>(C5 ((a.1.size:Int),1,24,())).bind λb=>I (b.1,()))
def zH:Ent:=(132,G,⟨[.str],[.bool],Nl⟩)
def ahX:y8 zH:=sk (v:=t1<|.two (t1<|.one<|.loop xS) .nil) (fn:=f132) zt<|kC am3 kN
def anW:Cx:=cX [FE,Iy,zH] [] [(22,24)]
def aox:y9 anW:=aE1<|gC FU<|gC JY<|gC ahX<|AI
def No(x:Y4×D):Option ((Bool×D)×D):=(FT (x.1.1,())).bind λb=>if b.1.1 then(FT (x.1.2.2.1,())).bind λc=>if c.1.1 then(C5 (x.1.2.1,1,99,())).bind λd=>if d.1.1 then(C5 (x.1.2.2.2.1,1,999,())).bind λa=>if Al a.1.1 ((Nl x.1.2.2.2.2).isSome) then let e:=(a.1.1&&(((Nl x.1.2.2.2.2).getD ((A0,()),())).1.1));I ((e,()),()) else G else if Al A0 ((Nl x.1.2.2.2.2).isSome) then I ((A0,()),()) else G else if Al A0 ((Nl x.1.2.2.2.2).isSome) then I ((A0,()),()) else G else if Al A0 ((Nl x.1.2.2.2.2).isSome) then I ((A0,()),()) else G
def Rw:Ent:=(100,G,⟨[Z6],[.bool],No⟩)
def Uj:y8 Rw:=sk (v:= .nil) (fn:=f100) aox kN
def anR:Cx:=cX [] [] [(13,20)]
def aos:y9 anR:=aE1<|AI
def LR(x:Int×aE7):Option ((Bool×D)×D):=let a:=((U<|x.1<x.2.2.1)||((U<|x.1=x.2.2.1)&&(U<|x.2.1<x.2.2.2.1)));I ((a,()),())
def Vs:Ent:=(236,G,⟨[j6,j6,j6,j6],[.bool],LR⟩)
def br:y8 Vs:=sk (v:= .nil) (fn:=f236) aos kN
def ako:Cx:=cX [Rw,Vs] [] [(16,37)]
def yn:y9 ako:=aE1<|gC Uj<|gC br<|AI
def dF(x:List A3×List A3×aE2):Rnd (List A3×List A3×aE2) (Bool×D) D:=if U (x.2.2.2.1<x.2.2.1) then if inb x.2.2.2.1 x.2.1.length then let b:=(rd aE3 x.2.1 x.2.2.2.1).fr;let c:=(rd aE3 x.2.1 x.2.2.2.1).nu;let d:=(rd aE3 x.2.1 x.2.2.2.1).to;let e:=(rd aE3 x.2.1 x.2.2.2.1).un;let f:=(rd aE3 x.2.1 x.2.2.2.1).tx;(No ((b,c,d,e,f,()),())).bind λa=>if Al ((!(!a.1.1))&&(U<|0<x.2.2.2.1)) (inb (w64<|x.2.2.2.1 - 1) x.1.length) then if Al ((!(!a.1.1))&&(U<|0<x.2.2.2.1)) (inb (w64<|x.2.2.2.1 - 1) x.1.length) then if Al ((!(!a.1.1))&&(U<|0<x.2.2.2.1)) ((LR ((rd aE3 x.1<|w64<|x.2.2.2.1 - 1).fr,(rd aE3 x.1<|w64<|x.2.2.2.1 - 1).nu,b,c,())).isSome) then if(!a.1.1)||((U<|0<x.2.2.2.1)&&(!(((LR ((rd aE3 x.1<|w64<|x.2.2.2.1 - 1).fr,(rd aE3 x.1<|w64<|x.2.2.2.1 - 1).nu,b,c,())).getD ((A0,()),())).1.1))) then I (.inr<|.inl (A0,())) else I (.inl (x.1,x.2.1,x.2.2.1,(w64<|x.2.2.2.1+1),())) else G else G else G else G else I (.inr<|.inr ())
def qF:=AW dF
def vB:Loop:=⟨[(0,.sl .note),(5,.sl .note),(6,j6),(7,j6)],[],0,[(2,.bool)],qF⟩
def akH:LF f195 [] [1,0,1,0,0] vB:=sq (v:= .nil) yn (b:=dF) kN
def VR(x:List A3×D):Option ((Bool×D)×D):=(AO (qF (x.1,x.1,(j8 x.1:Int),0,())) (λa=>I (a,())) λa=>I ((Y,()),()))
def yA:Ent:=(195,G,⟨[.fz .note],[.bool],VR⟩)
def agP:y8 yA:=sk (v:=t1<|.two (t1<|.one<|.loop vB) .nil) (fn:=f195) yn<|kC akH kN
def amo:Cx:=cX [FE,Iy] [] [(12,14)]
def aon:y9 amo:=aE1<|gC FU<|gC JY<|AI
def fP(x:Y5×D):Option ((Bool×D)×D):=(FT (x.1.1,())).bind λb=>if b.1.1 then(C5 (x.1.2.1,1,99,())).bind λa=>if Al a.1.1 ((C5 (x.1.2.2.1,1,999,())).isSome) then let c:=(a.1.1&&(((C5 (x.1.2.2.1,1,999,())).getD ((A0,()),())).1.1));I ((c,()),()) else G else if Al A0 ((C5 (x.1.2.2.1,1,999,())).isSome) then I ((A0,()),()) else G
def zI:Ent:=(237,G,⟨[Z11],[.bool],fP⟩)
def agz:y8 zI:=sk (v:= .nil) (fn:=f237) aon kN
def akr:Cx:=cX [Vs,zI] [] [(16,37)]
def yp:y9 akr:=aE1<|gC br<|gC agz<|AI
def dH(x:List Mark×List Mark×aE2):Rnd (List Mark×List Mark×aE2) (Bool×D) D:=if U (x.2.2.2.1<x.2.2.1) then if inb x.2.2.2.1 x.2.1.length then let b:=(rd aFc x.2.1 x.2.2.2.1).mf;let c:=(rd aFc x.2.1 x.2.2.2.1).mn;let d:=(rd aFc x.2.1 x.2.2.2.1).mu;(fP ((b,c,d,()),())).bind λa=>if Al ((!(!a.1.1))&&(U<|0<x.2.2.2.1)) (inb (w64<|x.2.2.2.1 - 1) x.1.length) then if Al ((!(!a.1.1))&&(U<|0<x.2.2.2.1)) (inb (w64<|x.2.2.2.1 - 1) x.1.length) then if Al ((!(!a.1.1))&&(U<|0<x.2.2.2.1)) ((LR ((rd aFc x.1<|w64<|x.2.2.2.1 - 1).mf,(rd aFc x.1<|w64<|x.2.2.2.1 - 1).mn,b,c,())).isSome) then if(!a.1.1)||((U<|0<x.2.2.2.1)&&(!(((LR ((rd aFc x.1<|w64<|x.2.2.2.1 - 1).mf,(rd aFc x.1<|w64<|x.2.2.2.1 - 1).mn,b,c,())).getD ((A0,()),())).1.1))) then I (.inr<|.inl (A0,())) else I (.inl (x.1,x.2.1,x.2.2.1,(w64<|x.2.2.2.1+1),())) else G else G else G else G else I (.inr<|.inr ())
def qI:=AW dH
def ua:Loop:=⟨[(0,.sl .mark),(5,.sl .mark),(6,j6),(7,j6)],[],0,[(2,.bool)],qI⟩
def ajk:LF f196 [] [1,0,1,0,0] ua:=sq (v:= .nil) yp (b:=dH) kN
def eh(x:List Mark×D):Option ((Bool×D)×D):=(AO (qI (x.1,x.1,(j8 x.1:Int),0,())) (λa=>I (a,())) λa=>I ((Y,()),()))
def yX:Ent:=(196,G,⟨[.fz .mark],[.bool],eh⟩)
def agR:y8 yX:=sk (v:=t1<|.two (t1<|.one<|.loop ua) .nil) (fn:=f196) yp<|kC ajk kN
def aoF:Cx:=cX [FE] [] [(10,23)]
def ap8:y9 aoF:=aE1<|gC FU<|AI
def W3(x:Int×Y4×D):Option ((Bool×D)×D):=if Al (!decide (x.1=x.2.1.2.2.1)) ((C5 (x.1,x.2.1.1,x.2.1.2.2.1,())).isSome) then if Al ((!decide (x.1=x.2.1.2.2.1))&&(!(((C5 (x.1,x.2.1.1,x.2.1.2.2.1,())).getD ((A0,()),())).1.1))) ((C5 (x.1,x.2.1.2.2.1,x.2.1.1,())).isSome) then let a:=((!decide (x.1=x.2.1.2.2.1))&&((((C5 (x.1,x.2.1.1,x.2.1.2.2.1,())).getD ((A0,()),())).1.1)||(((C5 (x.1,x.2.1.2.2.1,x.2.1.1,())).getD ((A0,()),())).1.1)));I ((a,()),()) else G else G
def aAD:Ent:=(197,G,⟨[j6,Z6],[.bool],W3⟩)
def aj5:y8 aAD:=sk (v:= .nil) (fn:=f197) ap8 kN
def anY:Cx:=cX [FE,Iy,Vr,yA,yX,aAD] [] [(123,127)]
def fZ:y9 anY:=aE1<|gC FU<|gC JY<|gC bq<|gC agP<|gC agR<|gC aj5<|AI
def eH(x:Y3×List A3×aE2):Rnd (Y3×List A3×aE2) (Bool×D) D:=if U (x.2.2.2.1<x.2.2.1) then if inb x.2.2.2.1 x.2.1.length then let aK:=(rd aE3 x.2.1 x.2.2.2.1).fr;let oo:=(rd aE3 x.2.1 x.2.2.2.1).nu;let acA:=(rd aE3 x.2.1 x.2.2.2.1).to;let a:=(rd aE3 x.2.1 x.2.2.2.1).un;let azx:=(rd aE3 x.2.1 x.2.2.2.1).tx;(if U (aK=x.1.1) then if U (x.1.2.2.1<=oo) then I (.inr<|.inl (A0,())) else if !decide (acA=x.1.1) then I (.inr<|.inl (A0,())) else if U (x.1.2.1<a) then(KR (x.1.2.2.2.2.1,aK,oo,())).bind λaz9=>if U (az9.1.1<0) then I (.inr<|.inl (A0,())) else I (.inl (x.1,x.2.1,x.2.2.1,(w64<|x.2.2.2.1+1),())) else I (.inl (x.1,x.2.1,x.2.2.1,(w64<|x.2.2.2.1+1),())) else if !decide (acA=x.1.1) then I (.inr<|.inl (A0,())) else if U (x.1.2.1<a) then(KR (x.1.2.2.2.2.1,aK,oo,())).bind λaz8=>if U (az8.1.1<0) then I (.inr<|.inl (A0,())) else I (.inl (x.1,x.2.1,x.2.2.1,(w64<|x.2.2.2.1+1),())) else I (.inl (x.1,x.2.1,x.2.2.1,(w64<|x.2.2.2.1+1),()))) else G else I (.inr<|.inr ())
def rB:=AW eH
def wc:Loop:=⟨[(1,Z7),(131,.sl .note),(132,j6),(133,j6)],[],4,[(2,.bool)],rB⟩
def amL:LF f158 [] [1,1,1,1,1,0,1,0,0] wc:=sq (v:= .nil) fZ (b:=eH) kN
def eJ(x:Y3×List Mark×aE2):Rnd (Y3×List Mark×aE2) (Bool×D) (Y3×D):=if U (x.2.2.2.1<x.2.2.1) then if inb x.2.2.2.1 x.2.1.length then let az1:=(rd aFc x.2.1 x.2.2.2.1).mf;let ov:=(rd aFc x.2.1 x.2.2.2.1).mn;let a:=(rd aFc x.2.1 x.2.2.2.1).mu;if U (az1=x.1.1) then if(U<|x.1.2.2.1<=ov)||(U<|a<=x.1.2.1) then I (.inr<|.inl (A0,())) else I (.inl (x.1,x.2.1,x.2.2.1,(w64<|x.2.2.2.1+1),())) else if U (a<=x.1.2.1) then I (.inr<|.inl (A0,())) else I (.inl (x.1,x.2.1,x.2.2.1,(w64<|x.2.2.2.1+1),())) else G else I (.inr<|.inr (x.1,()))
def rC:=AW eJ
def we:Loop:=⟨[(1,Z7),(104,.sl .mark),(105,j6),(106,j6)],[(1,Z7)],2,[(2,.bool)],rC⟩
def amP:LF f158 [] [1,1,1,1,0,1,0,0] we:=sq (v:= .nil) fZ (b:=eJ) kN
def er(x:Y3×List A3×aE2):Rnd (Y3×List A3×aE2) (Bool×D) (Y3×D):=if U (x.2.2.2.1<x.2.2.1) then if inb x.2.2.2.1 x.2.1.length then let a:=(rd aE3 x.2.1 x.2.2.2.1).fr;let b:=(rd aE3 x.2.1 x.2.2.2.1).nu;let d:=(rd aE3 x.2.1 x.2.2.2.1).to;let c:=(rd aE3 x.2.1 x.2.2.2.1).un;let e:=(rd aE3 x.2.1 x.2.2.2.1).tx;if U (a=x.1.1) then if U (x.1.2.2.1<=b) then I (.inr<|.inl (A0,())) else if U (c<=x.1.2.1) then I (.inr<|.inl (A0,())) else(W3 (x.1.1,(a,b,d,c,e,()),())).bind λf=>if !f.1.1 then I (.inr<|.inl (A0,())) else(KR (x.1.2.2.2.2.1,a,b,())).bind λg=>if U (0<=g.1.1) then I (.inr<|.inl (A0,())) else I (.inl (x.1,x.2.1,x.2.2.1,(w64<|x.2.2.2.1+1),())) else if U (c<=x.1.2.1) then I (.inr<|.inl (A0,())) else(W3 (x.1.1,(a,b,d,c,e,()),())).bind λh=>if !h.1.1 then I (.inr<|.inl (A0,())) else(KR (x.1.2.2.2.2.1,a,b,())).bind λi=>if U (0<=i.1.1) then I (.inr<|.inl (A0,())) else I (.inl (x.1,x.2.1,x.2.2.1,(w64<|x.2.2.2.1+1),())) else G else I (.inr<|.inr (x.1,()))
def rD:=AW er
def wh:Loop:=⟨[(1,Z7),(60,.sl .note),(61,j6),(62,j6)],[(1,Z7)],0,[(2,.bool)],rD⟩
def amB:LF f158 [] [1,1,1,0,1,0,0] wh:=sq (v:= .nil) fZ (b:=er) kN
def Pa(x:Y3×D):Option ((Bool×D)×D):=(FT (x.1.1,())).bind λb=>if !b.1.1 then I ((A0,()),()) else(C5 (x.1.2.1,0,999,())).bind λc=>if !c.1.1 then I ((A0,()),()) else(C5 (x.1.2.2.1,1,100,())).bind λd=>if !d.1.1 then I ((A0,()),()) else if U (6<(j8 x.1.2.2.2.1:Int)) then I ((A0,()),()) else if U (12<(j8 x.1.2.2.2.2.1:Int)) then I ((A0,()),()) else if U (6<(j8 x.1.2.2.2.2.2.1:Int)) then I ((A0,()),()) else(VR (x.1.2.2.2.1,())).bind λe=>if !e.1.1 then I ((A0,()),()) else(eh (x.1.2.2.2.2.1,())).bind λf=>if !f.1.1 then I ((A0,()),()) else(VR x.1.2.2.2.2.2).bind λg=>if !g.1.1 then I ((A0,()),()) else(AO (rD (x.1,x.1.2.2.2.1,(j8 x.1.2.2.2.1:Int),0,())) (λa=>I (a,())) λa=>(AO (rC (a.1,a.1.2.2.2.2.1,(j8 a.1.2.2.2.2.1:Int),0,())) (λU5=>I (U5,())) λU5=>(AO (rB (U5.1,U5.1.2.2.2.2.2.1,(U5.1.2.2.2.2.2.1.length:Int),0,())) (λac7=>I (ac7,())) λac7=>I ((Y,()),()))))
def gf:Ent:=(158,G,⟨[Z8],[.bool],Pa⟩)
def tU:y8 gf:=sk (v:=t1<|t1<|t1<|.two (t1<|.one<|.loop wh)<|.two (t1<|.one<|.loop we)<|.two (t1<|.one<|.loop wc) .nil) (fn:=f158) fZ<|kC amB<|kC amP<|kC amL kN
def aku:Cx:=cX [] [] []
def gR:y9 aku:=aE1<|AI
def dJ(x:Int×Y3×Y3×List Mark×aE2):Rnd (Int×Y3×Y3×List Mark×aE2) D (Y3×Y3×D):=if U (x.2.2.2.2.2.1<x.2.2.2.2.1) then if inb x.2.2.2.2.2.1 x.2.2.2.1.length then let b:=(rd aFc x.2.2.2.1 x.2.2.2.2.2.1).mf;let c:=(rd aFc x.2.2.2.1 x.2.2.2.2.2.1).mn;let a:=(rd aFc x.2.2.2.1 x.2.2.2.2.2.1).mu;if U (x.1<a) then if Ac (x.2.2.1.2.2.2.2.1.length+([(Mark.mk b c a)]:List Mark).length) then I (.inl (x.1,x.2.1,(x.2.2.1.1,x.2.2.1.2.1,x.2.2.1.2.2.1,x.2.2.1.2.2.2.1,(x.2.2.1.2.2.2.2.1++([(Mark.mk b c a)]:List Mark)),x.2.2.1.2.2.2.2.2),x.2.2.2.1,x.2.2.2.2.1,(w64<|x.2.2.2.2.2.1+1),())) else G else I (.inl (x.1,x.2.1,x.2.2.1,x.2.2.2.1,x.2.2.2.2.1,(w64<|x.2.2.2.2.2.1+1),())) else G else I (.inr<|.inr (x.2.1,x.2.2.1,()))
def qM:=AW dJ
def ue:Loop:=⟨[(1,j6),(4,Z9),(5,Z31),(37,.sl .mark),(38,j6),(39,j6)],[(4,Z9),(5,Z31)],2,[],qM⟩
def ajy:LF f239 [] [1,1,1,0,1,0,0] ue:=sq (v:= .nil) gR (b:=dJ) kN
def dK(x:Int×Y3×Y3×Y3×List A3×aE2):Rnd (Int×Y3×Y3×Y3×List A3×aE2) D (Int×Y3×Y3×Y3×D):=if U (x.2.2.2.2.2.2.1<x.2.2.2.2.2.1) then if inb x.2.2.2.2.2.2.1 x.2.2.2.2.1.length then let b:=(rd aE3 x.2.2.2.2.1 x.2.2.2.2.2.2.1).fr;let c:=(rd aE3 x.2.2.2.2.1 x.2.2.2.2.2.2.1).nu;let d:=(rd aE3 x.2.2.2.2.1 x.2.2.2.2.2.2.1).to;let a:=(rd aE3 x.2.2.2.2.1 x.2.2.2.2.2.2.1).un;let e:=(rd aE3 x.2.2.2.2.1 x.2.2.2.2.2.2.1).tx;if U (x.1<a) then if Ac (x.2.2.2.1.2.2.2.1.length+([(A3.mk b c d a e)]:List A3).length) then I (.inl (x.1,x.2.1,x.2.2.1,(x.2.2.2.1.1,x.2.2.2.1.2.1,x.2.2.2.1.2.2.1,(x.2.2.2.1.2.2.2.1++([(A3.mk b c d a e)]:List A3)),x.2.2.2.1.2.2.2.2),x.2.2.2.2.1,x.2.2.2.2.2.1,(w64<|x.2.2.2.2.2.2.1+1),())) else G else I (.inl (x.1,x.2.1,x.2.2.1,x.2.2.2.1,x.2.2.2.2.1,x.2.2.2.2.2.1,(w64<|x.2.2.2.2.2.2.1+1),())) else G else I (.inr<|.inr (x.1,x.2.1,x.2.2.1,x.2.2.2.1,()))
def qN:=AW dK
def uf:Loop:=⟨[(1,j6),(2,Z7),(4,Z9),(5,Z31),(19,.sl .note),(20,j6),(21,j6)],[(1,j6),(2,Z7),(4,Z9),(5,Z31)],0,[],qN⟩
def ajl:LF f239 [] [1,1,0,1,0,0] uf:=sq (v:= .nil) gR (b:=dK) kN
def eR(x:Y3×v7):Option ((Y3×D)×D):=(AO (qN (x.2.1,x.1,(0,0,0,([]:List A3),([]:List Mark),([]:List A3),()),(x.1.1,x.2.1,x.1.2.2.1,([]:List A3),([]:List Mark),x.1.2.2.2.2.2),x.1.2.2.2.1,(j8 x.1.2.2.2.1:Int),0,())) (λ_=>G) λa=>(AO (qM (a.1,a.2.2.1,a.2.2.2.1,a.2.1.2.2.2.2.1,(j8 a.2.1.2.2.2.2.1:Int),0,())) (λ_=>G) λb=>I (b.2,())))
def yY:Ent:=(239,G,⟨[Z8,j6],[Z8],eR⟩)
def agW:y8 yY:=sk (v:=t1<|t1<|.two (t1<|.one<|.loop uf)<|.two (t1<|.one<|.loop ue) .nil) (fn:=f239) gR<|kC ajl<|kC ajy kN
def aoH:Cx:=cX [yY] [] [(12,15),(24,27)]
def apd:y9 aoH:=aE1<|gC agW<|AI
def Vw(x:Y3×A1×v7):Option ((Y3×Bool×D)×D):=let a:=((U<|x.2.1=(B [116,105,109,101]))&&(U<|x.1.2.1<x.2.2.1));(if a then(eR (x.1,x.2.2)).bind λb=>I ((b.1.1,Y,()),()) else let c:=((U<|x.2.1=(B [110,101,120,116]))&&(U<|x.1.2.2.1<x.2.2.1));(if c then I (((x.1.1,x.1.2.1,x.2.2.1,x.1.2.2.2),Y,()),()) else I ((x.1,A0,()),())))
def aAE:Ent:=(199,G,⟨[Z8,.str,j6],[Z8,.bool],Vw⟩)
def aj7:y8 aAE:=sk (v:= .nil) (fn:=f199) apd kN
def ahf:Cx:=cX [Rw,Rj] [] []
def aji:y9 ahf:=aE1<|gC Uj<|gC UH<|AI
def MN(x:Y4×D):Option ((A1×D)×D):=(No x).bind λe=>if !e.1.1 then I ((noB,()),()) else(Iz (x.1.1,())).bind λa=>if U (a.1.1.size+(B [32]).size<=4611686018427387904) then(Iz (x.1.2.1,())).bind λb=>if U ((a.1.1++(B [32])).size+b.1.1.size<=4611686018427387904) then if U (((a.1.1++(B [32]))++b.1.1).size+(B [32]).size<=4611686018427387904) then(Iz (x.1.2.2.1,())).bind λc=>if U ((((a.1.1++(B [32]))++b.1.1)++(B [32])).size+c.1.1.size<=4611686018427387904) then if U (((((a.1.1++(B [32]))++b.1.1)++(B [32]))++c.1.1).size+(B [32]).size<=4611686018427387904) then(Iz (x.1.2.2.2.1,())).bind λd=>if U ((((((a.1.1++(B [32]))++b.1.1)++(B [32]))++c.1.1)++(B [32])).size+d.1.1.size<=4611686018427387904) then if U (((((((a.1.1++(B [32]))++b.1.1)++(B [32]))++c.1.1)++(B [32]))++d.1.1).size+(B [32]).size<=4611686018427387904) then if U ((((((((a.1.1++(B [32]))++b.1.1)++(B [32]))++c.1.1)++(B [32]))++d.1.1)++(B [32])).size+x.1.2.2.2.2.1.size<=4611686018427387904) then let f:=((((((((a.1.1++(B [32]))++b.1.1)++(B [32]))++c.1.1)++(B [32]))++d.1.1)++(B [32]))++x.1.2.2.2.2.1);I ((f,()),()) else G else G else G else G else G else G else G else G
def Ur:Ent:=(151,G,⟨[Z6],[.str],MN⟩)
def ay:y8 Ur:=sk (v:= .nil) (fn:=f151) aji kN
def aih:Cx:=cX [ey] [] []
def wT:y9 aih:=aE1<|gC qG<|AI
def cf(x:List Int×List A1×aE2):Rnd (List Int×List A1×aE2) (List Int×Bool×D) (List Int×D):=if U (x.2.2.2.1<x.2.2.1) then if inb x.2.2.2.1 x.2.1.length then let b:=(rd aFf x.2.1 x.2.2.2.1);(PU (b,())).bind λa=>if !a.1.2.1 then I (.inr<|.inl (([]:List Int),A0,())) else if Ac (x.1.length+([a.1.1]:List Int).length) then I (.inl ((x.1++([a.1.1]:List Int)),x.2.1,x.2.2.1,(w64<|x.2.2.2.1+1),())) else G else G else I (.inr<|.inr (x.1,()))
def ph:=AW cf
def tu:Loop:=⟨[(4,.row 3 .int),(9,.sl .str),(10,j6),(11,j6)],[(4,.row 3 .int)],0,[(2,.row 3 .int),(3,.bool)],ph⟩
def aiz:LF f202 [] [1,1,0,1,0,0] tu:=sq (v:= .nil) wT (b:=cf) kN
def Rb(x:List A1×D):Option ((List Int×Bool×D)×D):=(AO (ph (([]:List Int),x.1,(j8 x.1:Int),0,())) (λa=>I (a,())) λa=>I ((a.1,Y,()),()))
def sS:Ent:=(202,G,⟨[.fz .str],[.row 3 .int,.bool],Rb⟩)
def adU:y8 sS:=sk (v:=t1<|t1<|.two (t1<|.one<|.loop tu) .nil) (fn:=f202) wT<|kC aiz kN
def ajP:Cx:=cX [Rw,Ur,sS,vq] [] [(43,46)]
def alW:y9 ajP:=aE1<|gC Uj<|gC ay<|gC adU<|gC aeU<|AI
def V0(x:A1×D):Option ((Y4×Bool×D)×D):=(rH (x.1,(B [32]),5,())).bind λb=>if !decide ((j8 b.1.1:Int)=5) then I (((0,0,0,0,noB,()),A0,()),()) else if U (0<=4)&&U (4<=(j8 b.1.1:Int)) then(Rb ((BR (AK 4) b.1.1),())).bind λa=>if !a.1.2.1 then I (((0,0,0,0,noB,()),A0,()),()) else if inb 0 a.1.1.length then if inb 1 a.1.1.length then if inb 2 a.1.1.length then if inb 3 a.1.1.length then if inb 4 b.1.1.length then(No (((rd aE8 a.1.1 0),(rd aE8 a.1.1 1),(rd aE8 a.1.1 2),(rd aE8 a.1.1 3),(rd aFf b.1.1 4),()),())).bind λc=>if Al (!(!c.1.1)) ((MN (((rd aE8 a.1.1 0),(rd aE8 a.1.1 1),(rd aE8 a.1.1 2),(rd aE8 a.1.1 3),(rd aFf b.1.1 4),()),())).isSome) then if(!c.1.1)||(!decide (((MN (((rd aE8 a.1.1 0),(rd aE8 a.1.1 1),(rd aE8 a.1.1 2),(rd aE8 a.1.1 3),(rd aFf b.1.1 4),()),())).getD ((noB,()),())).1.1=x.1)) then I (((0,0,0,0,noB,()),A0,()),()) else I ((((rd aE8 a.1.1 0),(rd aE8 a.1.1 1),(rd aE8 a.1.1 2),(rd aE8 a.1.1 3),(rd aFf b.1.1 4),()),Y,()),()) else G else G else G else G else G else G else G
def wO:Ent:=(200,G,⟨[.str],[Z6,.bool],V0⟩)
def afE:y8 wO:=sk (v:= .nil) (fn:=f200) alW kN
def amn:Cx:=cX [] [] [(21,24)]
def zv:y9 amn:=aE1<|AI
def ec(x:Int×Int×List A3×aE2):Rnd (Int×Int×List A3×aE2) (v7) D:=if U (x.2.2.2.2.1<x.2.2.2.1) then if inb x.2.2.2.2.1 x.2.2.1.length then let a:=(rd aE3 x.2.2.1 x.2.2.2.2.1).fr;let b:=(rd aE3 x.2.2.1 x.2.2.2.2.1).nu;let c:=(rd aE3 x.2.2.1 x.2.2.2.2.1).to;let d:=(rd aE3 x.2.2.1 x.2.2.2.2.1).un;let e:=(rd aE3 x.2.2.1 x.2.2.2.2.1).tx;if(U<|a=x.1)&&(U<|b=x.2.1) then I (.inr<|.inl x.2.2.2.2) else I (.inl (x.1,x.2.1,x.2.2.1,x.2.2.2.1,(w64<|x.2.2.2.2.1+1),())) else G else I (.inr<|.inr ())
def rG:=AW ec
def xV:Loop:=⟨[(1,j6),(2,j6),(9,.sl .note),(10,j6),(11,j6)],[],0,[(6,j6)],rG⟩
def am5:LF f52 [] [1,0,1,0,0] xV:=sq (v:= .nil) zv (b:=ec) kN
def IQ(x:List A3×aE2):Option ((v7)×D):=(AO (rG (x.2.1,x.2.2.1,x.1,(j8 x.1:Int),0,())) (λa=>I (a,())) λa=>I (((-1),()),()))
def Np:Ent:=(52,G,⟨[.fz .note,j6,j6],[j6],IQ⟩)
def PE:y8 Np:=sk (v:=t1<|.two (t1<|.one<|.loop xV) .nil) (fn:=f52) zv<|kC am5 kN
def amm:Cx:=cX [Vs] [] [(11,25)]
def zu:y9 amm:=aE1<|gC br<|AI
def eZ(x:List A3×Y4×v7):Rnd (List A3×Y4×v7) D (List A3×Y4×v7):=if Al (U<|x.2.2.1<(j8 x.1:Int)) (inb x.2.2.1 x.1.length) then if Al (U<|x.2.2.1<(j8 x.1:Int)) (inb x.2.2.1 x.1.length) then if Al (U<|x.2.2.1<(j8 x.1:Int)) ((LR ((rd aE3 x.1 x.2.2.1).fr,(rd aE3 x.1 x.2.2.1).nu,x.2.1.1,x.2.1.2.1,())).isSome) then if(U<|x.2.2.1<(j8 x.1:Int))&&(((LR ((rd aE3 x.1 x.2.2.1).fr,(rd aE3 x.1 x.2.2.1).nu,x.2.1.1,x.2.1.2.1,())).getD ((A0,()),())).1.1) then I (.inl (x.1,x.2.1,(w64<|x.2.2.1+1),())) else I (.inr<|.inr x) else G else G else G
def rF:=AW eZ
def xU:Loop:=⟨[(0,.sl .note),(3,Z5),(5,j6)],[(0,.sl .note),(3,Z5),(5,j6)],0,[],rF⟩
def am4:LF f242 [] [1,1,0,0,0] xU:=sq (v:= .nil) zu (b:=eZ) kN
def PZ(x:List A3×Y4×D):Option ((List A3×D)×D):=(AO (rF (x.1,x.2.1,0,())) (λ_=>G) λa=>(if U (0<=a.2.2.1)&&U (a.2.2.1<=(j8 a.1:Int)) then if Ac (([]:List A3).length+(BR (AK a.2.2.1) a.1).length) then if Ac ((([]:List A3)++(BR (AK a.2.2.1) a.1)).length+([(A3.mk a.2.1.1 a.2.1.2.1 a.2.1.2.2.1 a.2.1.2.2.2.1 a.2.1.2.2.2.2.1)]:List A3).length) then if U (0<=a.2.2.1)&&U (a.2.2.1<=(j8 a.1:Int)) then if Ac (((([]:List A3)++(BR (AK a.2.2.1) a.1))++([(A3.mk a.2.1.1 a.2.1.2.1 a.2.1.2.2.1 a.2.1.2.2.2.1 a.2.1.2.2.2.2.1)]:List A3)).length+(Bp (AK a.2.2.1) a.1).length) then I (((((([]:List A3)++(BR (AK a.2.2.1) a.1))++([(A3.mk a.2.1.1 a.2.1.2.1 a.2.1.2.2.1 a.2.1.2.2.2.1 a.2.1.2.2.2.2.1)]:List A3))++(Bp (AK a.2.2.1) a.1)),()),()) else G else G else G else G else G))
def gY:Ent:=(242,G,⟨[.fz .note,Z6],[.row 36 .note],PZ⟩)
def tr:y8 gY:=sk (v:=t1<|t1<|.two (.one<|.loop xU) .nil) (fn:=f242) zu<|kC am4 kN
def amp:Cx:=cX [Vs] [] [(11,25)]
def zw:y9 amp:=aE1<|gC br<|AI
def eK(x:List Mark×Y5×v7):Rnd (List Mark×Y5×v7) D (List Mark×Y5×v7):=if Al (U<|x.2.2.1<(j8 x.1:Int)) (inb x.2.2.1 x.1.length) then if Al (U<|x.2.2.1<(j8 x.1:Int)) (inb x.2.2.1 x.1.length) then if Al (U<|x.2.2.1<(j8 x.1:Int)) ((LR ((rd aFc x.1 x.2.2.1).mf,(rd aFc x.1 x.2.2.1).mn,x.2.1.1,x.2.1.2.1,())).isSome) then if(U<|x.2.2.1<(j8 x.1:Int))&&(((LR ((rd aFc x.1 x.2.2.1).mf,(rd aFc x.1 x.2.2.1).mn,x.2.1.1,x.2.1.2.1,())).getD ((A0,()),())).1.1) then I (.inl (x.1,x.2.1,(w64<|x.2.2.1+1),())) else I (.inr<|.inr x) else G else G else G
def qt:=AW eK
def xW:Loop:=⟨[(0,.sl .mark),(3,Z10),(5,j6)],[(0,.sl .mark),(3,Z10),(5,j6)],0,[],qt⟩
def am6:LF f245 [] [1,1,0,0,0] xW:=sq (v:= .nil) zw (b:=eK) kN
def Rq(x:List Mark×Y5×D):Option ((List Mark×D)×D):=(AO (qt (x.1,x.2.1,0,())) (λ_=>G) λa=>(if U (0<=a.2.2.1)&&U (a.2.2.1<=(j8 a.1:Int)) then if Ac (([]:List Mark).length+(BR (AK a.2.2.1) a.1).length) then if Ac ((([]:List Mark)++(BR (AK a.2.2.1) a.1)).length+([(Mark.mk a.2.1.1 a.2.1.2.1 a.2.1.2.2.1)]:List Mark).length) then if U (0<=a.2.2.1)&&U (a.2.2.1<=(j8 a.1:Int)) then if Ac (((([]:List Mark)++(BR (AK a.2.2.1) a.1))++([(Mark.mk a.2.1.1 a.2.1.2.1 a.2.1.2.2.1)]:List Mark)).length+(Bp (AK a.2.2.1) a.1).length) then I (((((([]:List Mark)++(BR (AK a.2.2.1) a.1))++([(Mark.mk a.2.1.1 a.2.1.2.1 a.2.1.2.2.1)]:List Mark))++(Bp (AK a.2.2.1) a.1)),()),()) else G else G else G else G else G))
def gZ:Ent:=(245,G,⟨[.fz .mark,Z11],[.row 61 .mark],Rq⟩)
def tv:y8 gZ:=sk (v:=t1<|t1<|.two (.one<|.loop xW) .nil) (fn:=f245) zw<|kC am6 kN
def anV:Cx:=cX [Np,Rw,Vr,gY,gZ] [] []
def aow:y9 anV:=aE1<|gC PE<|gC Uj<|gC bq<|gC tr<|gC tv<|AI
def Vd(x:Y3×Y4×D):Option ((Y3×Bool×D)×D):=(No x.2).bind λa=>if !a.1.1 then I ((x.1,A0,()),()) else if U (x.2.1.2.2.2.1<=x.1.2.1) then I ((x.1,A0,()),()) else(IQ (x.1.2.2.2.1,x.2.1.1,x.2.1.2.1,())).bind λb=>if U (0<=b.1.1) then I ((x.1,A0,()),()) else(IQ (x.1.2.2.2.2.2.1,x.2.1.1,x.2.1.2.1,())).bind λc=>if U (0<=c.1.1) then I ((x.1,A0,()),()) else(KR (x.1.2.2.2.2.1,x.2.1.1,x.2.1.2.1,())).bind λd=>if U (0<=d.1.1) then I ((x.1,A0,()),()) else if U (12<(w64<|(w64<|(j8 x.1.2.2.2.1:Int)+(j8 x.1.2.2.2.2.1:Int))+1)) then I ((x.1,A0,()),()) else if U (x.2.1.2.2.1=x.1.1) then(PZ (x.1.2.2.2.2.2.1,x.2)).bind λe=>(Rq (x.1.2.2.2.2.1,(x.2.1.1,x.2.1.2.1,x.2.1.2.2.2.1,()),())).bind λf=>I (((x.1.1,x.1.2.1,x.1.2.2.1,x.1.2.2.2.1,f.1.1,e.1),Y,()),()) else(PZ (x.1.2.2.2.1,x.2)).bind λg=>I (((x.1.1,x.1.2.1,x.1.2.2.1,g.1.1,x.1.2.2.2.2),Y,()),())
def zT:Ent:=(241,G,⟨[Z8,Z6],[Z8,.bool],Vd⟩)
def ah7:y8 zT:=sk (v:= .nil) (fn:=f241) aow kN
def anP:Cx:=cX [Np,zT,gY] [] [(19,23),(38,42),(59,66)]
def aoq:y9 anP:=aE1<|gC PE<|gC ah7<|gC tr<|AI
def Vb(x:Y3×A1×Y4×D):Option ((Y3×Bool×D)×D):=(BT (X:=A1×Y3×Y4×Y3×Bool×D) (λa=>if a.2.2.2.2.1 then let c:=(w64<|a.2.1.2.2.1+1);(Vd ((a.2.1.1,a.2.1.2.1,c,a.2.1.2.2.2),a.2.2.1,())).bind λd=>I (d.1,()) else let e:=((U<|a.1=(B [116,97,107,101]))&&(!decide (a.2.2.1.1=a.2.1.1)));(if e then(Vd (a.2.1,a.2.2.1,())).bind λf=>I (f.1,()) else(IQ (a.2.1.2.2.2.1,a.2.2.1.1,a.2.2.1.2.1,())).bind λb=>if Al (!(U<|0<=b.1.1)) ((IQ (a.2.1.2.2.2.2.2.1,a.2.2.1.1,a.2.2.1.2.1,())).isSome) then let g:=((U<|0<=b.1.1)||(U<|0<=((IQ (a.2.1.2.2.2.2.2.1,a.2.2.1.1,a.2.2.1.2.1,())).getD ((0,()),())).1.1));(if g then I ((a.2.1,A0,()),()) else let h:=(U<|a.1=(B [104,101,108,100]));(if h then(PZ (a.2.1.2.2.2.1,a.2.2.1,())).bind λi=>I (((a.2.1.1,a.2.1.2.1,a.2.1.2.2.1,i.1.1,a.2.1.2.2.2.2),Y,()),()) else let j:=(U<|a.1=(B [105,110,98,111,120]));(if j then(PZ (a.2.1.2.2.2.2.2.1,a.2.2.1,())).bind λk=>I (((a.2.1.1,a.2.1.2.1,a.2.1.2.2.1,a.2.1.2.2.2.1,a.2.1.2.2.2.2.1,k.1),Y,()),()) else I ((a.2.1,A0,()),())))) else G))<|(if U (x.2.1=(B [111,119,110])) then let l:=((U<|x.2.2.1.1=x.1.1)&&(U<|x.2.2.1.2.1=x.1.2.2.1));I (.inr (x.2.1,x.1,x.2.2.1,(0,0,0,([]:List A3),([]:List Mark),([]:List A3),()),l,())) else I (.inr (x.2.1,x.1,x.2.2.1,(0,0,0,([]:List A3),([]:List Mark),([]:List A3),()),A0,()))))
def zL:Ent:=(201,G,⟨[Z8,.str,Z6],[Z8,.bool],Vb⟩)
def ah1:y8 zL:=sk (v:=t1<|.two (.one<|.join [(1,.str),(3,Z7),(5,Z5),(6,Z9),(8,.bool)] .nil .nil) .nil) (fn:=f201) aoq kN
def akp:Cx:=cX [] [] []
def anF:y9 akp:=aE1<|AI
def Rm(x:List A3×v7):Option ((List A3×D)×D):=if U (0<=x.2.1)&&U (x.2.1<=(j8 x.1:Int)) then if Ac (([]:List A3).length+(BR (AK x.2.1) x.1).length) then if U (0<=(w64<|x.2.1+1))&&U ((w64<|x.2.1+1)<=(j8 x.1:Int)) then if Ac ((([]:List A3)++(BR (AK x.2.1) x.1)).length+(Bp (AK<|w64<|x.2.1+1) x.1).length) then I ((((([]:List A3)++(BR (AK x.2.1) x.1))++(Bp (AK<|w64<|x.2.1+1) x.1)),()),()) else G else G else G else G
def yW:Ent:=(244,G,⟨[.fz .note,j6],[.row 36 .note],Rm⟩)
def agQ:y8 yW:=sk (v:= .nil) (fn:=f244) anF kN
def anQ:Cx:=cX [Np,Vr,yW,gZ] [] [(41,49),(70,78),(90,91)]
def aor:y9 anQ:=aE1<|gC PE<|gC bq<|gC agQ<|gC tv<|AI
def Vc(x:Y3×A1×Y5×D):Option ((Y3×Bool×D)×D):=(IQ (x.1.2.2.2.1,x.2.2.1.1,x.2.2.1.2.1,())).bind λc=>(IQ (x.1.2.2.2.2.2.1,x.2.2.1.1,x.2.2.1.2.1,())).bind λd=>(KR (x.1.2.2.2.2.1,x.2.2.1.1,x.2.2.1.2.1,())).bind λe=>(BT (X:=A1×Y3×Y5×Y3×Int×Int×Bool×Bool×D) (λa=>if a.2.2.2.2.2.2.2.1 then(Rm (a.2.1.2.2.2.1,a.2.2.2.2.1,())).bind λf=>(Rq (a.2.1.2.2.2.2.1,a.2.2.1,())).bind λg=>I (((a.2.1.1,a.2.1.2.1,a.2.1.2.2.1,f.1.1,g.1.1,a.2.1.2.2.2.2.2),Y,()),()) else(BT (X:=A1×Y3×Y5×Y3×Int×Bool×Bool×D) (λb=>if b.2.2.2.2.2.2.1 then(Rm (b.2.1.2.2.2.2.2.1,b.2.2.2.2.1,())).bind λh=>I (((b.2.1.1,b.2.1.2.1,b.2.1.2.2.1,b.2.1.2.2.2.1,b.2.1.2.2.2.2.1,h.1),Y,()),()) else let i:=((U<|b.1=(B [109,97,114,107]))&&(!b.2.2.2.2.2.1));(if i then(Rq (b.2.1.2.2.2.2.1,b.2.2.1,())).bind λj=>I (((b.2.1.1,b.2.1.2.1,b.2.1.2.2.1,b.2.1.2.2.2.1,j.1.1,b.2.1.2.2.2.2.2),Y,()),()) else I ((b.2.1,A0,()),())))<|(if U (a.1=(B [101,97,116])) then if Al (U<|0<=a.2.2.2.2.2.1) (inb a.2.2.2.2.2.1 a.2.1.2.2.2.2.2.1.length) then let k:=((U<|0<=a.2.2.2.2.2.1)&&(U<|(rd aE3 a.2.1.2.2.2.2.2.1 a.2.2.2.2.2.1).un=a.2.2.1.2.2.1));I (.inr (a.1,a.2.1,a.2.2.1,a.2.2.2.1,a.2.2.2.2.2.1,a.2.2.2.2.2.2.1,k,())) else G else if Al A0 (inb a.2.2.2.2.2.1 a.2.1.2.2.2.2.2.1.length) then I (.inr (a.1,a.2.1,a.2.2.1,a.2.2.2.1,a.2.2.2.2.2.1,a.2.2.2.2.2.2.1,A0,())) else G)))<|(if U (x.2.1=(B [108,101,116])) then if Al (U<|0<=c.1.1) (inb c.1.1 x.1.2.2.2.1.length) then let l:=((U<|0<=c.1.1)&&(U<|(rd aE3 x.1.2.2.2.1 c.1.1).un=x.2.2.1.2.2.1));I (.inr (x.2.1,x.1,x.2.2.1,(0,0,0,([]:List A3),([]:List Mark),([]:List A3),()),c.1.1,d.1.1,(U<|0<=e.1.1),l,())) else G else if Al A0 (inb c.1.1 x.1.2.2.2.1.length) then I (.inr (x.2.1,x.1,x.2.2.1,(0,0,0,([]:List A3),([]:List Mark),([]:List A3),()),c.1.1,d.1.1,(U<|0<=e.1.1),A0,())) else G))
def zM:Ent:=(204,G,⟨[Z8,.str,Z11],[Z8,.bool],Vc⟩)
def ah2:y8 zM:=sk (v:=t1<|t1<|t1<|.two (.one<|.join [(1,.str),(3,Z7),(5,Z10),(6,Z9),(8,j6),(9,j6),(10,.bool),(33,.bool)] .nil<|t1<|.join [(1,.str),(3,Z7),(5,Z10),(6,Z9),(9,j6),(10,.bool),(62,.bool)] .nil .nil) .nil) (fn:=f204) aor kN
def ank:Cx:=cX [ey,zp,aAE,wO,zL,sS,wj,zM] [] [(69,71)]
def ape:y9 ank:=aE1<|gC qG<|gC ago<|gC aj7<|gC afE<|gC ah1<|gC adU<|gC afL<|gC ah2<|AI
def Vy(x:Y3×A1×D):Option ((Y3×Bool×D)×D):=(Vf (x.2.1,(B [32]),())).bind λc=>if !c.1.2.2.1 then I ((x.1,A0,()),()) else(BT (X:=Y3×Y3×A1×A1×A1×Bool×D) (λa=>if a.2.2.2.2.2.1 then(PU (a.2.2.2.1,())).bind λf=>if f.1.2.1 then(Vw (a.1,a.2.2.1,f.1.1,())).bind λn=>I (n.1,()) else I ((a.1,A0,()),()) else(BT (X:=Y3×Y3×A1×A1×A1×Bool×D) (λb=>if b.2.2.2.2.2.1 then(V0 (b.2.2.2.1,())).bind λg=>if g.1.2.1 then(Vb (b.1,b.2.2.1,g.1.1,())).bind λo=>I (o.1,()) else I ((b.1,A0,()),()) else(BT (X:=Y3×Y3×A1×A1×Bool×D) (λe=>if e.2.2.2.2.1 then(dR (e.2.2.2.1,(B [32]),())).bind λp=>(Rb p.1).bind λd=>if d.1.2.1&&(U<|(j8 d.1.1:Int)=3) then if inb 0 d.1.1.length then if inb 1 d.1.1.length then if inb 2 d.1.1.length then(Vc (e.1,e.2.2.1,((rd aE8 d.1.1 0),(rd aE8 d.1.1 1),(rd aE8 d.1.1 2),()),())).bind λq=>I (q.1,()) else G else G else G else I ((e.1,A0,()),()) else I ((e.1,A0,()),())) (let h:=(U<|b.2.2.2.2.1=(B [108,101,116]));(if h then I (.inr (b.1,b.2.1,b.2.2.1,b.2.2.2.1,h,())) else let i:=(U<|b.2.2.2.2.1=(B [101,97,116]));(if i then I (.inr (b.1,b.2.1,b.2.2.1,b.2.2.2.1,i,())) else let r:=(U<|b.2.2.2.2.1=(B [109,97,114,107]));I (.inr (b.1,b.2.1,b.2.2.1,b.2.2.2.1,r,()))))))) (let j:=(U<|a.2.2.2.2.1=(B [111,119,110]));(if j then I (.inr (a.1,a.2.1,a.2.2.1,a.2.2.2.1,a.2.2.2.2.1,j,())) else let k:=(U<|a.2.2.2.2.1=(B [116,97,107,101]));(if k then I (.inr (a.1,a.2.1,a.2.2.1,a.2.2.2.1,a.2.2.2.2.1,k,())) else let l:=(U<|a.2.2.2.2.1=(B [104,101,108,100]));(if l then I (.inr (a.1,a.2.1,a.2.2.1,a.2.2.2.1,a.2.2.2.2.1,l,())) else let s:=(U<|a.2.2.2.2.1=(B [105,110,98,111,120]));I (.inr (a.1,a.2.1,a.2.2.1,a.2.2.2.1,a.2.2.2.2.1,s,())))))))) (let m:=(U<|c.1.1=(B [116,105,109,101]));(if m then I (.inr (x.1,(0,0,0,([]:List A3),([]:List Mark),([]:List A3),()),c.1.1,c.1.2.1,c.1.1,m,())) else let t:=(U<|c.1.1=(B [110,101,120,116]));I (.inr (x.1,(0,0,0,([]:List A3),([]:List Mark),([]:List A3),()),c.1.1,c.1.2.1,c.1.1,t,())))))
def aAP:Ent:=(159,G,⟨[Z8,.str],[Z8,.bool],Vy⟩)
def aj8:y8 aAP:=sk (v:=t1<|t1<|t1<|.two (t1<|.one<|.join [(2,Z7),(4,Z9),(6,.str),(7,.str),(24,.str),(25,.bool)] .nil<|t1<|.join [(2,Z7),(4,Z9),(6,.str),(7,.str),(24,.str),(40,.bool)] .nil<|t1<|.join [(2,Z7),(4,Z9),(6,.str),(7,.str),(57,.bool)] .nil .nil) .nil) (fn:=f159) ape kN
def aew:Cx:=cX [] [] []
def agN:y9 aew:=aE1<|AI
def qK(x:List Mark×D):Option ((List Mark×D)×D):=if U ((j8 x.1:Int)=0) then I ((([]:List Mark),()),()) else if U (0<=(j8 x.1:Int))&&U ((j8 x.1:Int)<=4294967296) then I (((BR (BS (AK (j8 x.1:Int))<|dfl .mark).length x.1++Bp x.1.length (BS (AK (j8 x.1:Int))<|dfl .mark)),()),()) else G
def tD:Ent:=(205,G,⟨[.fz .mark],[.row 61 .mark],qK⟩)
def ae5:y8 tD:=sk (v:= .nil) (fn:=f205) agN kN
def aii:Cx:=cX [qW,tD] [] []
def akh:y9 aii:=aE1<|gC acq<|gC ae5<|AI
def Rc(x:Y3×D):Option ((Y3×D)×D):=(NY (x.1.2.2.2.1,())).bind λa=>(qK (x.1.2.2.2.2.1,())).bind λb=>(NY x.1.2.2.2.2.2).bind λc=>I (((x.1.1,x.1.2.1,x.1.2.2.1,a.1.1,b.1.1,c.1),()),())
def xB:Ent:=(160,G,⟨[Z8],[Z4],Rc⟩)
def afA:y8 xB:=sk (v:= .nil) (fn:=f160) akh kN
def ana:Cx:=cX [gf,aAP,xB] [] [(22,24)]
def aoy:y9 ana:=aE1<|gC tU<|gC aj8<|gC afA<|AI
def Rv(x:Y3×A1×D):Option ((Y3×Bool×D)×D):=(Pa (x.1,())).bind λb=>if !b.1.1 then I (((0,0,0,([]:List A3),([]:List Mark),([]:List A3),()),A0,()),()) else(Rc (x.1,())).bind λc=>(Vy (c.1.1,x.2)).bind λa=>if Al (!(!a.1.2.1)) ((Pa (a.1.1,())).isSome) then if(!a.1.2.1)||(!(((Pa (a.1.1,())).getD ((A0,()),())).1.1)) then(Rc (x.1,())).bind λd=>I ((d.1.1,A0,()),()) else(Rc (a.1.1,())).bind λe=>I ((e.1.1,Y,()),()) else G
def gh:Ent:=(121,G,⟨[Z8,.str],[Z4,.bool],Rv⟩)
def tV:y8 gh:=sk (v:= .nil) (fn:=f121) aoy kN
def anZ:Cx:=cX [Iy,vY,gh] [] []
def aA0:y9 anZ:=aE1<|gC JY<|gC aeb<|gC tV<|AI
def VK(x:Y3×Y3×List A1×aE2):Rnd (Y3×Y3×List A1×aE2) (Y3×Bool×D) (Y3×Y3×D):=if U (x.2.2.2.2.1<x.2.2.2.1) then if inb x.2.2.2.2.1 x.2.2.1.length then let b:=(rd aFf x.2.2.1 x.2.2.2.2.1);(Rv (x.2.1,b,())).bind λa=>if !a.1.2.1 then I (.inr<|.inl ((0,0,0,([]:List A3),([]:List Mark),([]:List A3),()),A0,())) else I (.inl (x.1,a.1.1,x.2.2.1,x.2.2.2.1,(w64<|x.2.2.2.2.1+1),())) else G else I (.inr<|.inr (x.1,x.2.1,()))
def rN:=AW VK
def wi:Loop:=⟨[(4,Z9),(6,Z9),(17,.sl .str),(18,j6),(19,j6)],[(4,Z9),(6,Z9)],0,[(4,Z9),(5,.bool)],rN⟩
def amC:LF f82 [] [1,1,1,0,1,0,0] wi:=sq (v:= .nil) aA0 (b:=VK) kN
def fV(x:Int×List A1×D):Option ((Y3×Bool×D)×D):=(FT (x.1,())).bind λb=>if !b.1.1 then I (((0,0,0,([]:List A3),([]:List Mark),([]:List A3),()),A0,()),()) else(cg (x.1,())).bind λc=>(AO (rN ((0,0,0,([]:List A3),([]:List Mark),([]:List A3),()),c.1.1,x.2.1,(j8 x.2.1:Int),0,())) (λa=>I (a,())) λa=>I ((a.2.1,Y,()),()))
def zU:Ent:=(82,G,⟨[j6,.fz .str],[Z4,.bool],fV⟩)
def ahF:y8 zU:=sk (v:=t1<|t1<|t1<|.two (t1<|.one<|.loop wi) .nil) (fn:=f82) aA0<|kC amC kN
def akn:Cx:=cX [ct,zU] [] []
def anE:y9 akn:=aE1<|gC pU<|gC ahF<|AI
def LV(x:Int×A1×D):Option ((Y3×Bool×D)×D):=(PJ x.2).bind λa=>(fV (x.1,a.1.1,())).bind λb=>I (b.1,())
def eu:Ent:=(43,G,⟨[j6,.str],[Z4,.bool],LV⟩)
def qE:y8 eu:=sk (v:= .nil) (fn:=f43) anE kN
def akv:Cx:=cX [FE,ct] [] [(12,18),(41,44)]
def anI:y9 akv:=aE1<|gC FU<|gC pU<|AI
def Nf(x:Y7×D):Option ((Bool×D)×D):=if Al (!(U<|2400<(x.1.1.size:Int))) ((C5 (x.1.2.1,0,(x.1.1.size:Int),())).isSome) then if(U<|2400<(x.1.1.size:Int))||(!(((C5 (x.1.2.1,0,(x.1.1.size:Int),())).getD ((A0,()),())).1.1)) then I ((A0,()),()) else(PJ (x.1.1,())).bind λa=>if U (0<=x.1.2.1)&&U (x.1.2.1<=(x.1.1.size:Int)) then(PJ ((x.1.1.extract (0)<|AK x.1.2.1),())).bind λb=>let c:=((U<|a.1.2.1=(x.1.1.size:Int))&&(U<|b.1.2.1=x.1.2.1));I ((c,()),()) else G else G
def Rl:Ent:=(78,G,⟨[Z15],[.bool],Nf⟩)
def UO:y8 Rl:=sk (v:= .nil) (fn:=f78) anI kN
def ams:Cx:=cX [FE,Iy] [] [(54,57)]
def iP:y9 ams:=aE1<|gC FU<|gC JY<|AI
def eP(x:Y9×Y8×List AN×Int×Int×List AN×aE2):Rnd (Y9×Y8×List AN×Int×Int×List AN×aE2) (Bool×D) (Y9×List AN×aE2):=if U (x.2.2.2.2.2.2.2.1<x.2.2.2.2.2.2.1) then if inb x.2.2.2.2.2.2.2.1 x.2.2.2.2.2.1.length then let a:=(rd aFh x.2.2.2.2.2.1 x.2.2.2.2.2.2.2.1).nu;let b:=(rd aFh x.2.2.2.2.2.1 x.2.2.2.2.2.2.2.1).da;if U (a=x.2.1.1) then I (.inr<|.inl (A0,())) else I (.inl (x.1,x.2.1,x.2.2.1,x.2.2.2.1,x.2.2.2.2.1,x.2.2.2.2.2.1,x.2.2.2.2.2.2.1,(w64<|x.2.2.2.2.2.2.2.1+1),())) else G else I (.inr<|.inr (x.1,x.2.2.1,x.2.2.2.1,x.2.2.2.2.1,()))
def qv:=AW eP
def wV:Loop:=⟨[(1,Z17),(4,Z32),(42,.sl .mixed),(43,j6),(44,j6),(62,.sl .mixed),(63,j6),(64,j6)],[(1,Z17),(42,.sl .mixed),(43,j6),(44,j6)],2,[(2,.bool)],qv⟩
def amO:LF f79 [] [1,1,0,1,0,0,1,1,0,0,1,1,1,0,0] wV:=sq (v:= .nil) iP (b:=eP) kN
def eQ(x:Y9×List AN×aE2):Rnd (Y9×List AN×aE2) (Bool×D) D:=if U (x.2.2.2.1<x.2.2.1) then if inb x.2.2.2.1 x.2.1.length then let b:=(rd aFh x.2.1 x.2.2.2.1).nu;let c:=(rd aFh x.2.1 x.2.2.2.1).da;(C5 (b,0,999,())).bind λd=>if(!d.1.1)||(!decide ((c.size:Int)=4)) then I (.inr<|.inl (A0,())) else if U (0<=x.2.2.2.1)&&U (x.2.2.2.1<=(j8 x.1.2.2.2.2.2.1:Int)) then(AO (qv (x.1,(b,c,()),x.2.1,x.2.2.1,x.2.2.2.1,(BR (AK x.2.2.2.1) x.1.2.2.2.2.2.1),((BR (AK x.2.2.2.1) x.1.2.2.2.2.2.1).length:Int),0,())) (λa=>I<|.inr<|.inl a) λa=>I<|.inl (a.1,a.2.1,a.2.2.1,(w64<|a.2.2.2.1+1),())) else G else G else I (.inr<|.inr ())
def qw:=AW eQ
def wW:Loop:=⟨[(1,Z17),(42,.sl .mixed),(43,j6),(44,j6)],[],0,[(2,.bool)],qw⟩
def am8:LF f79 [] [1,1,0,1,0,0] wW:=sq (v:=t1<|t1<|.two (.one<|t1<|t1<|t1<|.one<|.loop wV) .nil) iP (b:=eQ)<|kC amO kN
def fQ(x:Y9×D):Option ((Bool×D)×D):=(FT (x.1.1,())).bind λb=>if !b.1.1 then I ((A0,()),()) else(FT (x.1.2.2.1,())).bind λc=>if !c.1.1 then I ((A0,()),()) else(C5 (x.1.2.1,1,99,())).bind λd=>if !d.1.1 then I ((A0,()),()) else(C5 (x.1.2.2.2.1,1,999,())).bind λe=>if !e.1.1 then I ((A0,()),()) else(C5 (x.1.2.2.2.2.1,1,24,())).bind λf=>if !f.1.1 then I ((A0,()),()) else if U (14<(j8 x.1.2.2.2.2.2.1:Int)) then I ((A0,()),()) else(AO (qw (x.1,x.1.2.2.2.2.2.1,(j8 x.1.2.2.2.2.2.1:Int),0,())) (λa=>I (a,())) λa=>I ((Y,()),()))
def zJ:Ent:=(79,G,⟨[Z18],[.bool],fQ⟩)
def ah0:y8 zJ:=sk (v:=t1<|t1<|.two (t1<|.one<|.loop wW) .nil) (fn:=f79) iP<|kC am8 kN
def amt:Cx:=cX [] [] [(21,24)]
def zy:y9 amt:=aE1<|AI
def VT(x:Int×Int×List AE×aE2):Rnd (Int×Int×List AE×aE2) (v7) D:=if U (x.2.2.2.2.1<x.2.2.2.1) then if inb x.2.2.2.2.1 x.2.2.1.length then let a:=(rd aE6 x.2.2.1 x.2.2.2.2.1).fr;let b:=(rd aE6 x.2.2.1 x.2.2.2.2.1).nu;let c:=(rd aE6 x.2.2.1 x.2.2.2.2.1).to;let d:=(rd aE6 x.2.2.1 x.2.2.2.2.1).un;let e:=(rd aE6 x.2.2.1 x.2.2.2.2.1).sz;let f:=(rd aE6 x.2.2.1 x.2.2.2.2.1).got;if(U<|a=x.1)&&(U<|b=x.2.1) then I (.inr<|.inl x.2.2.2.2) else I (.inl (x.1,x.2.1,x.2.2.1,x.2.2.2.1,(w64<|x.2.2.2.2.1+1),())) else G else I (.inr<|.inr ())
def qx:=AW VT
def wX:Loop:=⟨[(1,j6),(2,j6),(9,.sl .half),(10,j6),(11,j6)],[],0,[(6,j6)],qx⟩
def am9:LF f80 [] [1,0,1,0,0] wX:=sq (v:= .nil) zy (b:=VT) kN
def Rs(x:List AE×aE2):Option ((v7)×D):=(AO (qx (x.2.1,x.2.2.1,x.1,(j8 x.1:Int),0,())) (λa=>I (a,())) λa=>I (((-1),()),()))
def ga:Ent:=(80,G,⟨[.fz .half,j6,j6],[j6],Rs⟩)
def u7:y8 ga:=sk (v:=t1<|.two (t1<|.one<|.loop wX) .nil) (fn:=f80) zy<|kC am9 kN
def ajR:Cx:=cX [eu,Iy,Rl,zJ,ga] [] [(61,62),(76,84)]
def wU:y9 ajR:=aE1<|gC qE<|gC JY<|gC UO<|gC ah0<|gC u7<|AI
def cI(x:Y1×List AE×aE2):Rnd (Y1×List AE×aE2) (Bool×D) D:=if U (x.2.2.2.1<x.2.2.1) then if inb x.2.2.2.1 x.2.1.length then let a:=(rd aE6 x.2.1 x.2.2.2.1).fr;let b:=(rd aE6 x.2.1 x.2.2.2.1).nu;let d:=(rd aE6 x.2.1 x.2.2.2.1).to;let e:=(rd aE6 x.2.1 x.2.2.2.1).un;let f:=(rd aE6 x.2.1 x.2.2.2.1).sz;let g:=(rd aE6 x.2.1 x.2.2.2.1).got;(fQ ((a,b,d,e,f,g,()),())).bind λc=>if Al (!(!c.1.1)) ((Rs (x.1.2.2.2.2.1,a,b,())).isSome) then if(!c.1.1)||(U<|((Rs (x.1.2.2.2.2.1,a,b,())).getD ((0,()),())).1.1<x.2.2.2.1) then I (.inr<|.inl (A0,())) else I (.inl (x.1,x.2.1,x.2.2.1,(w64<|x.2.2.2.1+1),())) else G else G else I (.inr<|.inr ())
def ao:=AW cI
def uC:Loop:=⟨[(1,Z19),(65,.sl .half),(66,j6),(67,j6)],[],0,[(2,.bool)],ao⟩
def aj0:LF f42 [] [1,1,1,1,1,0,1,0,0] uC:=sq (v:= .nil) wU (b:=cI) kN
def Ho(x:Y1×D):Option ((Bool×D)×D):=(BT (X:=Y1×D) (λa=>(LV (a.1.1,a.1.2.2.1,())).bind λc=>if U (0<=a.1.2.2.2.1)&&U (a.1.2.2.2.1<=(a.1.2.2.1.size:Int)) then(LV (a.1.1,(a.1.2.2.1.extract (0)<|AK a.1.2.2.2.1),())).bind λd=>if(!c.1.2.1)||(!d.1.2.1) then I ((A0,()),()) else(AO (ao (a.1,a.1.2.2.2.2.1,(j8 a.1.2.2.2.2.1:Int),0,())) (λb=>I (b,())) λb=>I ((Y,()),())) else G)<|(FT (x.1.1,())).bind λe=>if !e.1.1 then I (.inl ((A0,()),())) else(Nf ((x.1.2.2.1,x.1.2.2.2.1,()),())).bind λf=>if !f.1.1 then I (.inl ((A0,()),())) else if U (3<(j8 x.1.2.2.2.2.1:Int)) then I (.inl ((A0,()),())) else if !x.1.2.1 then if U (0<(j8 x.1.2.2.2.2.1:Int)) then I (.inl ((A0,()),())) else I (.inr x) else I (.inr x))
def Jc:Ent:=(42,G,⟨[Z12],[.bool],Ho⟩)
def KK:y8 Jc:=sk (v:=t1<|.join [(1,Z19)] .nil<|t1<|t1<|t1<|.two (t1<|.one<|.loop uC) .nil) (fn:=f42) wU<|kC aj0 kN
def ahj:Cx:=cX [Jc,eu] [] []
def ajJ:y9 ahj:=aE1<|gC KK<|gC qE<|AI
def Gk(x:Y1×D):Option ((Y3×D)×D):=(Ho x).bind λa=>if !a.1.1 then I (((0,0,0,([]:List A3),([]:List Mark),([]:List A3),()),()),()) else(LV (x.1.1,x.1.2.2.1,())).bind λb=>I ((b.1.1,()),())
def KQ:Ent:=(18,G,⟨[Z12],[Z4],Gk⟩)
def LH:y8 KQ:=sk (v:= .nil) (fn:=f18) ajJ kN
def aoD:Cx:=cX [FE] [] []
def ap7:y9 aoD:=aE1<|gC FU<|AI
def fg(x:A1×D):Option ((Bool×D)×D):=(C5 ((x.1.size:Int),1,60,())).bind λa=>I (a.1,())
def ib:Ent:=(192,G,⟨[.str],[.bool],fg⟩)
def vA:y8 ib:=sk (v:= .nil) (fn:=f192) ap7 kN
def aml:Cx:=cX [Rj] [] []
def aom:y9 aml:=aE1<|gC UH<|AI
def PY(x:A1×D):Option ((A1×D)×D):=(Iz ((x.1.size:Int),())).bind λa=>if U (a.1.1.size+(B [58]).size<=4611686018427387904) then if U ((a.1.1++(B [58])).size+x.1.size<=4611686018427387904) then if U (((a.1.1++(B [58]))++x.1).size+(B [59]).size<=4611686018427387904) then let b:=(((a.1.1++(B [58]))++x.1)++(B [59]));I ((b,()),()) else G else G else G
def gX:Ent:=(193,G,⟨[.str],[.str],PY⟩)
def tq:y8 gX:=sk (v:= .nil) (fn:=f193) aom kN
def aiF:Cx:=cX [Rl,ib,gX] [] [(23,25)]
def ve:y9 aiF:=aE1<|gC UO<|gC vA<|gC tq<|AI
def RE(x:Y7×Y7×A1×List A1×aE2):Rnd (Y7×Y7×A1×List A1×aE2) (Y7×Bool×D) (Y7×Y7×A1×D):=if U (x.2.2.2.2.2.1<x.2.2.2.2.1) then if inb x.2.2.2.2.2.1 x.2.2.2.1.length then let a:=(rd aFf x.2.2.2.1 x.2.2.2.2.2.1);(fg (a,())).bind λc=>if(!c.1.1)||(U<|2400<(x.2.2.1.size:Int)) then I (.inr<|.inl (x.1,A0,())) else(PY (a,())).bind λb=>if U (x.2.2.1.size+b.1.1.size<=4611686018427387904) then I (.inl (x.1,x.2.1,(x.2.2.1++b.1.1),x.2.2.2.1,x.2.2.2.2.1,(w64<|x.2.2.2.2.2.1+1),())) else G else G else I (.inr<|.inr (x.1,x.2.1,x.2.2.1,()))
def RA:=AW RE
def tO:Loop:=⟨[(2,Z21),(4,Z21),(6,.str),(13,.sl .str),(14,j6),(15,j6)],[(2,Z21),(4,Z21),(6,.str)],0,[(4,Z21),(5,.bool)],RA⟩
def ahT:LF f155 [] [1,1,1,0,1,0,0] tO:=sq (v:= .nil) ve (b:=RE) kN
def RR(x:Y7×List A1×D):Option ((Y7×Bool×D)×D):=(Nf (x.1,())).bind λb=>if !b.1.1 then I (((noB,0,()),A0,()),()) else(AO (RA (x.1,(noB,0,()),noB,x.2.1,(j8 x.2.1:Int),0,())) (λa=>I (a,())) λa=>(if U (2400<(a.2.2.1.size:Int)) then I ((a.1,A0,()),()) else I (((a.2.2.1,(a.2.2.1.size:Int),()),Y,()),())))
def rh:Ent:=(155,G,⟨[Z15,.fz .str],[Z15,.bool],RR⟩)
def adA:y8 rh:=sk (v:=t1<|t1<|t1<|.two (t1<|.one<|.loop tO) .nil) (fn:=f155) ve<|kC ahT kN
def aiB:Cx:=cX [Rj] [] []
def ajf:y9 aiB:=aE1<|gC UH<|AI
def PI(x:A1×aE7):Option ((A1×D)×D):=if U (x.1.size+(B [32]).size<=4611686018427387904) then(Iz (x.2.1,())).bind λa=>if U ((x.1++(B [32])).size+a.1.1.size<=4611686018427387904) then if U (((x.1++(B [32]))++a.1.1).size+(B [32]).size<=4611686018427387904) then(Iz (x.2.2.1,())).bind λb=>if U ((((x.1++(B [32]))++a.1.1)++(B [32])).size+b.1.1.size<=4611686018427387904) then if U (((((x.1++(B [32]))++a.1.1)++(B [32]))++b.1.1).size+(B [32]).size<=4611686018427387904) then(Iz x.2.2.2).bind λc=>if U ((((((x.1++(B [32]))++a.1.1)++(B [32]))++b.1.1)++(B [32])).size+c.1.1.size<=4611686018427387904) then let d:=((((((x.1++(B [32]))++a.1.1)++(B [32]))++b.1.1)++(B [32]))++c.1.1);I ((d,()),()) else G else G else G else G else G else G
def cr:Ent:=(149,G,⟨[.str,j6,j6,j6],[.str],PI⟩)
def pS:y8 cr:=sk (v:= .nil) (fn:=f149) ajf kN
def ajS:Cx:=cX [bC,cr,Ur,Rj,gf] [] []
def dQ:y9 ajS:=aE1<|gC pB<|gC pS<|gC ay<|gC UH<|gC tU<|AI
def ch(x:List A1×List A3×aE2):Rnd (List A1×List A3×aE2) D (List A1×D):=if U (x.2.2.2.1<x.2.2.1) then if inb x.2.2.2.1 x.2.1.length then let ov:=(rd aE3 x.2.1 x.2.2.2.1).fr;let a:=(rd aE3 x.2.1 x.2.2.2.1).nu;let az0:=(rd aE3 x.2.1 x.2.2.2.1).to;let b:=(rd aE3 x.2.1 x.2.2.2.1).un;let ayz:=(rd aE3 x.2.1 x.2.2.2.1).tx;(MN ((ov,a,az0,b,ayz,()),())).bind λoz=>if U ((B [105,110,98,111,120,32]).size+oz.1.1.size<=4611686018427387904) then if Ac (x.1.length+([((B [105,110,98,111,120,32])++oz.1.1)]:List A1).length) then I (.inl ((x.1++([((B [105,110,98,111,120,32])++oz.1.1)]:List A1)),x.2.1,x.2.2.1,(w64<|x.2.2.2.1+1),())) else G else G else G else I (.inr<|.inr (x.1,()))
def ap:=AW ch
def uE:Loop:=⟨[(3,.row 9 .str),(66,.sl .note),(67,j6),(68,j6)],[(3,.row 9 .str)],4,[],ap⟩
def aiR:LF f156 [] [1,1,1,1,1,1,1,0,1,0,0] uE:=sq (v:= .nil) dQ (b:=ch) kN
def cj(x:Y3×List A1×List A3×aE2):Rnd (Y3×List A1×List A3×aE2) D (Y3×List A1×D):=if U (x.2.2.2.2.1<x.2.2.2.1) then if inb x.2.2.2.2.1 x.2.2.1.length then let b:=(rd aE3 x.2.2.1 x.2.2.2.2.1).fr;let c:=(rd aE3 x.2.2.1 x.2.2.2.2.1).nu;let d:=(rd aE3 x.2.2.1 x.2.2.2.2.1).to;let e:=(rd aE3 x.2.2.1 x.2.2.2.2.1).un;let f:=(rd aE3 x.2.2.1 x.2.2.2.2.1).tx;(MN ((b,c,d,e,f,()),())).bind λa=>if U ((B [104,101,108,100,32]).size+a.1.1.size<=4611686018427387904) then if Ac (x.2.1.length+([((B [104,101,108,100,32])++a.1.1)]:List A1).length) then I (.inl (x.1,(x.2.1++([((B [104,101,108,100,32])++a.1.1)]:List A1)),x.2.2.1,x.2.2.2.1,(w64<|x.2.2.2.2.1+1),())) else G else G else G else I (.inr<|.inr (x.1,x.2.1,()))
def aq:=AW cj
def tQ:Loop:=⟨[(1,Z7),(3,.row 9 .str),(52,.sl .note),(53,j6),(54,j6)],[(1,Z7),(3,.row 9 .str)],2,[],aq⟩
def aiL:LF f156 [] [1,1,1,1,1,1,0,1,0,0] tQ:=sq (v:= .nil) dQ (b:=cj) kN
def ck(x:Y3×List A1×List Mark×aE2):Rnd (Y3×List A1×List Mark×aE2) D (Y3×List A1×D):=if U (x.2.2.2.2.1<x.2.2.2.1) then if inb x.2.2.2.2.1 x.2.2.1.length then let b:=(rd aFc x.2.2.1 x.2.2.2.2.1).mf;let c:=(rd aFc x.2.2.1 x.2.2.2.2.1).mn;let d:=(rd aFc x.2.2.1 x.2.2.2.2.1).mu;(PI ((B [109,97,114,107]),b,c,d,())).bind λa=>if Ac (x.2.1.length+([a.1.1]:List A1).length) then I (.inl (x.1,(x.2.1++([a.1.1]:List A1)),x.2.2.1,x.2.2.2.1,(w64<|x.2.2.2.2.1+1),())) else G else G else I (.inr<|.inr (x.1,x.2.1,()))
def au:=AW ck
def tT:Loop:=⟨[(1,Z7),(3,.row 9 .str),(34,.sl .mark),(35,j6),(36,j6)],[(1,Z7),(3,.row 9 .str)],0,[],au⟩
def aj1:LF f156 [] [1,1,1,1,1,0,1,0,0] tT:=sq (v:= .nil) dQ (b:=ck) kN
def V4(x:Y3×D):Option ((List A1×D)×D):=(Pa x).bind λg=>if !g.1.1 then I ((([]:List A1),()),()) else(BT (X:=Y3×List A1×D) (λa=>(BT (X:=Y3×List A1×D) (λb=>(AO (au (b.1,b.2.1,b.1.2.2.2.2.1,(j8 b.1.2.2.2.2.1:Int),0,())) (λ_=>G) λc=>(AO (aq (c.1,c.2.1,c.1.2.2.2.1,(j8 c.1.2.2.2.1:Int),0,())) (λ_=>G) λd=>(AO (ap (d.2.1,d.1.2.2.2.2.2.1,(j8 d.1.2.2.2.2.2.1:Int),0,())) (λ_=>G) λoh=>(R9 oh).bind λoy=>I (oy.1,())))))<|(if U (1<a.1.2.2.1) then(Iz (a.1.2.2.1,())).bind λe=>if U ((B [110,101,120,116,32]).size+e.1.1.size<=4611686018427387904) then if Ac (a.2.1.length+([((B [110,101,120,116,32])++e.1.1)]:List A1).length) then I (.inr (a.1,(a.2.1++([((B [110,101,120,116,32])++e.1.1)]:List A1)),())) else G else G else I (.inr a))))<|(if U (0<x.1.2.1) then(Iz (x.1.2.1,())).bind λf=>if U ((B [116,105,109,101,32]).size+f.1.1.size<=4611686018427387904) then if Ac ([((B [116,105,109,101,32])++f.1.1)]:List A1).length then I (.inr (x.1,([((B [116,105,109,101,32])++f.1.1)]:List A1),())) else G else G else I (.inr (x.1,([]:List A1),()))))
def sV:Ent:=(156,G,⟨[Z8],[.row 9 .str],V4⟩)
def adb:y8 sV:=sk (v:=t1<|t1<|t1<|.join [(1,Z7),(3,.row 9 .str)] .nil<|.join [(1,Z7),(3,.row 9 .str)] .nil<|.two (t1<|.one<|.loop tT)<|.two (t1<|.one<|.loop tQ)<|.two (t1<|.one<|.loop uE) .nil) (fn:=f156) dQ<|kC aj1<|kC aiL<|kC aiR kN
def ajN:Cx:=cX [Rl,ib,gX] [] [(14,21)]
def alU:y9 ajN:=aE1<|gC UO<|gC vA<|gC tq<|AI
def RU(x:Y7×A1×D):Option ((Y7×Bool×D)×D):=(Nf (x.1,())).bind λc=>if !c.1.1 then I (((noB,0,()),A0,()),()) else(fg x.2).bind λa=>if Al (!(!a.1.1)) ((PY x.2).isSome) then if(!a.1.1)||(U<|2400<(w64<|(x.1.1.size:Int)+((((PY x.2).getD ((noB,()),())).1.1).size:Int))) then I ((x.1,A0,()),()) else(PY x.2).bind λb=>if U (x.1.1.size+b.1.1.size<=4611686018427387904) then I ((((x.1.1++b.1.1),x.1.2),Y,()),()) else G else G
def wN:Ent:=(188,G,⟨[Z15,.str],[Z15,.bool],RU⟩)
def afD:y8 wN:=sk (v:= .nil) (fn:=f188) alU kN
def apM:Cx:=cX [eu,gh,rh,sV,wN] [] []
def aqP:y9 apM:=aE1<|gC qE<|gC tV<|gC adA<|gC adb<|gC afD<|AI
def Ns(x:Y1×A1×D):Option ((Y1×Bool×D)×D):=(LV (x.1.1,x.1.2.2.1,())).bind λb=>(Rv (b.1.1,x.2)).bind λe=>if !e.1.2.1 then I ((x.1,A0,()),()) else(RU ((x.1.2.2.1,x.1.2.2.2.1,()),x.2)).bind λc=>(BT (X:=Y1×Y1×Y7×Bool×D) (λa=>if !a.2.2.2.1 then I ((a.1,A0,()),()) else I (((a.1.1,a.1.2.1,a.2.2.1.1,a.2.2.1.2.1,a.1.2.2.2.2),Y,()),()))<|(if !c.1.2.1 then(V4 (b.1.1,())).bind λf=>(RR ((x.1.2.2.1,x.1.2.2.2.1,()),f.1)).bind λd=>if !d.1.2.1 then I (.inl ((x.1,A0,()),())) else(RU (d.1.1,x.2)).bind λg=>I (.inr (x.1,(0,A0,noB,0,([]:List AE),()),g.1)) else I (.inr (x.1,(0,A0,noB,0,([]:List AE),()),c.1))))
def WV:Ent:=(148,G,⟨[Z12,.str],[Z12,.bool],Ns⟩)
def sF:y8 WV:=sk (v:=t1<|t1<|t1<|t1<|.join [(2,Z19),(4,Z20),(10,Z21),(11,.bool)] .nil .nil) (fn:=f148) aqP kN
def ag9:Cx:=cX [Rl] [] []
def ahY:y9 ag9:=aE1<|gC UO<|AI
def bw(x:Y7×D):Option ((Y7×D)×D):=(Nf x).bind λa=>if !a.1.1 then I (((noB,0,()),()),()) else I (((x.1.1,(x.1.1.size:Int),()),()),())
def uN:Ent:=(194,G,⟨[Z15],[Z15],bw⟩)
def aeI:y8 uN:=sk (v:= .nil) (fn:=f194) ahY kN
def anO:Cx:=cX [uN] [] []
def aop:y9 anO:=aE1<|gC aeI<|AI
def Nn(x:Y1×D):Option ((Y1×D)×D):=(bw ((x.1.2.2.1,x.1.2.2.2.1,()),())).bind λa=>I (((x.1.1,x.1.2.1,a.1.1.1,a.1.1.2.1,x.1.2.2.2.2),()),())
def fX:Ent:=(157,G,⟨[Z12],[Z12],Nn⟩)
def qy:y8 fX:=sk (v:= .nil) (fn:=f157) aop kN
def anU:Cx:=cX [] [] []
def aov:y9 anU:=aE1<|AI
def fT(x:Int×Y6×D):Option ((List Frame×D)×D):=I ((([(Frame.mk x.1 x.2.1.2.2.1 x.2.1.2.1 x.2.1.2.2.2.1 x.2.1.2.2.2.2.1 x.2.1.2.2.2.2.2.1 x.2.1.2.2.2.2.2.2.1 0 0 noB)]:List Frame),()),())
def zQ:Ent:=(184,G,⟨[j6,Z13],[.row 124 .frame],fT⟩)
def ah6:y8 zQ:=sk (v:= .nil) (fn:=f184) aov kN
def ap4:Cx:=cX [] [(28,28)] []
def aAX:y9 ap4:=aE1<|AI
def fh(x:Y8×List AN×List AN×aE2):Rnd (Y8×List AN×List AN×aE2) D (Y8×List AN×D):=if U (x.2.2.2.2.1<x.2.2.2.1) then if inb x.2.2.2.2.1 x.2.2.1.length then let a:=(rd aFh x.2.2.1 x.2.2.2.2.1).nu;let b:=(rd aFh x.2.2.1 x.2.2.2.2.1).da;if !decide (a=x.1.1) then if Ac (x.2.1.length+([(AN.mk a b)]:List AN).length) then I (.inl (x.1,(x.2.1++([(AN.mk a b)]:List AN)),x.2.2.1,x.2.2.2.1,(w64<|x.2.2.2.2.1+1),())) else G else I (.inl (x.1,x.2.1,x.2.2.1,x.2.2.2.1,(w64<|x.2.2.2.2.1+1),())) else G else I (.inr<|.inr (x.1,x.2.1,()))
def dI:=AW fh
def zj:Loop:=⟨[(3,Z32),(5,.row 142 .mixed),(8,.sl .mixed),(9,j6),(10,j6)],[(3,Z32),(5,.row 142 .mixed)],0,[],dI⟩
def apC:LF f186 [] [1,1,0,1,0,0] zj:=sq (v:= .nil) aAX (b:=fh) kN
def WQ(x:List AN×Y8×D):Option ((List AN×D)×D):=(AO (dI (x.2.1,([]:List AN),x.1,(j8 x.1:Int),0,())) (λ_=>G) λa=>(if U (14<=(j8 a.2.1:Int)) then if U (0<=1)&&U (1<=(j8 a.2.1:Int)) then if Ac ((Bp (AK 1) a.2.1).length+([(AN.mk a.1.1 a.1.2.1)]:List AN).length) then I ((((Bp (AK 1) a.2.1)++([(AN.mk a.1.1 a.1.2.1)]:List AN)),()),()) else G else G else if Ac (a.2.1.length+([(AN.mk a.1.1 a.1.2.1)]:List AN).length) then I (((a.2.1++([(AN.mk a.1.1 a.1.2.1)]:List AN)),()),()) else G))
def aAS:Ent:=(186,G,⟨[.fz .mixed,Z16],[.row 142 .mixed],WQ⟩)
def ajq:y8 aAS:=sk (v:=t1<|t1<|.two (t1<|.one<|.loop zj) .nil) (fn:=f186) aAX<|kC apC kN
def aoG:Cx:=cX [FE] [] [(8,9)]
def apc:y9 aoG:=aE1<|gC FU<|AI
def W4(x:aE2):Option ((Bool×D)×D):=(C5 (x.1,1,6,())).bind λa=>if Al a.1.1 ((C5 (x.2.1,0,999,())).isSome) then let b:=(a.1.1&&(((C5 (x.2.1,0,999,())).getD ((A0,()),())).1.1));I ((b,()),()) else G
def ic:Ent:=(232,G,⟨[j6,j6],[.bool],W4⟩)
def uZ:y8 ic:=sk (v:= .nil) (fn:=f232) apc kN
def ajO:Cx:=cX [FE] [] []
def alV:y9 ajO:=aE1<|gC FU<|AI
def PO(x:v7):Option ((v7)×D):=(C5 (x.1,0,65535,())).bind λa=>if !a.1.1 then I ((0,()),()) else let b:=(BK (w64<|(w64<|25173 * x.1)+13849) 65536);I ((b,()),())
def sU:Ent:=(233,G,⟨[j6],[j6],PO⟩)
def ada:y8 sU:=sk (v:= .nil) (fn:=f233) alV kN
def ahg:Cx:=cX [ic,sU] [] []
def rr:y9 ahg:=aE1<|gC uZ<|gC ada<|AI
def u9(x:Int×List Int×aE7):Rnd (Int×List Int×aE7) (v7) (v7):=if U (x.2.2.2.2.1<=x.1) then if inb x.2.2.2.2.1 x.2.1.length then let a:=(w64<|x.2.2.2.1+(rd aE8 x.2.1 x.2.2.2.2.1));(if U (x.2.2.1<a) then I (.inr<|.inl x.2.2.2.2) else I (.inl (x.1,x.2.1,x.2.2.1,a,(w64<|x.2.2.2.2.1+1),()))) else G else I (.inr<|.inr (x.1,()))
def az:=AW u9
def sn:Loop:=⟨[(0,j6),(5,.row 3 .int),(8,j6),(9,j6),(10,j6)],[(0,j6)],2,[(4,j6)],az⟩
def ahK:LF f234 [] [1,1,1,1,1,1,1,1,0,1,0,0] sn:=sq (v:= .nil) rr (b:=u9) kN
def uA(x:Int×Int×List Int×aE2):Rnd (Int×Int×List Int×aE2) D (Int×Int×List Int×v7):=if U (x.2.2.2.2.1<=x.1) then if !decide ((w64<|x.2.2.2.2.1 * (w64<|x.2.2.2.2.1 - 1))=0) then if Ac (x.2.2.1.length+([(w64<|B0 60<|w64<|x.2.2.2.2.1 * (w64<|x.2.2.2.2.1 - 1))]:List Int).length) then if inb x.2.2.2.2.1 ((x.2.2.1++([(w64<|B0 60<|w64<|x.2.2.2.2.1 * (w64<|x.2.2.2.2.1 - 1))]:List Int)).length) then let a:=(w64<|x.2.2.2.1+(rd aE8 (x.2.2.1++([(w64<|B0 60<|w64<|x.2.2.2.2.1 * (w64<|x.2.2.2.2.1 - 1))]:List Int)) x.2.2.2.2.1));I (.inl (x.1,x.2.1,(x.2.2.1++([(w64<|B0 60<|w64<|x.2.2.2.2.1 * (w64<|x.2.2.2.2.1 - 1))]:List Int)),a,(w64<|x.2.2.2.2.1+1),())) else G else G else G else I (.inr<|.inr (x.1,x.2.1,x.2.2.1,x.2.2.2.1,()))
def bB:=AW uA
def sr:Loop:=⟨[(0,j6),(1,j6),(5,.row 3 .int),(6,j6),(7,j6)],[(0,j6),(1,j6),(5,.row 3 .int),(6,j6)],0,[],bB⟩
def ahW:LF f234 [] [1,1,1,1,1,0,1,0,0] sr:=sq (v:= .nil) rr (b:=uA) kN
def cH(x:aE2):Option ((v7)×D):=(W4 x).bind λc=>if !c.1.1 then I ((0,()),()) else if U (x.2.1<x.1) then I ((1,()),()) else if !decide (x.1=0) then if inb 1 (([0,(w64<|(w64<|B0 60 x.1)+10)]:List Int).length) then let d:=(rd aE8 ([0,(w64<|(w64<|B0 60 x.1)+10)]:List Int) 1);(AO (bB (x.1,x.2.1,([0,(w64<|(w64<|B0 60 x.1)+10)]:List Int),d,2,())) (λ_=>G) (λa=>(PO ((w64<|(w64<|31 * a.2.1)+a.1),())).bind λe=>(PO e.1).bind λf=>if !decide (a.2.2.2.1=0) then let g:=(BK (w64<|B0 f.1.1 16) a.2.2.2.1);(AO (az (a.1,a.2.2.1,g,0,1,())) (λb=>I (b,())) λb=>I (b,())) else G)) else G else G
def wH:Ent:=(234,G,⟨[j6,j6],[j6],cH⟩)
def aeX:y8 wH:=sk (v:=t1<|t1<|t1<|t1<|t1<|.two (t1<|.one<|.loop sr)<|t1<|t1<|.two (t1<|.one<|.loop sn) .nil) (fn:=f234) rr<|kC ahW<|kC ahK kN
def ag8:Cx:=cX [] [] []
def ahu:y9 ag8:=aE1<|AI
def qz(x:List Int×D):Option ((List Int×D)×D):=if U ((j8 x.1:Int)=0) then I ((([]:List Int),()),()) else if U (0<=(j8 x.1:Int))&&U ((j8 x.1:Int)<=4294967296) then I (((BR (BS (AK (j8 x.1:Int))<|dfl .int).length x.1++Bp x.1.length (BS (AK (j8 x.1:Int))<|dfl .int)),()),()) else G
def uM:Ent:=(235,G,⟨[.fz .int],[.row 3 .int],qz⟩)
def aeH:y8 uM:=sk (v:= .nil) (fn:=f235) ahu kN
def anm:Cx:=cX [ic,sU,wH,uM] [] []
def fq:y9 anm:=aE1<|gC uZ<|gC ada<|gC aeX<|gC aeH<|AI
def Vo(x:Int×List Bool×aE7):Rnd (Int×List Bool×aE7) D (Int×List Bool×aE7):=if inb x.2.2.2.2.1 x.2.1.length then if rd aFj x.2.1 x.2.2.2.2.1 then if !decide (x.1=0) then let a:=(BK (w64<|x.2.2.2.2.1+1) x.1);I (.inl (x.1,x.2.1,x.2.2.1,x.2.2.2.1,a,())) else G else I (.inr<|.inr x) else G
def cG:=AW Vo
def yC:Loop:=⟨[(0,j6),(5,.abx 218 .bool),(6,j6),(7,j6),(8,j6)],[(0,j6),(5,.abx 218 .bool),(6,j6),(7,j6),(8,j6)],2,[],cG⟩
def aoa:LF f190 [] [1,1,1,1,1,0,1,0,0,1,0,0,1,1,0,0,0] yC:=sq (v:= .nil) fq (b:=Vo) kN
def iC(x:List Int×List Bool×v7):Rnd (List Int×List Bool×v7) D (List Int×D):=if U (x.2.2.1<6) then if inb x.2.2.1 x.2.1.length&&inb x.2.2.1 6 then let a:=(rd aFj x.2.1 x.2.2.1);(if a then if Ac (x.1.length+([x.2.2.1]:List Int).length) then I (.inl ((x.1++([x.2.2.1]:List Int)),x.2.1,(w64<|x.2.2.1+1),())) else G else I (.inl (x.1,x.2.1,(w64<|x.2.2.1+1),()))) else G else I (.inr<|.inr (x.1,()))
def s6:=AW iC
def yB:Loop:=⟨[(9,.row 3 .int),(47,.arr .bool),(48,j6)],[(9,.row 3 .int)],4,[],s6⟩
def aoX:LF f190 [] [1,1,1,1,1,1,1,0,1,0,0] yB:=sq (v:= .nil) fq (b:=iC) kN
def iD(x:Int×List Bool×aE2):Rnd (Int×List Bool×aE2) D (List Bool×D):=if U (0<x.2.2.2.1) then(PO (x.2.2.1,())).bind λb=>if !decide (x.1=0) then let c:=(BK (w64<|B0 b.1.1 16) x.1);(AO (cG (x.1,x.2.1,b.1.1,x.2.2.2.1,c,())) (λ_=>I<|.inr<|.inl ()) λa=>(if inb a.2.2.2.2.1 a.2.1.length then I (.inl (a.1,(Bq a.2.1 (AK a.2.2.2.2.1) Y),a.2.2.1,(w64<|a.2.2.2.1 - 1),())) else G)) else G else I (.inr<|.inr (x.2.1,()))
def s7:=AW iD
def yD:Loop:=⟨[(0,j6),(5,.abx 218 .bool),(6,j6),(7,j6)],[(5,.abx 218 .bool)],0,[],s7⟩
def ant:LF f190 [] [1,1,1,1,1,0,1,0,0] yD:=sq (v:=t1<|.two (.one<|t1<|t1<|.two (.one<|.loop yC) .nil) .nil) fq (b:=iD)<|kC aoa kN
def W0(x:aE2):Option ((List Int×D)×D):=(W4 x).bind λa=>if !a.1.1 then I ((([]:List Int),()),()) else if U (x.2.1<x.1) then I ((([x.2.1]:List Int),()),()) else(PO ((w64<|(w64<|7 * x.2.1)+1),())).bind λb=>(cH x).bind λc=>(AO (s7 (x.1,(BS 6<|dfl .bool),b.1.1,c.1)) (λ_=>G) λd=>(AO (s6 (([]:List Int),d.1,0,())) (λ_=>G) λe=>(qz e).bind λf=>I (f.1,())))
def ie:Ent:=(190,G,⟨[j6,j6],[.row 3 .int],W0⟩)
def vl:y8 ie:=sk (v:=t1<|t1<|t1<|t1<|t1<|.two (t1<|.one<|.loop yD)<|t1<|.two (t1<|.one<|.loop yB) .nil) (fn:=f190) fq<|kC ant<|kC aoX kN
def aoC:Cx:=cX [] [] []
def aAN:y9 aoC:=aE1<|AI
def zf(x:A1×List Int×aE2):Rnd (A1×List Int×aE2) D (List Int×D):=if U (x.2.2.2.1<x.2.2.1) then if inb x.2.2.2.1 x.2.1.length then if inb x.2.2.2.1 x.1.size then if inb x.2.2.2.1 x.2.1.length then let a:=(Dt .u8 (rd aFd x.2.1 x.2.2.2.1)<|bt x.1 x.2.2.2.1);I (.inl (x.1,(Bq x.2.1 (AK x.2.2.2.1) a),x.2.2.1,(w64<|x.2.2.2.1+1),())) else G else G else G else I (.inr<|.inr (x.2.1,()))
def ru:=AW zf
def yO:Loop:=⟨[(1,.str),(5,.Cf 5 .u8),(10,j6),(11,j6)],[(5,.Cf 5 .u8)],0,[],ru⟩
def aoe:LF f191 [] [1,1,0,1,0,0] yO:=sq (v:= .nil) aAN (b:=zf) kN
def W1(x:A1×A1×D):Option ((A1×D)×D):=if Ac x.1.size then(AO (ru (x.2.1,(BA x.1),((BA x.1).length:Int),0,())) (λ_=>G) λa=>I (((BH a.1),()),())) else G
def ia:Ent:=(191,G,⟨[.str,.str],[.str],W1⟩)
def uz:y8 ia:=sk (v:=t1<|t1<|.two (t1<|.one<|.loop yO) .nil) (fn:=f191) aAN<|kC aoe kN
def akz:Cx:=cX [FE,ie,ia] [] [(31,34)]
def fC:y9 akz:=aE1<|gC FU<|gC vl<|gC uz<|AI
def V2(x:Int×List AN×List A1×Bool×A1×Int×Int×List AN×Int×Int×List Int×aE2):Rnd (Int×List AN×List A1×Bool×A1×Int×Int×List AN×Int×Int×List Int×aE2) D (Int×List AN×List A1×Bool×A1×Int×Int×List AN×aE2):=if U (x.2.2.2.2.2.2.2.2.2.2.2.2.1<x.2.2.2.2.2.2.2.2.2.2.2.1) then if inb x.2.2.2.2.2.2.2.2.2.2.2.2.1 x.2.2.2.2.2.2.2.2.2.2.1.length then let U6:=(rd aE8 x.2.2.2.2.2.2.2.2.2.2.1 x.2.2.2.2.2.2.2.2.2.2.2.2.1);(if inb U6 x.2.2.1.length then if U ((rd aFf x.2.2.1 U6)=noB) then let ayy:=(w64<|x.2.2.2.2.2.2.1+1);I (.inl (x.1,x.2.1,x.2.2.1,x.2.2.2.1,x.2.2.2.2.1,U6,ayy,x.2.2.2.2.2.2.2.1,x.2.2.2.2.2.2.2.2.1,x.2.2.2.2.2.2.2.2.2.1,x.2.2.2.2.2.2.2.2.2.2.1,x.2.2.2.2.2.2.2.2.2.2.2.1,(w64<|x.2.2.2.2.2.2.2.2.2.2.2.2.1+1),())) else if inb U6 x.2.2.1.length then(W1 (x.2.2.2.2.1,(rd aFf x.2.2.1 U6),())).bind λazC=>I (.inl (x.1,x.2.1,x.2.2.1,x.2.2.2.1,azC.1.1,x.2.2.2.2.2.1,x.2.2.2.2.2.2.1,x.2.2.2.2.2.2.2.1,x.2.2.2.2.2.2.2.2.1,x.2.2.2.2.2.2.2.2.2.1,x.2.2.2.2.2.2.2.2.2.2.1,x.2.2.2.2.2.2.2.2.2.2.2.1,(w64<|x.2.2.2.2.2.2.2.2.2.2.2.2.1+1),())) else G else G) else G else I (.inr<|.inr (x.1,x.2.1,x.2.2.1,x.2.2.2.1,x.2.2.2.2.1,x.2.2.2.2.2.1,x.2.2.2.2.2.2.1,x.2.2.2.2.2.2.2.1,x.2.2.2.2.2.2.2.2.1,x.2.2.2.2.2.2.2.2.2.1,()))
def bP:=AW V2
def vi:Loop:=⟨[(0,j6),(1,.sl .mixed),(5,.row 9 .str),(6,.bool),(9,.str),(10,j6),(11,j6),(20,.sl .mixed),(21,j6),(22,j6),(41,.row 3 .int),(42,j6),(43,j6)],[(0,j6),(1,.sl .mixed),(5,.row 9 .str),(6,.bool),(9,.str),(10,j6),(11,j6),(20,.sl .mixed),(21,j6),(22,j6)],4,[],bP⟩
def akX:LF f230 [] [1,1,1,0,1,0,0,1,0,1,1,0,0,1,1,0,0,1,1,1,0,1,0,0] vi:=sq (v:= .nil) fC (b:=V2) kN
def Nb(x:Int×List AN×List A1×Bool×List AN×aE2):Rnd (Int×List AN×List A1×Bool×List AN×aE2) D (Int×List AN×List A1×Bool×D):=if U (x.2.2.2.2.2.2.1<x.2.2.2.2.2.1) then if inb x.2.2.2.2.2.2.1 x.2.2.2.2.1.length then let acB:=(rd aFh x.2.2.2.2.1 x.2.2.2.2.2.2.1).nu;let a:=(rd aFh x.2.2.2.2.1 x.2.2.2.2.2.2.1).da;(C5 (acB,0,999,())).bind λazD=>if(!azD.1.1)||(!decide ((a.size:Int)=4)) then I (.inl (x.1,x.2.1,x.2.2.1,x.2.2.2.1,x.2.2.2.2.1,x.2.2.2.2.2.1,(w64<|x.2.2.2.2.2.2.1+1),())) else(W0 (x.1,acB,())).bind λacH=>(AO (bP (x.1,x.2.1,x.2.2.1,x.2.2.2.1,a,(-1),0,x.2.2.2.2.1,x.2.2.2.2.2.1,x.2.2.2.2.2.2.1,acH.1.1,(j8 acH.1.1:Int),0,())) (λ_=>I<|.inr<|.inl ()) λGR=>(if U (GR.2.2.2.2.2.2.1=1) then if inb GR.2.2.2.2.2.1 GR.2.2.1.length then I (.inl (GR.1,GR.2.1,(Bq GR.2.2.1 (AK GR.2.2.2.2.2.1) GR.2.2.2.2.1),Y,GR.2.2.2.2.2.2.2.1,GR.2.2.2.2.2.2.2.2.1,(w64<|GR.2.2.2.2.2.2.2.2.2.1+1),())) else G else I (.inl (GR.1,GR.2.1,GR.2.2.1,GR.2.2.2.1,GR.2.2.2.2.2.2.2.1,GR.2.2.2.2.2.2.2.2.1,(w64<|GR.2.2.2.2.2.2.2.2.2.1+1),())))) else G else I (.inr<|.inr (x.1,x.2.1,x.2.2.1,x.2.2.2.1,()))
def UQ:=AW Nb
def vj:Loop:=⟨[(0,j6),(1,.sl .mixed),(5,.row 9 .str),(6,.bool),(20,.sl .mixed),(21,j6),(22,j6)],[(0,j6),(1,.sl .mixed),(5,.row 9 .str),(6,.bool)],2,[],UQ⟩
def ak1:LF f230 [] [1,1,1,0,1,0,0,1,0,1,1,0,0] vj:=sq (v:=t1<|t1<|.two (.one<|t1<|t1<|t1<|.two (t1<|.one<|.loop vi) .nil) .nil) fC (b:=Nb)<|kC akX kN
def sK(x:Int×List AN×List A1×Bool×D):Rnd (Int×List AN×List A1×Bool×D) D (List A1×D):=if x.2.2.2.1 then(AO (UQ (x.1,x.2.1,x.2.2.1,A0,x.2.1,(j8 x.2.1:Int),0,())) (λ_=>I<|.inr<|.inl ()) λayr=>I<|.inl ayr) else I (.inr<|.inr (x.2.2.1,()))
def qS:=AW sK
def vk:Loop:=⟨[(0,j6),(1,.sl .mixed),(5,.row 9 .str),(6,.bool)],[(5,.row 9 .str)],0,[],qS⟩
def ajo:LF f230 [] [1,1,1,0,1,0,0] vk:=sq (v:=t1<|.one<|t1<|t1<|.one<|.loop vj) fC (b:=sK)<|kC ak1 kN
def eU(x:Int×List AN×D):Option ((List A1×D)×D):=(C5 (x.1,1,6,())).bind λa=>if !a.1.1 then I ((([]:List A1),()),()) else if U (0<=x.1)&&U (x.1<=4294967296) then(AO (qS (x.1,x.2.1,(BS (AK x.1)<|dfl .str),Y,())) (λ_=>G) λazH=>I (azH,())) else G
def yb:Ent:=(230,G,⟨[j6,.fz .mixed],[.row 9 .str],eU⟩)
def agZ:y8 yb:=sk (v:=t1<|t1<|t1<|.two (t1<|.one<|.loop vk) .nil) (fn:=f230) fC<|kC ajo kN
def aky:Cx:=cX [FE,yb] [] []
def gT:y9 aky:=aE1<|gC FU<|gC agZ<|AI
def dN(x:Int×A1×v7):Rnd (Int×A1×v7) (A1×Bool×D) (Int×A1×D):=if U (x.2.2.1<(x.2.1.size:Int)) then if inb x.2.2.1 x.2.1.size then if !decide ((bt x.2.1 x.2.2.1)=0) then I (.inr<|.inl (noB,A0,())) else I (.inl (x.1,x.2.1,(w64<|x.2.2.1+1),())) else G else I (.inr<|.inr (x.1,x.2.1,()))
def qR:=AW dN
def uj:Loop:=⟨[(0,j6),(6,.str),(9,j6)],[(0,j6),(6,.str)],2,[(4,.str),(5,.bool)],qR⟩
def ak0:LF f187 [] [1,1,1,1,0,1,0,0] uj:=sq (v:= .nil) gT (b:=dN) kN
def V1(x:Int×A1×List A1×aE2):Rnd (Int×A1×List A1×aE2) (A1×Bool×D) (Int×A1×D):=if U (x.2.2.2.2.1<x.2.2.2.1) then if inb x.2.2.2.2.1 x.2.2.1.length then let a:=(rd aFf x.2.2.1 x.2.2.2.2.1);(if U (a=noB) then I (.inr<|.inl (noB,A0,())) else if U (x.2.1.size+a.size<=4611686018427387904) then I (.inl (x.1,(x.2.1++a),x.2.2.1,x.2.2.2.1,(w64<|x.2.2.2.2.1+1),())) else G) else G else I (.inr<|.inr (x.1,x.2.1,()))
def bO:=AW V1
def vh:Loop:=⟨[(0,j6),(6,.str),(18,.row 9 .str),(19,j6),(20,j6)],[(0,j6),(6,.str)],0,[(4,.str),(5,.bool)],bO⟩
def ajn:LF f187 [] [1,1,1,0,1,0,0] vh:=sq (v:= .nil) gT (b:=V1) kN
def eS(x:Int×List AN×D):Option ((A1×Bool×D)×D):=(C5 (x.1,1,24,())).bind λd=>if !d.1.1 then I ((noB,A0,()),()) else(eU ((w64<|B0 (w64<|(w64<|x.1+4) - 1) 4),x.2)).bind λc=>(AO (bO (x.1,noB,c.1.1,(j8 c.1.1:Int),0,())) (λb=>I (b,())) λb=>(AO (qR (b.1,b.2.1,b.1,())) (λa=>I (a,())) λa=>(if U (0<=a.1)&&U (a.1<=(a.2.1.size:Int)) then let e:=(a.2.1.extract (0)<|AK a.1);I ((e,Y,()),()) else G)))
def ya:Ent:=(187,G,⟨[j6,.fz .mixed],[.str,.bool],eS⟩)
def agY:y8 ya:=sk (v:=t1<|t1<|t1<|.two (t1<|.one<|.loop vh)<|.two (t1<|.one<|.loop uj) .nil) (fn:=f187) gT<|kC ajn<|kC ak0 kN
def aiC:Cx:=cX [KQ,Np,ga,WV,Ur,fX,zQ,Vr,aAS,ya] [(85,85)] [(34,41)]
def ajg:y9 aiC:=aE1<|gC LH<|gC PE<|gC u7<|gC sF<|gC ay<|gC qy<|gC ah6<|gC bq<|gC ajq<|gC agY<|AI
def Uv(x:Y1×Y6×D):Option ((Y1×List Frame×D)×D):=(Gk (x.1,())).bind λc=>let i:=(U<|x.2.1.2.2.2.2.2.2.1<=c.1.1.2.1);(if i then(fT (3,x.2)).bind λj=>I ((x.1,j.1),()) else(IQ (c.1.1.2.2.2.1,x.2.1.2.2.2.1,x.2.1.2.2.2.2.1,())).bind λd=>if Al (!(U<|0<=d.1.1)) ((KR (c.1.1.2.2.2.2.1,x.2.1.2.2.2.1,x.2.1.2.2.2.2.1,())).isSome) then let k:=((U<|0<=d.1.1)||(U<|0<=((KR (c.1.1.2.2.2.2.1,x.2.1.2.2.2.1,x.2.1.2.2.2.2.1,())).getD ((0,()),())).1.1));(if k then(Nn (x.1,())).bind λl=>(fT (2,x.2)).bind λm=>I ((l.1.1,m.1),()) else let n:=(U<|x.2.1.2.2.2.1=x.1.1);(if n then I ((x.1,([]:List Frame),()),()) else(Rs (x.1.2.2.2.2.1,x.2.1.2.2.2.1,x.2.1.2.2.2.2.1,())).bind λe=>(BT (X:=Y1×Y6×Y1×v7) (λa=>if inb a.2.2.2.1 a.1.2.2.2.2.1.length then if !decide ((rd aE6 a.1.2.2.2.2.1 a.2.2.2.1).to=a.2.1.2.2.2.2.2.1) then I ((a.1,([]:List Frame),()),()) else if !decide ((rd aE6 a.1.2.2.2.2.1 a.2.2.2.1).un=a.2.1.2.2.2.2.2.2.1) then I ((a.1,([]:List Frame),()),()) else if !decide ((rd aE6 a.1.2.2.2.2.1 a.2.2.2.1).sz=a.2.1.2.2.2.2.2.2.2.1) then I ((a.1,([]:List Frame),()),()) else(WQ ((rd aE6 a.1.2.2.2.2.1 a.2.2.2.1).got,a.2.1.2.2.2.2.2.2.2.2,())).bind λb=>(eS ((rd aE6 (Bq a.1.2.2.2.2.1 (AK a.2.2.2.1)<|AE.mk ((rd aE6 a.1.2.2.2.2.1 a.2.2.2.1).fr) ((rd aE6 a.1.2.2.2.2.1 a.2.2.2.1).nu) ((rd aE6 a.1.2.2.2.2.1 a.2.2.2.1).to) ((rd aE6 a.1.2.2.2.2.1 a.2.2.2.1).un) ((rd aE6 a.1.2.2.2.2.1 a.2.2.2.1).sz) b.1.1) a.2.2.2.1).sz,(rd aE6 (Bq a.1.2.2.2.2.1 (AK a.2.2.2.1)<|AE.mk ((rd aE6 a.1.2.2.2.2.1 a.2.2.2.1).fr) ((rd aE6 a.1.2.2.2.2.1 a.2.2.2.1).nu) ((rd aE6 a.1.2.2.2.2.1 a.2.2.2.1).to) ((rd aE6 a.1.2.2.2.2.1 a.2.2.2.1).un) ((rd aE6 a.1.2.2.2.2.1 a.2.2.2.1).sz) b.1.1) a.2.2.2.1).got,())).bind λf=>if !f.1.2.1 then I (((a.1.1,a.1.2.1,a.1.2.2.1,a.1.2.2.2.1,(Bq a.1.2.2.2.2.1 (AK a.2.2.2.1)<|AE.mk ((rd aE6 a.1.2.2.2.2.1 a.2.2.2.1).fr) ((rd aE6 a.1.2.2.2.2.1 a.2.2.2.1).nu) ((rd aE6 a.1.2.2.2.2.1 a.2.2.2.1).to) ((rd aE6 a.1.2.2.2.2.1 a.2.2.2.1).un) ((rd aE6 a.1.2.2.2.2.1 a.2.2.2.1).sz) b.1.1),()),([]:List Frame),()),()) else if U (0<=a.2.2.2.1)&&U (a.2.2.2.1<=((Bq a.1.2.2.2.2.1 (AK a.2.2.2.1)<|AE.mk ((rd aE6 a.1.2.2.2.2.1 a.2.2.2.1).fr) ((rd aE6 a.1.2.2.2.2.1 a.2.2.2.1).nu) ((rd aE6 a.1.2.2.2.2.1 a.2.2.2.1).to) ((rd aE6 a.1.2.2.2.2.1 a.2.2.2.1).un) ((rd aE6 a.1.2.2.2.2.1 a.2.2.2.1).sz) b.1.1).length:Int)) then if Ac (([]:List AE).length+(BR (AK a.2.2.2.1)<|Bq a.1.2.2.2.2.1 (AK a.2.2.2.1)<|AE.mk ((rd aE6 a.1.2.2.2.2.1 a.2.2.2.1).fr) ((rd aE6 a.1.2.2.2.2.1 a.2.2.2.1).nu) ((rd aE6 a.1.2.2.2.2.1 a.2.2.2.1).to) ((rd aE6 a.1.2.2.2.2.1 a.2.2.2.1).un) ((rd aE6 a.1.2.2.2.2.1 a.2.2.2.1).sz) b.1.1).length) then if U (0<=(w64<|a.2.2.2.1+1))&&U ((w64<|a.2.2.2.1+1)<=((Bq a.1.2.2.2.2.1 (AK a.2.2.2.1)<|AE.mk ((rd aE6 a.1.2.2.2.2.1 a.2.2.2.1).fr) ((rd aE6 a.1.2.2.2.2.1 a.2.2.2.1).nu) ((rd aE6 a.1.2.2.2.2.1 a.2.2.2.1).to) ((rd aE6 a.1.2.2.2.2.1 a.2.2.2.1).un) ((rd aE6 a.1.2.2.2.2.1 a.2.2.2.1).sz) b.1.1).length:Int)) then if Ac ((([]:List AE)++(BR (AK a.2.2.2.1)<|Bq a.1.2.2.2.2.1 (AK a.2.2.2.1)<|AE.mk ((rd aE6 a.1.2.2.2.2.1 a.2.2.2.1).fr) ((rd aE6 a.1.2.2.2.2.1 a.2.2.2.1).nu) ((rd aE6 a.1.2.2.2.2.1 a.2.2.2.1).to) ((rd aE6 a.1.2.2.2.2.1 a.2.2.2.1).un) ((rd aE6 a.1.2.2.2.2.1 a.2.2.2.1).sz) b.1.1)).length+(Bp (AK<|w64<|a.2.2.2.1+1)<|Bq a.1.2.2.2.2.1 (AK a.2.2.2.1)<|AE.mk ((rd aE6 a.1.2.2.2.2.1 a.2.2.2.1).fr) ((rd aE6 a.1.2.2.2.2.1 a.2.2.2.1).nu) ((rd aE6 a.1.2.2.2.2.1 a.2.2.2.1).to) ((rd aE6 a.1.2.2.2.2.1 a.2.2.2.1).un) ((rd aE6 a.1.2.2.2.2.1 a.2.2.2.1).sz) b.1.1).length) then(MN ((a.2.1.2.2.2.1,a.2.1.2.2.2.2.1,a.2.1.2.2.2.2.2.1,a.2.1.2.2.2.2.2.2.1,f.1.1,()),())).bind λg=>if U ((B [116,97,107,101,32]).size+g.1.1.size<=4611686018427387904) then(Ns ((a.1.1,a.1.2.1,a.1.2.2.1,a.1.2.2.2.1,((([]:List AE)++(BR (AK a.2.2.2.1)<|Bq a.1.2.2.2.2.1 (AK a.2.2.2.1)<|AE.mk ((rd aE6 a.1.2.2.2.2.1 a.2.2.2.1).fr) ((rd aE6 a.1.2.2.2.2.1 a.2.2.2.1).nu) ((rd aE6 a.1.2.2.2.2.1 a.2.2.2.1).to) ((rd aE6 a.1.2.2.2.2.1 a.2.2.2.1).un) ((rd aE6 a.1.2.2.2.2.1 a.2.2.2.1).sz) b.1.1))++(Bp (AK<|w64<|a.2.2.2.1+1)<|Bq a.1.2.2.2.2.1 (AK a.2.2.2.1)<|AE.mk ((rd aE6 a.1.2.2.2.2.1 a.2.2.2.1).fr) ((rd aE6 a.1.2.2.2.2.1 a.2.2.2.1).nu) ((rd aE6 a.1.2.2.2.2.1 a.2.2.2.1).to) ((rd aE6 a.1.2.2.2.2.1 a.2.2.2.1).un) ((rd aE6 a.1.2.2.2.2.1 a.2.2.2.1).sz) b.1.1)),()),((B [116,97,107,101,32])++g.1.1),())).bind λh=>if !h.1.2.1 then let o:=((([]:List AE)++(BR (AK a.2.2.2.1)<|Bq a.1.2.2.2.2.1 (AK a.2.2.2.1)<|AE.mk ((rd aE6 a.1.2.2.2.2.1 a.2.2.2.1).fr) ((rd aE6 a.1.2.2.2.2.1 a.2.2.2.1).nu) ((rd aE6 a.1.2.2.2.2.1 a.2.2.2.1).to) ((rd aE6 a.1.2.2.2.2.1 a.2.2.2.1).un) ((rd aE6 a.1.2.2.2.2.1 a.2.2.2.1).sz) b.1.1))++(Bp (AK<|w64<|a.2.2.2.1+1)<|Bq a.1.2.2.2.2.1 (AK a.2.2.2.1)<|AE.mk ((rd aE6 a.1.2.2.2.2.1 a.2.2.2.1).fr) ((rd aE6 a.1.2.2.2.2.1 a.2.2.2.1).nu) ((rd aE6 a.1.2.2.2.2.1 a.2.2.2.1).to) ((rd aE6 a.1.2.2.2.2.1 a.2.2.2.1).un) ((rd aE6 a.1.2.2.2.2.1 a.2.2.2.1).sz) b.1.1));I (((a.1.1,a.1.2.1,a.1.2.2.1,a.1.2.2.2.1,o,()),([]:List Frame),()),()) else(Nn (h.1.1,())).bind λp=>(fT (2,a.2.1,())).bind λq=>I ((p.1.1,q.1),()) else G else G else G else G else G else G)<|(if U (e.1.1<0) then if Ac (x.1.2.2.2.2.1.length+([(AE.mk x.2.1.2.2.2.1 x.2.1.2.2.2.2.1 x.2.1.2.2.2.2.2.1 x.2.1.2.2.2.2.2.2.1 x.2.1.2.2.2.2.2.2.2.1 ([]:List AN))]:List AE).length) then if U (3<((x.1.2.2.2.2.1++([(AE.mk x.2.1.2.2.2.1 x.2.1.2.2.2.2.1 x.2.1.2.2.2.2.2.1 x.2.1.2.2.2.2.2.2.1 x.2.1.2.2.2.2.2.2.2.1 ([]:List AN))]:List AE)).length:Int)) then if U (0<=1)&&U (1<=((x.1.2.2.2.2.1++([(AE.mk x.2.1.2.2.2.1 x.2.1.2.2.2.2.1 x.2.1.2.2.2.2.2.1 x.2.1.2.2.2.2.2.2.1 x.2.1.2.2.2.2.2.2.2.1 ([]:List AN))]:List AE)).length:Int)) then let r:=(w64<|((Bp (AK 1)<|x.1.2.2.2.2.1++([(AE.mk x.2.1.2.2.2.1 x.2.1.2.2.2.2.1 x.2.1.2.2.2.2.2.1 x.2.1.2.2.2.2.2.2.1 x.2.1.2.2.2.2.2.2.2.1 ([]:List AN))]:List AE)).length:Int) - 1);I (.inr ((x.1.1,x.1.2.1,x.1.2.2.1,x.1.2.2.2.1,(Bp (AK 1)<|x.1.2.2.2.2.1++([(AE.mk x.2.1.2.2.2.1 x.2.1.2.2.2.2.1 x.2.1.2.2.2.2.2.1 x.2.1.2.2.2.2.2.2.1 x.2.1.2.2.2.2.2.2.2.1 ([]:List AN))]:List AE)),()),x.2.1,(0,A0,noB,0,([]:List AE),()),r,())) else G else let s:=(w64<|((x.1.2.2.2.2.1++([(AE.mk x.2.1.2.2.2.1 x.2.1.2.2.2.2.1 x.2.1.2.2.2.2.2.1 x.2.1.2.2.2.2.2.2.1 x.2.1.2.2.2.2.2.2.2.1 ([]:List AN))]:List AE)).length:Int) - 1);I (.inr ((x.1.1,x.1.2.1,x.1.2.2.1,x.1.2.2.2.1,(x.1.2.2.2.2.1++([(AE.mk x.2.1.2.2.2.1 x.2.1.2.2.2.2.1 x.2.1.2.2.2.2.2.1 x.2.1.2.2.2.2.2.2.1 x.2.1.2.2.2.2.2.2.2.1 ([]:List AN))]:List AE)),()),x.2.1,(0,A0,noB,0,([]:List AE),()),s,())) else G else I (.inr (x.1,x.2.1,(0,A0,noB,0,([]:List AE),()),e.1)))))) else G)
def wC:Ent:=(147,G,⟨[Z1,Z13],[Z12,.fz .frame],Uv⟩)
def aef:y8 wC:=sk (v:=t1<|t1<|t1<|t1<|.join [(2,Z20),(3,Z14),(4,Z20),(7,j6)] .nil .nil) (fn:=f147) ajg kN
def agF:Cx:=cX [KQ,Jc,Np,LP,ft,wC,WV,cr] [] [(70,77)]
def ahc:y9 agF:=aE1<|gC LH<|gC KK<|gC PE<|gC MH<|gC su<|gC aef<|gC sF<|gC pS<|AI
def RF(x:Y1×Y6×D):Option ((Y1×List Frame×D)×D):=(Ho (x.1,())).bind λf=>if !f.1.1 then I (((0,A0,noB,0,([]:List AE),()),([]:List Frame),()),()) else(Hi (x.1,())).bind λa=>if !x.1.2.1 then I ((a.1.1,([]:List Frame),()),()) else(VW x.2).bind λg=>if !g.1.1 then I ((a.1.1,([]:List Frame),()),()) else if !decide (x.2.1.2.2.1=x.1.1) then I ((a.1.1,([]:List Frame),()),()) else if U (x.2.1.1=1) then(Uv (a.1.1,x.2)).bind λe=>(Hi (e.1.1,())).bind λh=>I ((h.1.1,e.1.2),()) else if U (x.2.1.1=2) then(Gk (x.1,())).bind λb=>(IQ (b.1.1.2.2.2.1,x.2.1.2.2.2.1,x.2.1.2.2.2.2.1,())).bind λc=>(BT (X:=Y6×Y1×Y1×Bool×D) (λd=>if d.2.2.2.1 then(PI ((B [108,101,116]),d.1.2.2.2.1,d.1.2.2.2.2.1,d.1.2.2.2.2.2.2.1,())).bind λi=>(Ns (d.2.2.1,i.1)).bind λj=>I ((j.1.1,([]:List Frame),()),()) else I ((d.2.2.1,([]:List Frame),()),()))<|(if U (0<=c.1.1) then if inb c.1.1 b.1.1.2.2.2.1.length then if Al (U<|(rd aE3 b.1.1.2.2.2.1 c.1.1).to=x.2.1.2.2.2.2.2.1) (inb c.1.1 b.1.1.2.2.2.1.length) then I (.inr (x.2.1,(0,A0,noB,0,([]:List AE),()),a.1.1,((U<|(rd aE3 b.1.1.2.2.2.1 c.1.1).to=x.2.1.2.2.2.2.2.1)&&(U<|(rd aE3 b.1.1.2.2.2.1 c.1.1).un=x.2.1.2.2.2.2.2.2.1)),())) else G else G else if Al A0 (inb c.1.1 b.1.1.2.2.2.1.length) then I (.inr (x.2.1,(0,A0,noB,0,([]:List AE),()),a.1.1,A0,())) else G)) else I ((a.1.1,([]:List Frame),()),())
def uT:Ent:=(106,G,⟨[Z12,Z13],[Z12,.fz .frame],RF⟩)
def aeO:y8 uT:=sk (v:=t1<|t1<|t1<|t1<|.two (t1<|.one<|t1<|t1<|t1<|.two (t1<|t1<|.join [(3,Z14),(4,Z20),(6,Z20),(78,.bool)] .nil .nil) .nil) .nil) (fn:=f106) ahc kN
def apL:Cx:=cX [rj] [] []
def aAW:y9 apL:=aE1<|gC adB<|AI
def ff(x:Y2×List Frame×aE2):Rnd (Y2×List Frame×aE2) D (Y2×D):=if U (x.2.2.2.1<x.2.2.1) then if inb x.2.2.2.1 x.2.1.length then let d:=(rd aFg x.2.1 x.2.2.2.1).ki;let a:=(rd aFg x.2.1 x.2.2.2.1).src;let b:=(rd aFg x.2.1 x.2.2.2.1).dst;let e:=(rd aFg x.2.1 x.2.2.2.1).fr;let f:=(rd aFg x.2.1 x.2.2.2.1).nu;let g:=(rd aFg x.2.1 x.2.2.2.1).to;let h:=(rd aFg x.2.1 x.2.2.2.1).un;let i:=(rd aFg x.2.1 x.2.2.2.1).sz;let j:=(rd aFg x.2.1 x.2.2.2.1).mix;let k:=(rd aFg x.2.1 x.2.2.2.1).da;if U ((j8 x.1.2.2.2.1:Int)<30) then(PK ((d,a,b,e,f,g,h,i,j,k,()),())).bind λc=>if Ac (x.1.2.2.2.1.length+([(AL.mk a b (BH c.1.1) A0)]:List AL).length) then I (.inl ((x.1.1,x.1.2.1,x.1.2.2.1,(x.1.2.2.2.1++([(AL.mk a b (BH c.1.1) A0)]:List AL)),x.1.2.2.2.2),x.2.1,x.2.2.1,(w64<|x.2.2.2.1+1),())) else G else I (.inl (x.1,x.2.1,x.2.2.1,(w64<|x.2.2.2.1+1),())) else G else I (.inr<|.inr (x.1,()))
def dE:=AW ff
def zh:Loop:=⟨[(0,Z2),(6,.sl .frame),(7,j6),(8,j6)],[(0,Z2)],0,[],dE⟩
def apB:LF f107 [0] [1,0,0] zh:=sq (v:= .nil) aAW (b:=ff) kN
def Nr(x:Y2×List Frame×D):Option (D×Y2×D):=(AO (dE (x.1,x.2.1,(j8 x.2.1:Int),0,())) (λ_=>G) λa=>I ((),a))
def iz:Ent:=(107,G,⟨[Z2,.fz .frame],[],Nr⟩)
def xT:y8 iz:=sk (v:=t1<|.one<|.loop zh) (fn:=f107) aAW<|kC apB kN
def aij:Cx:=cX [FE,wB,sf,uT,iz] [] [(137,141)]
def aki:y9 aij:=aE1<|gC FU<|gC aee<|gC ae9<|gC aeO<|gC xT<|AI
def Re(x:Y2×Y6×D):Option ((Bool×D)×Y2×D):=(C5 (x.2.1.2.2.2.2.1,0,(w64<|(j8 x.1.2.2.2.1:Int) - 1),())).bind λj=>if !j.1.1 then I ((A0,()),(x.1,())) else if inb x.2.1.2.2.2.2.1 x.1.2.2.2.1.length then let d:=(rd aFa x.1.2.2.2.1 x.2.1.2.2.2.2.1).src;let e:=(rd aFa x.1.2.2.2.1 x.2.1.2.2.2.2.1).dst;let b:=(rd aFa x.1.2.2.2.1 x.2.1.2.2.2.2.1).data;let i:=(rd aFa x.1.2.2.2.1 x.2.1.2.2.2.2.1).sp;if U (x.2.1.1=5) then(Uu (x.1.2.2.2.1,x.2.1.2.2.2.2.1,())).bind λk=>I ((Y,()),((x.1.1,x.1.2.1,x.1.2.2.1,k.1.1,x.1.2.2.2.2),())) else if U (x.2.1.1=6) then(C5 (x.2.1.2.2.2.2.2.1,0,(w64<|(b.size:Int) - 1),())).bind λl=>if !l.1.1 then I ((A0,()),(x.1,())) else if i then I ((A0,()),(x.1,())) else(C5 (x.2.1.2.2.2.2.2.2.1,1,255,())).bind λm=>if !m.1.1 then I ((A0,()),(x.1,())) else if Ac b.size then if inb x.2.1.2.2.2.2.2.1 ((BA b).length) then if inb x.2.1.2.2.2.2.2.1 ((BA b).length) then let n:=(Dt .u8 (rd aFd (BA b) x.2.1.2.2.2.2.2.1)<|w8 x.2.1.2.2.2.2.2.2.1);(if inb x.2.1.2.2.2.2.1 x.1.2.2.2.1.length then let g:=(BH<|Bq (BA b) (AK x.2.1.2.2.2.2.2.1) n);(if inb x.2.1.2.2.2.2.1 ((Bq x.1.2.2.2.1 (AK x.2.1.2.2.2.2.1)<|AL.mk ((rd aFa x.1.2.2.2.1 x.2.1.2.2.2.2.1).src) ((rd aFa x.1.2.2.2.1 x.2.1.2.2.2.2.1).dst) g<|(rd aFa x.1.2.2.2.1 x.2.1.2.2.2.2.1).sp).length) then I ((Y,()),((x.1.1,x.1.2.1,x.1.2.2.1,(Bq (Bq x.1.2.2.2.1 (AK x.2.1.2.2.2.2.1)<|AL.mk ((rd aFa x.1.2.2.2.1 x.2.1.2.2.2.2.1).src) ((rd aFa x.1.2.2.2.1 x.2.1.2.2.2.2.1).dst) g<|(rd aFa x.1.2.2.2.1 x.2.1.2.2.2.2.1).sp) (AK x.2.1.2.2.2.2.1)<|AL.mk ((rd aFa (Bq x.1.2.2.2.1 (AK x.2.1.2.2.2.2.1)<|AL.mk ((rd aFa x.1.2.2.2.1 x.2.1.2.2.2.2.1).src) ((rd aFa x.1.2.2.2.1 x.2.1.2.2.2.2.1).dst) g<|(rd aFa x.1.2.2.2.1 x.2.1.2.2.2.2.1).sp) x.2.1.2.2.2.2.1).src) ((rd aFa (Bq x.1.2.2.2.1 (AK x.2.1.2.2.2.2.1)<|AL.mk ((rd aFa x.1.2.2.2.1 x.2.1.2.2.2.2.1).src) ((rd aFa x.1.2.2.2.1 x.2.1.2.2.2.2.1).dst) g<|(rd aFa x.1.2.2.2.1 x.2.1.2.2.2.2.1).sp) x.2.1.2.2.2.2.1).dst) ((rd aFa (Bq x.1.2.2.2.1 (AK x.2.1.2.2.2.2.1)<|AL.mk ((rd aFa x.1.2.2.2.1 x.2.1.2.2.2.2.1).src) ((rd aFa x.1.2.2.2.1 x.2.1.2.2.2.2.1).dst) g<|(rd aFa x.1.2.2.2.1 x.2.1.2.2.2.2.1).sp) x.2.1.2.2.2.2.1).data) Y),x.1.2.2.2.2),())) else G) else G) else G else G else G else if U (x.2.1.1=4) then if inb (if e<d then e else d) x.1.2.2.1.length then if !(rd aFj x.1.2.2.1<|if e<d then e else d) then I ((A0,()),(x.1,())) else(BT (X:=Y2×Y12×D) (λc=>if Ac c.2.1.2.2.1.size then(bQ ((BA c.2.1.2.2.1),())).bind λh=>(BT (X:=Y2×Y12×Y6×Bool×D) (λa=>if a.2.2.2.1 then if inb a.2.1.2.1 a.1.2.1.length then(RF (((rd aE5 a.1.2.1 a.2.1.2.1).id,(rd aE5 a.1.2.1 a.2.1.2.1).up,(rd aE5 a.1.2.1 a.2.1.2.1).log,(rd aE5 a.1.2.1 a.2.1.2.1).fo,(rd aE5 a.1.2.1 a.2.1.2.1).AH,()),a.2.2.1,())).bind λf=>if inb a.2.1.2.1 a.1.2.1.length then(Nr ((a.1.1,(Bq a.1.2.1 (AK a.2.1.2.1)<|A7.mk f.1.1.1 f.1.1.2.1 f.1.1.2.2.1 f.1.1.2.2.2.1 f.1.1.2.2.2.2.1),a.1.2.2),f.1.2)).bind λo=>I ((Y,()),o.2) else G else G else I ((Y,()),(a.1,())))<|(if h.1.2.1 then I (.inr (c.1,c.2.1,h.1.1,((U<|h.1.1.2.1=c.2.1.1)&&(U<|h.1.1.2.2.1=c.2.1.2.1)),())) else I (.inr (c.1,c.2.1,h.1.1,A0,())))) else G)<|(if U (x.2.1.2.2.2.2.2.2.1=0) then(Uu (x.1.2.2.2.1,x.2.1.2.2.2.2.1,())).bind λp=>I (.inr ((x.1.1,x.1.2.1,x.1.2.2.1,p.1.1,x.1.2.2.2.2),(d,e,b,i,()),())) else I (.inr (x.1,(d,e,b,i,()),())))) else G else I ((Y,()),(x.1,())) else G
def wM:Ent:=(68,G,⟨[Z2,Z13],[.bool],Re⟩)
def afC:y8 wM:=sk (v:=t1<|t1<|t1<|.two (t1<|.one<|t1<|t1<|t1<|t1<|t1<|.two (t1<|.join [(0,Z2),(5,Z33)] .nil<|t1<|.join [(0,Z2),(5,Z33),(7,Z14),(142,.bool)] .nil .nil) .nil) .nil) (fn:=f68) aki kN
def aks:Cx:=cX [LP,WV,fX] [] []
def anG:y9 aks:=aE1<|gC MH<|gC sF<|gC qy<|AI
def Nd(x:Y1×A1×D):Option ((Y1×Bool×D)×D):=(Ns x).bind λa=>if !a.1.2.1 then(Hi (x.1,())).bind λb=>I ((b.1.1,A0,()),()) else(Nn (a.1.1,())).bind λc=>(Hi c.1).bind λd=>I ((d.1.1,Y,()),())
def ez:Ent:=(150,G,⟨[Z12,.str],[Z1,.bool],Nd⟩)
def qJ:y8 ez:=sk (v:= .nil) (fn:=f150) anG kN
def ahh:Cx:=cX [KQ,Jc,LP,ez,Ur] [] []
def ajj:y9 ahh:=aE1<|gC LH<|gC KK<|gC MH<|gC qJ<|gC ay<|AI
def Uy(x:Y1×Int×Int×A1×D):Option ((Y1×v7)×D):=(Ho (x.1,())).bind λd=>if !d.1.1 then I (((0,A0,noB,0,([]:List AE),()),0,()),()) else if !x.1.2.1 then(Hi (x.1,())).bind λe=>I ((e.1.1,0,()),()) else(Gk (x.1,())).bind λb=>(MN ((x.1.1,b.1.1.2.2.1,x.2),())).bind λc=>if U ((B [111,119,110,32]).size+c.1.1.size<=4611686018427387904) then(Nd (x.1,((B [111,119,110,32])++c.1.1),())).bind λa=>if !a.1.2.1 then I ((a.1.1,0,()),()) else I ((a.1.1,b.1.1.2.2.1,()),()) else G
def vV:Ent:=(108,G,⟨[Z12,j6,j6,.str],[Z1,j6],Uy⟩)
def aeY:y8 vV:=sk (v:= .nil) (fn:=f108) ajj kN
def agC:Cx:=cX [KQ,Jc,LP,ez,Rj] [] []
def ahZ:y9 agC:=aE1<|gC LH<|gC KK<|gC MH<|gC qJ<|gC UH<|AI
def Uk(x:Y1×D):Option ((Y1×Bool×D)×D):=(Ho x).bind λb=>if !b.1.1 then I (((0,A0,noB,0,([]:List AE),()),A0,()),()) else if !x.1.2.1 then(Hi x).bind λc=>I ((c.1.1,A0,()),()) else(Gk x).bind λd=>(Iz ((w64<|d.1.1.2.1+1),())).bind λa=>if U ((B [116,105,109,101,32]).size+a.1.1.size<=4611686018427387904) then(Nd (x.1,((B [116,105,109,101,32])++a.1.1),())).bind λe=>I (e.1,()) else G
def uQ:Ent:=(109,G,⟨[Z12],[Z1,.bool],Uk⟩)
def aeL:y8 uQ:=sk (v:= .nil) (fn:=f109) ahZ kN
def anX:Cx:=cX [FE,bC] [] []
def zz:y9 anX:=aE1<|gC FU<|gC pB<|AI
def eW(x:A1×List A1×v7):Rnd (A1×List A1×v7) D (List A1×D):=if U (x.2.2.1<(x.1.size:Int)) then if U (0<=4)&&U (4<=4294967296) then if U (0<=x.2.2.1)&&U (x.2.2.1<=(x.1.size:Int)) then if Ac (x.2.1.length+([(BH<|BR (BS (AK 4)<|dfl .u8).length (BA<|x.1.extract (AK x.2.2.1)<|x.1.size)++Bp (BA<|x.1.extract (AK x.2.2.1)<|x.1.size).length (BS (AK 4)<|dfl .u8))]:List A1).length) then I (.inl (x.1,(x.2.1++([(BH<|BR (BS (AK 4)<|dfl .u8).length (BA<|x.1.extract (AK x.2.2.1)<|x.1.size)++Bp (BA<|x.1.extract (AK x.2.2.1)<|x.1.size).length (BS (AK 4)<|dfl .u8))]:List A1)),(w64<|x.2.2.1+4),())) else G else G else G else I (.inr<|.inr (x.2.1,()))
def rA:=AW eW
def wa:Loop:=⟨[(0,.str),(3,.row 9 .str),(4,j6)],[(3,.row 9 .str)],0,[],rA⟩
def amA:LF f76 [] [1,1,1,0,1,0,0] wa:=sq (v:= .nil) zz (b:=eW) kN
def Vp(x:A1×D):Option ((List A1×D)×D):=(C5 ((x.1.size:Int),1,24,())).bind λa=>if !a.1.1 then I ((([]:List A1),()),()) else(AO (rA (x.1,([]:List A1),0,())) (λ_=>G) λb=>(R9 b).bind λc=>I (c.1,()))
def gb:Ent:=(76,G,⟨[.str],[.row 9 .str],Vp⟩)
def uB:y8 gb:=sk (v:=t1<|t1<|t1<|.two (t1<|.one<|.loop wa) .nil) (fn:=f76) zz<|kC amA kN
def al0:Cx:=cX [gb,ie,ia] [] []
def yV:y9 al0:=aE1<|gC uB<|gC vl<|gC uz<|AI
def V3(x:List A1×A1×List Int×aE2):Rnd (List A1×A1×List Int×aE2) D (A1×D):=if U (x.2.2.2.2.1<x.2.2.2.1) then if inb x.2.2.2.2.1 x.2.2.1.length then let a:=(rd aE8 x.2.2.1 x.2.2.2.2.1);(if U (x.2.2.2.2.1=0) then if inb a x.1.length then I (.inl (x.1,(rd aFf x.1 a),x.2.2.1,x.2.2.2.1,(w64<|x.2.2.2.2.1+1),())) else G else if inb a x.1.length then(W1 (x.2.1,(rd aFf x.1 a),())).bind λb=>I (.inl (x.1,b.1.1,x.2.2.1,x.2.2.2.1,(w64<|x.2.2.2.2.1+1),())) else G) else G else I (.inr<|.inr (x.2.1,()))
def UR:=AW V3
def vm:Loop:=⟨[(5,.row 9 .str),(6,.str),(14,.row 3 .int),(15,j6),(16,j6)],[(6,.str)],0,[],UR⟩
def ajp:LF f153 [] [1,1,1,0,1,0,0] vm:=sq (v:= .nil) yV (b:=V3) kN
def eV(x:A1×v7):Option ((A1×D)×D):=(Vp (x.1,())).bind λa=>(W0 ((j8 a.1.1:Int),x.2)).bind λb=>(AO (UR (a.1.1,noB,b.1.1,(j8 b.1.1:Int),0,())) (λ_=>G) λc=>I (c,()))
def yc:Ent:=(153,G,⟨[.str,j6],[.str],eV⟩)
def aga:y8 yc:=sk (v:=t1<|t1<|t1<|.two (t1<|.one<|.loop vm) .nil) (fn:=f153) yV<|kC ajp kN
def ahi:Cx:=cX [KQ,Jc,dO,Np,FE,yc] [] []
def ajI:y9 ahi:=aE1<|gC LH<|gC KK<|gC pn<|gC PE<|gC FU<|gC aga<|AI
def Uz(x:Y1×aE7):Option ((Y6×Bool×D)×D):=(Ho (x.1,())).bind λe=>if !e.1.1 then I (((0,0,0,0,0,0,0,0,0,noB,()),A0,()),()) else if !x.1.2.1 then I (((0,0,0,0,0,0,0,0,0,noB,()),A0,()),()) else(C5 (x.2.2.2.1,0,999,())).bind λf=>if !f.1.1 then I (((0,0,0,0,0,0,0,0,0,noB,()),A0,()),()) else(Gk (x.1,())).bind λa=>(IQ (a.1.1.2.2.2.1,x.2.1,x.2.2.1,())).bind λb=>if U (b.1.1<0) then I (((0,0,0,0,0,0,0,0,0,noB,()),A0,()),()) else if inb b.1.1 a.1.1.2.2.2.1.length then let g:=(rd aE3 a.1.1.2.2.2.1 b.1.1).fr;let h:=(rd aE3 a.1.1.2.2.2.1 b.1.1).nu;let c:=(rd aE3 a.1.1.2.2.2.1 b.1.1).to;let i:=(rd aE3 a.1.1.2.2.2.1 b.1.1).un;let d:=(rd aE3 a.1.1.2.2.2.1 b.1.1).tx;(Iv (x.1.1,c,())).bind λj=>(eV (d,x.2.2.2)).bind λk=>I (((1,x.1.1,j.1.1,g,h,c,i,(d.size:Int),x.2.2.2.1,k.1),Y,()),()) else G
def vW:Ent:=(110,G,⟨[Z12,j6,j6,j6],[Z13,.bool],Uz⟩)
def aeZ:y8 vW:=sk (v:= .nil) (fn:=f110) ajI kN
def aiG:Cx:=cX [Rl,ct] [] []
def ajh:y9 aiG:=aE1<|gC UO<|gC pU<|AI
def cE(x:Y7×v7):Option ((Y7×D)×D):=(Nf (x.1,())).bind λc=>if !c.1.1 then I (((noB,0,()),()),()) else if U (0<=(w64<|x.1.2.1+(if 0<(if(w64<|(x.1.1.size:Int) - x.1.2.1)<x.2.1 then(w64<|(x.1.1.size:Int) - x.1.2.1) else x.2.1) then(if(w64<|(x.1.1.size:Int) - x.1.2.1)<x.2.1 then(w64<|(x.1.1.size:Int) - x.1.2.1) else x.2.1) else 0)))&&U ((w64<|x.1.2.1+(if 0<(if(w64<|(x.1.1.size:Int) - x.1.2.1)<x.2.1 then(w64<|(x.1.1.size:Int) - x.1.2.1) else x.2.1) then(if(w64<|(x.1.1.size:Int) - x.1.2.1)<x.2.1 then(w64<|(x.1.1.size:Int) - x.1.2.1) else x.2.1) else 0))<=(x.1.1.size:Int)) then let b:=(x.1.1.extract (0)<|AK<|w64<|x.1.2.1+(if 0<(if(w64<|(x.1.1.size:Int) - x.1.2.1)<x.2.1 then(w64<|(x.1.1.size:Int) - x.1.2.1) else x.2.1) then(if(w64<|(x.1.1.size:Int) - x.1.2.1)<x.2.1 then(w64<|(x.1.1.size:Int) - x.1.2.1) else x.2.1) else 0));(PJ (b,())).bind λa=>if U (0<=a.1.2.1)&&U (a.1.2.1<=(b.size:Int)) then let d:=(b.extract (0)<|AK a.1.2.1);I (((d,a.1.2),()),()) else G else G
def wE:Ent:=(154,G,⟨[Z15,j6],[Z15],cE⟩)
def aej:y8 wE:=sk (v:= .nil) (fn:=f154) ajh kN
def agG:Cx:=cX [Jc,wE] [] []
def ahd:y9 agG:=aE1<|gC KK<|gC aej<|AI
def Un(x:Y1×v7):Option ((Y1×D)×D):=(Ho (x.1,())).bind λb=>if !b.1.1 then I (((0,A0,noB,0,([]:List AE),()),()),()) else(cE ((x.1.2.2.1,x.1.2.2.2.1,()),x.2)).bind λa=>I (((x.1.1,A0,a.1.1.1,a.1.1.2.1,([]:List AE),()),()),())
def uU:Ent:=(111,G,⟨[Z12,j6],[Z1],Un⟩)
def aeP:y8 uU:=sk (v:= .nil) (fn:=f111) ahd kN
def agD:Cx:=cX [Jc,LP] [] []
def aha:y9 agD:=aE1<|gC KK<|gC MH<|AI
def Ul(x:Y1×D):Option ((Y1×D)×D):=(Ho x).bind λb=>if !b.1.1 then I (((0,A0,noB,0,([]:List AE),()),()),()) else(Hi x).bind λa=>I (((a.1.1.1,Y,a.1.1.2.2),()),())
def uR:Ent:=(112,G,⟨[Z12],[Z1],Ul⟩)
def aeM:y8 uR:=sk (v:= .nil) (fn:=f112) aha kN
def ahk:Cx:=cX [KQ,Jc,Np,LP,cr,ez] [] [(29,30)]
def ajK:y9 ahk:=aE1<|gC LH<|gC KK<|gC PE<|gC MH<|gC pS<|gC qJ<|AI
def Uo(x:Y1×aE2):Option ((Y1×Y4×Bool×D)×D):=(Ho (x.1,())).bind λd=>if !d.1.1 then I (((0,A0,noB,0,([]:List AE),()),(0,0,0,0,noB,()),A0,()),()) else(Gk (x.1,())).bind λa=>(IQ (a.1.1.2.2.2.2.2.1,x.2)).bind λb=>if(!x.1.2.1)||(U<|b.1.1<0) then(Hi (x.1,())).bind λe=>I ((e.1.1,(0,0,0,0,noB,()),A0,()),()) else if inb b.1.1 a.1.1.2.2.2.2.2.1.length then(PI ((B [101,97,116]),x.2.1,x.2.2.1,(rd aE3 a.1.1.2.2.2.2.2.1 b.1.1).un,())).bind λf=>(Nd (x.1,f.1)).bind λc=>if !c.1.2.1 then I ((c.1.1,(0,0,0,0,noB,()),A0,()),()) else if inb b.1.1 a.1.1.2.2.2.2.2.1.length then let g:=(rd aE3 a.1.1.2.2.2.2.2.1 b.1.1).fr;let h:=(rd aE3 a.1.1.2.2.2.2.2.1 b.1.1).nu;let i:=(rd aE3 a.1.1.2.2.2.2.2.1 b.1.1).to;let j:=(rd aE3 a.1.1.2.2.2.2.2.1 b.1.1).un;let k:=(rd aE3 a.1.1.2.2.2.2.2.1 b.1.1).tx;I ((c.1.1,(g,h,i,j,k,()),Y,()),()) else G else G
def vX:Ent:=(113,G,⟨[Z12,j6,j6],[Z1,Z6,.bool],Uo⟩)
def aea:y8 vX:=sk (v:= .nil) (fn:=f113) ajK kN
def agE:Cx:=cX [KQ,Jc,LP,rh,sV] [] []
def ahb:y9 agE:=aE1<|gC LH<|gC KK<|gC MH<|gC adA<|gC adb<|AI
def Um(x:Y1×D):Option ((Y1×Bool×D)×D):=(Ho x).bind λc=>if !c.1.1 then I (((0,A0,noB,0,([]:List AE),()),A0,()),()) else(Hi x).bind λa=>if !x.1.2.1 then I ((a.1.1,A0,()),()) else(Gk x).bind λd=>(V4 d.1).bind λe=>(RR ((x.1.2.2.1,x.1.2.2.2.1,()),e.1)).bind λb=>I (((a.1.1.1,a.1.1.2.1,b.1.1.1,b.1.1.2.1,a.1.1.2.2.2.2),b.1.2),())
def uS:Ent:=(114,G,⟨[Z12],[Z1,.bool],Um⟩)
def aeN:y8 uS:=sk (v:= .nil) (fn:=f114) ahb kN
def afU:Cx:=cX [Jc,LP,fX] [] [(15,22)]
def afy:y9 afU:=aE1<|gC KK<|gC MH<|gC qy<|AI
def US(x:Y1×D):Option ((Y1×Bool×D)×D):=(Ho x).bind λb=>if !b.1.1 then I (((0,A0,noB,0,([]:List AE),()),A0,()),()) else(Hi x).bind λa=>if(!x.1.2.1)||(U<|x.1.2.2.2.1=(x.1.2.2.1.size:Int)) then I ((a.1.1,A0,()),()) else(Nn a.1).bind λc=>I ((c.1.1,Y,()),())
def sd:Ent:=(115,G,⟨[Z12],[Z12,.bool],US⟩)
def ae8:y8 sd:=sk (v:= .nil) (fn:=f115) afy kN
def anS:Cx:=cX [Iy,iz,vV,uQ,vW,uU,uR,vX,uS,sd] [] []
def aot:y9 anS:=aE1<|gC JY<|gC xT<|gC aeY<|gC aeL<|gC aeZ<|gC aeP<|gC aeM<|gC aea<|gC aeN<|gC ae8<|AI
def Ru(x:Y2×Y6×D):Option ((Bool×D)×Y2×D):=(FT (x.2.1.2.1,())).bind λj=>if !j.1.1 then I ((A0,()),(x.1,())) else if inb x.2.1.2.1 x.1.2.1.length then let e:=(rd aE5 x.1.2.1 x.2.1.2.1).id;let a:=(rd aE5 x.1.2.1 x.2.1.2.1).up;let f:=(rd aE5 x.1.2.1 x.2.1.2.1).log;let g:=(rd aE5 x.1.2.1 x.2.1.2.1).fo;let h:=(rd aE5 x.1.2.1 x.2.1.2.1).AH;(BT (X:=Y2×Y6×Y1×Bool×D) (λc=>if inb c.2.1.2.1 c.1.2.1.length then I (c.2.2.2,((c.1.1,(Bq c.1.2.1 (AK c.2.1.2.1)<|A7.mk c.2.2.1.1 c.2.2.1.2.1 c.2.2.1.2.2.1 c.2.2.1.2.2.2.1 c.2.2.1.2.2.2.2.1),c.1.2.2),())) else G)<|(if U (x.2.1.1=1) then if U (6<=(j8 x.1.2.2.2.2.1:Int)) then I (.inl ((A0,()),(x.1,()))) else(Uy ((e,a,f,g,h,()),x.2.1.2.2.2.2.2.2.2)).bind λi=>if U (i.1.2.1=0) then I (.inl ((A0,()),(x.1,()))) else if Ac (x.1.2.2.2.2.1.length+([(A3.mk x.2.1.2.1 i.1.2.1 x.2.1.2.2.2.2.2.2.2.1 x.2.1.2.2.2.2.2.2.2.2.1 x.2.1.2.2.2.2.2.2.2.2.2.1)]:List A3).length) then I (.inr ((x.1.1,x.1.2.1,x.1.2.2.1,x.1.2.2.2.1,(x.1.2.2.2.2.1++([(A3.mk x.2.1.2.1 i.1.2.1 x.2.1.2.2.2.2.2.2.2.1 x.2.1.2.2.2.2.2.2.2.2.1 x.2.1.2.2.2.2.2.2.2.2.2.1)]:List A3)),x.1.2.2.2.2.2),x.2.1,i.1.1,Y,())) else G else if U (x.2.1.1=2) then(Uk ((e,a,f,g,h,()),())).bind λk=>I (.inr (x.1,x.2.1,k.1)) else if U (x.2.1.1=3) then(Uz ((e,a,f,g,h,()),x.2.1.2.2.1,x.2.1.2.2.2.1,x.2.1.2.2.2.2.2.1,())).bind λb=>if b.1.2.1 then(Nr (x.1,([(Frame.mk b.1.1.1 b.1.1.2.1 b.1.1.2.2.1 b.1.1.2.2.2.1 b.1.1.2.2.2.2.1 b.1.1.2.2.2.2.2.1 b.1.1.2.2.2.2.2.2.1 b.1.1.2.2.2.2.2.2.2.1 b.1.1.2.2.2.2.2.2.2.2.1 b.1.1.2.2.2.2.2.2.2.2.2.1)]:List Frame),())).bind λl=>I (.inr (l.2.1,x.2.1,(e,a,f,g,h,()),b.1.2)) else I (.inr (x.1,x.2.1,(e,a,f,g,h,()),b.1.2)) else if U (x.2.1.1=7) then(Un ((e,a,f,g,h,()),x.2.1.2.2.2.2.2.2.1,())).bind λm=>I (.inr (x.1,x.2.1,m.1.1,a,())) else if U (x.2.1.1=8) then(Ul ((e,a,f,g,h,()),())).bind λn=>I (.inr (x.1,x.2.1,n.1.1,(!a),())) else if U (x.2.1.1=11) then if U (6<=(j8 x.1.2.2.2.2.2.1:Int)) then I (.inl ((A0,()),(x.1,()))) else(Uo ((e,a,f,g,h,()),x.2.1.2.2.1,x.2.1.2.2.2.1,())).bind λd=>if !d.1.2.2.1 then I (.inl ((A0,()),(x.1,()))) else if Ac (x.1.2.2.2.2.2.1.length+([(A3.mk d.1.2.1.1 d.1.2.1.2.1 d.1.2.1.2.2.1 d.1.2.1.2.2.2.1 d.1.2.1.2.2.2.2.1)]:List A3).length) then I (.inr ((x.1.1,x.1.2.1,x.1.2.2.1,x.1.2.2.2.1,x.1.2.2.2.2.1,(x.1.2.2.2.2.2.1++([(A3.mk d.1.2.1.1 d.1.2.1.2.1 d.1.2.1.2.2.1 d.1.2.1.2.2.2.1 d.1.2.1.2.2.2.2.1)]:List A3)),()),x.2.1,d.1.1,Y,())) else G else if U (x.2.1.1=12) then(Um ((e,a,f,g,h,()),())).bind λo=>I (.inr (x.1,x.2.1,o.1)) else if U (x.2.1.1=13) then(US ((e,a,f,g,h,()),())).bind λp=>I (.inr (x.1,x.2.1,p.1)) else I (.inr (x.1,x.2.1,(e,a,f,g,h,()),A0,())))) else G
def zO:Ent:=(69,G,⟨[Z2,Z13],[.bool],Ru⟩)
def ah4:y8 zO:=sk (v:=t1<|t1<|t1<|t1<|.join [(0,Z2),(3,Z25),(5,Z34),(6,.bool)] .nil .nil) (fn:=f69) aot kN
def akt:Cx:=cX [cq,zP,wM,zO] [] [(28,30)]
def anH:y9 akt:=aE1<|gC pR<|gC ah5<|gC afC<|gC ah4<|AI
def Hn(x:Y2×Y6×D):Option ((Y2×Bool×D)×D):=(JZ (x.1,())).bind λc=>(BT (X:=Y2×Y2×Y2×Bool×D) (λb=>if(!b.2.2.2.1)||(U<|b.1.1=99999) then(JZ (b.1,())).bind λm=>I ((m.1.1,A0,()),()) else(JZ (((w64<|b.2.2.1.1+1),b.2.2.1.2),())).bind λn=>I ((n.1.1,Y,()),()))<|(BT (X:=Y2×Y6×Y2×Y2×Int×Bool×D) (λa=>if a.2.2.2.2.2.1 then(fS (a.2.2.2.1,a.2.1,())).bind λd=>I (.inr (a.1,a.2.2.1,d.2.1,d.1)) else let e:=(U<|a.2.2.2.2.1=4);(if e then if e then(Re (a.2.2.2.1,a.2.1,())).bind λf=>I (.inr (a.1,a.2.2.1,f.2.1,f.1)) else(Ru (a.2.2.2.1,a.2.1,())).bind λg=>I (.inr (a.1,a.2.2.1,g.2.1,g.1)) else let h:=(U<|a.2.2.2.2.1=5);(if h then if h then(Re (a.2.2.2.1,a.2.1,())).bind λi=>I (.inr (a.1,a.2.2.1,i.2.1,i.1)) else(Ru (a.2.2.2.1,a.2.1,())).bind λj=>I (.inr (a.1,a.2.2.1,j.2.1,j.1)) else let o:=(U<|a.2.2.2.2.1=6);(if o then(Re (a.2.2.2.1,a.2.1,())).bind λk=>I (.inr (a.1,a.2.2.1,k.2.1,k.1)) else(Ru (a.2.2.2.1,a.2.1,())).bind λl=>I<|.inr (a.1,a.2.2.1,l.2.1,l.1)))))<|(if U (x.2.1.1=9) then I (.inr (x.1,x.2.1,(0,([]:List A7),([]:List Bool),([]:List AL),([]:List A3),([]:List A3),()),c.1.1,x.2.1.1,(U<|x.2.1.1=9),())) else I (.inr (x.1,x.2.1,(0,([]:List A7),([]:List Bool),([]:List AL),([]:List A3),([]:List A3),()),c.1.1,x.2.1.1,(U<|x.2.1.1=10),())))))
def VZ:Ent:=(38,G,⟨[Z30,Z13],[Z3,.bool],Hn⟩)
def bd:y8 VZ:=sk (v:=t1<|t1<|t1<|.join [(2,Z29),(4,Z2),(6,Z2),(7,.bool)] (t1<|.one<|.join [(2,Z29),(3,Z25),(4,Z2),(6,Z2),(11,j6),(14,.bool)] .nil .nil) .nil) (fn:=f38) anH kN
def aiH:Cx:=cX [uP,VZ] [] []
def vf:y9 aiH:=aE1<|gC aeK<|gC bd<|AI
def c8(x:Y2×Y2×List Event×aE2):Rnd (Y2×Y2×List Event×aE2) D (Y2×Y2×D):=if U (x.2.2.2.2.1<x.2.2.2.1) then if inb x.2.2.2.2.1 x.2.2.1.length then let a:=(rd aFi x.2.2.1 x.2.2.2.2.1).ki;let b:=(rd aFi x.2.2.1 x.2.2.2.2.1).at_;let c:=(rd aFi x.2.2.1 x.2.2.2.2.1).fr;let d:=(rd aFi x.2.2.1 x.2.2.2.2.1).nu;let e:=(rd aFi x.2.2.1 x.2.2.2.2.1).wo;let f:=(rd aFi x.2.2.1 x.2.2.2.2.1).mix;let g:=(rd aFi x.2.2.1 x.2.2.2.2.1).kp;let h:=(rd aFi x.2.2.1 x.2.2.2.2.1).to;let i:=(rd aFi x.2.2.1 x.2.2.2.2.1).un;let j:=(rd aFi x.2.2.1 x.2.2.2.2.1).tx;(Hn (x.2.1,(a,b,c,d,e,f,g,h,i,j,()),())).bind λk=>I (.inl (x.1,k.1.1,x.2.2.1,x.2.2.2.1,(w64<|x.2.2.2.2.1+1),())) else G else I (.inr<|.inr (x.1,x.2.1,()))
def ax:=AW c8
def tP:Loop:=⟨[(2,Z2),(3,Z2),(11,.sl .CM),(12,j6),(13,j6)],[(2,Z2),(3,Z2)],0,[],ax⟩
def ahU:LF f15 [] [1,1,1,0,1,0,0] tP:=sq (v:= .nil) vf (b:=c8) kN
def cF(x:List Event×D):Option ((Y2×D)×D):=(bz ()).bind λa=>if U (2000<(j8 x.1:Int)) then I (a.1,()) else(AO (ax ((0,([]:List A7),([]:List Bool),([]:List AL),([]:List A3),([]:List A3),()),a.1.1,x.1,(j8 x.1:Int),0,())) (λ_=>G) λb=>I (b.2,()))
def wF:Ent:=(15,G,⟨[.fz .CM],[Z3],cF⟩)
def aeV:y8 wF:=sk (v:=t1<|t1<|t1<|.two (t1<|.one<|.loop tP) .nil) (fn:=f15) vf<|kC ahU kN
def anl:Cx:=cX [Rw] [] []
def aAO:y9 anl:=aE1<|gC Uj<|AI
def fU(x:List A3×List A3×aE2):Rnd (List A3×List A3×aE2) (Bool×D) (List A3×D):=if U (x.2.2.2.1<x.2.2.1) then if inb x.2.2.2.1 x.2.1.length then let a:=(rd aE3 x.2.1 x.2.2.2.1).fr;let b:=(rd aE3 x.2.1 x.2.2.2.1).nu;let c:=(rd aE3 x.2.1 x.2.2.2.1).to;let d:=(rd aE3 x.2.1 x.2.2.2.1).un;let e:=(rd aE3 x.2.1 x.2.2.2.1).tx;(No ((a,b,c,d,e,()),())).bind λf=>if !f.1.1 then I (.inr<|.inl (A0,())) else I (.inl (x.1,x.2.1,x.2.2.1,(w64<|x.2.2.2.1+1),())) else G else I (.inr<|.inr (x.1,()))
def rz:=AW fU
def yU:Loop:=⟨[(0,.sl .note),(5,.sl .note),(6,j6),(7,j6)],[(0,.sl .note)],0,[(2,.bool)],rz⟩
def ans:LF f61 [] [1,0,1,0,0] yU:=sq (v:= .nil) aAO (b:=fU) kN
def Vz(x:List A3×D):Option ((Bool×D)×D):=(AO (rz (x.1,x.1,(j8 x.1:Int),0,())) (λa=>I (a,())) (λa=>let b:=(U<|(j8 a.1:Int)<=6);I ((b,()),())))
def aAQ:Ent:=(61,G,⟨[.fz .note],[.bool],Vz⟩)
def aj9:y8 aAQ:=sk (v:=t1<|.two (t1<|.one<|.loop yU) .nil) (fn:=f61) aAO<|kC ans kN
def akw:Cx:=cX [Jc,FE,aAQ,Iy] [] [(54,56)]
def gS:y9 akw:=aE1<|gC KK<|gC FU<|gC aj9<|gC JY<|AI
def dL(x:List AL×aE2):Rnd (List AL×aE2) (Bool×D) D:=if U (x.2.2.1<x.2.1) then if inb x.2.2.1 x.1.length then let a:=(rd aFa x.1 x.2.2.1).src;let b:=(rd aFa x.1 x.2.2.1).dst;let c:=(rd aFa x.1 x.2.2.1).data;let f:=(rd aFa x.1 x.2.2.1).sp;(FT (a,())).bind λd=>if !d.1.1 then I (.inr<|.inl (A0,())) else(FT (b,())).bind λe=>if !e.1.1 then I (.inr<|.inl (A0,())) else if !decide ((w64<|a - b)=1) then if !decide ((w64<|b - a)=1) then I (.inr<|.inl (A0,())) else if U (40<(c.size:Int)) then I (.inr<|.inl (A0,())) else I (.inl (x.1,x.2.1,(w64<|x.2.2.1+1),())) else if U (40<(c.size:Int)) then I (.inr<|.inl (A0,())) else I (.inl (x.1,x.2.1,(w64<|x.2.2.1+1),())) else G else I (.inr<|.inr ())
def qP:=AW dL
def uh:Loop:=⟨[(60,.sl .Ak),(61,j6),(62,j6)],[],2,[(2,.bool)],qP⟩
def ajz:LF f31 [] [1,1,1,0,1,0,0] uh:=sq (v:= .nil) gS (b:=dL) kN
def dM(x:Y2×List A7×aE2):Rnd (Y2×List A7×aE2) (Bool×D) (Y2×D):=if U (x.2.2.2.1<x.2.2.1) then if inb x.2.2.2.1 x.2.1.length then let a:=(rd aE5 x.2.1 x.2.2.2.1).id;let b:=(rd aE5 x.2.1 x.2.2.2.1).up;let c:=(rd aE5 x.2.1 x.2.2.2.1).log;let d:=(rd aE5 x.2.1 x.2.2.2.1).fo;let e:=(rd aE5 x.2.1 x.2.2.2.1).AH;if Al (!(!decide (a=x.2.2.2.1))) ((Ho ((a,b,c,d,e,()),())).isSome) then if(!decide (a=x.2.2.2.1))||(!(((Ho ((a,b,c,d,e,()),())).getD ((A0,()),())).1.1)) then I (.inr<|.inl (A0,())) else I (.inl (x.1,x.2.1,x.2.2.1,(w64<|x.2.2.2.1+1),())) else G else G else I (.inr<|.inr (x.1,()))
def qQ:=AW dM
def ui:Loop:=⟨[(1,Z29),(42,.sl .AQ),(43,j6),(44,j6)],[(1,Z29)],0,[(2,.bool)],qQ⟩
def ajm:LF f31 [] [1,1,0,1,0,0] ui:=sq (v:= .nil) gS (b:=dM) kN
def Ng(x:Y2×D):Option ((Bool×D)×D):=(C5 (x.1.1,0,99999,())).bind λc=>if !c.1.1 then I ((A0,()),()) else if !decide ((j8 x.1.2.1:Int)=4) then I ((A0,()),()) else if !decide ((j8 x.1.2.2.1:Int)=3) then I ((A0,()),()) else if U (30<(j8 x.1.2.2.2.1:Int)) then I ((A0,()),()) else(Vz (x.1.2.2.2.2.1,())).bind λd=>if !d.1.1 then I ((A0,()),()) else(Vz x.1.2.2.2.2.2).bind λe=>if !e.1.1 then I ((A0,()),()) else(AO (qQ (x.1,x.1.2.1,(j8 x.1.2.1:Int),0,())) (λa=>I (a,())) λa=>(AO (qP (a.1.2.2.2.1,(j8 a.1.2.2.2.1:Int),0,())) (λb=>I (b,())) λb=>I ((Y,()),())))
def fA:Ent:=(31,G,⟨[Z30],[.bool],Ng⟩)
def qO:y8 fA:=sk (v:=t1<|t1<|.two (t1<|.one<|.loop ui)<|.two (t1<|.one<|.loop uh) .nil) (fn:=f31) gS<|kC ajm<|kC ajz kN
def aiD:Cx:=cX [VZ] [] [(9,12)]
def vd:y9 aiD:=aE1<|gC bd<|AI
def RB(x:Y2×Y2×v7):Rnd (Y2×Y2×v7) D (Y2×Y2×D):=if(U<|x.2.2.1<400)&&(U<|0<(j8 x.1.2.2.2.1:Int)) then(Hn (x.1,(4,0,0,0,0,0,0,0,0,noB,()),())).bind λa=>if !a.1.2.1 then I (.inr<|.inr (x.1,x.2.1,())) else I (.inl (a.1.1,x.2.1,(w64<|x.2.2.1+1),())) else I (.inr<|.inr (x.1,x.2.1,()))
def UF:=AW RB
def tJ:Loop:=⟨[(1,Z35),(2,Z2),(3,j6)],[(1,Z29),(2,Z2)],0,[],UF⟩
def ahR:LF f75 [] [1,0,1,0,0] tJ:=sq (v:= .nil) vd (b:=RB) kN
def RQ(x:Y2×D):Option ((Y2×D)×D):=(AO (UF (x.1,(0,([]:List A7),([]:List Bool),([]:List AL),([]:List A3),([]:List A3),()),0,())) (λ_=>G) λa=>I ((a.1,()),()))
def wD:Ent:=(75,G,⟨[Z30],[Z30],RQ⟩)
def aeg:y8 wD:=sk (v:=t1<|.two (t1<|.one<|.loop tJ) .nil) (fn:=f75) vd<|kC ahR kN
def aoE:Cx:=cX [KQ,VZ,wD,gb] [] []
def W6:y9 aoE:=aE1<|gC LH<|gC bd<|gC aeg<|gC uB<|AI
def fN(x:Y2×Y2×Int×Y4×List A3×Int×aE7):Rnd (Y2×Y2×Int×Y4×List A3×Int×aE7) D (Y2×Y2×Int×List A3×aE2):=if U (x.2.2.2.2.2.2.2.2.1<x.2.2.2.2.2.2.2.1) then(Hn (x.1,(3,x.2.2.1,x.2.2.2.1.1,x.2.2.2.1.2.1,0,x.2.2.2.2.2.2.2.2.1,0,0,0,noB,()),())).bind λaz6=>(RQ (az6.1.1,())).bind λaz5=>I (.inl (az5.1.1,x.2.1,x.2.2.1,x.2.2.2.1,x.2.2.2.2.1,x.2.2.2.2.2.1,x.2.2.2.2.2.2.1,x.2.2.2.2.2.2.2.1,(w64<|x.2.2.2.2.2.2.2.2.1+1),())) else I (.inr<|.inr (x.1,x.2.1,x.2.2.1,x.2.2.2.2.1,x.2.2.2.2.2.1,x.2.2.2.2.2.2.1,()))
def cZ:=AW fN
def yP:Loop:=⟨[(1,Z29),(2,Z2),(4,j6),(6,Z5),(38,.row 36 .note),(39,j6),(40,j6),(47,j6),(48,j6)],[(1,Z29),(2,Z2),(4,j6),(38,.row 36 .note),(39,j6),(40,j6)],6,[],cZ⟩
def aoU:LF f40 [] [1,1,1,0,1,0,0,1,0,0,1,0,0,1,1,0,0,1,1,0,0] yP:=sq (v:= .nil) W6 (b:=fN) kN
def Vl(x:Y2×Y2×Int×List A3×aE2):Rnd (Y2×Y2×Int×List A3×aE2) D (Y2×Y2×v7):=if U (x.2.2.2.2.2.1<x.2.2.2.2.1) then if inb x.2.2.2.2.2.1 x.2.2.2.1.length then let ayv:=(rd aE3 x.2.2.2.1 x.2.2.2.2.2.1).fr;let ayu:=(rd aE3 x.2.2.2.1 x.2.2.2.2.2.1).nu;let ayt:=(rd aE3 x.2.2.2.1 x.2.2.2.2.2.1).to;let b:=(rd aE3 x.2.2.2.1 x.2.2.2.2.2.1).un;let a:=(rd aE3 x.2.2.2.1 x.2.2.2.2.2.1).tx;(Vp (a,())).bind λaz7=>(AO (cZ (x.1,x.2.1,x.2.2.1,(ayv,ayu,ayt,b,a,()),x.2.2.2.1,x.2.2.2.2.1,x.2.2.2.2.2.1,(j8 az7.1.1:Int),0,())) (λ_=>I<|.inr<|.inl ()) λQx=>I<|.inl (Qx.1,Qx.2.1,Qx.2.2.1,Qx.2.2.2.1,Qx.2.2.2.2.1,(w64<|Qx.2.2.2.2.2.1+1),())) else G else I (.inr<|.inr (x.1,x.2.1,x.2.2.1,()))
def cb:=AW Vl
def yQ:Loop:=⟨[(1,Z29),(2,Z2),(4,j6),(38,.row 36 .note),(39,j6),(40,j6)],[(1,Z29),(2,Z2),(4,j6)],4,[],cb⟩
def aoW:LF f40 [] [1,1,1,0,1,0,0,1,0,0,1,0,0] yQ:=sq (v:=t1<|t1<|.two (.one<|t1<|t1<|.one<|.loop yP) .nil) W6 (b:=Vl)<|kC aoU kN
def Vm(x:Y2×Y2×v7):Rnd (Y2×Y2×v7) D (Y2×Y2×D):=if U (x.2.2.1<4) then if inb x.2.2.1 x.1.2.1.length then(Gk (((rd aE5 x.1.2.1 x.2.2.1).id,(rd aE5 x.1.2.1 x.2.2.1).up,(rd aE5 x.1.2.1 x.2.2.1).log,(rd aE5 x.1.2.1 x.2.2.1).fo,(rd aE5 x.1.2.1 x.2.2.1).AH,()),())).bind λaB=>(AO (cb (x.1,x.2.1,x.2.2.1,aB.1.1.2.2.2.1,(j8 aB.1.1.2.2.2.1:Int),0,())) (λ_=>I<|.inr<|.inl ()) λog=>I<|.inl (og.1,og.2.1,(w64<|og.2.2.1+1),())) else G else I (.inr<|.inr (x.1,x.2.1,()))
def cc:=AW Vm
def yR:Loop:=⟨[(1,Z29),(2,Z2),(4,j6)],[(1,Z29),(2,Z2)],2,[],cc⟩
def aoZ:LF f40 [] [1,1,1,0,1,0,0] yR:=sq (v:=t1<|.two (.one<|t1<|.one<|.loop yQ) .nil) W6 (b:=Vm)<|kC aoW kN
def Vn(x:Y2×Y2×v7):Rnd (Y2×Y2×v7) D (Y2×Y2×D):=if U (x.2.2.1<4) then(Hn (x.1,(8,x.2.2.1,0,0,0,0,0,0,0,noB,()),())).bind λa=>(Hn (a.1.1,(9,x.2.2.1,0,0,0,0,0,0,0,noB,()),())).bind λb=>I (.inl (b.1.1,x.2.1,(w64<|x.2.2.1+1),())) else I (.inr<|.inr (x.1,x.2.1,()))
def cd:=AW Vn
def yS:Loop:=⟨[(1,Z35),(2,Z2),(3,j6)],[(1,Z29),(2,Z2)],0,[],cd⟩
def aof:LF f40 [] [1,0,1,0,0] yS:=sq (v:= .nil) W6 (b:=Vn) kN
def W2(x:Y2×D):Option ((Y2×D)×D):=(AO (cd (x.1,(0,([]:List A7),([]:List Bool),([]:List AL),([]:List A3),([]:List A3),()),0,())) (λ_=>G) λa=>(RQ (a.1,())).bind λb=>(AO (cc (b.1.1,a.2.1,0,())) (λ_=>G) λazG=>I ((azG.1,()),())))
def aAC:Ent:=(40,G,⟨[Z30],[Z30],W2⟩)
def aj3:y8 aAC:=sk (v:=t1<|.two (t1<|.one<|.loop yS)<|t1<|.two (t1<|.one<|.loop yR) .nil) (fn:=f40) W6<|kC aof<|kC aoZ kN
def ahe:Cx:=cX [fA,cq,aAC] [] [(18,20)]
def vg:y9 ahe:=aE1<|gC qO<|gC pR<|gC aj3<|AI
def Ui(x:Int×Y2×Y2×v7):Rnd (Int×Y2×Y2×v7) D (Y2×Y2×D):=if(U<|x.2.2.2.1<(if 20<x.1 then 20 else x.1))&&(U<|x.2.2.1.1<79999) then(W2 (x.2.2.1,())).bind λa=>I (.inl (x.1,x.2.1,a.1.1,(w64<|x.2.2.2.1+1),())) else I (.inr<|.inr (x.2.1,x.2.2.1,()))
def UG:=AW Ui
def sj:Loop:=⟨[(1,j6),(4,Z2),(5,Z35),(6,j6)],[(4,Z2),(5,Z29)],0,[],UG⟩
def ahV:LF f16 [] [1,1,1,0,1,0,0] sj:=sq (v:= .nil) vg (b:=Ui) kN
def Uw(x:Y2×v7):Option ((Y2×D)×D):=(Ng (x.1,())).bind λa=>if !a.1.1 then I (((0,([]:List A7),([]:List Bool),([]:List AL),([]:List A3),([]:List A3),()),()),()) else(JZ (x.1,())).bind λb=>(AO (UG (x.2.1,(0,([]:List A7),([]:List Bool),([]:List AL),([]:List A3),([]:List A3),()),b.1.1,0,())) (λ_=>G) λc=>I (c.2,()))
def wG:Ent:=(16,G,⟨[Z30,j6],[Z30],Uw⟩)
def aeW:y8 wG:=sk (v:=t1<|t1<|t1<|.two (t1<|.one<|.loop sj) .nil) (fn:=f16) vg<|kC ahV kN
def akl:Cx:=cX [] [] []
def yl:y9 akl:=aE1<|AI
def VG(x:List A3×List A3×v7):Rnd (List A3×List A3×v7) (Bool×D) D:=if U (x.2.2.1<(j8 x.1:Int)) then if inb x.2.2.1 x.1.length then if inb x.2.2.1 x.2.1.length then if !(abg ((rd aE3 x.1 x.2.2.1).fr) ((rd aE3 x.1 x.2.2.1).nu) ((rd aE3 x.1 x.2.2.1).to) ((rd aE3 x.1 x.2.2.1).un) ((rd aE3 x.1 x.2.2.1).tx) ((rd aE3 x.2.1 x.2.2.1).fr) ((rd aE3 x.2.1 x.2.2.1).nu) ((rd aE3 x.2.1 x.2.2.1).to) ((rd aE3 x.2.1 x.2.2.1).un)<|(rd aE3 x.2.1 x.2.2.1).tx) then I (.inr<|.inl (A0,())) else I (.inl (x.1,x.2.1,(w64<|x.2.2.1+1),())) else G else G else I (.inr<|.inr ())
def qC:=AW VG
def uw:Loop:=⟨[(0,.sl .note),(1,.sl .note),(5,j6)],[],0,[(4,.bool)],qC⟩
def akF:LF f27 [] [1,1,0,1,0,0] uw:=sq (v:= .nil) yl (b:=VG) kN
def Hm(x:List A3×List A3×D):Option ((Bool×D)×D):=if !decide ((j8 x.1:Int)=(j8 x.2.1:Int)) then I ((A0,()),()) else(AO (qC (x.1,x.2.1,0,())) (λa=>I (a,())) λa=>I ((Y,()),()))
def gB:Ent:=(27,G,⟨[.fz .note,.fz .note],[.bool],Hm⟩)
def tH:y8 gB:=sk (v:=t1<|t1<|.two (t1<|.one<|.loop uw) .nil) (fn:=f27) yl<|kC akF kN
def aif:Cx:=cX [] [] []
def sX:y9 aif:=aE1<|AI
def Us(x:List AE×List AE×aE2):Rnd (List AE×List AE×aE2) (Bool×D) (List AE×List AE×v7):=if inb x.2.2.1 x.1.length then if U (x.2.2.2.1<(((rd aE6 x.1 x.2.2.1).got).length:Int)) then if inb x.2.2.1 x.1.length then if inb x.2.2.2.1 (((rd aE6 x.1 x.2.2.1).got).length) then if inb x.2.2.1 x.2.1.length then if inb x.2.2.2.1 (((rd aE6 x.2.1 x.2.2.1).got).length) then if !(U ((rd aFh ((rd aE6 x.1 x.2.2.1).got) x.2.2.2.1).nu=(rd aFh ((rd aE6 x.2.1 x.2.2.1).got) x.2.2.2.1).nu)&&(U ((rd aFh ((rd aE6 x.1 x.2.2.1).got) x.2.2.2.1).da=(rd aFh ((rd aE6 x.2.1 x.2.2.1).got) x.2.2.2.1).da)&&Y)) then I (.inr<|.inl (A0,())) else I (.inl (x.1,x.2.1,x.2.2.1,(w64<|x.2.2.2.1+1),())) else G else G else G else G else I (.inr<|.inr (x.1,x.2.1,x.2.2.1,())) else G
def pf:=AW Us
def tn:Loop:=⟨[(0,.sl .half),(1,.sl .half),(5,j6),(6,j6)],[(0,.sl .half),(1,.sl .half),(5,j6)],2,[(4,.bool)],pf⟩
def aiK:LF f77 [] [1,1,0,1,0,0,1,0,0,1,1,0,0] tn:=sq (v:= .nil) sX (b:=Us) kN
def Ut(x:List AE×List AE×v7):Rnd (List AE×List AE×v7) (Bool×D) D:=if U (x.2.2.1<(j8 x.1:Int)) then if inb x.2.2.1 x.1.length then if inb x.2.2.1 x.2.1.length then if !decide ((rd aE6 x.1 x.2.2.1).fr=(rd aE6 x.2.1 x.2.2.1).fr) then I (.inr<|.inl (A0,())) else if inb x.2.2.1 x.1.length then if inb x.2.2.1 x.2.1.length then if !decide ((rd aE6 x.1 x.2.2.1).nu=(rd aE6 x.2.1 x.2.2.1).nu) then I (.inr<|.inl (A0,())) else if inb x.2.2.1 x.1.length then if inb x.2.2.1 x.2.1.length then if !decide ((rd aE6 x.1 x.2.2.1).to=(rd aE6 x.2.1 x.2.2.1).to) then I (.inr<|.inl (A0,())) else if inb x.2.2.1 x.1.length then if inb x.2.2.1 x.2.1.length then if !decide ((rd aE6 x.1 x.2.2.1).un=(rd aE6 x.2.1 x.2.2.1).un) then I (.inr<|.inl (A0,())) else if inb x.2.2.1 x.1.length then if inb x.2.2.1 x.2.1.length then if !decide ((rd aE6 x.1 x.2.2.1).sz=(rd aE6 x.2.1 x.2.2.1).sz) then I (.inr<|.inl (A0,())) else if inb x.2.2.1 x.1.length then if inb x.2.2.1 x.2.1.length then if !decide ((((rd aE6 x.1 x.2.2.1).got).length:Int)=(((rd aE6 x.2.1 x.2.2.1).got).length:Int)) then I (.inr<|.inl (A0,())) else(AO (pf (x.1,x.2.1,x.2.2.1,0,())) (λa=>I<|.inr<|.inl a) λa=>I<|.inl (a.1,a.2.1,(w64<|a.2.2.1+1),())) else G else G else G else G else G else G else G else G else G else G else G else G else I (.inr<|.inr ())
def pg:=AW Ut
def tp:Loop:=⟨[(0,.sl .half),(1,.sl .half),(5,j6)],[],0,[(4,.bool)],pg⟩
def aiy:LF f77 [] [1,1,0,1,0,0] tp:=sq (v:=t1<|.two (.one<|t1<|t1<|.one<|.loop tn) .nil) sX (b:=Ut)<|kC aiK kN
def PN(x:List AE×List AE×D):Option ((Bool×D)×D):=if !decide ((j8 x.1:Int)=(j8 x.2.1:Int)) then I ((A0,()),()) else(AO (pg (x.1,x.2.1,0,())) (λa=>I (a,())) λa=>I ((Y,()),()))
def x9:Ent:=(77,G,⟨[.fz .half,.fz .half],[.bool],PN⟩)
def af0:y8 x9:=sk (v:=t1<|t1<|.two (t1<|.one<|.loop tp) .nil) (fn:=f77) sX<|kC aiy kN
def aie:Cx:=cX [x9] [] [(25,29)]
def akg:y9 aie:=aE1<|gC af0<|AI
def dD(x:Y1×Y1×D):Option ((Bool×D)×D):=if U (x.1.1=x.2.1.1) then if U (x.1.2.1=x.2.1.2.1) then if Al (U (x.1.2.2.1=x.2.1.2.2.1)&&(U (x.1.2.2.2.1=x.2.1.2.2.2.1)&&Y)) ((PN (x.1.2.2.2.2.1,x.2.1.2.2.2.2)).isSome) then let a:=((U (x.1.2.2.1=x.2.1.2.2.1)&&(U (x.1.2.2.2.1=x.2.1.2.2.2.1)&&Y))&&(((PN (x.1.2.2.2.2.1,x.2.1.2.2.2.2)).getD ((A0,()),())).1.1));I ((a,()),()) else G else if Al A0 ((PN (x.1.2.2.2.2.1,x.2.1.2.2.2.2)).isSome) then I ((A0,()),()) else G else if Al A0 ((PN (x.1.2.2.2.2.1,x.2.1.2.2.2.2)).isSome) then I ((A0,()),()) else G
def x8:Ent:=(41,G,⟨[Z12,Z12],[.bool],dD⟩)
def aez:y8 x8:=sk (v:= .nil) (fn:=f41) akg kN
def akk:Cx:=cX [gB,x8] [] []
def fB:y9 akk:=aE1<|gC tH<|gC aez<|AI
def VD(x:Y2×Y2×v7):Rnd (Y2×Y2×v7) (Bool×D) D:=if U (x.2.2.1<(j8 x.1.2.2.2.1:Int)) then if inb x.2.2.1 x.1.2.2.2.1.length then if inb x.2.2.1 x.2.1.2.2.2.1.length then if !(U ((rd aFa x.1.2.2.2.1 x.2.2.1).src=(rd aFa x.2.1.2.2.2.1 x.2.2.1).src)&&(U ((rd aFa x.1.2.2.2.1 x.2.2.1).dst=(rd aFa x.2.1.2.2.2.1 x.2.2.1).dst)&&(U ((rd aFa x.1.2.2.2.1 x.2.2.1).data=(rd aFa x.2.1.2.2.2.1 x.2.2.1).data)&&(U ((rd aFa x.1.2.2.2.1 x.2.2.1).sp=(rd aFa x.2.1.2.2.2.1 x.2.2.1).sp)&&Y)))) then I (.inr<|.inl (A0,())) else I (.inl (x.1,x.2.1,(w64<|x.2.2.1+1),())) else G else G else I (.inr<|.inr ())
def qb:=AW VD
def ur:Loop:=⟨[(2,Z29),(3,Z29),(7,j6)],[],4,[(4,.bool)],qb⟩
def akW:LF f17 [] [1,1,1,1,0,1,0,0] ur:=sq (v:= .nil) fB (b:=VD) kN
def VE(x:Y2×Y2×v7):Rnd (Y2×Y2×v7) (Bool×D) (Y2×Y2×D):=if U (x.2.2.1<(j8 x.1.2.2.1:Int)) then if inb x.2.2.1 x.1.2.2.1.length then if inb x.2.2.1 x.2.1.2.2.1.length then if !decide ((rd aFj x.1.2.2.1 x.2.2.1)=(rd aFj x.2.1.2.2.1 x.2.2.1)) then I (.inr<|.inl (A0,())) else I (.inl (x.1,x.2.1,(w64<|x.2.2.1+1),())) else G else G else I (.inr<|.inr (x.1,x.2.1,()))
def qc:=AW VE
def uu:Loop:=⟨[(2,Z29),(3,Z29),(6,j6)],[(2,Z29),(3,Z29)],2,[(4,.bool)],qc⟩
def ajx:LF f17 [] [1,1,1,0,1,0,0] uu:=sq (v:= .nil) fB (b:=VE) kN
def VF(x:Y2×Y2×v7):Rnd (Y2×Y2×v7) (Bool×D) (Y2×Y2×D):=if U (x.2.2.1<(j8 x.1.2.1:Int)) then if inb x.2.2.1 x.1.2.1.length then if inb x.2.2.1 x.2.1.2.1.length then(dD (((rd aE5 x.1.2.1 x.2.2.1).id,(rd aE5 x.1.2.1 x.2.2.1).up,(rd aE5 x.1.2.1 x.2.2.1).log,(rd aE5 x.1.2.1 x.2.2.1).fo,(rd aE5 x.1.2.1 x.2.2.1).AH,()),((rd aE5 x.2.1.2.1 x.2.2.1).id,(rd aE5 x.2.1.2.1 x.2.2.1).up,(rd aE5 x.2.1.2.1 x.2.2.1).log,(rd aE5 x.2.1.2.1 x.2.2.1).fo,(rd aE5 x.2.1.2.1 x.2.2.1).AH,()),())).bind λa=>if !a.1.1 then I (.inr<|.inl (A0,())) else I (.inl (x.1,x.2.1,(w64<|x.2.2.1+1),())) else G else G else I (.inr<|.inr (x.1,x.2.1,()))
def qd:=AW VF
def uv:Loop:=⟨[(2,Z29),(3,Z29),(5,j6)],[(2,Z29),(3,Z29)],0,[(4,.bool)],qd⟩
def akE:LF f17 [] [1,1,0,1,0,0] uv:=sq (v:= .nil) fB (b:=VF) kN
def eX(x:Y2×Y2×D):Option ((Bool×D)×D):=if !decide (x.1.1=x.2.1.1) then I ((A0,()),()) else if !decide ((j8 x.1.2.1:Int)=(j8 x.2.1.2.1:Int)) then I ((A0,()),()) else if !decide ((j8 x.1.2.2.1:Int)=(j8 x.2.1.2.2.1:Int)) then I ((A0,()),()) else if !decide ((j8 x.1.2.2.2.1:Int)=(j8 x.2.1.2.2.2.1:Int)) then I ((A0,()),()) else(Hm (x.1.2.2.2.2.1,x.2.1.2.2.2.2.1,())).bind λd=>if !d.1.1 then I ((A0,()),()) else(Hm (x.1.2.2.2.2.2.1,x.2.1.2.2.2.2.2)).bind λe=>if !e.1.1 then I ((A0,()),()) else(AO (qd (x.1,x.2.1,0,())) (λa=>I (a,())) λa=>(AO (qc (a.1,a.2.1,0,())) (λb=>I (b,())) λb=>(AO (qb (b.1,b.2.1,0,())) (λc=>I (c,())) λc=>I ((Y,()),()))))
def y5:Ent:=(17,G,⟨[Z30,Z30],[.bool],eX⟩)
def afm:y8 y5:=sk (v:=t1<|t1<|.two (t1<|.one<|.loop uv)<|.two (t1<|.one<|.loop uu)<|.two (t1<|.one<|.loop ur) .nil) (fn:=f17) fB<|kC akE<|kC ajx<|kC akW kN
def akx:Cx:=cX [fA,VZ] [] []
def anJ:y9 akx:=aE1<|gC qO<|gC bd<|AI
def VJ(x:Y2×Y6×D):Option ((Y2×Bool×D)×D):=(Ng (x.1,())).bind λa=>if !a.1.1 then I (((0,([]:List A7),([]:List Bool),([]:List AL),([]:List A3),([]:List A3),()),A0,()),()) else(Hn x).bind λb=>I (b.1,())
def yZ:Ent:=(20,G,⟨[Z30,Z13],[Z3,.bool],VJ⟩)
def agX:y8 yZ:=sk (v:= .nil) (fn:=f20) anJ kN
def agA:Cx:=cX [KQ,fA,dO] [] [(13,16)]
def cC:y9 agA:=aE1<|gC LH<|gC qO<|gC pn<|AI
def bL(x:Y2×Y1×List A7×Int×Int×List A3×aE2):Rnd (Y2×Y1×List A7×Int×Int×List A3×aE2) (Bool×D) (Y2×List A7×aE2):=if U (x.2.2.2.2.2.2.2.1<x.2.2.2.2.2.2.1) then if inb x.2.2.2.2.2.2.2.1 x.2.2.2.2.2.1.length then let b:=(rd aE3 x.2.2.2.2.2.1 x.2.2.2.2.2.2.2.1).fr;let c:=(rd aE3 x.2.2.2.2.2.1 x.2.2.2.2.2.2.2.1).nu;let ayw:=(rd aE3 x.2.2.2.2.2.1 x.2.2.2.2.2.2.2.1).to;let a:=(rd aE3 x.2.2.2.2.2.1 x.2.2.2.2.2.2.2.1).un;let aK:=(rd aE3 x.2.2.2.2.2.1 x.2.2.2.2.2.2.2.1).tx;(Iv (x.2.1.1,ayw,())).bind λR0=>if inb R0.1.1 x.1.2.1.length then(Gk (((rd aE5 x.1.2.1 R0.1.1).id,(rd aE5 x.1.2.1 R0.1.1).up,(rd aE5 x.1.2.1 R0.1.1).log,(rd aE5 x.1.2.1 R0.1.1).fo,(rd aE5 x.1.2.1 R0.1.1).AH,()),())).bind λazA=>if U (azA.1.1.2.1<a) then I (.inr<|.inl (A0,())) else I (.inl (x.1,x.2.1,x.2.2.1,x.2.2.2.1,x.2.2.2.2.1,x.2.2.2.2.2.1,x.2.2.2.2.2.2.1,(w64<|x.2.2.2.2.2.2.2.1+1),())) else G else G else I (.inr<|.inr (x.1,x.2.2.1,x.2.2.2.1,x.2.2.2.2.1,()))
def pK:=AW bL
def adW:Loop:=⟨[(1,Z29),(6,Z19),(29,.sl .AQ),(30,j6),(31,j6),(40,.row 36 .note),(41,j6),(42,j6)],[(1,Z29),(29,.sl .AQ),(30,j6),(31,j6)],4,[(2,.bool)],pK⟩
def afX:LF f24 [] [1,1,1,0,1,0,0,1,1,0,0,1,1,1,0,0] adW:=sq (v:= .nil) cC (b:=bL) kN
def bM(x:Y2×List A7×aE2):Rnd (Y2×List A7×aE2) (Bool×D) D:=if U (x.2.2.2.1<x.2.2.1) then if inb x.2.2.2.1 x.2.1.length then let acF:=(rd aE5 x.2.1 x.2.2.2.1).id;let ou:=(rd aE5 x.2.1 x.2.2.2.1).up;let acE:=(rd aE5 x.2.1 x.2.2.2.1).log;let acD:=(rd aE5 x.2.1 x.2.2.2.1).fo;let acC:=(rd aE5 x.2.1 x.2.2.2.1).AH;(if !ou then I (.inr<|.inl (A0,())) else(Gk ((acF,ou,acE,acD,acC,()),())).bind λacI=>(AO (pK (x.1,(acF,ou,acE,acD,acC,()),x.2.1,x.2.2.1,x.2.2.2.1,acI.1.1.2.2.2.1,(j8 acI.1.1.2.2.2.1:Int),0,())) (λQy=>I<|.inr<|.inl Qy) λQy=>I<|.inl (Qy.1,Qy.2.1,Qy.2.2.1,(w64<|Qy.2.2.2.1+1),()))) else G else I (.inr<|.inr ())
def pL:=AW bM
def adX:Loop:=⟨[(1,Z29),(29,.sl .AQ),(30,j6),(31,j6)],[],2,[(2,.bool)],pL⟩
def afZ:LF f24 [] [1,1,1,0,1,0,0] adX:=sq (v:=t1<|t1<|.two (.one<|t1<|t1<|t1<|.one<|.loop adW) .nil) cC (b:=bM)<|kC afX kN
def bN(x:Y2×List Bool×aE2):Rnd (Y2×List Bool×aE2) (Bool×D) (Y2×D):=if U (x.2.2.2.1<x.2.2.1) then if inb x.2.2.2.1 x.2.1.length then let a:=(rd aFj x.2.1 x.2.2.2.1);(if !a then I (.inr<|.inl (A0,())) else I (.inl (x.1,x.2.1,x.2.2.1,(w64<|x.2.2.2.1+1),()))) else G else I (.inr<|.inr (x.1,()))
def pM:=AW bN
def adY:Loop:=⟨[(1,Z29),(19,.sl .bool),(20,j6),(21,j6)],[(1,Z29)],0,[(2,.bool)],pM⟩
def afe:LF f24 [] [1,1,0,1,0,0] adY:=sq (v:= .nil) cC (b:=bN) kN
def Uc(x:Y2×D):Option ((Bool×D)×D):=(Ng x).bind λb=>if(!b.1.1)||(U<|0<(j8 x.1.2.2.2.1:Int)) then I ((A0,()),()) else(AO (pM (x.1,x.1.2.2.1,(j8 x.1.2.2.1:Int),0,())) (λa=>I (a,())) λa=>(AO (pL (a.1,a.1.2.1,(j8 a.1.2.1:Int),0,())) (λac8=>I (ac8,())) λac8=>I ((Y,()),())))
def uO:Ent:=(24,G,⟨[Z30],[.bool],Uc⟩)
def aeJ:y8 uO:=sk (v:=t1<|t1<|.two (t1<|.one<|.loop adY)<|.two (t1<|.one<|.loop adX) .nil) (fn:=f24) cC<|kC afe<|kC afZ kN
def akm:Cx:=cX [] [] []
def ym:y9 akm:=aE1<|AI
def VH(x:List Mark×List Mark×v7):Rnd (List Mark×List Mark×v7) (Bool×D) D:=if U (x.2.2.1<(j8 x.1:Int)) then if inb x.2.2.1 x.1.length then if inb x.2.2.1 x.2.1.length then if !(U ((rd aFc x.1 x.2.2.1).mf=(rd aFc x.2.1 x.2.2.1).mf)&&(U ((rd aFc x.1 x.2.2.1).mn=(rd aFc x.2.1 x.2.2.1).mn)&&(U ((rd aFc x.1 x.2.2.1).mu=(rd aFc x.2.1 x.2.2.1).mu)&&Y))) then I (.inr<|.inl (A0,())) else I (.inl (x.1,x.2.1,(w64<|x.2.2.1+1),())) else G else G else I (.inr<|.inr ())
def qD:=AW VH
def ux:Loop:=⟨[(0,.sl .mark),(1,.sl .mark),(5,j6)],[],0,[(4,.bool)],qD⟩
def akG:LF f48 [] [1,1,0,1,0,0] ux:=sq (v:= .nil) ym (b:=VH) kN
def VP(x:List Mark×List Mark×D):Option ((Bool×D)×D):=if !decide ((j8 x.1:Int)=(j8 x.2.1:Int)) then I ((A0,()),()) else(AO (qD (x.1,x.2.1,0,())) (λa=>I (a,())) λa=>I ((Y,()),()))
def y6:Ent:=(48,G,⟨[.fz .mark,.fz .mark],[.bool],VP⟩)
def afn:y8 y6:=sk (v:=t1<|t1<|.two (t1<|.one<|.loop ux) .nil) (fn:=f48) ym<|kC akG kN
def amj:Cx:=cX [gB,y6] [] [(39,43)]
def aol:y9 amj:=aE1<|gC tH<|gC afn<|AI
def Vk(x:Y3×Y3×D):Option ((Bool×D)×D):=if U (x.1.1=x.2.1.1) then if U (x.1.2.1=x.2.1.2.1) then if U (x.1.2.2.1=x.2.1.2.2.1) then(Hm (x.1.2.2.2.1,x.2.1.2.2.2.1,())).bind λb=>if b.1.1 then(VP (x.1.2.2.2.2.1,x.2.1.2.2.2.2.1,())).bind λa=>if Al a.1.1 ((Hm (x.1.2.2.2.2.2.1,x.2.1.2.2.2.2.2)).isSome) then let c:=(a.1.1&&(((Hm (x.1.2.2.2.2.2.1,x.2.1.2.2.2.2.2)).getD ((A0,()),())).1.1));I ((c,()),()) else G else if Al A0 ((Hm (x.1.2.2.2.2.2.1,x.2.1.2.2.2.2.2)).isSome) then I ((A0,()),()) else G else if Al A0 ((Hm (x.1.2.2.2.2.2.1,x.2.1.2.2.2.2.2)).isSome) then I ((A0,()),()) else G else if Al A0 ((Hm (x.1.2.2.2.2.2.1,x.2.1.2.2.2.2.2)).isSome) then I ((A0,()),()) else G else if Al A0 ((Hm (x.1.2.2.2.2.2.1,x.2.1.2.2.2.2.2)).isSome) then I ((A0,()),()) else G
def zG:Ent:=(25,G,⟨[Z8,Z8],[.bool],Vk⟩)
def ahG:y8 zG:=sk (v:= .nil) (fn:=f25) aol kN
def aes:Cx:=cX [adC,vw,wF,wG,y5,KQ,yZ,uO,zG] [] []
def bR:y9 aes:=aE1<|gC adx<|gC aeE<|gC aeV<|gC aeW<|gC afm<|gC LH<|gC agX<|gC aeJ<|gC ahG<|AI
def UC(x:Y2×Y2×aE2):Rnd (Y2×Y2×aE2) D (Y2×Y2×v7):=if U (x.2.2.2.1<4) then if inb x.2.2.1 (([13,7,8]:List Int).length) then(VJ (x.2.1,((rd aE8 ([13,7,8]:List Int) x.2.2.1),x.2.2.2.1,0,0,0,0,0,0,0,noB,()),())).bind λa=>I (.inl (x.1,a.1.1,x.2.2.1,(w64<|x.2.2.2.1+1),())) else G else I (.inr<|.inr (x.1,x.2.1,x.2.2.1,()))
def aS:=AW UC
def ad8:Loop:=⟨[(6,Z29),(7,Z35),(8,j6),(9,j6)],[(6,Z29),(7,Z29),(8,j6)],2,[],aS⟩
def af5:LF f7 [] [1,1,1,1,1,1,1,1,0,1,0,0,1,0,0,1,0,0] ad8:=sq (v:= .nil) bR (b:=UC) kN
def UB(x:Y2×Y2×v7):Rnd (Y2×Y2×v7) (Bool×D) (Y2×D):=if U (x.2.2.1<(j8 x.1.2.1:Int)) then if inb x.2.2.1 x.2.1.2.1.length then(Gk (((rd aE5 x.2.1.2.1 x.2.2.1).id,(rd aE5 x.2.1.2.1 x.2.2.1).up,(rd aE5 x.2.1.2.1 x.2.2.1).log,(rd aE5 x.2.1.2.1 x.2.2.1).fo,(rd aE5 x.2.1.2.1 x.2.2.1).AH,()),())).bind λa=>if inb x.2.2.1 x.1.2.1.length then(Gk (((rd aE5 x.1.2.1 x.2.2.1).id,(rd aE5 x.1.2.1 x.2.2.1).up,(rd aE5 x.1.2.1 x.2.2.1).log,(rd aE5 x.1.2.1 x.2.2.1).fo,(rd aE5 x.1.2.1 x.2.2.1).AH,()),())).bind λb=>(Vk (a.1.1,b.1)).bind λc=>if !c.1.1 then I (.inr<|.inl (A0,())) else I (.inl (x.1,x.2.1,(w64<|x.2.2.1+1),())) else G else G else I (.inr<|.inr (x.2.1,()))
def pC:=AW UB
def ad7:Loop:=⟨[(6,Z29),(7,Z29),(10,j6)],[(7,Z29)],4,[(2,.bool)],pC⟩
def af3:LF f7 [] [1,1,1,1,1,1,1,1,1,0,1,0,0] ad7:=sq (v:= .nil) bR (b:=UB) kN
def UD(x:Y2×Y2×v7):Rnd (Y2×Y2×v7) D (Y2×Y2×D):=if U (x.2.2.1<3) then(AO (aS (x.1,x.2.1,x.2.2.1,0,())) (λ_=>I<|.inr<|.inl ()) λa=>I<|.inl (a.1,a.2.1,(w64<|a.2.2.1+1),())) else I (.inr<|.inr (x.1,x.2.1,()))
def pD:=AW UD
def ad9:Loop:=⟨[(6,Z29),(7,Z29),(8,j6)],[(6,Z29),(7,Z29)],0,[],pD⟩
def af9:LF f7 [] [1,1,1,1,1,1,1,1,0,1,0,0] ad9:=sq (v:=t1<|.two (.one<|t1<|.one<|.loop ad8) .nil) bR (b:=UD)<|kC af5 kN
def UN(x:List Int×D):Option ((Bool×D)×D):=if U (1048576<(j8 x.1:Int)) then I ((Y,()),()) else(UE x).bind λb=>(cO b.1).bind λf=>(cF b.1).bind λc=>(eX (c.1.1,f.1)).bind λg=>if !g.1.1 then I ((A0,()),()) else(Uw (c.1.1,4,())).bind λd=>(AO (pD (d.1.1,d.1.1,0,())) (λ_=>G) λe=>(AO (pC (e.1,e.2.1,0,())) (λa=>I (a,())) λa=>(Uc a).bind λh=>I (h.1,())))
def agc:Ent:=(7,G,⟨[.fz .u8],[.bool],UN⟩)
def aeA:y8 agc:=sk (v:=t1<|t1<|t1<|t1<|t1<|t1<|t1<|t1<|.two (t1<|.one<|.loop ad9)<|.two (t1<|.one<|.loop ad7) .nil) (fn:=f7) bR<|kC af9<|kC af3 kN
end Go.VS
end
