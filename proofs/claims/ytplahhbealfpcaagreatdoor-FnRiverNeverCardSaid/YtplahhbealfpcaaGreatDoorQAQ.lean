/- Part 17. -/
import Derived.Test.YtplahhbealfpcaaGreatDoorQAP
open Bool renaming false->A3,true->A0
open Decidable renaming decide->A1
open Int renaming tdiv->Ax,tmod->BG,toNat->AL
open List renaming drop->Bm,replicate->BT,set->Bn,take->BH
open Option renaming none->U,some->I
set_option linter.all false
noncomputable section
namespace Go.VS
open Go Go.Proofs
set_option linter.unusedVariables false
set_option maxRecDepth 100000
def UP:SQ Tryz.prog LM:=soX (fn:=Tryz.f59) (l:=5) (g:=9) ajK (by kernel_rfl) rfl (by kernel_rfl) aws awr
def afh:Cx:=cX [LN,yN,Iq,LM] [] []
def aiP:OKC Tryz.prog afh AF:=okc mixed<|gC MQ<|gC afX<|gC JS<|gC UP<|AJ
def Uj(x:Y10×A2):Option ((A2)×(Y10×A2)):=(CU (x.1.1,4,())).bind λc=>(dh (c.2.1,([(B [97]),(B [104,101,108,108,111]),(B [97,32,108,111,110,103,101,114,32,109,101,115,115,97,103,101]),(B [97,98,99,100]),(B [49,50,51,52,53,54,55,56]),(B [106,117,115,116,32,116,119,101,110,116,121,45,102,111,117,114,32,98,121,116,101,115,32,33,33]),(B [109,105,120,101,100,32,98,108,111,99,107,115])]:List A4),())).bind λb=>(BS (X:=Y10×Int×A4×A2) (λa=>if inb a.2.1 a.1.2.2.1.length then(G0 (((rd (dfl .AQ) a.1.2.2.1 a.2.1).id,(rd (dfl .AQ) a.1.2.2.1 a.2.1).up,(rd (dfl .AQ) a.1.2.2.1 a.2.1).log,(rd (dfl .AQ) a.1.2.2.1 a.2.1).fo,(rd (dfl .AQ) a.1.2.2.1 a.2.1).AN,()),())).bind λf=>(CU (a.1.1,4,())).bind λd=>(CU (d.2.1,12,())).bind λe=>(FW ((e.2.1,a.1.2),(1,a.2.1,0,0,0,0,0,d.1.1,(w64<|(w64<|f.1.1.2.1+1)+e.1.1),a.2.2),())).bind λg=>I ((),g.2) else U)<|(if A1 (24<(b.1.1.size:Int)) then if A1 (0<=24)&&A1 (24<=(b.1.1.size:Int)) then let h:=(b.1.1.extract (0)<|AL 24);I (.inr ((b.2.1,x.1.2),c.1.1,h,())) else U else I (.inr ((b.2.1,x.1.2),c.1.1,b.1))))
def qu:Ent:=(36,U,⟨[Z22],[],Uj⟩)
def acW:SQ Tryz.prog qu:=sk (v:=t1<|t1<|.join [(0,Z24),(2,.int .i64),(3,.str)] .nil .nil) (fn:=Tryz.f36) aiP kN
def aea:Cx:=cX [LN,LM] [] [(12,18)]
def adY:OKC Tryz.prog aea AF:=okc mixed<|gC MQ<|gC UP<|AJ
def ov(x:Y10×Int×Int×Int×A2):Rnd (Y10×Int×Int×Int×A2) (A2) (Y10×A2):=if(A1<|x.2.2.2.1<x.2.1)&&(A1<|0<(x.1.2.2.2.2.1.length:Int)) then(BS (X:=Y10×Int×Int×Int×Y6×A2) (λe=>(BS (X:=Y10×Int×Int×Int×Y6×A2) (λc=>(BS (X:=Y10×Int×Int×Int×Y6×Bool×A2) (λb=>if b.2.2.2.2.2.1 then(CU (b.1.1,17,())).bind λg=>(CU (g.2.1,255,())).bind λh=>(FW ((h.2.1,b.1.2),(b.2.2.2.2.1.1,b.2.2.2.2.1.2.1,b.2.2.2.2.1.2.2.1,b.2.2.2.2.1.2.2.2.1,b.2.2.2.2.1.2.2.2.2.1,g.1.1,(w64<|1+h.1.1),b.2.2.2.2.1.2.2.2.2.2.2.2),())).bind λo=>I (.inl (o.2.1,b.2.1,b.2.2.1,(w64<|b.2.2.2.1+1),())) else I (.inl (b.1,b.2.1,b.2.2.1,(w64<|b.2.2.2.1+1),())))<|(if A1 (c.2.2.2.2.1.1=6) then(CU (c.1.1,2,())).bind λi=>I (.inr ((i.2.1,c.1.2),c.2.1,c.2.2.1,c.2.2.2.1,c.2.2.2.2.1,(A1<|i.1.1=0),())) else I (.inr (c.1,c.2.1,c.2.2.1,c.2.2.2.1,c.2.2.2.2.1,A3,())))))<|(FW (e.1,e.2.2.2.2)).bind λf=>if !f.1.1 then(FW (f.2.1,(5,0,0,0,0,0,0,0,0,noB,()),())).bind λp=>I (.inr (p.2.1,e.2)) else I (.inr (f.2.1,e.2))))<|(BS (X:=Y10×Int×Int×Int×Y6×Bool×A2) (λa=>if a.2.2.2.2.2.1 then(CU (a.1.1,5,())).bind λd=>if A1 (d.1.1=0) then I (.inr ((d.2.1,a.1.2),a.2.1,a.2.2.1,a.2.2.2.1,(5,a.2.2.2.2.1.2),())) else if A1 (d.1.1=1) then I (.inr ((d.2.1,a.1.2),a.2.1,a.2.2.1,a.2.2.2.1,(a.2.2.2.2.1.1,a.2.2.2.2.1.2.1,a.2.2.2.2.1.2.2.1,a.2.2.2.2.1.2.2.2.1,a.2.2.2.2.1.2.2.2.2.1,a.2.2.2.2.1.2.2.2.2.2.1,1,a.2.2.2.2.1.2.2.2.2.2.2.2),())) else if A1 (d.1.1=2) then(CU (d.2.1,(a.1.2.2.2.2.1.length:Int),())).bind λj=>(CU (j.2.1,17,())).bind λk=>(CU (k.2.1,255,())).bind λl=>I (.inr ((l.2.1,a.1.2),a.2.1,a.2.2.1,a.2.2.2.1,(6,a.2.2.2.2.1.2.1,a.2.2.2.2.1.2.2.1,a.2.2.2.2.1.2.2.2.1,j.1.1,k.1.1,(w64<|1+l.1.1),a.2.2.2.2.1.2.2.2.2.2.2.2),())) else(CU (d.2.1,(a.1.2.2.2.2.1.length:Int),())).bind λm=>I (.inr ((m.2.1,a.1.2),a.2.1,a.2.2.1,a.2.2.2.1,(a.2.2.2.2.1.1,a.2.2.2.2.1.2.1,a.2.2.2.2.1.2.2.1,a.2.2.2.2.1.2.2.2.1,m.1.1,a.2.2.2.2.1.2.2.2.2.2),())) else I (.inr (a.1,a.2.1,a.2.2.1,a.2.2.2.1,a.2.2.2.2.1,())))<|(if A1 (0<x.2.2.1) then(CU (x.1.1,x.2.2.1,())).bind λn=>I (.inr ((n.2.1,x.1.2),x.2.1,x.2.2.1,x.2.2.2.1,(4,0,0,0,0,0,0,0,0,noB,()),(A1<|n.1.1=0),())) else I (.inr (x.1,x.2.1,x.2.2.1,x.2.2.2.1,(4,0,0,0,0,0,0,0,0,noB,()),A3,()))))) else I (.inr<|.inr (x.1,()))
def acO:=AR ov
def acY:Loop:=⟨[(0,Z24),(1,.int .i64),(2,.int .i64),(6,.int .i64)],[(0,Z24)],0,[],acO⟩
def aeP:LF Tryz.f61 [0] [1,0,0] acY:=sq (v:=t1<|.two (.one<|t1<|.join [(0,Z24),(1,.int .i64),(2,.int .i64),(6,.int .i64),(7,Z25)] (.join [(0,Z24),(1,.int .i64),(2,.int .i64),(6,.int .i64),(7,Z25),(33,.bool)] .nil .nil)<|.join [(0,Z24),(1,.int .i64),(2,.int .i64),(6,.int .i64),(7,Z25)] .nil<|.join [(0,Z24),(1,.int .i64),(2,.int .i64),(6,.int .i64),(7,Z25),(102,.bool)] .nil .nil) .nil) adY (b:=ov) kN
def Nt(x:Y10×Int×Int×A2):Option ((A2)×(Y10×A2)):=(AM (acO (x.1,x.2.1,x.2.2.1,0,())) (λ_=>U) λa=>I ((),a))
def aX:Ent:=(61,U,⟨[Z22,.int .i64,.int .i64],[],Nt⟩)
def oX:SQ Tryz.prog aX:=sk (v:=t1<|.one<|.loop acY) (fn:=Tryz.f61) adY<|kC aeP kN
def afO:Cx:=cX [LN,Iq] [] []
def tu:OKC Tryz.prog afO AF:=okc mixed<|gC MQ<|gC JS<|AJ
def pJ(x:Y10×Y4×Int×Int×A2):Rnd (Y10×Y4×Int×Int×A2) (Y10×Int×Y4×Bool×A2) (Y10×Y4×A2):=if A1 (x.2.2.2.1<4) then if inb x.2.2.1 x.1.2.2.1.length then(G0 (((rd (dfl .AQ) x.1.2.2.1 x.2.2.1).id,(rd (dfl .AQ) x.1.2.2.1 x.2.2.1).up,(rd (dfl .AQ) x.1.2.2.1 x.2.2.1).log,(rd (dfl .AQ) x.1.2.2.1 x.2.2.1).fo,(rd (dfl .AQ) x.1.2.2.1 x.2.2.1).AN,()),())).bind λa=>if A1 (0<(a.1.1.2.2.2.1.length:Int)) then(CU (x.1.1,(a.1.1.2.2.2.1.length:Int),())).bind λb=>if inb b.1.1 a.1.1.2.2.2.1.length then let c:=(rd (dfl .note) a.1.1.2.2.2.1 b.1.1).fr;let d:=(rd (dfl .note) a.1.1.2.2.2.1 b.1.1).nu;let e:=(rd (dfl .note) a.1.1.2.2.2.1 b.1.1).to;let f:=(rd (dfl .note) a.1.1.2.2.2.1 b.1.1).un;let g:=(rd (dfl .note) a.1.1.2.2.2.1 b.1.1).tx;I (.inr<|.inl ((b.2.1,x.1.2),x.2.2.1,(c,d,e,f,g,()),A0,())) else U else let h:=(BG (w64<|x.2.2.1+1) 4);I (.inl (x.1,x.2.1,h,(w64<|x.2.2.2.1+1),())) else U else I (.inr<|.inr (x.1,x.2.1,()))
def acH:=AR pJ
def acp:Loop:=⟨[(0,Z24),(3,Z5),(5,.int .i64),(6,.int .i64)],[(0,Z24),(3,Z5)],0,[(0,Z24),(2,.int .i64),(3,Z5),(4,.bool)],acH⟩
def aeq:LF Tryz.f95 [0] [1,1,0,1,0,0] acp:=sq (v:= .nil) tu (b:=pJ) kN
def bS(x:Y10×A2):Option ((Int×Y4×Bool×A2)×(Y10×A2)):=(CU (x.1.1,4,())).bind λb=>(AM (acH ((b.2.1,x.1.2),(0,0,0,0,noB,()),b.1.1,0,())) (λa=>I (a.2,(a.1,()))) λa=>I ((0,(0,0,0,0,noB,()),A3,()),(a.1,())))
def sK:Ent:=(95,U,⟨[Z22],[.int .i64,Z6,.bool],bS⟩)
def adu:SQ Tryz.prog sK:=sk (v:=t1<|t1<|.two (t1<|.one<|.loop acp) .nil) (fn:=Tryz.f95) tu<|kC aeq kN
def aeZ:Cx:=cX [LN,LM,aX,sK] [] []
def adX:OKC Tryz.prog aeZ AF:=okc mixed<|gC MQ<|gC UP<|gC oX<|gC adu<|AJ
def ou(x:Y10×Int×Int×Int×Y4×Int×Int×A2):Rnd (Y10×Int×Int×Int×Y4×Int×Int×A2) (A2) (Y10×Int×Int×A2):=if A1 (x.2.2.2.2.2.2.1<x.2.1) then(FW (x.1,(3,x.2.2.2.1,x.2.2.2.2.1.1,x.2.2.2.2.1.2.1,0,(w64<|x.2.2.2.2.2.1+x.2.2.2.2.2.2.1),0,0,0,noB,()),())).bind λa=>let b:=(w64<|x.2.2.2.2.2.2.1+1);I (.inl (a.2.1,x.2.1,x.2.2.1,x.2.2.2.1,x.2.2.2.2.1,x.2.2.2.2.2.1,b,())) else I (.inr<|.inr (x.1,x.2.1,x.2.2.1,()))
def acN:=AR ou
def acX:Loop:=⟨[(0,Z24),(1,.int .i64),(2,.int .i64),(6,.int .i64),(7,Z5),(9,.int .i64),(10,.int .i64)],[(0,Z24),(1,.int .i64),(2,.int .i64)],0,[],acN⟩
def aeO:LF Tryz.f60 [0] [1,1,1,0,1,0,0] acX:=sq (v:= .nil) adX (b:=ou) kN
def PX(x:Y10×Int×Int×A2):Option ((A2)×(Y10×A2)):=(bS (x.1,())).bind λa=>if !a.1.2.2.1 then I ((),a.2) else(CU (a.2.1.1,2,())).bind λc=>(CU (c.2.1,40,())).bind λd=>(AM (acN ((d.2.1,a.2.1.2),x.2.1,x.2.2.1,a.1.1,a.1.2.1,(w64<|c.1.1 * d.1.1),0,())) (λ_=>U) λb=>(CU (b.1.1,(w64<|b.2.1+4),())).bind λe=>(Nt ((e.2.1,b.1.2),e.1.1,b.2.2)).bind λf=>I ((),f.2))
def pY:Ent:=(60,U,⟨[Z22,.int .i64,.int .i64],[],PX⟩)
def acM:SQ Tryz.prog pY:=sk (v:=t1<|t1<|t1<|.two (t1<|.one<|.loop acX) .nil) (fn:=Tryz.f60) adX<|kC aeO kN
def afP:Cx:=cX [LN,LM,pY,aX] [] [(89,96)]
def Uq:OKC Tryz.prog afP AF:=okc mixed<|gC MQ<|gC UP<|gC acM<|gC oX<|AJ
def pL(x:Y10×Int×Int×A2):Rnd (Y10×Int×Int×A2) (A2) (Y10×A2):=if A1 (0<x.2.2.1) then(FW (x.1,(2,x.2.1,0,0,0,0,0,0,0,noB,()),())).bind λa=>I (.inl (a.2.1,x.2.1,(w64<|x.2.2.1 - 1),())) else I (.inr<|.inr (x.1,()))
def acJ:=AR pL
def acr:Loop:=⟨[(0,Z24),(5,.int .i64),(6,.int .i64)],[(0,Z24)],5,[],acJ⟩
def ael:LF Tryz.f62 [0] [1,1,1,1,0,1,0,1,1,1,0,1,0,0] acr:=sq (v:= .nil) Uq (b:=pL) kN
def pM(x:Y10×Int×Int×Int×A2):Rnd (Y10×Int×Int×Int×A2) (A2) (Y10×Int×A2):=if A1 (x.2.2.2.1<x.2.2.1) then(FW (x.1,(4,0,0,0,x.2.2.2.1,0,1,0,0,noB,()),())).bind λa=>I (.inl (a.2.1,x.2.1,x.2.2.1,(w64<|x.2.2.2.1+1),())) else I (.inr<|.inr (x.1,x.2.1,()))
def acK:=AR pM
def acs:Loop:=⟨[(0,Z24),(2,.int .i64),(3,.int .i64),(4,.int .i64)],[(0,Z24),(2,.int .i64)],2,[],acK⟩
def aem:LF Tryz.f62 [0] [1,1,0,1,0,0,1,0,0,1,1,0,0] acs:=sq (v:= .nil) Uq (b:=pM) kN
def pK(x:Y10×Int×Int×A2):Rnd (Y10×Int×Int×A2) (A2) (Y10×A2):=if(A1<|x.2.2.1<12)&&(A1<|x.2.1<(x.1.2.2.2.2.1.length:Int)) then(FW (x.1,(4,0,0,0,x.2.1,0,0,0,0,noB,()),())).bind λa=>I (.inl (a.2.1,x.2.1,(w64<|x.2.2.1+1),())) else I (.inr<|.inr (x.1,()))
def acI:=AR pK
def acq:Loop:=⟨[(0,Z24),(7,.int .i64),(8,.int .i64)],[(0,Z24)],7,[],acI⟩
def aek:LF Tryz.f62 [0] [1,1,1,1,1,1,1,0,1,0,0] acq:=sq (v:= .nil) Uq (b:=pK) kN
def pN(x:Y10×Int×A2):Rnd (Y10×Int×A2) (A2) (Y10×A2):=(CU (x.1.1,2,())).bind λa=>if A1 (x.2.1<(w64<|1+a.1.1)) then let c:=(x.1.2.2.2.2.1.length:Int);(AM (acK ((a.2.1,x.1.2),x.2.1,c,0,())) (λ_=>I<|.inr<|.inl ()) λb=>I<|.inl (b.1,(w64<|b.2.1+1),())) else I (.inr<|.inr ((a.2.1,x.1.2),()))
def acL:=AR pN
def acu:Loop:=⟨[(0,Z24),(2,.int .i64)],[(0,Z24)],0,[],acL⟩
def afA:LF Tryz.f62 [0] [1,1,0,1,0,0] acu:=sq (v:=t1<|.two (.one<|t1<|t1<|.one<|.loop acs) .nil) Uq (b:=pN)<|kC aem kN
def bT(x:Y10×A2):Option ((A2)×(Y10×A2)):=(Nt (x.1,40,0,())).bind λg=>(PX (g.2.1,6,0,())).bind λh=>(AM (acL (h.2.1,0,())) (λ_=>U) λb=>(CU (b.1.1,4,())).bind λc=>(BS (X:=Y10×A2) (λd=>let i:=(d.1.2.2.2.2.1.length:Int);(PX (d.1,6,0,())).bind λj=>(AM (acI (j.2.1,i,0,())) (λ_=>U) λk=>(Nt (k.1,40,0,())).bind λl=>I ((),l.2)))<|(CU (c.2.1,3,())).bind λa=>if A1 (a.1.1=0) then(CU (a.2.1,40,())).bind λe=>(FW ((e.2.1,b.1.2),(7,c.1.1,0,0,0,0,e.1.1,0,0,noB,()),())).bind λm=>(FW (m.2.1,(8,c.1.1,0,0,0,0,0,0,0,noB,()),())).bind λn=>I (.inr n.2) else if A1 (a.1.1=1) then(CU (a.2.1,9,())).bind λf=>(AM (acJ ((f.2.1,b.1.2),c.1.1,f.1)) (λ_=>U) λo=>I<|.inr o) else I (.inr ((a.2.1,b.1.2),()))))
def sL:Ent:=(62,U,⟨[Z22],[],bT⟩)
def adv:SQ Tryz.prog sL:=sk (v:=t1<|t1<|.two (t1<|.one<|.loop acu)<|t1<|.join [(0,Z24)] (t1<|.one<|t1<|t1<|t1<|.two (t1<|.one<|.loop acr) .nil)<|t1<|t1<|.two (t1<|.one<|.loop acq) .nil) (fn:=Tryz.f62) Uq<|kC afA<|kC ael<|kC aek kN
def afN:Cx:=cX [LN,qu,Iq,LM,pY,aX,sL] [] []
def tr:OKC Tryz.prog afN AF:=okc mixed<|gC MQ<|gC acW<|gC JS<|gC UP<|gC acM<|gC oX<|gC adv<|AJ
def pb(x:Y10×Int×A2):Rnd (Y10×Int×A2) (A2) (Y10×A2):=if A1 (x.2.1<4) then(PX (x.1,7,0,())).bind λa=>(Nt (a.2.1,20,0,())).bind λb=>I (.inl (b.2.1,(w64<|x.2.1+1),())) else I (.inr<|.inr (x.1,()))
def acG:=AR pb
def ad5:Loop:=⟨[(0,Z24),(8,.int .i64)],[(0,Z24)],1,[],acG⟩
def aep:LF Tryz.f37 [0] [1,1,0,1,1,1,1,1,1,1,1,1,1,1,1,1,1,1,1,1,1,1,1,1,0,0] ad5:=sq (v:= .nil) tr (b:=pb) kN
def bR(x:Y10×Int×A2):Option ((A2)×(Y10×A2)):=(CU (x.1.1,4,())).bind λj=>(CU (j.2.1,24,())).bind λg=>(BS (X:=Y10×Int×Int×Int×Bool×A2) (λa=>if a.2.2.2.2.1 then(Uj (a.1,())).bind λD=>I ((),D.2) else(BS (X:=Y10×Int×Int×Int×Bool×A2) (λd=>if d.2.2.2.2.1 then(CU (d.1.1,7,())).bind λl=>(PX ((l.2.1,d.1.2),(w64<|1+l.1.1),d.2.1,())).bind λE=>I ((),E.2) else(BS (X:=Y10×Int×Int×Int×Bool×A2) (λf=>if f.2.2.2.2.1 then(CU (f.1.1,20,())).bind λm=>(Nt ((m.2.1,f.1.2),(w64<|1+m.1.1),f.2.1,())).bind λF=>I ((),F.2) else(BS (X:=Y10×Int×Int×Bool×A2) (λc=>if c.2.2.2.1 then(FW (c.1,(2,c.2.1,0,0,0,0,0,0,0,noB,()),())).bind λG=>I ((),G.2) else let H:=(A1<|c.2.2.1=13);(if H then(CU (c.1.1,50,())).bind λn=>(FW ((n.2.1,c.1.2),(7,c.2.1,0,0,0,0,n.1.1,0,0,noB,()),())).bind λJ=>I ((),J.2) else(BS (X:=Y10×Int×Int×Bool×A2) (λe=>if e.2.2.2.1 then(FW (e.1,(8,e.2.1,0,0,0,0,0,0,0,noB,()),())).bind λK=>I ((),K.2) else let L:=(A1<|e.2.2.1=16);(if L then(CU (e.1.1,2,())).bind λo=>(CU (o.2.1,3,())).bind λp=>(FW ((p.2.1,e.1.2),((w64<|9+o.1.1),p.1.1,0,0,0,0,0,0,0,noB,()),())).bind λM=>I ((),M.2) else(BS (X:=Y10×Int×Int×Bool×A2) (λb=>if b.2.2.2.1 then if inb b.2.1 b.1.2.2.1.length then(G0 (((rd (dfl .AQ) b.1.2.2.1 b.2.1).id,(rd (dfl .AQ) b.1.2.2.1 b.2.1).up,(rd (dfl .AQ) b.1.2.2.1 b.2.1).log,(rd (dfl .AQ) b.1.2.2.1 b.2.1).fo,(rd (dfl .AQ) b.1.2.2.1 b.2.1).AN,()),())).bind λh=>if A1 (0<(h.1.1.2.2.2.2.2.1.length:Int)) then(CU (b.1.1,(h.1.1.2.2.2.2.2.1.length:Int),())).bind λi=>if inb i.1.1 h.1.1.2.2.2.2.2.1.length then let N:=(rd (dfl .note) h.1.1.2.2.2.2.2.1 i.1.1).fr;let O:=(rd (dfl .note) h.1.1.2.2.2.2.2.1 i.1.1).nu;let v55:=(rd (dfl .note) h.1.1.2.2.2.2.2.1 i.1.1).to;let v56:=(rd (dfl .note) h.1.1.2.2.2.2.2.1 i.1.1).un;let v57:=(rd (dfl .note) h.1.1.2.2.2.2.2.1 i.1.1).tx;(FW ((i.2.1,b.1.2),(11,b.2.1,N,O,0,0,0,0,0,noB,()),())).bind λP=>I ((),P.2) else U else I ((),(b.1,())) else U else let Q:=(A1<|b.2.2.1=19);(if Q then(CU (b.1.1,2,())).bind λq=>(FW ((q.2.1,b.1.2),((w64<|12+q.1.1),b.2.1,0,0,0,0,0,0,0,noB,()),())).bind λR=>I ((),R.2) else(BS (X:=Y10×Bool×A2) (λk=>if k.2.1 then(bT (k.1,())).bind λS=>I ((),S.2) else(AM (acG (k.1,0,())) (λ_=>U) λT=>I ((),T))) (let r:=(A1<|b.2.2.1=20);(if r then I (.inr (b.1,r,())) else let s:=(A1<|b.2.2.1=21);(if s then I (.inr (b.1,s,())) else let V:=(A1<|b.2.2.1=22);I (.inr (b.1,V,())))))))) (let t:=(A1<|e.2.2.1=17);(if t then I (.inr (e.1,e.2.1,e.2.2.1,t,())) else let W:=(A1<|e.2.2.1=18);I (.inr (e.1,e.2.1,e.2.2.1,W,()))))))) (let u:=(A1<|c.2.2.1=14);(if u then I (.inr (c.1,c.2.1,c.2.2.1,u,())) else let Y:=(A1<|c.2.2.1=15);I (.inr (c.1,c.2.1,c.2.2.1,Y,()))))))) (let v:=(A1<|f.2.2.2.1=11);(if v then I (.inr (f.1,f.2.2.1,f.2.2.2.1,v,())) else let Z:=(A1<|f.2.2.2.1=12);I (.inr (f.1,f.2.2.1,f.2.2.2.1,Z,())))))) (let w:=(A1<|d.2.2.2.1=9);(if w then I (.inr (d.1,d.2.1,d.2.2.1,d.2.2.2.1,w,())) else let v24:=(A1<|d.2.2.2.1=10);I (.inr (d.1,d.2.1,d.2.2.1,d.2.2.2.1,v24,())))))) (let y:=(A1<|a.2.2.2.1=3);(if y then I (.inr (a.1,a.2.1,a.2.2.1,a.2.2.2.1,y,())) else let z:=(A1<|a.2.2.2.1=4);(if z then I (.inr (a.1,a.2.1,a.2.2.1,a.2.2.2.1,z,())) else let A:=(A1<|a.2.2.2.1=5);(if A then I (.inr (a.1,a.2.1,a.2.2.1,a.2.2.2.1,A,())) else let B:=(A1<|a.2.2.2.1=6);(if B then I (.inr (a.1,a.2.1,a.2.2.1,a.2.2.2.1,B,())) else let C:=(A1<|a.2.2.2.1=7);(if C then I (.inr (a.1,a.2.1,a.2.2.1,a.2.2.2.1,C,())) else let v17:=(A1<|a.2.2.2.1=8);I (.inr (a.1,a.2.1,a.2.2.1,a.2.2.2.1,v17,()))))))))))<|(if A1 (g.1.1=0) then I (.inr ((g.2.1,x.1.2),x.2.1,j.1.1,g.1.1,(A1<|g.1.1=0),())) else if A1 (g.1.1=1) then I (.inr ((g.2.1,x.1.2),x.2.1,j.1.1,g.1.1,(A1<|g.1.1=1),())) else I (.inr ((g.2.1,x.1.2),x.2.1,j.1.1,g.1.1,(A1<|g.1.1=2),()))))
def sJ:Ent:=(37,U,⟨[Z22,.int .i64],[],bR⟩)
def adg:SQ Tryz.prog sJ:=sk (v:=t1<|t1<|.one<|.join [(0,Z24),(1,.int .i64),(4,.int .i64),(18,.int .i64),(27,.bool)] .nil<|t1<|.join [(0,Z24),(1,.int .i64),(4,.int .i64),(18,.int .i64),(33,.bool)] .nil<|t1<|.join [(0,Z24),(1,.int .i64),(4,.int .i64),(18,.int .i64),(49,.bool)] .nil<|t1<|.join [(0,Z24),(4,.int .i64),(18,.int .i64),(61,.bool)] .nil<|t1<|t1<|t1<|.join [(0,Z24),(4,.int .i64),(18,.int .i64),(79,.bool)] .nil<|t1<|t1<|t1<|.join [(0,Z24),(4,.int .i64),(18,.int .i64),(102,.bool)] .nil<|t1<|t1<|t1<|.join [(0,Z24),(153,.bool)] .nil<|t1<|t1<|.one<|.loop ad5) (fn:=Tryz.f37) tr<|kC aep kN
def akS:Cx:=cX [LN,qw,qu,sJ] [] []
def y0:OKC Tryz.prog akS AF:=okc mixed<|gC MQ<|gC aca<|gC acW<|gC adg<|AJ
def rr(x:Y0×Y11×Int×Int×A2):Rnd (Y0×Y11×Int×Int×A2) (A2) (Y0×Y11×A2):=if A1 (0<x.2.2.2.1) then(bR ((x.1,x.2.1.2),x.2.2.1,())).bind λa=>I (.inl (a.2.1.1,((),a.2.1.2),x.2.2.1,(w64<|x.2.2.2.1 - 1),())) else I (.inr<|.inr (x.1,((),x.2.1.2),()))
def adS:=AR rr
def vB:Loop:=⟨[(0,Z23),(5,Z28),(6,.int .i64),(7,.int .i64)],[(0,Z23),(5,Z28)],0,[],adS⟩
def akl:LF Tryz.f22 [0] [1,1,1,1,0,1,0,0] vB:=sq (v:= .nil) y0 (b:=rr) kN
def df(x:Y0×Int×A2):Option ((Y11×A2)×(Y0×A2)):=(RW ()).bind λa=>(CU (x.1,5,())).bind λb=>if inb b.1.1 (([0,0,3,6,12]:List Int).length) then let f:=(rd (dfl .int) ([0,0,3,6,12]:List Int) b.1.1);(Uj ((b.2.1,a.1.1.1,a.1.1.2.1,a.1.1.2.2.1,a.1.1.2.2.2.1,a.1.1.2.2.2.2.1,a.1.1.2.2.2.2.2.1,([]:List Event),()),())).bind λc=>(CU (c.2.1.1,x.2)).bind λd=>(AM (adS (d.2.1,((),c.2.1.2),f,d.1)) (λ_=>U) λe=>I ((((),e.2.1.2),()),(e.1,()))) else U
def yM:Ent:=(22,U,⟨[Z0,.int .i64],[Z28],df⟩)
def afW:SQ Tryz.prog yM:=sk (v:=t1<|t1<|t1<|t1<|.two (t1<|.one<|.loop vB) .nil) (fn:=Tryz.f22) y0<|kC akl kN
def ae1:Cx:=cX [zQ,LN,yM] [] []
def aef:OKC Tryz.prog ae1 AF:=okc mixed<|gC agX<|gC MQ<|gC afW<|AJ
def JU(x:List Int×A2):Option ((List Event×A2)×A2):=(eh x).bind λc=>(CU (c.1.1,60,())).bind λa=>if A1 (a.1.1=0) then(CU (a.2.1,2,())).bind λb=>if A1 (0<=(w64<|2000+b.1.1))&&A1 ((w64<|2000+b.1.1)<=4294967296) then I (((BT (AL<|w64<|2000+b.1.1)<|dfl .BK),()),()) else U else(df (a.2.1,26,())).bind λd=>I (d.1.1.2.2.2.2.2.2.2,())
def MR:Ent:=(11,U,⟨[.fz .u8],[.row 46 .BK],JU⟩)
def Np:SQ Tryz.prog MR:=sk (v:= .nil) (fn:=Tryz.f11) aef kN
def akA:Cx:=cX [IH,Gi,KH,W0] [] [(57,64)]
def Vm:OKC Tryz.prog akA AF:=okc mixed<|gC Ii<|gC HA<|gC LH<|gC bq<|AJ
def cr(x:Y2×Int×A2):Rnd (Y2×Int×A2) (Bool×A2) (A2):=if A1 (x.2.1<(x.1.2.2.2.2.2.1.length:Int)) then if inb x.2.1 x.1.2.2.2.2.2.1.length then(O7 (((rd (dfl .note) x.1.2.2.2.2.2.1 x.2.1).fr,(rd (dfl .note) x.1.2.2.2.2.2.1 x.2.1).nu,(rd (dfl .note) x.1.2.2.2.2.2.1 x.2.1).to,(rd (dfl .note) x.1.2.2.2.2.2.1 x.2.1).un,(rd (dfl .note) x.1.2.2.2.2.2.1 x.2.1).tx,()),())).bind λa=>if !a.1.1 then I (.inr<|.inl (A3,())) else I (.inl (x.1,(w64<|x.2.1+1),())) else U else I (.inr<|.inr ())
def qI:=AR cr
def um:Loop:=⟨[(1,Z29),(7,.int .i64)],[],6,[(2,.bool)],qI⟩
def ajn:LF Tryz.f39 [] [1,1,1,1,1,0,1,0,0] um:=sq (v:= .nil) Vm (b:=cr) kN
def ct(x:Y2×Int×A2):Rnd (Y2×Int×A2) (Bool×A2) (Y2×A2):=if A1 (x.2.1<(x.1.2.2.2.2.1.length:Int)) then if inb x.2.1 x.1.2.2.2.2.1.length then(O7 (((rd (dfl .note) x.1.2.2.2.2.1 x.2.1).fr,(rd (dfl .note) x.1.2.2.2.2.1 x.2.1).nu,(rd (dfl .note) x.1.2.2.2.2.1 x.2.1).to,(rd (dfl .note) x.1.2.2.2.2.1 x.2.1).un,(rd (dfl .note) x.1.2.2.2.2.1 x.2.1).tx,()),())).bind λa=>if !a.1.1 then I (.inr<|.inl (A3,())) else I (.inl (x.1,(w64<|x.2.1+1),())) else U else I (.inr<|.inr (x.1,()))
def qJ:=AR ct
def uo:Loop:=⟨[(1,Z29),(6,.int .i64)],[(1,Z29)],4,[(2,.bool)],qJ⟩
def ajo:LF Tryz.f39 [] [1,1,1,1,0,1,0,0] uo:=sq (v:= .nil) Vm (b:=ct) kN
def cw(x:Y2×Int×A2):Rnd (Y2×Int×A2) (Bool×A2) (Y2×A2):=if A1 (x.2.1<(x.1.2.2.2.1.length:Int)) then if inb x.2.1 x.1.2.2.2.1.length then let a:=(rd (dfl .An) x.1.2.2.2.1 x.2.1).src;let b:=(rd (dfl .An) x.1.2.2.2.1 x.2.1).dst;let c:=(rd (dfl .An) x.1.2.2.2.1 x.2.1).data;let f:=(rd (dfl .An) x.1.2.2.2.1 x.2.1).sp;(FI (a,())).bind λd=>if !d.1.1 then I (.inr<|.inl (A3,())) else(FI (b,())).bind λe=>if !e.1.1 then I (.inr<|.inl (A3,())) else if !decide ((w64<|a - b)=1) then if !decide ((w64<|b - a)=1) then I (.inr<|.inl (A3,())) else if A1 (40<(c.size:Int)) then I (.inr<|.inl (A3,())) else I (.inl (x.1,(w64<|x.2.1+1),())) else if A1 (40<(c.size:Int)) then I (.inr<|.inl (A3,())) else I (.inl (x.1,(w64<|x.2.1+1),())) else U else I (.inr<|.inr (x.1,()))
def qK:=AR cw
def uq:Loop:=⟨[(1,Z29),(4,.int .i64)],[(1,Z29)],2,[(2,.bool)],qK⟩
def akd:LF Tryz.f39 [] [1,1,1,0,1,0,0] uq:=sq (v:= .nil) Vm (b:=cw) kN
def cy(x:Y2×Int×A2):Rnd (Y2×Int×A2) (Bool×A2) (Y2×A2):=if A1 (x.2.1<(x.1.2.1.length:Int)) then if inb x.2.1 x.1.2.1.length then(Io (((rd (dfl .AQ) x.1.2.1 x.2.1).id,(rd (dfl .AQ) x.1.2.1 x.2.1).up,(rd (dfl .AQ) x.1.2.1 x.2.1).log,(rd (dfl .AQ) x.1.2.1 x.2.1).fo,(rd (dfl .AQ) x.1.2.1 x.2.1).AN,()),())).bind λa=>if Ak (!(!a.1.1)) (inb x.2.1 x.1.2.1.length) then if(!a.1.1)||(!decide ((rd (dfl .AQ) x.1.2.1 x.2.1).id=x.2.1)) then I (.inr<|.inl (A3,())) else I (.inl (x.1,(w64<|x.2.1+1),())) else U else U else I (.inr<|.inr (x.1,()))
def qL:=AR cy
def ur:Loop:=⟨[(1,Z29),(3,.int .i64)],[(1,Z29)],0,[(2,.bool)],qL⟩
def akt:LF Tryz.f39 [] [1,1,0,1,0,0] ur:=sq (v:= .nil) Vm (b:=cy) kN
def Pm(x:Y2×A2):Option ((Bool×A2)×A2):=(D5 (x.1.1,0,99999,())).bind λe=>if !e.1.1 then I ((A3,()),()) else if !decide ((x.1.2.1.length:Int)=4) then I ((A3,()),()) else if !decide ((x.1.2.2.1.length:Int)=3) then I ((A3,()),()) else if A1 (30<(x.1.2.2.2.1.length:Int)) then I ((A3,()),()) else if A1 (6<(x.1.2.2.2.2.1.length:Int)) then I ((A3,()),()) else if A1 (6<(x.1.2.2.2.2.2.1.length:Int)) then I ((A3,()),()) else(AM (qL (x.1,0,())) (λa=>I (a,())) λa=>(AM (qK (a.1,0,())) (λb=>I (b,())) λb=>(AM (qJ (b.1,0,())) (λc=>I (c,())) λc=>(AM (qI (c.1,0,())) (λd=>I (d,())) λd=>I ((A0,()),())))))
def yT:Ent:=(39,U,⟨[Z30],[.bool],Pm⟩)
def afd:SQ Tryz.prog yT:=sk (v:=t1<|t1<|.two (t1<|.one<|.loop ur)<|.two (t1<|.one<|.loop uq)<|.two (t1<|.one<|.loop uo)<|.two (t1<|.one<|.loop um) .nil) (fn:=Tryz.f39) Vm<|kC akt<|kC akd<|kC ajo<|kC ajn kN
def akW:Cx:=cX [MV] [] []
def yA:OKC Tryz.prog akW AF:=okc mixed<|gC Nq<|AJ
def dR(x:Y2×Y2×Y2×Int×A2):Rnd (Y2×Y2×Y2×Int×A2) (A2) (Y2×Y2×A2):=if A1 (x.2.2.2.1<(x.1.2.1.length:Int)) then if inb x.2.2.2.1 x.1.2.1.length then(Gh (((rd (dfl .AQ) x.1.2.1 x.2.2.2.1).id,(rd (dfl .AQ) x.1.2.1 x.2.2.2.1).up,(rd (dfl .AQ) x.1.2.1 x.2.2.2.1).log,(rd (dfl .AQ) x.1.2.1 x.2.2.2.1).fo,(rd (dfl .AQ) x.1.2.1 x.2.2.2.1).AN,()),())).bind λa=>if Ac (x.2.2.1.2.1.length+([(AA.mk a.1.1.1 a.1.1.2.1 a.1.1.2.2.1 a.1.1.2.2.2.1 a.1.1.2.2.2.2.1)]:List AA).length) then I (.inl (x.1,x.2.1,(x.2.2.1.1,(x.2.2.1.2.1++([(AA.mk a.1.1.1 a.1.1.2.1 a.1.1.2.2.1 a.1.1.2.2.2.1 a.1.1.2.2.2.2.1)]:List AA)),x.2.2.1.2.2),(w64<|x.2.2.2.1+1),())) else U else U else I (.inr<|.inr (x.2.1,x.2.2.1,()))
def bU:=AR dR
def vD:Loop:=⟨[(1,Z29),(2,Z2),(3,Z2),(4,.int .i64)],[(2,Z2),(3,Z2)],0,[],bU⟩
def akn:LF Tryz.f40 [] [1,1,0,1,0,0] vD:=sq (v:= .nil) yA (b:=dR) kN
def Pj(x:Y2×A2):Option ((Y2×A2)×A2):=if Ac (([]:List Bool).length+x.1.2.2.1.length) then if Ac (([]:List AS).length+x.1.2.2.2.1.length) then if Ac (([]:List A6).length+x.1.2.2.2.2.1.length) then if Ac (([]:List A6).length+x.1.2.2.2.2.2.1.length) then(AM (bU (x.1,(0,([]:List AA),([]:List Bool),([]:List AS),([]:List A6),([]:List A6),()),(x.1.1,([]:List AA),(([]:List Bool)++x.1.2.2.1),(([]:List AS)++x.1.2.2.2.1),(([]:List A6)++x.1.2.2.2.2.1),(([]:List A6)++x.1.2.2.2.2.2.1),()),0,())) (λ_=>U) λa=>I (a.2,())) else U else U else U else U
def yO:Ent:=(40,U,⟨[Z30],[Z3],Pj⟩)
def afY:SQ Tryz.prog yO:=sk (v:=t1<|t1<|.two (t1<|.one<|.loop vD) .nil) (fn:=Tryz.f40) yA<|kC akn kN
def akB:Cx:=cX [yT,yO,aA4] [] []
def an3:OKC Tryz.prog akB AF:=okc mixed<|gC afd<|gC afY<|gC ahv<|AJ
def O2(x:Y2×Y6×A2):Option ((Y2×Bool×A2)×A2):=(Pm (x.1,())).bind λb=>if !b.1.1 then I (((0,([]:List AA),([]:List Bool),([]:List AS),([]:List A6),([]:List A6),()),A3,()),()) else if A1 (99999<=x.1.1) then(Pj (x.1,())).bind λc=>I ((c.1.1,A3,()),()) else(Pj (x.1,())).bind λd=>(W3 (d.1.1,x.2)).bind λa=>if !a.1.2.1 then(Pj (x.1,())).bind λe=>I ((e.1.1,A3,()),()) else(Pj (a.1.1,())).bind λf=>I ((f.1.1,A0,()),())
def yU:Ent:=(24,U,⟨[Z30,Z13],[Z3,.bool],O2⟩)
def ag7:SQ Tryz.prog yU:=sk (v:= .nil) (fn:=Tryz.f24) an3 kN
def ahK:Cx:=cX [qw,yU] [] []
def vV:OKC Tryz.prog ahK AF:=okc mixed<|gC aca<|gC ag7<|AJ
def bp(x:List Event×Y2×Y2×Int×A2):Rnd (List Event×Y2×Y2×Int×A2) (A2) (Y2×Y2×A2):=if A1 (x.2.2.2.1<(x.1.length:Int)) then if inb x.2.2.2.1 x.1.length then(O2 (x.2.2.1,((rd (dfl .BK) x.1 x.2.2.2.1).ki,(rd (dfl .BK) x.1 x.2.2.2.1).at_,(rd (dfl .BK) x.1 x.2.2.2.1).fr,(rd (dfl .BK) x.1 x.2.2.2.1).nu,(rd (dfl .BK) x.1 x.2.2.2.1).wo,(rd (dfl .BK) x.1 x.2.2.2.1).mix,(rd (dfl .BK) x.1 x.2.2.2.1).kp,(rd (dfl .BK) x.1 x.2.2.2.1).to,(rd (dfl .BK) x.1 x.2.2.2.1).un,(rd (dfl .BK) x.1 x.2.2.2.1).tx,()),())).bind λa=>I (.inl (x.1,x.2.1,a.1.1,(w64<|x.2.2.2.1+1),())) else U else I (.inr<|.inr (x.2.1,x.2.2.1,()))
def aP:=AR bp
def sx:Loop:=⟨[(0,.sl .BK),(2,Z2),(3,Z2),(4,.int .i64)],[(2,Z2),(3,Z2)],0,[],aP⟩
def agy:LF Tryz.f12 [] [1,1,1,0,1,0,0] sx:=sq (v:= .nil) vV (b:=bp) kN
def KJ(x:List Event×A2):Option ((Y2×A2)×A2):=(RW ()).bind λa=>if A1 (2000<(x.1.length:Int)) then I (a.1,()) else(AM (aP (x.1,(0,([]:List AA),([]:List Bool),([]:List AS),([]:List A6),([]:List A6),()),a.1.1,0,())) (λ_=>U) λb=>I (b.2,()))
def Mc:Ent:=(12,U,⟨[.fz .BK],[Z3],KJ⟩)
def Nr:SQ Tryz.prog Mc:=sk (v:=t1<|t1<|t1<|.two (t1<|.one<|.loop sx) .nil) (fn:=Tryz.f12) vV<|kC agy kN
def aqo:Cx:=cX [] [] [(11,13)]
def as8:OKC Tryz.prog aqo AF:=okc mixed<|AJ
def By(x:Int×Int×Int×A2):Option ((Bool×A2)×A2):=let a:=((A1<|x.2.1<=x.1)&&(A1<|x.1<=x.2.2.1));I ((a,()),())
def F3:Ent:=(54,U,⟨[.int .i64,.int .i64,.int .i64],[.bool],By⟩)
def FK:SQ Tryz.prog F3:=sk (v:= .nil) (fn:=Tryz.f54) as8 kN
def anQ:Cx:=cX [F3] [] []
def aoV:OKC Tryz.prog anQ AF:=okc mixed<|gC FK<|AJ
def FJ(x:Int×A2):Option ((Bool×A2)×A2):=(By (x.1,0,3,())).bind λa=>I (a.1,())
def Ir:Ent:=(48,U,⟨[.int .i64],[.bool],FJ⟩)
def JT:SQ Tryz.prog Ir:=sk (v:= .nil) (fn:=Tryz.f48) aoV kN
def af6:Cx:=cX [Ir] [] []
def agT:OKC Tryz.prog af6 AF:=okc mixed<|gC JT<|AJ
def qB(x:Int×A2):Option ((Y1×A2)×A2):=(FJ x).bind λa=>if !a.1.1 then I (((0,A3,noB,0,([]:List AH),()),()),()) else I (((x.1,A0,noB,0,([]:List AH),()),()),())
def tn:Ent:=(42,U,⟨[.int .i64],[Z1],qB⟩)
def adq:SQ Tryz.prog tn:=sk (v:= .nil) (fn:=Tryz.f42) agT kN
def ae4:Cx:=cX [] [] []
def aei:OKC Tryz.prog ae4 AF:=okc mixed<|AJ
def aw(x:List AA×A2):Option ((List AA×A2)×A2):=if A1 ((x.1.length:Int)=0) then I ((([]:List AA),()),()) else if A1 (0<=(x.1.length:Int))&&A1 ((x.1.length:Int)<=4294967296) then I (((BH (BT (AL (x.1.length:Int))<|dfl .AQ).length x.1++Bm x.1.length (BT (AL (x.1.length:Int))<|dfl .AQ)),()),()) else U
def adQ:Ent:=(70,U,⟨[.fz .AQ],[.row 41 .AQ],aw⟩)
def adb:SQ Tryz.prog adQ:=sk (v:= .nil) (fn:=Tryz.f70) aei kN
def af2:Cx:=cX [] [] []
def agP:OKC Tryz.prog af2 AF:=okc mixed<|AJ
def bM(x:List Bool×A2):Option ((List Bool×A2)×A2):=if A1 ((x.1.length:Int)=0) then I ((([]:List Bool),()),()) else if A1 (0<=(x.1.length:Int))&&A1 ((x.1.length:Int)<=4294967296) then I (((BH (BT (AL (x.1.length:Int))<|dfl .bool).length x.1++Bm x.1.length (BT (AL (x.1.length:Int))<|dfl .bool)),()),()) else U
def th:Ent:=(71,U,⟨[.fz .bool],[.row 4 .bool],bM⟩)
def adn:SQ Tryz.prog th:=sk (v:= .nil) (fn:=Tryz.f71) agP kN
def ae3:Cx:=cX [] [] []
def aeh:OKC Tryz.prog ae3 AF:=okc mixed<|AJ
def av(x:List AS×A2):Option ((List AS×A2)×A2):=if A1 ((x.1.length:Int)=0) then I ((([]:List AS),()),()) else if A1 (0<=(x.1.length:Int))&&A1 ((x.1.length:Int)<=4294967296) then I (((BH (BT (AL (x.1.length:Int))<|dfl .An).length x.1++Bm x.1.length (BT (AL (x.1.length:Int))<|dfl .An)),()),()) else U
def adP:Ent:=(72,U,⟨[.fz .An],[.row 64 .An],av⟩)
def ada:SQ Tryz.prog adP:=sk (v:= .nil) (fn:=Tryz.f72) aeh kN
def af3:Cx:=cX [] [] []
def agQ:OKC Tryz.prog af3 AF:=okc mixed<|AJ
def Ny(x:List A6×A2):Option ((List A6×A2)×A2):=if A1 ((x.1.length:Int)=0) then I ((([]:List A6),()),()) else if A1 (0<=(x.1.length:Int))&&A1 ((x.1.length:Int)<=4294967296) then I (((BH (BT (AL (x.1.length:Int))<|dfl .note).length x.1++Bm x.1.length (BT (AL (x.1.length:Int))<|dfl .note)),()),()) else U
def qE:Ent:=(73,U,⟨[.fz .note],[.row 43 .note],Ny⟩)
def acT:SQ Tryz.prog qE:=sk (v:= .nil) (fn:=Tryz.f73) agQ kN
def af5:Cx:=cX [] [] []
def agS:OKC Tryz.prog af5 AF:=okc mixed<|AJ
def pz(x:List AH×A2):Option ((List AH×A2)×A2):=if A1 ((x.1.length:Int)=0) then I ((([]:List AH),()),()) else if A1 (0<=(x.1.length:Int))&&A1 ((x.1.length:Int)<=4294967296) then I (((BH (BT (AL (x.1.length:Int))<|dfl .half).length x.1++Bm x.1.length (BT (AL (x.1.length:Int))<|dfl .half)),()),()) else U
def tl:Ent:=(110,U,⟨[.fz .half],[.row 85 .half],pz⟩)
def adp:SQ Tryz.prog tl:=sk (v:= .nil) (fn:=Tryz.f110) agS kN
def aee:Cx:=cX [] [] []
def af9:OKC Tryz.prog aee AF:=okc mixed<|AJ
def pW(x:List AT×A2):Option ((List AT×A2)×A2):=if A1 ((x.1.length:Int)=0) then I ((([]:List AT),()),()) else if A1 (0<=(x.1.length:Int))&&A1 ((x.1.length:Int)<=4294967296) then I (((BH (BT (AL (x.1.length:Int))<|dfl .mixed).length x.1++Bm x.1.length (BT (AL (x.1.length:Int))<|dfl .mixed)),()),()) else U
def adW:Ent:=(111,U,⟨[.fz .mixed],[.row 122 .mixed],pW⟩)
def adi:SQ Tryz.prog adW:=sk (v:= .nil) (fn:=Tryz.f111) af9 kN
def agk:Cx:=cX [tl,adW] [] []
def uA:OKC Tryz.prog agk AF:=okc mixed<|gC adp<|gC adi<|AJ
def bK(x:Y1×Y1×Int×Int×A2):Rnd (Y1×Y1×Int×Int×A2) (A2) (Y1×Y1×A2):=if A1 (x.2.2.2.1<x.2.2.1) then if inb x.2.2.2.1 x.2.1.2.2.2.2.1.length then(pW ((rd (dfl .half) x.2.1.2.2.2.2.1 x.2.2.2.1).got,())).bind λa=>if inb x.2.2.2.1 x.2.1.2.2.2.2.1.length then I (.inl (x.1,(x.2.1.1,x.2.1.2.1,x.2.1.2.2.1,x.2.1.2.2.2.1,(Bn x.2.1.2.2.2.2.1 (AL x.2.2.2.1)<|AH.mk ((rd (dfl .half) x.2.1.2.2.2.2.1 x.2.2.2.1).fr) ((rd (dfl .half) x.2.1.2.2.2.2.1 x.2.2.2.1).nu) ((rd (dfl .half) x.2.1.2.2.2.2.1 x.2.2.2.1).to) ((rd (dfl .half) x.2.1.2.2.2.2.1 x.2.2.2.1).un) ((rd (dfl .half) x.2.1.2.2.2.2.1 x.2.2.2.1).sz) a.1.1),()),x.2.2.1,(w64<|x.2.2.2.1+1),())) else U else U else I (.inr<|.inr (x.1,x.2.1,()))
def oq:=AR bK
def adM:Loop:=⟨[(2,Z20),(3,Z20),(12,.int .i64),(13,.int .i64)],[(2,Z20),(3,Z20)],0,[],oq⟩
def afr:LF Tryz.f74 [] [1,1,1,0,1,0,0] adM:=sq (v:= .nil) uA (b:=bK) kN
def He(x:Y1×A2):Option ((Y1×A2)×A2):=(pz x.1.2.2.2.2).bind λa=>(AM (oq ((0,A3,noB,0,([]:List AH),()),(x.1.1,x.1.2.1,x.1.2.2.1,x.1.2.2.2.1,a.1),(a.1.1.length:Int),0,())) (λ_=>U) λb=>I (b.2,()))
def LI:Ent:=(74,U,⟨[Z12],[Z1],He⟩)
def MN:SQ Tryz.prog LI:=sk (v:=t1<|t1<|t1<|.two (t1<|.one<|.loop adM) .nil) (fn:=Tryz.f74) uA<|kC afr kN
def ahS:Cx:=cX [adQ,th,adP,qE,LI] [] []
def vW:OKC Tryz.prog ahS AF:=okc mixed<|gC adb<|gC adn<|gC ada<|gC acT<|gC MN<|AJ
def br(x:Y2×Y2×Int×Int×A2):Rnd (Y2×Y2×Int×Int×A2) (A2) (Y2×Y2×A2):=if A1 (x.2.2.2.1<x.2.2.1) then if inb x.2.2.2.1 x.2.1.2.1.length then(He (((rd (dfl .AQ) x.2.1.2.1 x.2.2.2.1).id,(rd (dfl .AQ) x.2.1.2.1 x.2.2.2.1).up,(rd (dfl .AQ) x.2.1.2.1 x.2.2.2.1).log,(rd (dfl .AQ) x.2.1.2.1 x.2.2.2.1).fo,(rd (dfl .AQ) x.2.1.2.1 x.2.2.2.1).AN,()),())).bind λa=>if inb x.2.2.2.1 x.2.1.2.1.length then I (.inl (x.1,(x.2.1.1,(Bn x.2.1.2.1 (AL x.2.2.2.1)<|AA.mk a.1.1.1 a.1.1.2.1 a.1.1.2.2.1 a.1.1.2.2.2.1 a.1.1.2.2.2.2.1),x.2.1.2.2),x.2.2.1,(w64<|x.2.2.2.1+1),())) else U else U else I (.inr<|.inr (x.1,x.2.1,()))
def au:=AR br
def sP:Loop:=⟨[(2,Z2),(3,Z2),(25,.int .i64),(26,.int .i64)],[(2,Z2),(3,Z2)],0,[],au⟩
def ah0:LF Tryz.f43 [] [1,1,0,1,0,0] sP:=sq (v:= .nil) vW (b:=br) kN
def LL(x:Y2×A2):Option ((Y2×A2)×A2):=(aw (x.1.2.1,())).bind λa=>(bM (x.1.2.2.1,())).bind λb=>(av (x.1.2.2.2.1,())).bind λc=>(Ny (x.1.2.2.2.2.1,())).bind λd=>(Ny x.1.2.2.2.2.2).bind λe=>(AM (au ((0,([]:List AA),([]:List Bool),([]:List AS),([]:List A6),([]:List A6),()),(x.1.1,a.1.1,b.1.1,c.1.1,d.1.1,e.1),(a.1.1.length:Int),0,())) (λ_=>U) λf=>I (f.2,()))
def rN:Ent:=(43,U,⟨[Z30],[Z3],LL⟩)
def aco:SQ Tryz.prog rN:=sk (v:=t1<|t1<|.two (t1<|.one<|.loop sP) .nil) (fn:=Tryz.f43) vW<|kC ah0 kN
def agn:Cx:=cX [tn,rN] [] []
def uB:OKC Tryz.prog agn AF:=okc mixed<|gC adq<|gC aco<|AJ
def Ue(x:Y2×Y2×Int×A2):Rnd (Y2×Y2×Int×A2) (A2) (Y2×Y2×A2):=if A1 (x.2.2.1<4) then(qB x.2.2).bind λa=>if Ac (x.2.1.2.1.length+([(AA.mk a.1.1.1 a.1.1.2.1 a.1.1.2.2.1 a.1.1.2.2.2.1 a.1.1.2.2.2.2.1)]:List AA).length) then if A1 (0<x.2.2.1) then if Ac (x.2.1.2.2.1.length+([A0]:List Bool).length) then I (.inl (x.1,(x.2.1.1,(x.2.1.2.1++([(AA.mk a.1.1.1 a.1.1.2.1 a.1.1.2.2.1 a.1.1.2.2.2.1 a.1.1.2.2.2.2.1)]:List AA)),(x.2.1.2.2.1++([A0]:List Bool)),x.2.1.2.2.2),(w64<|x.2.2.1+1),())) else U else I (.inl (x.1,(x.2.1.1,(x.2.1.2.1++([(AA.mk a.1.1.1 a.1.1.2.1 a.1.1.2.2.1 a.1.1.2.2.2.1 a.1.1.2.2.2.2.1)]:List AA)),x.2.1.2.2),(w64<|x.2.2.1+1),())) else U else I (.inr<|.inr (x.1,x.2.1,()))
def aW:=AR Ue
def ad6:Loop:=⟨[(0,Z2),(1,Z2),(2,.int .i64)],[(0,Z2),(1,Z2)],0,[],aW⟩
def afs:LF Tryz.f25 [] [1,1,0,1,0,0] ad6:=sq (v:= .nil) uB (b:=Ue) kN
def c9(x:A2):Option ((Y2×A2)×A2):=(AM (aW ((0,([]:List AA),([]:List Bool),([]:List AS),([]:List A6),([]:List A6),()),(0,([]:List AA),([]:List Bool),([]:List AS),([]:List A6),([]:List A6),()),0,())) (λ_=>U) λa=>(LL a.2).bind λb=>I (b.1,()))
def uO:Ent:=(25,U,⟨[],[Z3],c9⟩)
def aeE:SQ Tryz.prog uO:=sk (v:=t1<|t1<|.two (t1<|.one<|.loop ad6) .nil) (fn:=Tryz.f25) uB<|kC afs kN
def amn:Cx:=cX [F3] [] [(20,29)]
def aob:OKC Tryz.prog amn AF:=okc mixed<|gC FK<|AJ
def fJ(x:Y2×Y6×A2):Option ((Bool×A2)×(Y2×A2)):=(By (x.2.1.2.1,0,(w64<|(x.1.2.2.1.length:Int) - 1),())).bind λa=>if Ak (!(!a.1.1)) (inb x.2.1.2.1 x.1.2.2.1.length) then if(!a.1.1)||(A1<|(rd (dfl .bool) x.1.2.2.1 x.2.1.2.1)=(A1<|x.2.1.1=9)) then I ((A3,()),(x.1,())) else if inb x.2.1.2.1 x.1.2.2.1.length then I ((A0,()),((x.1.1,x.1.2.1,(Bn x.1.2.2.1 (AL x.2.1.2.1)<|A1<|x.2.1.1=9),x.1.2.2.2),())) else U else U
def zk:Ent:=(44,U,⟨[Z2,Z13],[.bool],fJ⟩)
def ahk:SQ Tryz.prog zk:=sk (v:= .nil) (fn:=Tryz.f44) aob kN
def ahT:Cx:=cX [] [] []
def aj0:OKC Tryz.prog ahT AF:=okc mixed<|AJ
def V1(x:List AS×Int×A2):Option ((List AS×A2)×A2):=if A1 (0<=x.2.1)&&A1 (x.2.1<=(x.1.length:Int)) then if Ac (([]:List AS).length+(BH (AL x.2.1) x.1).length) then if A1 (0<=(w64<|x.2.1+1))&&A1 ((w64<|x.2.1+1)<=(x.1.length:Int)) then if Ac ((([]:List AS)++(BH (AL x.2.1) x.1)).length+(Bm (AL<|w64<|x.2.1+1) x.1).length) then I ((((([]:List AS)++(BH (AL x.2.1) x.1))++(Bm (AL<|w64<|x.2.1+1) x.1)),()),()) else U else U else U else U
def vK:Ent:=(75,U,⟨[.fz .An,.int .i64],[.row 64 .An],V1⟩)
def aeT:SQ Tryz.prog vK:=sk (v:= .nil) (fn:=Tryz.f75) aj0 kN
def ajG:Cx:=cX [Ir] [] []
def alF:OKC Tryz.prog ajG AF:=okc mixed<|gC JT<|AJ
def Ip(x:Int×Int×A2):Option ((Int×A2)×A2):=(BS (X:=Int×Int×Bool×A2) (λa=>if a.2.2.1 then I (((-1),()),()) else if A1 (a.1<a.2.1) then I (((w64<|a.1+1),()),()) else I (((w64<|a.1 - 1),()),()))<|(FJ (x.1,())).bind λb=>if !b.1.1 then I (.inr (x.1,x.2.1,A0,())) else(FJ x.2).bind λc=>if !c.1.1 then I (.inr (x.1,x.2.1,A0,())) else I (.inr (x.1,x.2.1,(A1<|x.1=x.2.1),())))
def dN:Ent:=(92,U,⟨[.int .i64,.int .i64],[.int .i64],Ip⟩)
def pX:SQ Tryz.prog dN:=sk (v:=t1<|.two (.one<|.join [(0,.int .i64),(1,.int .i64),(5,.bool)] .nil .nil) .nil) (fn:=Tryz.f92) alF kN
def alc:Cx:=cX [Ir,F3,dN] [] [(56,63),(82,89)]
def amm:OKC Tryz.prog alc AF:=okc mixed<|gC JT<|gC FK<|gC pX<|AJ
def Vh(x:Y6×A2):Option ((Bool×A2)×A2):=(FJ (x.1.2.1,())).bind λb=>if !b.1.1 then I ((A3,()),()) else(FJ (x.1.2.2.1,())).bind λc=>if !c.1.1 then I ((A3,()),()) else(FJ (x.1.2.2.2.1,())).bind λd=>if !d.1.1 then I ((A3,()),()) else(FJ (x.1.2.2.2.2.2.1,())).bind λe=>if !e.1.1 then I ((A3,()),()) else(By (x.1.2.2.2.2.1,1,99,())).bind λf=>if !f.1.1 then I ((A3,()),()) else(By (x.1.2.2.2.2.2.2.1,1,999,())).bind λg=>if !g.1.1 then I ((A3,()),()) else if A1 (x.1.1=1) then(By (x.1.2.2.2.2.2.2.2.1,1,24,())).bind λh=>if h.1.1 then(By (x.1.2.2.2.2.2.2.2.2.1,0,999,())).bind λi=>if i.1.1 then if Ak (A1<|(x.1.2.2.2.2.2.2.2.2.2.1.size:Int)=4) ((Ip (x.1.2.1,x.1.2.2.2.2.2.1,())).isSome) then let j:=((A1<|(x.1.2.2.2.2.2.2.2.2.2.1.size:Int)=4)&&(A1<|x.1.2.2.1=((Ip (x.1.2.1,x.1.2.2.2.2.2.1,())).getD ((0,()),())).1.1));I ((j,()),()) else U else if Ak A3 ((Ip (x.1.2.1,x.1.2.2.2.2.2.1,())).isSome) then I ((A3,()),()) else U else if Ak A3 ((Ip (x.1.2.1,x.1.2.2.2.2.2.1,())).isSome) then I ((A3,()),()) else U else(BS (X:=Y6×Bool×A2) (λa=>if a.2.1 then if A1 (a.1.2.2.2.2.2.2.2.1=0) then if A1 (a.1.2.2.2.2.2.2.2.2.1=0) then if Ak (A1<|a.1.2.2.2.2.2.2.2.2.2.1=noB) ((Ip (a.1.2.2.1,a.1.2.2.2.2.2.1,())).isSome) then let k:=((A1<|a.1.2.2.2.2.2.2.2.2.2.1=noB)&&(A1<|a.1.2.1=((Ip (a.1.2.2.1,a.1.2.2.2.2.2.1,())).getD ((0,()),())).1.1));I ((k,()),()) else U else if Ak A3 ((Ip (a.1.2.2.1,a.1.2.2.2.2.2.1,())).isSome) then I ((A3,()),()) else U else if Ak A3 ((Ip (a.1.2.2.1,a.1.2.2.2.2.2.1,())).isSome) then I ((A3,()),()) else U else I ((A3,()),()))<|(if A1 (x.1.1=2) then I (.inr (x.1,(A1<|x.1.1=2),())) else I (.inr (x.1,(A1<|x.1.1=3),()))))
def gI:Ent:=(113,U,⟨[Z13],[.bool],Vh⟩)
def sj:SQ Tryz.prog gI:=sk (v:=t1<|t1<|.two (t1<|.one<|t1<|t1<|.join [(1,Z14),(65,.bool)] .nil .nil) .nil) (fn:=Tryz.f113) amm kN
def ajJ:Cx:=cX [] [] []
def xa:OKC Tryz.prog ajJ AF:=okc mixed<|AJ
def ch(x:Int×List Int×Int×Int×A2):Rnd (Int×List Int×Int×Int×A2) (A2) (Int×A2):=if A1 (x.2.2.2.1<x.2.2.1) then if inb x.2.2.2.1 x.2.1.length then let a:=(rd (dfl .u8) x.2.1 x.2.2.2.1);let b:=(BG (w64<|x.1+(w64<|(w64 a) * (w64<|(BG x.2.2.2.1 1000)+1))) 65521);I (.inl (b,x.2.1,x.2.2.1,(w64<|x.2.2.2.1+1),())) else U else I (.inr<|.inr (x.1,()))
def ap:=AR ch
def uL:Loop:=⟨[(3,.int .i64),(6,.sl .u8),(7,.int .i64),(8,.int .i64)],[(3,.int .i64)],0,[],ap⟩
def aip:LF Tryz.f148 [] [1,1,0,1,0,0] uL:=sq (v:= .nil) xa (b:=ch) kN
def VX(x:List Int×A2):Option ((Int×A2)×A2):=(AM (ap (0,x.1,(x.1.length:Int),0,())) (λ_=>U) λa=>I (a,()))
def xU:Ent:=(148,U,⟨[.fz .u8],[.int .i64],VX⟩)
def afJ:SQ Tryz.prog xU:=sk (v:=t1<|t1<|.two (t1<|.one<|.loop uL) .nil) (fn:=Tryz.f148) xa<|kC aip kN
def af1:Cx:=cX [] [] []
def agO:OKC Tryz.prog af1 AF:=okc mixed<|AJ
def bL(x:List Int×A2):Option ((List Int×A2)×A2):=if A1 ((x.1.length:Int)=0) then I ((([]:List Int),()),()) else if A1 (0<=(x.1.length:Int))&&A1 ((x.1.length:Int)<=4294967296) then I (((BH (BT (AL (x.1.length:Int))<|dfl .u8).length x.1++Bm x.1.length (BT (AL (x.1.length:Int))<|dfl .u8)),()),()) else U
def te:Ent:=(149,U,⟨[.fz .u8],[.row 5 .u8],bL⟩)
def adm:SQ Tryz.prog te:=sk (v:= .nil) (fn:=Tryz.f149) agO kN
def aiO:Cx:=cX [gI,xU,te] [] []
def ak3:OKC Tryz.prog aiO AF:=okc mixed<|gC sj<|gC afJ<|gC adm<|AJ
def Pc(x:Y6×A2):Option ((List Int×A2)×A2):=(Vh x).bind λc=>if !c.1.1 then I ((([]:List Int),()),()) else(BS (X:=List Int×A2) (λb=>(VX b).bind λa=>if Ac (b.1.length+([(w8<|w64<|Ax a.1.1 256),(w8<|BG a.1.1 256)]:List Int).length) then(bL ((b.1++([(w8<|w64<|Ax a.1.1 256),(w8<|BG a.1.1 256)]:List Int)),())).bind λd=>I (d.1,()) else U)<|(if A1 (x.1.1=1) then if Ac (([(w8 x.1.1),(w8 x.1.2.1),(w8 x.1.2.2.1),(w8 x.1.2.2.2.1),(w8 x.1.2.2.2.2.1),(w8 x.1.2.2.2.2.2.1),(w8<|w64<|Ax x.1.2.2.2.2.2.2.1 256),(w8<|BG x.1.2.2.2.2.2.2.1 256)]:List Int).length+([(w8 x.1.2.2.2.2.2.2.2.1),(w8<|w64<|Ax x.1.2.2.2.2.2.2.2.2.1 256),(w8<|BG x.1.2.2.2.2.2.2.2.2.1 256)]:List Int).length) then if Ac ((([(w8 x.1.1),(w8 x.1.2.1),(w8 x.1.2.2.1),(w8 x.1.2.2.2.1),(w8 x.1.2.2.2.2.1),(w8 x.1.2.2.2.2.2.1),(w8<|w64<|Ax x.1.2.2.2.2.2.2.1 256),(w8<|BG x.1.2.2.2.2.2.2.1 256)]:List Int)++([(w8 x.1.2.2.2.2.2.2.2.1),(w8<|w64<|Ax x.1.2.2.2.2.2.2.2.2.1 256),(w8<|BG x.1.2.2.2.2.2.2.2.2.1 256)]:List Int)).length+(BE x.1.2.2.2.2.2.2.2.2.2.1).length) then I (.inr (((([(w8 x.1.1),(w8 x.1.2.1),(w8 x.1.2.2.1),(w8 x.1.2.2.2.1),(w8 x.1.2.2.2.2.1),(w8 x.1.2.2.2.2.2.1),(w8<|w64<|Ax x.1.2.2.2.2.2.2.1 256),(w8<|BG x.1.2.2.2.2.2.2.1 256)]:List Int)++([(w8 x.1.2.2.2.2.2.2.2.1),(w8<|w64<|Ax x.1.2.2.2.2.2.2.2.2.1 256),(w8<|BG x.1.2.2.2.2.2.2.2.2.1 256)]:List Int))++(BE x.1.2.2.2.2.2.2.2.2.2.1)),())) else U else U else I (.inr (([(w8 x.1.1),(w8 x.1.2.1),(w8 x.1.2.2.1),(w8 x.1.2.2.2.1),(w8 x.1.2.2.2.2.1),(w8 x.1.2.2.2.2.2.1),(w8<|w64<|Ax x.1.2.2.2.2.2.2.1 256),(w8<|BG x.1.2.2.2.2.2.2.1 256)]:List Int),()))))
def rP:Ent:=(112,U,⟨[Z13],[.row 5 .u8],Pc⟩)
def adO:SQ Tryz.prog rP:=sk (v:=t1<|t1<|t1<|.join [(3,.row 5 .u8)] .nil .nil) (fn:=Tryz.f112) ak3 kN
def af8:Cx:=cX [rP] [] [(9,11)]
def agV:OKC Tryz.prog af8 AF:=okc mixed<|gC adO<|AJ
def bQ(x:List Int×A2):Option ((Y6×Bool×A2)×A2):=if(!decide ((x.1.length:Int)=10))&&(!decide ((x.1.length:Int)=17)) then I (((0,0,0,0,0,0,0,0,0,noB,()),A3,()),()) else if inb 0 x.1.length then if inb 1 x.1.length then if inb 2 x.1.length then if inb 3 x.1.length then if inb 4 x.1.length then if inb 5 x.1.length then if inb 6 x.1.length then if inb 7 x.1.length then let b:=(w64<|rd (dfl .u8) x.1 0);let c:=(w64<|rd (dfl .u8) x.1 1);let d:=(w64<|rd (dfl .u8) x.1 2);let e:=(w64<|rd (dfl .u8) x.1 3);let f:=(w64<|rd (dfl .u8) x.1 4);let g:=(w64<|rd (dfl .u8) x.1 5);let h:=(w64<|(w64<|256 * (w64<|rd (dfl .u8) x.1 6))+(w64<|rd (dfl .u8) x.1 7));(BS (X:=List Int×Y6×Y6×A2) (λa=>(Pc a.2.2).bind λi=>if !decide ((BF i.1.1)=(BF a.1)) then I (((0,0,0,0,0,0,0,0,0,noB,()),A3,()),()) else I ((a.2.2.1,A0,()),()))<|(if A1 ((x.1.length:Int)=17) then if inb 8 x.1.length then let j:=(w64<|rd (dfl .u8) x.1 8);(if inb 9 x.1.length then if inb 10 x.1.length then let k:=(w64<|(w64<|256 * (w64<|rd (dfl .u8) x.1 9))+(w64<|rd (dfl .u8) x.1 10));(if(A1 (0<=15)&&A1 (15<=(x.1.length:Int)))&&(A1 (0<=11)&&A1 (11<=15)) then let l:=(BF<|Bm (AL 11)<|BH (AL 15) x.1);I (.inr (x.1,(0,0,0,0,0,0,0,0,0,noB,()),(b,c,d,e,f,g,h,j,k,l,()),())) else U) else U else U) else U else I (.inr (x.1,(0,0,0,0,0,0,0,0,0,noB,()),(b,c,d,e,f,g,h,0,0,noB,()),())))) else U else U else U else U else U else U else U else U
def tq:Ent:=(76,U,⟨[.fz .u8],[Z13,.bool],bQ⟩)
def adt:SQ Tryz.prog tq:=sk (v:=t1<|t1<|t1<|.join [(0,.sl .u8),(2,Z14),(4,Z14)] .nil .nil) (fn:=Tryz.f76) agV kN
def alR:Cx:=cX [F3] [] [(11,18)]
def yI:OKC Tryz.prog alR AF:=okc mixed<|gC FK<|AJ
def dF(x:A4×Int×Int×A2):Rnd (A4×Int×Int×A2) (Int×Bool×A2) (Int×A2):=if A1 (x.2.2.1<(x.1.size:Int)) then if inb x.2.2.1 x.1.size then(By ((w64<|bt x.1 x.2.2.1),48,57,())).bind λa=>if !a.1.1 then I (.inr<|.inl (0,A3,())) else if inb x.2.2.1 x.1.size then let b:=(w64<|(w64<|10 * x.2.1)+(w64<|w8<|(bt x.1 x.2.2.1) - 48));I (.inl (x.1,b,(w64<|x.2.2.1+1),())) else U else U else I (.inr<|.inr (x.2.1,()))
def pv:=AR dF
def vd:Loop:=⟨[(0,.str),(4,.int .i64),(5,.int .i64)],[(4,.int .i64)],0,[(2,.int .i64),(3,.bool)],pv⟩
def akE:LF Tryz.f87 [] [1,1,1,0,1,0,0] vd:=sq (v:= .nil) yI (b:=dF) kN
def Pn(x:A4×A2):Option ((Int×Bool×A2)×A2):=(By ((x.1.size:Int),1,5,())).bind λb=>if Ak (!(!b.1.1)) (inb 0 x.1.size) then if(!b.1.1)||((A1<|(bt x.1 0)=48)&&(A1<|1<(x.1.size:Int))) then I ((0,A3,()),()) else(AM (pv (x.1,0,0,())) (λa=>I (a,())) λa=>I ((a.1,A0,()),())) else U
def eZ:Ent:=(87,U,⟨[.str],[.int .i64,.bool],Pn⟩)
def pt:SQ Tryz.prog eZ:=sk (v:=t1<|t1<|t1<|.two (t1<|.one<|.loop vd) .nil) (fn:=Tryz.f87) yI<|kC akE kN
def ae2:Cx:=cX [] [] []
def aeg:OKC Tryz.prog ae2 AF:=okc mixed<|AJ
def RM(x:List A4×A2):Option ((List A4×A2)×A2):=if A1 ((x.1.length:Int)=0) then I ((([]:List A4),()),()) else if A1 (0<=(x.1.length:Int))&&A1 ((x.1.length:Int)<=4294967296) then I (((BH (BT (AL (x.1.length:Int))<|dfl .str).length x.1++Bm x.1.length (BT (AL (x.1.length:Int))<|dfl .str)),()),()) else U
def bC:Ent:=(88,U,⟨[.fz .str],[.row 9 .str],RM⟩)
def oU:SQ Tryz.prog bC:=sk (v:= .nil) (fn:=Tryz.f88) aeg kN
def aiC:Cx:=cX [F3,eZ,bC] [] [(26,29),(38,41)]
def rS:OKC Tryz.prog aiC AF:=okc mixed<|gC FK<|gC pt<|gC oU<|AJ
def bz(x:A4×List A4×Int×Int×A2):Rnd (A4×List A4×Int×Int×A2) (A2) (A4×List A4×Int×Int×A2):=if A1 (x.2.2.2.1<(x.1.size:Int)) then if Ak (A1<|x.2.2.2.1<(w64<|x.2.2.1+3)) (inb x.2.2.2.1 x.1.size) then if(A1<|x.2.2.2.1<(w64<|x.2.2.1+3))&&(!decide ((bt x.1 x.2.2.2.1)=58)) then I (.inl (x.1,x.2.1,x.2.2.1,(w64<|x.2.2.2.1+1),())) else I (.inr<|.inr x) else U else if Ak A3 (inb x.2.2.2.1 x.1.size) then I (.inr<|.inr x) else U
def pB:=AR bz
def sR:Loop:=⟨[(0,.str),(4,.row 9 .str),(5,.int .i64),(6,.int .i64)],[(0,.str),(4,.row 9 .str),(5,.int .i64),(6,.int .i64)],2,[],pB⟩
def ahB:LF Tryz.f52 [] [1,1,1,0,0,0,1,0,1,0,0,0] sR:=sq (v:= .nil) rS (b:=bz) kN
def RO(x:A4×List A4×Int×A2):Rnd (A4×List A4×Int×A2) (A2) (List A4×Int×A2):=if A1 (x.2.2.1<(x.1.size:Int)) then(AM (pB (x.1,x.2.1,x.2.2.1,x.2.2)) (λ_=>I<|.inr<|.inl ()) λa=>(if Ak (!(A1<|(a.1.size:Int)<=a.2.2.2.1)) (inb a.2.2.2.1 a.1.size) then if(A1<|(a.1.size:Int)<=a.2.2.2.1)||(!decide ((bt a.1 a.2.2.2.1)=58)) then I (.inr<|.inr (a.2.1,a.2.2.1,())) else if(A1 (0<=a.2.2.2.1)&&A1 (a.2.2.2.1<=(a.1.size:Int)))&&(A1 (0<=a.2.2.1)&&A1 (a.2.2.1<=a.2.2.2.1)) then(Pn ((a.1.extract (AL a.2.2.1)<|AL a.2.2.2.1),())).bind λc=>let b:=(w64<|(w64<|a.2.2.2.1+1)+c.1.1);(if !c.1.2.1 then I (.inr<|.inr (a.2.1,a.2.2.1,())) else(By (c.1.1,1,60,())).bind λd=>if !d.1.1 then I (.inr<|.inr (a.2.1,a.2.2.1,())) else if A1 ((a.1.size:Int)<=b) then I (.inr<|.inr (a.2.1,a.2.2.1,())) else if inb b a.1.size then if !decide ((bt a.1 b)=59) then I (.inr<|.inr (a.2.1,a.2.2.1,())) else if(A1 (0<=b)&&A1 (b<=(a.1.size:Int)))&&(A1 (0<=(w64<|a.2.2.2.1+1))&&A1 ((w64<|a.2.2.2.1+1)<=b)) then if Ac (a.2.1.length+([(a.1.extract (AL<|w64<|a.2.2.2.1+1)<|AL b)]:List A4).length) then I (.inl (a.1,(a.2.1++([(a.1.extract (AL<|w64<|a.2.2.2.1+1)<|AL b)]:List A4)),(w64<|b+1),())) else U else U else U) else U else U)) else I (.inr<|.inr x.2)
def pC:=AR RO
def sS:Loop:=⟨[(0,.str),(4,.row 9 .str),(5,.int .i64)],[(4,.row 9 .str),(5,.int .i64)],0,[],pC⟩
def ah1:LF Tryz.f52 [] [1,1,1,0,0,0] sS:=sq (v:=t1<|.one<|t1<|.two (.one<|.loop sR) .nil) rS (b:=RO)<|kC ahB kN
def Pb(x:A4×A2):Option ((List A4×Int×A2)×A2):=(AM (pC (x.1,([]:List A4),0,())) (λ_=>U) λa=>(RM (a.1,())).bind λb=>I ((b.1.1,a.2),()))
def ck:Ent:=(52,U,⟨[.str],[.row 9 .str,.int .i64],Pb⟩)
def p9:SQ Tryz.prog ck:=sk (v:=t1<|t1<|t1<|.two (.one<|.loop sS) .nil) (fn:=Tryz.f52) rS<|kC ah1 kN
def aiN:Cx:=cX [Ir] [] []
def ak2:OKC Tryz.prog aiN AF:=okc mixed<|gC JT<|AJ
def cc(x:Int×A2):Option ((Y3×A2)×A2):=(FJ x).bind λa=>if !a.1.1 then I (((0,0,0,([]:List A6),([]:List Mark),([]:List A6),()),()),()) else I (((x.1,0,1,([]:List A6),([]:List Mark),([]:List A6),()),()),())
def vS:Ent:=(89,U,⟨[.int .i64],[Z4],cc⟩)
def aeL:SQ Tryz.prog vS:=sk (v:= .nil) (fn:=Tryz.f89) ak2 kN
def anP:Cx:=cX [] [] [(21,24)]
def zH:OKC Tryz.prog anP AF:=okc mixed<|AJ
def eF(x:Int×Int×List Mark×Int×Int×A2):Rnd (Int×Int×List Mark×Int×Int×A2) (Int×A2) (A2):=if A1 (x.2.2.2.2.1<x.2.2.2.1) then if inb x.2.2.2.2.1 x.2.2.1.length then let a:=(rd (dfl .mark) x.2.2.1 x.2.2.2.2.1).mf;let b:=(rd (dfl .mark) x.2.2.1 x.2.2.2.2.1).mn;let c:=(rd (dfl .mark) x.2.2.1 x.2.2.2.2.1).mu;if(A1<|a=x.1)&&(A1<|b=x.2.1) then I (.inr<|.inl x.2.2.2.2) else I (.inl (x.1,x.2.1,x.2.2.1,x.2.2.2.1,(w64<|x.2.2.2.2.1+1),())) else U else I (.inr<|.inr ())
def qe:=AR eF
def wS:Loop:=⟨[(1,.int .i64),(2,.int .i64),(9,.sl .mark),(10,.int .i64),(11,.int .i64)],[],0,[(6,.int .i64)],qe⟩
def amV:LF Tryz.f151 [] [1,0,1,0,0] wS:=sq (v:= .nil) zH (b:=eF) kN
def KM(x:List Mark×Int×Int×A2):Option ((Int×A2)×A2):=(AM (qe (x.2.1,x.2.2.1,x.1,(x.1.length:Int),0,())) (λa=>I (a,())) λa=>I (((-1),()),()))
def W1:Ent:=(151,U,⟨[.fz .mark,.int .i64,.int .i64],[.int .i64],KM⟩)
def bu:SQ Tryz.prog W1:=sk (v:=t1<|.two (t1<|.one<|.loop wS) .nil) (fn:=Tryz.f151) zH<|kC amV kN
def anJ:Cx:=cX [F3] [] []
def zC:OKC Tryz.prog anJ AF:=okc mixed<|gC FK<|AJ
def eQ(x:A4×Int×A2):Rnd (A4×Int×A2) (Bool×A2) (A4×A2):=if A1 (x.2.1<(x.1.size:Int)) then if inb x.2.1 x.1.size then(By ((w64<|bt x.1 x.2.1),32,126,())).bind λa=>if !a.1.1 then I (.inr<|.inl (A3,())) else I (.inl (x.1,(w64<|x.2.1+1),())) else U else I (.inr<|.inr (x.1,()))
def ql:=AR eQ
def wN:Loop:=⟨[(0,.str),(3,.int .i64)],[(0,.str)],0,[(2,.bool)],ql⟩
def amR:LF Tryz.f128 [] [1,0,1,0,0] wN:=sq (v:= .nil) zC (b:=eQ) kN
def O8(x:A4×A2):Option ((Bool×A2)×A2):=(AM (ql (x.1,0,())) (λa=>I (a,())) λa=>(By ((a.1.size:Int),1,24,())).bind λb=>I (b.1,()))
def ze:Ent:=(128,U,⟨[.str],[.bool],O8⟩)
def ahd:SQ Tryz.prog ze:=sk (v:=t1<|.two (t1<|.one<|.loop wN) .nil) (fn:=Tryz.f128) zC<|kC amR kN
def amq:Cx:=cX [Ir,F3,ze] [] [(22,24)]
def aoe:OKC Tryz.prog amq AF:=okc mixed<|gC JT<|gC FK<|gC ahd<|AJ
def OA(x:Y4×A2):Option ((Bool×A2)×A2):=(FJ (x.1.1,())).bind λb=>if b.1.1 then(FJ (x.1.2.2.1,())).bind λc=>if c.1.1 then(By (x.1.2.1,1,99,())).bind λd=>if d.1.1 then(By (x.1.2.2.2.1,1,999,())).bind λa=>if Ak a.1.1 ((O8 x.1.2.2.2.2).isSome) then let e:=(a.1.1&&(((O8 x.1.2.2.2.2).getD ((A3,()),())).1.1));I ((e,()),()) else U else if Ak A3 ((O8 x.1.2.2.2.2).isSome) then I ((A3,()),()) else U else if Ak A3 ((O8 x.1.2.2.2.2).isSome) then I ((A3,()),()) else U else if Ak A3 ((O8 x.1.2.2.2.2).isSome) then I ((A3,()),()) else U
def S6:Ent:=(91,U,⟨[Z6],[.bool],OA⟩)
def Uu:SQ Tryz.prog S6:=sk (v:= .nil) (fn:=Tryz.f91) aoe kN
def anW:Cx:=cX [] [] [(13,20)]
def aoZ:OKC Tryz.prog anW AF:=okc mixed<|AJ
def LP(x:Int×Int×Int×Int×A2):Option ((Bool×A2)×A2):=let a:=((A1<|x.1<x.2.2.1)||((A1<|x.1=x.2.2.1)&&(A1<|x.2.1<x.2.2.2.1)));I ((a,()),())
def W2:Ent:=(199,U,⟨[.int .i64,.int .i64,.int .i64,.int .i64],[.bool],LP⟩)
def bw:SQ Tryz.prog W2:=sk (v:= .nil) (fn:=Tryz.f199) aoZ kN
def alP:Cx:=cX [S6,W2] [] [(16,37)]
def yH:OKC Tryz.prog alP AF:=okc mixed<|gC Uu<|gC bw<|AJ
def dE(x:List A6×List A6×Int×Int×A2):Rnd (List A6×List A6×Int×Int×A2) (Bool×A2) (A2):=if A1 (x.2.2.2.1<x.2.2.1) then if inb x.2.2.2.1 x.2.1.length then let b:=(rd (dfl .note) x.2.1 x.2.2.2.1).fr;let c:=(rd (dfl .note) x.2.1 x.2.2.2.1).nu;let d:=(rd (dfl .note) x.2.1 x.2.2.2.1).to;let e:=(rd (dfl .note) x.2.1 x.2.2.2.1).un;let f:=(rd (dfl .note) x.2.1 x.2.2.2.1).tx;(OA ((b,c,d,e,f,()),())).bind λa=>if Ak ((!(!a.1.1))&&(A1<|0<x.2.2.2.1)) (inb (w64<|x.2.2.2.1 - 1) x.1.length) then if Ak ((!(!a.1.1))&&(A1<|0<x.2.2.2.1)) (inb (w64<|x.2.2.2.1 - 1) x.1.length) then if Ak ((!(!a.1.1))&&(A1<|0<x.2.2.2.1)) ((LP ((rd (dfl .note) x.1<|w64<|x.2.2.2.1 - 1).fr,(rd (dfl .note) x.1<|w64<|x.2.2.2.1 - 1).nu,b,c,())).isSome) then if(!a.1.1)||((A1<|0<x.2.2.2.1)&&(!(((LP ((rd (dfl .note) x.1<|w64<|x.2.2.2.1 - 1).fr,(rd (dfl .note) x.1<|w64<|x.2.2.2.1 - 1).nu,b,c,())).getD ((A3,()),())).1.1))) then I (.inr<|.inl (A3,())) else I (.inl (x.1,x.2.1,x.2.2.1,(w64<|x.2.2.2.1+1),())) else U else U else U else U else I (.inr<|.inr ())
def pr:=AR dE
def vc:Loop:=⟨[(0,.sl .note),(5,.sl .note),(6,.int .i64),(7,.int .i64)],[],0,[(2,.bool)],pr⟩
def akz:LF Tryz.f162 [] [1,0,1,0,0] vc:=sq (v:= .nil) yH (b:=dE) kN
def VZ(x:List A6×A2):Option ((Bool×A2)×A2):=(AM (pr (x.1,x.1,(x.1.length:Int),0,())) (λa=>I (a,())) λa=>I ((A0,()),()))
def yZ:Ent:=(162,U,⟨[.fz .note],[.bool],VZ⟩)
def afu:SQ Tryz.prog yZ:=sk (v:=t1<|.two (t1<|.one<|.loop vc) .nil) (fn:=Tryz.f162) yH<|kC akz kN
def anN:Cx:=cX [Ir,F3] [] [(12,14)]
def aoU:OKC Tryz.prog anN AF:=okc mixed<|gC JT<|gC FK<|AJ
def fG(x:Y5×A2):Option ((Bool×A2)×A2):=(FJ (x.1.1,())).bind λb=>if b.1.1 then(By (x.1.2.1,1,99,())).bind λa=>if Ak a.1.1 ((By (x.1.2.2.1,1,999,())).isSome) then let c:=(a.1.1&&(((By (x.1.2.2.1,1,999,())).getD ((A3,()),())).1.1));I ((c,()),()) else U else if Ak A3 ((By (x.1.2.2.1,1,999,())).isSome) then I ((A3,()),()) else U
def zf:Ent:=(200,U,⟨[Z11],[.bool],fG⟩)
def ahe:SQ Tryz.prog zf:=sk (v:= .nil) (fn:=Tryz.f200) aoU kN
def alS:Cx:=cX [W2,zf] [] [(16,37)]
def yJ:OKC Tryz.prog alS AF:=okc mixed<|gC bw<|gC ahe<|AJ
def dG(x:List Mark×List Mark×Int×Int×A2):Rnd (List Mark×List Mark×Int×Int×A2) (Bool×A2) (A2):=if A1 (x.2.2.2.1<x.2.2.1) then if inb x.2.2.2.1 x.2.1.length then let b:=(rd (dfl .mark) x.2.1 x.2.2.2.1).mf;let c:=(rd (dfl .mark) x.2.1 x.2.2.2.1).mn;let d:=(rd (dfl .mark) x.2.1 x.2.2.2.1).mu;(fG ((b,c,d,()),())).bind λa=>if Ak ((!(!a.1.1))&&(A1<|0<x.2.2.2.1)) (inb (w64<|x.2.2.2.1 - 1) x.1.length) then if Ak ((!(!a.1.1))&&(A1<|0<x.2.2.2.1)) (inb (w64<|x.2.2.2.1 - 1) x.1.length) then if Ak ((!(!a.1.1))&&(A1<|0<x.2.2.2.1)) ((LP ((rd (dfl .mark) x.1<|w64<|x.2.2.2.1 - 1).mf,(rd (dfl .mark) x.1<|w64<|x.2.2.2.1 - 1).mn,b,c,())).isSome) then if(!a.1.1)||((A1<|0<x.2.2.2.1)&&(!(((LP ((rd (dfl .mark) x.1<|w64<|x.2.2.2.1 - 1).mf,(rd (dfl .mark) x.1<|w64<|x.2.2.2.1 - 1).mn,b,c,())).getD ((A3,()),())).1.1))) then I (.inr<|.inl (A3,())) else I (.inl (x.1,x.2.1,x.2.2.1,(w64<|x.2.2.2.1+1),())) else U else U else U else U else I (.inr<|.inr ())
def pw:=AR dG
def vf:Loop:=⟨[(0,.sl .mark),(5,.sl .mark),(6,.int .i64),(7,.int .i64)],[],0,[(2,.bool)],pw⟩
def akF:LF Tryz.f163 [] [1,0,1,0,0] vf:=sq (v:= .nil) yJ (b:=dG) kN
def eC(x:List Mark×A2):Option ((Bool×A2)×A2):=(AM (pw (x.1,x.1,(x.1.length:Int),0,())) (λa=>I (a,())) λa=>I ((A0,()),()))
def yb:Ent:=(163,U,⟨[.fz .mark],[.bool],eC⟩)
def afw:SQ Tryz.prog yb:=sk (v:=t1<|.two (t1<|.one<|.loop vf) .nil) (fn:=Tryz.f163) yJ<|kC akF kN
def aoq:Cx:=cX [F3] [] [(10,23)]
def apj:OKC Tryz.prog aoq AF:=okc mixed<|gC FK<|AJ
def WE(x:Int×Y4×A2):Option ((Bool×A2)×A2):=if Ak (!decide (x.1=x.2.1.2.2.1)) ((By (x.1,x.2.1.1,x.2.1.2.2.1,())).isSome) then if Ak ((!decide (x.1=x.2.1.2.2.1))&&(!(((By (x.1,x.2.1.1,x.2.1.2.2.1,())).getD ((A3,()),())).1.1))) ((By (x.1,x.2.1.2.2.1,x.2.1.1,())).isSome) then let a:=((!decide (x.1=x.2.1.2.2.1))&&((((By (x.1,x.2.1.1,x.2.1.2.2.1,())).getD ((A3,()),())).1.1)||(((By (x.1,x.2.1.2.2.1,x.2.1.1,())).getD ((A3,()),())).1.1)));I ((a,()),()) else U else U
def aA6:Ent:=(164,U,⟨[.int .i64,Z6],[.bool],WE⟩)
def ais:SQ Tryz.prog aA6:=sk (v:= .nil) (fn:=Tryz.f164) apj kN
def ams:Cx:=cX [Ir,F3,W1,yZ,yb,aA6] [] [(123,127)]
def fS:OKC Tryz.prog ams AF:=okc mixed<|gC JT<|gC FK<|gC bu<|gC afu<|gC afw<|gC ais<|AJ
def eW(x:Y3×List A6×Int×Int×A2):Rnd (Y3×List A6×Int×Int×A2) (Bool×A2) (A2):=if A1 (x.2.2.2.1<x.2.2.1) then if inb x.2.2.2.1 x.2.1.length then let a:=(rd (dfl .note) x.2.1 x.2.2.2.1).fr;let b:=(rd (dfl .note) x.2.1 x.2.2.2.1).nu;let aE:=(rd (dfl .note) x.2.1 x.2.2.2.1).to;let c:=(rd (dfl .note) x.2.1 x.2.2.2.1).un;let abw:=(rd (dfl .note) x.2.1 x.2.2.2.1).tx;(if A1 (a=x.1.1) then if A1 (x.1.2.2.1<=b) then I (.inr<|.inl (A3,())) else if !decide (aE=x.1.1) then I (.inr<|.inl (A3,())) else if A1 (x.1.2.1<c) then(KM (x.1.2.2.2.2.1,a,b,())).bind λaza=>if A1 (aza.1.1<0) then I (.inr<|.inl (A3,())) else I (.inl (x.1,x.2.1,x.2.2.1,(w64<|x.2.2.2.1+1),())) else I (.inl (x.1,x.2.1,x.2.2.1,(w64<|x.2.2.2.1+1),())) else if !decide (aE=x.1.1) then I (.inr<|.inl (A3,())) else if A1 (x.1.2.1<c) then(KM (x.1.2.2.2.2.1,a,b,())).bind λazZ=>if A1 (azZ.1.1<0) then I (.inr<|.inl (A3,())) else I (.inl (x.1,x.2.1,x.2.2.1,(w64<|x.2.2.2.1+1),())) else I (.inl (x.1,x.2.1,x.2.2.1,(w64<|x.2.2.2.1+1),()))) else U else I (.inr<|.inr ())
def qc:=AR eW
def wb:Loop:=⟨[(1,Z7),(131,.sl .note),(132,.int .i64),(133,.int .i64)],[],4,[(2,.bool)],qc⟩
def als:LF Tryz.f125 [] [1,1,1,1,1,0,1,0,0] wb:=sq (v:= .nil) fS (b:=eW) kN
def eX(x:Y3×List Mark×Int×Int×A2):Rnd (Y3×List Mark×Int×Int×A2) (Bool×A2) (Y3×A2):=if A1 (x.2.2.2.1<x.2.2.1) then if inb x.2.2.2.1 x.2.1.length then let azT:=(rd (dfl .mark) x.2.1 x.2.2.2.1).mf;let oA:=(rd (dfl .mark) x.2.1 x.2.2.2.1).mn;let a:=(rd (dfl .mark) x.2.1 x.2.2.2.1).mu;if A1 (azT=x.1.1) then if(A1<|x.1.2.2.1<=oA)||(A1<|a<=x.1.2.1) then I (.inr<|.inl (A3,())) else I (.inl (x.1,x.2.1,x.2.2.1,(w64<|x.2.2.2.1+1),())) else if A1 (a<=x.1.2.1) then I (.inr<|.inl (A3,())) else I (.inl (x.1,x.2.1,x.2.2.1,(w64<|x.2.2.2.1+1),())) else U else I (.inr<|.inr (x.1,()))
def qo:=AR eX
def wc:Loop:=⟨[(1,Z7),(104,.sl .mark),(105,.int .i64),(106,.int .i64)],[(1,Z7)],2,[(2,.bool)],qo⟩
def alx:LF Tryz.f125 [] [1,1,1,1,0,1,0,0] wc:=sq (v:= .nil) fS (b:=eX) kN
def eY(x:Y3×List A6×Int×Int×A2):Rnd (Y3×List A6×Int×Int×A2) (Bool×A2) (Y3×A2):=if A1 (x.2.2.2.1<x.2.2.1) then if inb x.2.2.2.1 x.2.1.length then let a:=(rd (dfl .note) x.2.1 x.2.2.2.1).fr;let b:=(rd (dfl .note) x.2.1 x.2.2.2.1).nu;let d:=(rd (dfl .note) x.2.1 x.2.2.2.1).to;let c:=(rd (dfl .note) x.2.1 x.2.2.2.1).un;let e:=(rd (dfl .note) x.2.1 x.2.2.2.1).tx;if A1 (a=x.1.1) then if A1 (x.1.2.2.1<=b) then I (.inr<|.inl (A3,())) else if A1 (c<=x.1.2.1) then I (.inr<|.inl (A3,())) else(WE (x.1.1,(a,b,d,c,e,()),())).bind λf=>if !f.1.1 then I (.inr<|.inl (A3,())) else(KM (x.1.2.2.2.2.1,a,b,())).bind λg=>if A1 (0<=g.1.1) then I (.inr<|.inl (A3,())) else I (.inl (x.1,x.2.1,x.2.2.1,(w64<|x.2.2.2.1+1),())) else if A1 (c<=x.1.2.1) then I (.inr<|.inl (A3,())) else(WE (x.1.1,(a,b,d,c,e,()),())).bind λh=>if !h.1.1 then I (.inr<|.inl (A3,())) else(KM (x.1.2.2.2.2.1,a,b,())).bind λi=>if A1 (0<=i.1.1) then I (.inr<|.inl (A3,())) else I (.inl (x.1,x.2.1,x.2.2.1,(w64<|x.2.2.2.1+1),())) else U else I (.inr<|.inr (x.1,()))
def qp:=AR eY
def vw:Loop:=⟨[(1,Z7),(60,.sl .note),(61,.int .i64),(62,.int .i64)],[(1,Z7)],0,[(2,.bool)],qp⟩
def amZ:LF Tryz.f125 [] [1,1,1,0,1,0,0] vw:=sq (v:= .nil) fS (b:=eY) kN
def Ps(x:Y3×A2):Option ((Bool×A2)×A2):=(FJ (x.1.1,())).bind λb=>if !b.1.1 then I ((A3,()),()) else(By (x.1.2.1,0,999,())).bind λc=>if !c.1.1 then I ((A3,()),()) else(By (x.1.2.2.1,1,100,())).bind λd=>if !d.1.1 then I ((A3,()),()) else if A1 (6<(x.1.2.2.2.1.length:Int)) then I ((A3,()),()) else if A1 (12<(x.1.2.2.2.2.1.length:Int)) then I ((A3,()),()) else if A1 (6<(x.1.2.2.2.2.2.1.length:Int)) then I ((A3,()),()) else(VZ (x.1.2.2.2.1,())).bind λe=>if !e.1.1 then I ((A3,()),()) else(eC (x.1.2.2.2.2.1,())).bind λf=>if !f.1.1 then I ((A3,()),()) else(VZ x.1.2.2.2.2.2).bind λg=>if !g.1.1 then I ((A3,()),()) else(AM (qp (x.1,x.1.2.2.2.1,(x.1.2.2.2.1.length:Int),0,())) (λa=>I (a,())) λa=>(AM (qo (a.1,a.1.2.2.2.2.1,(a.1.2.2.2.2.1.length:Int),0,())) (λKA=>I (KA,())) λKA=>(AM (qc (KA.1,KA.1.2.2.2.2.2.1,(KA.1.2.2.2.2.2.1.length:Int),0,())) (λabu=>I (abu,())) λabu=>I ((A0,()),()))))
def iH:Ent:=(125,U,⟨[Z8],[.bool],Ps⟩)
def uJ:SQ Tryz.prog iH:=sk (v:=t1<|t1<|t1<|.two (t1<|.one<|.loop vw)<|.two (t1<|.one<|.loop wc)<|.two (t1<|.one<|.loop wb) .nil) (fn:=Tryz.f125) fS<|kC amZ<|kC alx<|kC als kN
def alV:Cx:=cX [] [] []
def gM:OKC Tryz.prog alV AF:=okc mixed<|AJ
def dI(x:Int×Y3×Y3×List Mark×Int×Int×A2):Rnd (Int×Y3×Y3×List Mark×Int×Int×A2) (A2) (Y3×Y3×A2):=if A1 (x.2.2.2.2.2.1<x.2.2.2.2.1) then if inb x.2.2.2.2.2.1 x.2.2.2.1.length then let b:=(rd (dfl .mark) x.2.2.2.1 x.2.2.2.2.2.1).mf;let c:=(rd (dfl .mark) x.2.2.2.1 x.2.2.2.2.2.1).mn;let a:=(rd (dfl .mark) x.2.2.2.1 x.2.2.2.2.2.1).mu;if A1 (x.1<a) then if Ac (x.2.2.1.2.2.2.2.1.length+([(Mark.mk b c a)]:List Mark).length) then I (.inl (x.1,x.2.1,(x.2.2.1.1,x.2.2.1.2.1,x.2.2.1.2.2.1,x.2.2.1.2.2.2.1,(x.2.2.1.2.2.2.2.1++([(Mark.mk b c a)]:List Mark)),x.2.2.1.2.2.2.2.2),x.2.2.2.1,x.2.2.2.2.1,(w64<|x.2.2.2.2.2.1+1),())) else U else I (.inl (x.1,x.2.1,x.2.2.1,x.2.2.2.1,x.2.2.2.2.1,(w64<|x.2.2.2.2.2.1+1),())) else U else I (.inr<|.inr (x.2.1,x.2.2.1,()))
def q5:=AR dI
def vg:Loop:=⟨[(1,.int .i64),(4,Z9),(5,Z31),(37,.sl .mark),(38,.int .i64),(39,.int .i64)],[(4,Z9),(5,Z31)],2,[],q5⟩
def akh:LF Tryz.f202 [] [1,1,1,0,1,0,0] vg:=sq (v:= .nil) gM (b:=dI) kN
def dJ(x:Int×Y3×Y3×Y3×List A6×Int×Int×A2):Rnd (Int×Y3×Y3×Y3×List A6×Int×Int×A2) (A2) (Int×Y3×Y3×Y3×A2):=if A1 (x.2.2.2.2.2.2.1<x.2.2.2.2.2.1) then if inb x.2.2.2.2.2.2.1 x.2.2.2.2.1.length then let b:=(rd (dfl .note) x.2.2.2.2.1 x.2.2.2.2.2.2.1).fr;let c:=(rd (dfl .note) x.2.2.2.2.1 x.2.2.2.2.2.2.1).nu;let d:=(rd (dfl .note) x.2.2.2.2.1 x.2.2.2.2.2.2.1).to;let a:=(rd (dfl .note) x.2.2.2.2.1 x.2.2.2.2.2.2.1).un;let e:=(rd (dfl .note) x.2.2.2.2.1 x.2.2.2.2.2.2.1).tx;if A1 (x.1<a) then if Ac (x.2.2.2.1.2.2.2.1.length+([(A6.mk b c d a e)]:List A6).length) then I (.inl (x.1,x.2.1,x.2.2.1,(x.2.2.2.1.1,x.2.2.2.1.2.1,x.2.2.2.1.2.2.1,(x.2.2.2.1.2.2.2.1++([(A6.mk b c d a e)]:List A6)),x.2.2.2.1.2.2.2.2),x.2.2.2.2.1,x.2.2.2.2.2.1,(w64<|x.2.2.2.2.2.2.1+1),())) else U else I (.inl (x.1,x.2.1,x.2.2.1,x.2.2.2.1,x.2.2.2.2.1,x.2.2.2.2.2.1,(w64<|x.2.2.2.2.2.2.1+1),())) else U else I (.inr<|.inr (x.1,x.2.1,x.2.2.1,x.2.2.2.1,()))
def q6:=AR dJ
def vh:Loop:=⟨[(1,.int .i64),(2,Z7),(4,Z9),(5,Z31),(19,.sl .note),(20,.int .i64),(21,.int .i64)],[(1,.int .i64),(2,Z7),(4,Z9),(5,Z31)],0,[],q6⟩
def akG:LF Tryz.f202 [] [1,1,0,1,0,0] vh:=sq (v:= .nil) gM (b:=dJ) kN
def eK(x:Y3×Int×A2):Option ((Y3×A2)×A2):=(AM (q6 (x.2.1,x.1,(0,0,0,([]:List A6),([]:List Mark),([]:List A6),()),(x.1.1,x.2.1,x.1.2.2.1,([]:List A6),([]:List Mark),x.1.2.2.2.2.2),x.1.2.2.2.1,(x.1.2.2.2.1.length:Int),0,())) (λ_=>U) λa=>(AM (q5 (a.1,a.2.2.1,a.2.2.2.1,a.2.1.2.2.2.2.1,(a.2.1.2.2.2.2.1.length:Int),0,())) (λ_=>U) λb=>I (b.2,())))
def yc:Ent:=(202,U,⟨[Z8,.int .i64],[Z8],eK⟩)
def ag1:SQ Tryz.prog yc:=sk (v:=t1<|t1<|.two (t1<|.one<|.loop vh)<|.two (t1<|.one<|.loop vg) .nil) (fn:=Tryz.f202) gM<|kC akG<|kC akh kN
def aos:Cx:=cX [yc] [] [(12,15),(24,27)]
def apl:OKC Tryz.prog aos AF:=okc mixed<|gC ag1<|AJ
def W7(x:Y3×A4×Int×A2):Option ((Y3×Bool×A2)×A2):=let a:=((A1<|x.2.1=(B [116,105,109,101]))&&(A1<|x.1.2.1<x.2.2.1));(if a then(eK (x.1,x.2.2)).bind λb=>I ((b.1.1,A0,()),()) else let c:=((A1<|x.2.1=(B [110,101,120,116]))&&(A1<|x.1.2.2.1<x.2.2.1));(if c then I (((x.1.1,x.1.2.1,x.2.2.1,x.1.2.2.2),A0,()),()) else I ((x.1,A3,()),())))
def aA7:Ent:=(166,U,⟨[Z8,.str,.int .i64],[Z8,.bool],W7⟩)
def aiR:SQ Tryz.prog aA7:=sk (v:= .nil) (fn:=Tryz.f166) apl kN
def aiH:Cx:=cX [S6,Rp] [] []
def aj4:OKC Tryz.prog aiH AF:=okc mixed<|gC Uu<|gC US<|AJ
def Mb(x:Y4×A2):Option ((A4×A2)×A2):=(OA x).bind λe=>if !e.1.1 then I ((noB,()),()) else(Is (x.1.1,())).bind λa=>if A1 (a.1.1.size+(B [32]).size<=4611686018427387904) then(Is (x.1.2.1,())).bind λb=>if A1 ((a.1.1++(B [32])).size+b.1.1.size<=4611686018427387904) then if A1 (((a.1.1++(B [32]))++b.1.1).size+(B [32]).size<=4611686018427387904) then(Is (x.1.2.2.1,())).bind λc=>if A1 ((((a.1.1++(B [32]))++b.1.1)++(B [32])).size+c.1.1.size<=4611686018427387904) then if A1 (((((a.1.1++(B [32]))++b.1.1)++(B [32]))++c.1.1).size+(B [32]).size<=4611686018427387904) then(Is (x.1.2.2.2.1,())).bind λd=>if A1 ((((((a.1.1++(B [32]))++b.1.1)++(B [32]))++c.1.1)++(B [32])).size+d.1.1.size<=4611686018427387904) then if A1 (((((((a.1.1++(B [32]))++b.1.1)++(B [32]))++c.1.1)++(B [32]))++d.1.1).size+(B [32]).size<=4611686018427387904) then if A1 ((((((((a.1.1++(B [32]))++b.1.1)++(B [32]))++c.1.1)++(B [32]))++d.1.1)++(B [32])).size+x.1.2.2.2.2.1.size<=4611686018427387904) then let f:=((((((((a.1.1++(B [32]))++b.1.1)++(B [32]))++c.1.1)++(B [32]))++d.1.1)++(B [32]))++x.1.2.2.2.2.1);I ((f,()),()) else U else U else U else U else U else U else U else U
def V9:Ent:=(118,U,⟨[Z6],[.str],Mb⟩)
def ay:SQ Tryz.prog V9:=sk (v:= .nil) (fn:=Tryz.f118) aj4 kN
def ajA:Cx:=cX [eZ] [] []
def xY:OKC Tryz.prog ajA AF:=okc mixed<|gC pt<|AJ
def cJ(x:List Int×List A4×Int×Int×A2):Rnd (List Int×List A4×Int×Int×A2) (List Int×Bool×A2) (List Int×A2):=if A1 (x.2.2.2.1<x.2.2.1) then if inb x.2.2.2.1 x.2.1.length then let b:=(rd (dfl .str) x.2.1 x.2.2.2.1);(Pn (b,())).bind λa=>if !a.1.2.1 then I (.inr<|.inl (([]:List Int),A3,())) else if Ac (x.1.length+([a.1.1]:List Int).length) then I (.inl ((x.1++([a.1.1]:List Int)),x.2.1,x.2.2.1,(w64<|x.2.2.2.1+1),())) else U else U else I (.inr<|.inr (x.1,()))
def pV:=AR cJ
def tH:Loop:=⟨[(4,.row 3 .int),(9,.sl .str),(10,.int .i64),(11,.int .i64)],[(4,.row 3 .int)],0,[(2,.row 3 .int),(3,.bool)],pV⟩
def aim:LF Tryz.f169 [] [1,1,0,1,0,0] tH:=sq (v:= .nil) xY (b:=cJ) kN
def Re(x:List A4×A2):Option ((List Int×Bool×A2)×A2):=(AM (pV (([]:List Int),x.1,(x.1.length:Int),0,())) (λa=>I (a,())) λa=>I ((a.1,A0,()),()))
def rk:Ent:=(169,U,⟨[.fz .str],[.row 3 .int,.bool],Re⟩)
def adL:SQ Tryz.prog rk:=sk (v:=t1<|t1<|.two (t1<|.one<|.loop tH) .nil) (fn:=Tryz.f169) xY<|kC aim kN
def ajF:Cx:=cX [S6,V9,rk,vE] [] [(43,46)]
def alE:OKC Tryz.prog ajF AF:=okc mixed<|gC Uu<|gC ay<|gC adL<|gC ae5<|AJ
def VR(x:A4×A2):Option ((Y4×Bool×A2)×A2):=(rU (x.1,(B [32]),5,())).bind λb=>if !decide ((b.1.1.length:Int)=5) then I (((0,0,0,0,noB,()),A3,()),()) else if A1 (0<=4)&&A1 (4<=(b.1.1.length:Int)) then(Re ((BH (AL 4) b.1.1),())).bind λa=>if !a.1.2.1 then I (((0,0,0,0,noB,()),A3,()),()) else if inb 0 a.1.1.length then if inb 1 a.1.1.length then if inb 2 a.1.1.length then if inb 3 a.1.1.length then if inb 4 b.1.1.length then(OA (((rd (dfl .int) a.1.1 0),(rd (dfl .int) a.1.1 1),(rd (dfl .int) a.1.1 2),(rd (dfl .int) a.1.1 3),(rd (dfl .str) b.1.1 4),()),())).bind λc=>if Ak (!(!c.1.1)) ((Mb (((rd (dfl .int) a.1.1 0),(rd (dfl .int) a.1.1 1),(rd (dfl .int) a.1.1 2),(rd (dfl .int) a.1.1 3),(rd (dfl .str) b.1.1 4),()),())).isSome) then if(!c.1.1)||(!decide (((Mb (((rd (dfl .int) a.1.1 0),(rd (dfl .int) a.1.1 1),(rd (dfl .int) a.1.1 2),(rd (dfl .int) a.1.1 3),(rd (dfl .str) b.1.1 4),()),())).getD ((noB,()),())).1.1=x.1)) then I (((0,0,0,0,noB,()),A3,()),()) else I ((((rd (dfl .int) a.1.1 0),(rd (dfl .int) a.1.1 1),(rd (dfl .int) a.1.1 2),(rd (dfl .int) a.1.1 3),(rd (dfl .str) b.1.1 4),()),A0,()),()) else U else U else U else U else U else U else U
def xT:Ent:=(167,U,⟨[.str],[Z6,.bool],VR⟩)
def afI:SQ Tryz.prog xT:=sk (v:= .nil) (fn:=Tryz.f167) alE kN
def anM:Cx:=cX [] [] [(21,24)]
def zE:OKC Tryz.prog anM AF:=okc mixed<|AJ
def eS(x:Int×Int×List A6×Int×Int×A2):Rnd (Int×Int×List A6×Int×Int×A2) (Int×A2) (A2):=if A1 (x.2.2.2.2.1<x.2.2.2.1) then if inb x.2.2.2.2.1 x.2.2.1.length then let a:=(rd (dfl .note) x.2.2.1 x.2.2.2.2.1).fr;let b:=(rd (dfl .note) x.2.2.1 x.2.2.2.2.1).nu;let c:=(rd (dfl .note) x.2.2.1 x.2.2.2.2.1).to;let d:=(rd (dfl .note) x.2.2.1 x.2.2.2.2.1).un;let e:=(rd (dfl .note) x.2.2.1 x.2.2.2.2.1).tx;if(A1<|a=x.1)&&(A1<|b=x.2.1) then I (.inr<|.inl x.2.2.2.2) else I (.inl (x.1,x.2.1,x.2.2.1,x.2.2.2.1,(w64<|x.2.2.2.2.1+1),())) else U else I (.inr<|.inr ())
def qn:=AR eS
def wQ:Loop:=⟨[(1,.int .i64),(2,.int .i64),(9,.sl .note),(10,.int .i64),(11,.int .i64)],[],0,[(6,.int .i64)],qn⟩
def amT:LF Tryz.f35 [] [1,0,1,0,0] wQ:=sq (v:= .nil) zE (b:=eS) kN
def Gg(x:List A6×Int×Int×A2):Option ((Int×A2)×A2):=(AM (qn (x.2.1,x.2.2.1,x.1,(x.1.length:Int),0,())) (λa=>I (a,())) λa=>I (((-1),()),()))
def LQ:Ent:=(35,U,⟨[.fz .note,.int .i64,.int .i64],[.int .i64],Gg⟩)
def MP:SQ Tryz.prog LQ:=sk (v:=t1<|.two (t1<|.one<|.loop wQ) .nil) (fn:=Tryz.f35) zE<|kC amT kN
def anL:Cx:=cX [W2] [] [(11,25)]
def zD:OKC Tryz.prog anL AF:=okc mixed<|gC bw<|AJ
def eR(x:List A6×Y4×Int×A2):Rnd (List A6×Y4×Int×A2) (A2) (List A6×Y4×Int×A2):=if Ak (A1<|x.2.2.1<(x.1.length:Int)) (inb x.2.2.1 x.1.length) then if Ak (A1<|x.2.2.1<(x.1.length:Int)) (inb x.2.2.1 x.1.length) then if Ak (A1<|x.2.2.1<(x.1.length:Int)) ((LP ((rd (dfl .note) x.1 x.2.2.1).fr,(rd (dfl .note) x.1 x.2.2.1).nu,x.2.1.1,x.2.1.2.1,())).isSome) then if(A1<|x.2.2.1<(x.1.length:Int))&&(((LP ((rd (dfl .note) x.1 x.2.2.1).fr,(rd (dfl .note) x.1 x.2.2.1).nu,x.2.1.1,x.2.1.2.1,())).getD ((A3,()),())).1.1) then I (.inl (x.1,x.2.1,(w64<|x.2.2.1+1),())) else I (.inr<|.inr x) else U else U else U
def qm:=AR eR
def wP:Loop:=⟨[(0,.sl .note),(3,Z5),(5,.int .i64)],[(0,.sl .note),(3,Z5),(5,.int .i64)],0,[],qm⟩
def amS:LF Tryz.f205 [] [1,1,0,0,0] wP:=sq (v:= .nil) zD (b:=eR) kN
def Pr(x:List A6×Y4×A2):Option ((List A6×A2)×A2):=(AM (qm (x.1,x.2.1,0,())) (λ_=>U) λa=>(if A1 (0<=a.2.2.1)&&A1 (a.2.2.1<=(a.1.length:Int)) then if Ac (([]:List A6).length+(BH (AL a.2.2.1) a.1).length) then if Ac ((([]:List A6)++(BH (AL a.2.2.1) a.1)).length+([(A6.mk a.2.1.1 a.2.1.2.1 a.2.1.2.2.1 a.2.1.2.2.2.1 a.2.1.2.2.2.2.1)]:List A6).length) then if A1 (0<=a.2.2.1)&&A1 (a.2.2.1<=(a.1.length:Int)) then if Ac (((([]:List A6)++(BH (AL a.2.2.1) a.1))++([(A6.mk a.2.1.1 a.2.1.2.1 a.2.1.2.2.1 a.2.1.2.2.2.1 a.2.1.2.2.2.2.1)]:List A6)).length+(Bm (AL a.2.2.1) a.1).length) then I (((((([]:List A6)++(BH (AL a.2.2.1) a.1))++([(A6.mk a.2.1.1 a.2.1.2.1 a.2.1.2.2.1 a.2.1.2.2.2.1 a.2.1.2.2.2.2.1)]:List A6))++(Bm (AL a.2.2.1) a.1)),()),()) else U else U else U else U else U))
def iE:Ent:=(205,U,⟨[.fz .note,Z6],[.row 43 .note],Pr⟩)
def tG:SQ Tryz.prog iE:=sk (v:=t1<|t1<|.two (.one<|.loop wP) .nil) (fn:=Tryz.f205) zD<|kC amS kN
def anO:Cx:=cX [W2] [] [(11,25)]
def zG:OKC Tryz.prog anO AF:=okc mixed<|gC bw<|AJ
def eE(x:List Mark×Y5×Int×A2):Rnd (List Mark×Y5×Int×A2) (A2) (List Mark×Y5×Int×A2):=if Ak (A1<|x.2.2.1<(x.1.length:Int)) (inb x.2.2.1 x.1.length) then if Ak (A1<|x.2.2.1<(x.1.length:Int)) (inb x.2.2.1 x.1.length) then if Ak (A1<|x.2.2.1<(x.1.length:Int)) ((LP ((rd (dfl .mark) x.1 x.2.2.1).mf,(rd (dfl .mark) x.1 x.2.2.1).mn,x.2.1.1,x.2.1.2.1,())).isSome) then if(A1<|x.2.2.1<(x.1.length:Int))&&(((LP ((rd (dfl .mark) x.1 x.2.2.1).mf,(rd (dfl .mark) x.1 x.2.2.1).mn,x.2.1.1,x.2.1.2.1,())).getD ((A3,()),())).1.1) then I (.inl (x.1,x.2.1,(w64<|x.2.2.1+1),())) else I (.inr<|.inr x) else U else U else U
def qd:=AR eE
def wR:Loop:=⟨[(0,.sl .mark),(3,Z10),(5,.int .i64)],[(0,.sl .mark),(3,Z10),(5,.int .i64)],0,[],qd⟩
def amU:LF Tryz.f208 [] [1,1,0,0,0] wR:=sq (v:= .nil) zG (b:=eE) kN
def Rz(x:List Mark×Y5×A2):Option ((List Mark×A2)×A2):=(AM (qd (x.1,x.2.1,0,())) (λ_=>U) λa=>(if A1 (0<=a.2.2.1)&&A1 (a.2.2.1<=(a.1.length:Int)) then if Ac (([]:List Mark).length+(BH (AL a.2.2.1) a.1).length) then if Ac ((([]:List Mark)++(BH (AL a.2.2.1) a.1)).length+([(Mark.mk a.2.1.1 a.2.1.2.1 a.2.1.2.2.1)]:List Mark).length) then if A1 (0<=a.2.2.1)&&A1 (a.2.2.1<=(a.1.length:Int)) then if Ac (((([]:List Mark)++(BH (AL a.2.2.1) a.1))++([(Mark.mk a.2.1.1 a.2.1.2.1 a.2.1.2.2.1)]:List Mark)).length+(Bm (AL a.2.2.1) a.1).length) then I (((((([]:List Mark)++(BH (AL a.2.2.1) a.1))++([(Mark.mk a.2.1.1 a.2.1.2.1 a.2.1.2.2.1)]:List Mark))++(Bm (AL a.2.2.1) a.1)),()),()) else U else U else U else U else U))
def iF:Ent:=(208,U,⟨[.fz .mark,Z11],[.row 168 .mark],Rz⟩)
def tI:SQ Tryz.prog iF:=sk (v:=t1<|t1<|.two (.one<|.loop wR) .nil) (fn:=Tryz.f208) zG<|kC amU kN
def amp:Cx:=cX [LQ,S6,W1,iE,iF] [] []
def aod:OKC Tryz.prog amp AF:=okc mixed<|gC MP<|gC Uu<|gC bu<|gC tG<|gC tI<|AJ
def Vw(x:Y3×Y4×A2):Option ((Y3×Bool×A2)×A2):=(OA x.2).bind λa=>if !a.1.1 then I ((x.1,A3,()),()) else if A1 (x.2.1.2.2.2.1<=x.1.2.1) then I ((x.1,A3,()),()) else(Gg (x.1.2.2.2.1,x.2.1.1,x.2.1.2.1,())).bind λb=>if A1 (0<=b.1.1) then I ((x.1,A3,()),()) else(Gg (x.1.2.2.2.2.2.1,x.2.1.1,x.2.1.2.1,())).bind λc=>if A1 (0<=c.1.1) then I ((x.1,A3,()),()) else(KM (x.1.2.2.2.2.1,x.2.1.1,x.2.1.2.1,())).bind λd=>if A1 (0<=d.1.1) then I ((x.1,A3,()),()) else if A1 (12<(w64<|(w64<|(x.1.2.2.2.1.length:Int)+(x.1.2.2.2.2.1.length:Int))+1)) then I ((x.1,A3,()),()) else if A1 (x.2.1.2.2.1=x.1.1) then(Pr (x.1.2.2.2.2.2.1,x.2)).bind λe=>(Rz (x.1.2.2.2.2.1,(x.2.1.1,x.2.1.2.1,x.2.1.2.2.2.1,()),())).bind λf=>I (((x.1.1,x.1.2.1,x.1.2.2.1,x.1.2.2.2.1,f.1.1,e.1),A0,()),()) else(Pr (x.1.2.2.2.1,x.2)).bind λg=>I (((x.1.1,x.1.2.1,x.1.2.2.1,g.1.1,x.1.2.2.2.2),A0,()),())
def zo:Ent:=(204,U,⟨[Z8,Z6],[Z8,.bool],Vw⟩)
def ahm:SQ Tryz.prog zo:=sk (v:= .nil) (fn:=Tryz.f204) aod kN
def anU:Cx:=cX [LQ,zo,iE] [] [(19,23),(38,42),(59,66)]
def aoX:OKC Tryz.prog anU AF:=okc mixed<|gC MP<|gC ahm<|gC tG<|AJ
def Vq(x:Y3×A4×Y4×A2):Option ((Y3×Bool×A2)×A2):=(BS (X:=A4×Y3×Y4×Y3×Bool×A2) (λa=>if a.2.2.2.2.1 then let c:=(w64<|a.2.1.2.2.1+1);(Vw ((a.2.1.1,a.2.1.2.1,c,a.2.1.2.2.2),a.2.2.1,())).bind λd=>I (d.1,()) else let e:=((A1<|a.1=(B [116,97,107,101]))&&(!decide (a.2.2.1.1=a.2.1.1)));(if e then(Vw (a.2.1,a.2.2.1,())).bind λf=>I (f.1,()) else(Gg (a.2.1.2.2.2.1,a.2.2.1.1,a.2.2.1.2.1,())).bind λb=>if Ak (!(A1<|0<=b.1.1)) ((Gg (a.2.1.2.2.2.2.2.1,a.2.2.1.1,a.2.2.1.2.1,())).isSome) then let g:=((A1<|0<=b.1.1)||(A1<|0<=((Gg (a.2.1.2.2.2.2.2.1,a.2.2.1.1,a.2.2.1.2.1,())).getD ((0,()),())).1.1));(if g then I ((a.2.1,A3,()),()) else let h:=(A1<|a.1=(B [104,101,108,100]));(if h then(Pr (a.2.1.2.2.2.1,a.2.2.1,())).bind λi=>I (((a.2.1.1,a.2.1.2.1,a.2.1.2.2.1,i.1.1,a.2.1.2.2.2.2),A0,()),()) else let j:=(A1<|a.1=(B [105,110,98,111,120]));(if j then(Pr (a.2.1.2.2.2.2.2.1,a.2.2.1,())).bind λk=>I (((a.2.1.1,a.2.1.2.1,a.2.1.2.2.1,a.2.1.2.2.2.1,a.2.1.2.2.2.2.1,k.1),A0,()),()) else I ((a.2.1,A3,()),())))) else U))<|(if A1 (x.2.1=(B [111,119,110])) then let l:=((A1<|x.2.2.1.1=x.1.1)&&(A1<|x.2.2.1.2.1=x.1.2.2.1));I (.inr (x.2.1,x.1,x.2.2.1,(0,0,0,([]:List A6),([]:List Mark),([]:List A6),()),l,())) else I (.inr (x.2.1,x.1,x.2.2.1,(0,0,0,([]:List A6),([]:List Mark),([]:List A6),()),A3,()))))
def zh:Ent:=(168,U,⟨[Z8,.str,Z6],[Z8,.bool],Vq⟩)
def ahg:SQ Tryz.prog zh:=sk (v:=t1<|.two (.one<|.join [(1,.str),(3,Z7),(5,Z5),(6,Z9),(8,.bool)] .nil .nil) .nil) (fn:=Tryz.f168) aoX kN
def alQ:Cx:=cX [] [] []
def an6:OKC Tryz.prog alQ AF:=okc mixed<|AJ
def Rl(x:List A6×Int×A2):Option ((List A6×A2)×A2):=if A1 (0<=x.2.1)&&A1 (x.2.1<=(x.1.length:Int)) then if Ac (([]:List A6).length+(BH (AL x.2.1) x.1).length) then if A1 (0<=(w64<|x.2.1+1))&&A1 ((w64<|x.2.1+1)<=(x.1.length:Int)) then if Ac ((([]:List A6)++(BH (AL x.2.1) x.1)).length+(Bm (AL<|w64<|x.2.1+1) x.1).length) then I ((((([]:List A6)++(BH (AL x.2.1) x.1))++(Bm (AL<|w64<|x.2.1+1) x.1)),()),()) else U else U else U else U
def ya:Ent:=(207,U,⟨[.fz .note,.int .i64],[.row 43 .note],Rl⟩)
def afv:SQ Tryz.prog ya:=sk (v:= .nil) (fn:=Tryz.f207) an6 kN
def anV:Cx:=cX [LQ,W1,ya,iF] [] [(41,49),(70,78),(90,91)]
def aoY:OKC Tryz.prog anV AF:=okc mixed<|gC MP<|gC bu<|gC afv<|gC tI<|AJ
def Vv(x:Y3×A4×Y5×A2):Option ((Y3×Bool×A2)×A2):=(Gg (x.1.2.2.2.1,x.2.2.1.1,x.2.2.1.2.1,())).bind λc=>(Gg (x.1.2.2.2.2.2.1,x.2.2.1.1,x.2.2.1.2.1,())).bind λd=>(KM (x.1.2.2.2.2.1,x.2.2.1.1,x.2.2.1.2.1,())).bind λe=>(BS (X:=A4×Y3×Y5×Y3×Int×Int×Bool×Bool×A2) (λa=>if a.2.2.2.2.2.2.2.1 then(Rl (a.2.1.2.2.2.1,a.2.2.2.2.1,())).bind λf=>(Rz (a.2.1.2.2.2.2.1,a.2.2.1,())).bind λg=>I (((a.2.1.1,a.2.1.2.1,a.2.1.2.2.1,f.1.1,g.1.1,a.2.1.2.2.2.2.2),A0,()),()) else(BS (X:=A4×Y3×Y5×Y3×Int×Bool×Bool×A2) (λb=>if b.2.2.2.2.2.2.1 then(Rl (b.2.1.2.2.2.2.2.1,b.2.2.2.2.1,())).bind λh=>I (((b.2.1.1,b.2.1.2.1,b.2.1.2.2.1,b.2.1.2.2.2.1,b.2.1.2.2.2.2.1,h.1),A0,()),()) else let i:=((A1<|b.1=(B [109,97,114,107]))&&(!b.2.2.2.2.2.1));(if i then(Rz (b.2.1.2.2.2.2.1,b.2.2.1,())).bind λj=>I (((b.2.1.1,b.2.1.2.1,b.2.1.2.2.1,b.2.1.2.2.2.1,j.1.1,b.2.1.2.2.2.2.2),A0,()),()) else I ((b.2.1,A3,()),())))<|(if A1 (a.1=(B [101,97,116])) then if Ak (A1<|0<=a.2.2.2.2.2.1) (inb a.2.2.2.2.2.1 a.2.1.2.2.2.2.2.1.length) then let k:=((A1<|0<=a.2.2.2.2.2.1)&&(A1<|(rd (dfl .note) a.2.1.2.2.2.2.2.1 a.2.2.2.2.2.1).un=a.2.2.1.2.2.1));I (.inr (a.1,a.2.1,a.2.2.1,a.2.2.2.1,a.2.2.2.2.2.1,a.2.2.2.2.2.2.1,k,())) else U else if Ak A3 (inb a.2.2.2.2.2.1 a.2.1.2.2.2.2.2.1.length) then I (.inr (a.1,a.2.1,a.2.2.1,a.2.2.2.1,a.2.2.2.2.2.1,a.2.2.2.2.2.2.1,A3,())) else U)))<|(if A1 (x.2.1=(B [108,101,116])) then if Ak (A1<|0<=c.1.1) (inb c.1.1 x.1.2.2.2.1.length) then let l:=((A1<|0<=c.1.1)&&(A1<|(rd (dfl .note) x.1.2.2.2.1 c.1.1).un=x.2.2.1.2.2.1));I (.inr (x.2.1,x.1,x.2.2.1,(0,0,0,([]:List A6),([]:List Mark),([]:List A6),()),c.1.1,d.1.1,(A1<|0<=e.1.1),l,())) else U else if Ak A3 (inb c.1.1 x.1.2.2.2.1.length) then I (.inr (x.2.1,x.1,x.2.2.1,(0,0,0,([]:List A6),([]:List Mark),([]:List A6),()),c.1.1,d.1.1,(A1<|0<=e.1.1),A3,())) else U))
def zi:Ent:=(171,U,⟨[Z8,.str,Z11],[Z8,.bool],Vv⟩)
def ahh:SQ Tryz.prog zi:=sk (v:=t1<|t1<|t1<|.two (.one<|.join [(1,.str),(3,Z7),(5,Z10),(6,Z9),(8,.int .i64),(9,.int .i64),(10,.bool),(33,.bool)] .nil<|t1<|.join [(1,.str),(3,Z7),(5,Z10),(6,Z9),(9,.int .i64),(10,.bool),(62,.bool)] .nil .nil) .nil) (fn:=Tryz.f171) aoY kN
def aot:Cx:=cX [eZ,zP,aA7,xT,zh,rk,wA,zi] [] [(69,71)]
def apm:OKC Tryz.prog aot AF:=okc mixed<|gC pt<|gC agW<|gC aiR<|gC afI<|gC ahg<|gC adL<|gC aer<|gC ahh<|AJ
def W8(x:Y3×A4×A2):Option ((Y3×Bool×A2)×A2):=(Vr (x.2.1,(B [32]),())).bind λc=>if !c.1.2.2.1 then I ((x.1,A3,()),()) else(BS (X:=Y3×Y3×A4×A4×A4×Bool×A2) (λa=>if a.2.2.2.2.2.1 then(Pn (a.2.2.2.1,())).bind λf=>if f.1.2.1 then(W7 (a.1,a.2.2.1,f.1.1,())).bind λn=>I (n.1,()) else I ((a.1,A3,()),()) else(BS (X:=Y3×Y3×A4×A4×A4×Bool×A2) (λb=>if b.2.2.2.2.2.1 then(VR (b.2.2.2.1,())).bind λg=>if g.1.2.1 then(Vq (b.1,b.2.2.1,g.1.1,())).bind λo=>I (o.1,()) else I ((b.1,A3,()),()) else(BS (X:=Y3×Y3×A4×A4×Bool×A2) (λe=>if e.2.2.2.2.1 then(dQ (e.2.2.2.1,(B [32]),())).bind λp=>(Re p.1).bind λd=>if d.1.2.1&&(A1<|(d.1.1.length:Int)=3) then if inb 0 d.1.1.length then if inb 1 d.1.1.length then if inb 2 d.1.1.length then(Vv (e.1,e.2.2.1,((rd (dfl .int) d.1.1 0),(rd (dfl .int) d.1.1 1),(rd (dfl .int) d.1.1 2),()),())).bind λq=>I (q.1,()) else U else U else U else I ((e.1,A3,()),()) else I ((e.1,A3,()),())) (let h:=(A1<|b.2.2.2.2.1=(B [108,101,116]));(if h then I (.inr (b.1,b.2.1,b.2.2.1,b.2.2.2.1,h,())) else let i:=(A1<|b.2.2.2.2.1=(B [101,97,116]));(if i then I (.inr (b.1,b.2.1,b.2.2.1,b.2.2.2.1,i,())) else let r:=(A1<|b.2.2.2.2.1=(B [109,97,114,107]));I (.inr (b.1,b.2.1,b.2.2.1,b.2.2.2.1,r,()))))))) (let j:=(A1<|a.2.2.2.2.1=(B [111,119,110]));(if j then I (.inr (a.1,a.2.1,a.2.2.1,a.2.2.2.1,a.2.2.2.2.1,j,())) else let k:=(A1<|a.2.2.2.2.1=(B [116,97,107,101]));(if k then I (.inr (a.1,a.2.1,a.2.2.1,a.2.2.2.1,a.2.2.2.2.1,k,())) else let l:=(A1<|a.2.2.2.2.1=(B [104,101,108,100]));(if l then I (.inr (a.1,a.2.1,a.2.2.1,a.2.2.2.1,a.2.2.2.2.1,l,())) else let s:=(A1<|a.2.2.2.2.1=(B [105,110,98,111,120]));I (.inr (a.1,a.2.1,a.2.2.1,a.2.2.2.1,a.2.2.2.2.1,s,())))))))) (let m:=(A1<|c.1.1=(B [116,105,109,101]));(if m then I (.inr (x.1,(0,0,0,([]:List A6),([]:List Mark),([]:List A6),()),c.1.1,c.1.2.1,c.1.1,m,())) else let t:=(A1<|c.1.1=(B [110,101,120,116]));I (.inr (x.1,(0,0,0,([]:List A6),([]:List Mark),([]:List A6),()),c.1.1,c.1.2.1,c.1.1,t,())))))
def aA8:Ent:=(126,U,⟨[Z8,.str],[Z8,.bool],W8⟩)
def aiS:SQ Tryz.prog aA8:=sk (v:=t1<|t1<|t1<|.two (t1<|.one<|.join [(2,Z7),(4,Z9),(6,.str),(7,.str),(24,.str),(25,.bool)] .nil<|t1<|.join [(2,Z7),(4,Z9),(6,.str),(7,.str),(24,.str),(40,.bool)] .nil<|t1<|.join [(2,Z7),(4,Z9),(6,.str),(7,.str),(57,.bool)] .nil .nil) .nil) (fn:=Tryz.f126) apm kN
def af4:Cx:=cX [] [] []
def agR:OKC Tryz.prog af4 AF:=okc mixed<|AJ
def py(x:List Mark×A2):Option ((List Mark×A2)×A2):=if A1 ((x.1.length:Int)=0) then I ((([]:List Mark),()),()) else if A1 (0<=(x.1.length:Int))&&A1 ((x.1.length:Int)<=4294967296) then I (((BH (BT (AL (x.1.length:Int))<|dfl .mark).length x.1++Bm x.1.length (BT (AL (x.1.length:Int))<|dfl .mark)),()),()) else U
def tj:Ent:=(172,U,⟨[.fz .mark],[.row 168 .mark],py⟩)
def ado:SQ Tryz.prog tj:=sk (v:= .nil) (fn:=Tryz.f172) agR kN
def ajB:Cx:=cX [qE,tj] [] []
def alA:OKC Tryz.prog ajB AF:=okc mixed<|gC acT<|gC ado<|AJ
def Rf(x:Y3×A2):Option ((Y3×A2)×A2):=(Ny (x.1.2.2.2.1,())).bind λa=>(py (x.1.2.2.2.2.1,())).bind λb=>(Ny x.1.2.2.2.2.2).bind λc=>I (((x.1.1,x.1.2.1,x.1.2.2.1,a.1.1,b.1.1,c.1),()),())
def xQ:Ent:=(127,U,⟨[Z8],[Z4],Rf⟩)
def afE:SQ Tryz.prog xQ:=sk (v:= .nil) (fn:=Tryz.f127) alA kN
def amu:Cx:=cX [iH,aA8,xQ] [] [(22,24)]
def aof:OKC Tryz.prog amu AF:=okc mixed<|gC uJ<|gC aiS<|gC afE<|AJ
def S5(x:Y3×A4×A2):Option ((Y3×Bool×A2)×A2):=(Ps (x.1,())).bind λb=>if !b.1.1 then I (((0,0,0,([]:List A6),([]:List Mark),([]:List A6),()),A3,()),()) else(Rf (x.1,())).bind λc=>(W8 (c.1.1,x.2)).bind λa=>if Ak (!(!a.1.2.1)) ((Ps (a.1.1,())).isSome) then if(!a.1.2.1)||(!(((Ps (a.1.1,())).getD ((A3,()),())).1.1)) then(Rf (x.1,())).bind λd=>I ((d.1.1,A3,()),()) else(Rf (a.1.1,())).bind λe=>I ((e.1.1,A0,()),()) else U
def iI:Ent:=(90,U,⟨[Z8,.str],[Z4,.bool],S5⟩)
def uK:SQ Tryz.prog iI:=sk (v:= .nil) (fn:=Tryz.f90) aof kN
def amt:Cx:=cX [Ir,vS,iI] [] []
def zL:OKC Tryz.prog amt AF:=okc mixed<|gC JT<|gC aeL<|gC uK<|AJ
def Vg(x:Y3×Y3×List A4×Int×Int×A2):Rnd (Y3×Y3×List A4×Int×Int×A2) (Y3×Bool×A2) (Y3×Y3×A2):=if A1 (x.2.2.2.2.1<x.2.2.2.1) then if inb x.2.2.2.2.1 x.2.2.1.length then let b:=(rd (dfl .str) x.2.2.1 x.2.2.2.2.1);(S5 (x.2.1,b,())).bind λa=>if !a.1.2.1 then I (.inr<|.inl ((0,0,0,([]:List A6),([]:List Mark),([]:List A6),()),A3,())) else I (.inl (x.1,a.1.1,x.2.2.1,x.2.2.2.1,(w64<|x.2.2.2.2.1+1),())) else U else I (.inr<|.inr (x.1,x.2.1,()))
def qt:=AR Vg
def vz:Loop:=⟨[(4,Z9),(6,Z9),(17,.sl .str),(18,.int .i64),(19,.int .i64)],[(4,Z9),(6,Z9)],0,[(4,Z9),(5,.bool)],qt⟩
def ama:LF Tryz.f53 [] [1,1,1,0,1,0,0] vz:=sq (v:= .nil) zL (b:=Vg) kN
def fO(x:Int×List A4×A2):Option ((Y3×Bool×A2)×A2):=(FJ (x.1,())).bind λb=>if !b.1.1 then I (((0,0,0,([]:List A6),([]:List Mark),([]:List A6),()),A3,()),()) else(cc (x.1,())).bind λc=>(AM (qt ((0,0,0,([]:List A6),([]:List Mark),([]:List A6),()),c.1.1,x.2.1,(x.2.1.length:Int),0,())) (λa=>I (a,())) λa=>I ((a.2.1,A0,()),()))
def zq:Ent:=(53,U,⟨[.int .i64,.fz .str],[Z4,.bool],fO⟩)
def ahu:SQ Tryz.prog zq:=sk (v:=t1<|t1<|t1<|.two (t1<|.one<|.loop vz) .nil) (fn:=Tryz.f53) zL<|kC ama kN
def alO:Cx:=cX [ck,zq] [] []
def an5:OKC Tryz.prog alO AF:=okc mixed<|gC p9<|gC ahu<|AJ
def JX(x:Int×A4×A2):Option ((Y3×Bool×A2)×A2):=(Pb x.2).bind λa=>(fO (x.1,a.1.1,())).bind λb=>I (b.1,())
def Vl:Ent:=(30,U,⟨[.int .i64,.str],[Z4,.bool],JX⟩)
def bJ:SQ Tryz.prog Vl:=sk (v:= .nil) (fn:=Tryz.f30) an5 kN
def alW:Cx:=cX [ck,F3] [] [(12,18),(41,44)]
def amk:OKC Tryz.prog alW AF:=okc mixed<|gC p9<|gC FK<|AJ
def O4(x:Y7×A2):Option ((Bool×A2)×A2):=if Ak (!(A1<|2400<(x.1.1.size:Int))) ((By (x.1.2.1,0,(x.1.1.size:Int),())).isSome) then if(A1<|2400<(x.1.1.size:Int))||(!(((By (x.1.2.1,0,(x.1.1.size:Int),())).getD ((A3,()),())).1.1)) then I ((A3,()),()) else(Pb (x.1.1,())).bind λa=>if A1 (0<=x.1.2.1)&&A1 (x.1.2.1<=(x.1.1.size:Int)) then(Pb ((x.1.1.extract (0)<|AL x.1.2.1),())).bind λb=>let c:=((A1<|a.1.2.1=(x.1.1.size:Int))&&(A1<|b.1.2.1=x.1.2.1));I ((c,()),()) else U else U
def Rr:Ent:=(49,U,⟨[Z15],[.bool],O4⟩)
def Ud:SQ Tryz.prog Rr:=sk (v:= .nil) (fn:=Tryz.f49) amk kN
def anR:Cx:=cX [Ir,F3] [] [(54,57)]
def iK:OKC Tryz.prog anR AF:=okc mixed<|gC JT<|gC FK<|AJ
def eH(x:Y9×Y8×List AT×Int×Int×List AT×Int×Int×A2):Rnd (Y9×Y8×List AT×Int×Int×List AT×Int×Int×A2) (Bool×A2) (Y9×List AT×Int×Int×A2):=if A1 (x.2.2.2.2.2.2.2.1<x.2.2.2.2.2.2.1) then if inb x.2.2.2.2.2.2.2.1 x.2.2.2.2.2.1.length then let a:=(rd (dfl .mixed) x.2.2.2.2.2.1 x.2.2.2.2.2.2.2.1).nu;let b:=(rd (dfl .mixed) x.2.2.2.2.2.1 x.2.2.2.2.2.2.2.1).da;if A1 (a=x.2.1.1) then I (.inr<|.inl (A3,())) else I (.inl (x.1,x.2.1,x.2.2.1,x.2.2.2.1,x.2.2.2.2.1,x.2.2.2.2.2.1,x.2.2.2.2.2.2.1,(w64<|x.2.2.2.2.2.2.2.1+1),())) else U else I (.inr<|.inr (x.1,x.2.2.1,x.2.2.2.1,x.2.2.2.2.1,()))
def qf:=AR eH
def wU:Loop:=⟨[(1,Z17),(4,Z32),(42,.sl .mixed),(43,.int .i64),(44,.int .i64),(62,.sl .mixed),(63,.int .i64),(64,.int .i64)],[(1,Z17),(42,.sl .mixed),(43,.int .i64),(44,.int .i64)],2,[(2,.bool)],qf⟩
def alw:LF Tryz.f50 [] [1,1,0,1,0,0,1,1,0,0,1,1,1,0,0] wU:=sq (v:= .nil) iK (b:=eH) kN
def eJ(x:Y9×List AT×Int×Int×A2):Rnd (Y9×List AT×Int×Int×A2) (Bool×A2) (A2):=if A1 (x.2.2.2.1<x.2.2.1) then if inb x.2.2.2.1 x.2.1.length then let b:=(rd (dfl .mixed) x.2.1 x.2.2.2.1).nu;let c:=(rd (dfl .mixed) x.2.1 x.2.2.2.1).da;(By (b,0,999,())).bind λd=>if(!d.1.1)||(!decide ((c.size:Int)=4)) then I (.inr<|.inl (A3,())) else if A1 (0<=x.2.2.2.1)&&A1 (x.2.2.2.1<=(x.1.2.2.2.2.2.1.length:Int)) then(AM (qf (x.1,(b,c,()),x.2.1,x.2.2.1,x.2.2.2.1,(BH (AL x.2.2.2.1) x.1.2.2.2.2.2.1),((BH (AL x.2.2.2.1) x.1.2.2.2.2.2.1).length:Int),0,())) (λa=>I<|.inr<|.inl a) λa=>I<|.inl (a.1,a.2.1,a.2.2.1,(w64<|a.2.2.2.1+1),())) else U else U else I (.inr<|.inr ())
def qg:=AR eJ
def wV:Loop:=⟨[(1,Z17),(42,.sl .mixed),(43,.int .i64),(44,.int .i64)],[],0,[(2,.bool)],qg⟩
def amW:LF Tryz.f50 [] [1,1,0,1,0,0] wV:=sq (v:=t1<|t1<|.two (.one<|t1<|t1<|t1<|.one<|.loop wU) .nil) iK (b:=eJ)<|kC alw kN
def fH(x:Y9×A2):Option ((Bool×A2)×A2):=(FJ (x.1.1,())).bind λb=>if !b.1.1 then I ((A3,()),()) else(FJ (x.1.2.2.1,())).bind λc=>if !c.1.1 then I ((A3,()),()) else(By (x.1.2.1,1,99,())).bind λd=>if !d.1.1 then I ((A3,()),()) else(By (x.1.2.2.2.1,1,999,())).bind λe=>if !e.1.1 then I ((A3,()),()) else(By (x.1.2.2.2.2.1,1,24,())).bind λf=>if !f.1.1 then I ((A3,()),()) else if A1 (14<(x.1.2.2.2.2.2.1.length:Int)) then I ((A3,()),()) else(AM (qg (x.1,x.1.2.2.2.2.2.1,(x.1.2.2.2.2.2.1.length:Int),0,())) (λa=>I (a,())) λa=>I ((A0,()),()))
def zg:Ent:=(50,U,⟨[Z18],[.bool],fH⟩)
def ahf:SQ Tryz.prog zg:=sk (v:=t1<|t1<|.two (t1<|.one<|.loop wV) .nil) (fn:=Tryz.f50) iK<|kC amW kN
def anS:Cx:=cX [] [] [(21,24)]
def zI:OKC Tryz.prog anS AF:=okc mixed<|AJ
def Vn(x:Int×Int×List AH×Int×Int×A2):Rnd (Int×Int×List AH×Int×Int×A2) (Int×A2) (A2):=if A1 (x.2.2.2.2.1<x.2.2.2.1) then if inb x.2.2.2.2.1 x.2.2.1.length then let a:=(rd (dfl .half) x.2.2.1 x.2.2.2.2.1).fr;let b:=(rd (dfl .half) x.2.2.1 x.2.2.2.2.1).nu;let c:=(rd (dfl .half) x.2.2.1 x.2.2.2.2.1).to;let d:=(rd (dfl .half) x.2.2.1 x.2.2.2.2.1).un;let e:=(rd (dfl .half) x.2.2.1 x.2.2.2.2.1).sz;let f:=(rd (dfl .half) x.2.2.1 x.2.2.2.2.1).got;if(A1<|a=x.1)&&(A1<|b=x.2.1) then I (.inr<|.inl x.2.2.2.2) else I (.inl (x.1,x.2.1,x.2.2.1,x.2.2.2.1,(w64<|x.2.2.2.2.1+1),())) else U else I (.inr<|.inr ())
def qh:=AR Vn
def wW:Loop:=⟨[(1,.int .i64),(2,.int .i64),(9,.sl .half),(10,.int .i64),(11,.int .i64)],[],0,[(6,.int .i64)],qh⟩
def amX:LF Tryz.f51 [] [1,0,1,0,0] wW:=sq (v:= .nil) zI (b:=Vn) kN
def S2(x:List AH×Int×Int×A2):Option ((Int×A2)×A2):=(AM (qh (x.2.1,x.2.2.1,x.1,(x.1.length:Int),0,())) (λa=>I (a,())) λa=>I (((-1),()),()))
def iG:Ent:=(51,U,⟨[.fz .half,.int .i64,.int .i64],[.int .i64],S2⟩)
def tJ:SQ Tryz.prog iG:=sk (v:=t1<|.two (t1<|.one<|.loop wW) .nil) (fn:=Tryz.f51) zI<|kC amX kN
def ajH:Cx:=cX [Vl,Ir,Rr,zg,iG] [] [(61,62),(76,84)]
def xZ:OKC Tryz.prog ajH AF:=okc mixed<|gC bJ<|gC JT<|gC Ud<|gC ahf<|gC tJ<|AJ
def cb(x:Y1×List AH×Int×Int×A2):Rnd (Y1×List AH×Int×Int×A2) (Bool×A2) (A2):=if A1 (x.2.2.2.1<x.2.2.1) then if inb x.2.2.2.1 x.2.1.length then let a:=(rd (dfl .half) x.2.1 x.2.2.2.1).fr;let b:=(rd (dfl .half) x.2.1 x.2.2.2.1).nu;let d:=(rd (dfl .half) x.2.1 x.2.2.2.1).to;let e:=(rd (dfl .half) x.2.1 x.2.2.2.1).un;let f:=(rd (dfl .half) x.2.1 x.2.2.2.1).sz;let g:=(rd (dfl .half) x.2.1 x.2.2.2.1).got;(fH ((a,b,d,e,f,g,()),())).bind λc=>if Ak (!(!c.1.1)) ((S2 (x.1.2.2.2.2.1,a,b,())).isSome) then if(!c.1.1)||(A1<|((S2 (x.1.2.2.2.2.1,a,b,())).getD ((0,()),())).1.1<x.2.2.2.1) then I (.inr<|.inl (A3,())) else I (.inl (x.1,x.2.1,x.2.2.1,(w64<|x.2.2.2.1+1),())) else U else U else I (.inr<|.inr ())
def ak:=AR cb
def uE:Loop:=⟨[(1,Z19),(65,.sl .half),(66,.int .i64),(67,.int .i64)],[],0,[(2,.bool)],ak⟩
def ain:LF Tryz.f29 [] [1,1,1,1,1,0,1,0,0] uE:=sq (v:= .nil) xZ (b:=cb) kN
def Hk(x:Y1×A2):Option ((Bool×A2)×A2):=(BS (X:=Y1×A2) (λa=>(JX (a.1.1,a.1.2.2.1,())).bind λc=>if A1 (0<=a.1.2.2.2.1)&&A1 (a.1.2.2.2.1<=(a.1.2.2.1.size:Int)) then(JX (a.1.1,(a.1.2.2.1.extract (0)<|AL a.1.2.2.2.1),())).bind λd=>if(!c.1.2.1)||(!d.1.2.1) then I ((A3,()),()) else(AM (ak (a.1,a.1.2.2.2.2.1,(a.1.2.2.2.2.1.length:Int),0,())) (λb=>I (b,())) λb=>I ((A0,()),())) else U)<|(FJ (x.1.1,())).bind λe=>if !e.1.1 then I (.inl ((A3,()),())) else(O4 ((x.1.2.2.1,x.1.2.2.2.1,()),())).bind λf=>if !f.1.1 then I (.inl ((A3,()),())) else if A1 (3<(x.1.2.2.2.2.1.length:Int)) then I (.inl ((A3,()),())) else if !x.1.2.1 then if A1 (0<(x.1.2.2.2.2.1.length:Int)) then I (.inl ((A3,()),())) else I (.inr x) else I (.inr x))
def JY:Ent:=(29,U,⟨[Z12],[.bool],Hk⟩)
def KD:SQ Tryz.prog JY:=sk (v:=t1<|.join [(1,Z19)] .nil<|t1<|t1<|t1<|.two (t1<|.one<|.loop uE) .nil) (fn:=Tryz.f29) xZ<|kC ain kN
def aiL:Cx:=cX [JY,Vl] [] []
def ak0:OKC Tryz.prog aiL AF:=okc mixed<|gC KD<|gC bJ<|AJ
def H5(x:Y1×A2):Option ((Y3×A2)×A2):=(Hk x).bind λa=>if !a.1.1 then I (((0,0,0,([]:List A6),([]:List Mark),([]:List A6),()),()),()) else(JX (x.1.1,x.1.2.2.1,())).bind λb=>I ((b.1.1,()),())
def Im:Ent:=(15,U,⟨[Z12],[Z4],H5⟩)
def JV:SQ Tryz.prog Im:=sk (v:= .nil) (fn:=Tryz.f15) ak0 kN
def aop:Cx:=cX [F3] [] []
def api:OKC Tryz.prog aop AF:=okc mixed<|gC FK<|AJ
def fb(x:A4×A2):Option ((Bool×A2)×A2):=(By ((x.1.size:Int),1,60,())).bind λa=>I (a.1,())
def iR:Ent:=(159,U,⟨[.str],[.bool],fb⟩)
def vb:SQ Tryz.prog iR:=sk (v:= .nil) (fn:=Tryz.f159) api kN
def anK:Cx:=cX [Rp] [] []
def aoT:OKC Tryz.prog anK AF:=okc mixed<|gC US<|AJ
def Pq(x:A4×A2):Option ((A4×A2)×A2):=(Is ((x.1.size:Int),())).bind λa=>if A1 (a.1.1.size+(B [58]).size<=4611686018427387904) then if A1 ((a.1.1++(B [58])).size+x.1.size<=4611686018427387904) then if A1 (((a.1.1++(B [58]))++x.1).size+(B [59]).size<=4611686018427387904) then let b:=(((a.1.1++(B [58]))++x.1)++(B [59]));I ((b,()),()) else U else U else U
def iD:Ent:=(160,U,⟨[.str],[.str],Pq⟩)
def tD:SQ Tryz.prog iD:=sk (v:= .nil) (fn:=Tryz.f160) aoT kN
def aiD:Cx:=cX [Rr,iR,iD] [] [(23,25)]
def vX:OKC Tryz.prog aiD AF:=okc mixed<|gC Ud<|gC vb<|gC tD<|AJ
def RP(x:Y7×Y7×A4×List A4×Int×Int×A2):Rnd (Y7×Y7×A4×List A4×Int×Int×A2) (Y7×Bool×A2) (Y7×Y7×A4×A2):=if A1 (x.2.2.2.2.2.1<x.2.2.2.2.1) then if inb x.2.2.2.2.2.1 x.2.2.2.1.length then let a:=(rd (dfl .str) x.2.2.2.1 x.2.2.2.2.2.1);(fb (a,())).bind λc=>if(!c.1.1)||(A1<|2400<(x.2.2.1.size:Int)) then I (.inr<|.inl (x.1,A3,())) else(Pq (a,())).bind λb=>if A1 (x.2.2.1.size+b.1.1.size<=4611686018427387904) then I (.inl (x.1,x.2.1,(x.2.2.1++b.1.1),x.2.2.2.1,x.2.2.2.2.1,(w64<|x.2.2.2.2.2.1+1),())) else U else U else I (.inr<|.inr (x.1,x.2.1,x.2.2.1,()))
def RN:=AR RP
def sU:Loop:=⟨[(2,Z21),(4,Z21),(6,.str),(13,.sl .str),(14,.int .i64),(15,.int .i64)],[(2,Z21),(4,Z21),(6,.str)],0,[(4,Z21),(5,.bool)],RN⟩
def ah2:LF Tryz.f122 [] [1,1,1,0,1,0,0] sU:=sq (v:= .nil) vX (b:=RP) kN
def RY(x:Y7×List A4×A2):Option ((Y7×Bool×A2)×A2):=(O4 (x.1,())).bind λb=>if !b.1.1 then I (((noB,0,()),A3,()),()) else(AM (RN (x.1,(noB,0,()),noB,x.2.1,(x.2.1.length:Int),0,())) (λa=>I (a,())) λa=>(if A1 (2400<(a.2.2.1.size:Int)) then I ((a.1,A3,()),()) else I (((a.2.2.1,(a.2.2.1.size:Int),()),A0,()),())))
def rO:Ent:=(122,U,⟨[Z15,.fz .str],[Z15,.bool],RY⟩)
def adN:SQ Tryz.prog rO:=sk (v:=t1<|t1<|t1<|.two (t1<|.one<|.loop sU) .nil) (fn:=Tryz.f122) vX<|kC ah2 kN
def aiA:Cx:=cX [Rp] [] []
def aj1:OKC Tryz.prog aiA AF:=okc mixed<|gC US<|AJ
def Pa(x:A4×Int×Int×Int×A2):Option ((A4×A2)×A2):=if A1 (x.1.size+(B [32]).size<=4611686018427387904) then(Is (x.2.1,())).bind λa=>if A1 ((x.1++(B [32])).size+a.1.1.size<=4611686018427387904) then if A1 (((x.1++(B [32]))++a.1.1).size+(B [32]).size<=4611686018427387904) then(Is (x.2.2.1,())).bind λb=>if A1 ((((x.1++(B [32]))++a.1.1)++(B [32])).size+b.1.1.size<=4611686018427387904) then if A1 (((((x.1++(B [32]))++a.1.1)++(B [32]))++b.1.1).size+(B [32]).size<=4611686018427387904) then(Is x.2.2.2).bind λc=>if A1 ((((((x.1++(B [32]))++a.1.1)++(B [32]))++b.1.1)++(B [32])).size+c.1.1.size<=4611686018427387904) then let d:=((((((x.1++(B [32]))++a.1.1)++(B [32]))++b.1.1)++(B [32]))++c.1.1);I ((d,()),()) else U else U else U else U else U else U
def cj:Ent:=(116,U,⟨[.str,.int .i64,.int .i64,.int .i64],[.str],Pa⟩)
def ot:SQ Tryz.prog cj:=sk (v:= .nil) (fn:=Tryz.f116) aj1 kN
def ajI:Cx:=cX [bC,cj,V9,Rp,iH] [] []
def dP:OKC Tryz.prog ajI AF:=okc mixed<|gC oU<|gC ot<|gC ay<|gC US<|gC uJ<|AJ
def cd(x:List A4×List A6×Int×Int×A2):Rnd (List A4×List A6×Int×Int×A2) (A2) (List A4×A2):=if A1 (x.2.2.2.1<x.2.2.1) then if inb x.2.2.2.1 x.2.1.length then let oA:=(rd (dfl .note) x.2.1 x.2.2.2.1).fr;let a:=(rd (dfl .note) x.2.1 x.2.2.2.1).nu;let azS:=(rd (dfl .note) x.2.1 x.2.2.2.1).to;let b:=(rd (dfl .note) x.2.1 x.2.2.2.1).un;let azR:=(rd (dfl .note) x.2.1 x.2.2.2.1).tx;(Mb ((oA,a,azS,b,azR,()),())).bind λnq=>if A1 ((B [105,110,98,111,120,32]).size+nq.1.1.size<=4611686018427387904) then if Ac (x.1.length+([((B [105,110,98,111,120,32])++nq.1.1)]:List A4).length) then I (.inl ((x.1++([((B [105,110,98,111,120,32])++nq.1.1)]:List A4)),x.2.1,x.2.2.1,(w64<|x.2.2.2.1+1),())) else U else U else U else I (.inr<|.inr (x.1,()))
def al:=AR cd
def uG:Loop:=⟨[(3,.row 9 .str),(66,.sl .note),(67,.int .i64),(68,.int .i64)],[(3,.row 9 .str)],4,[],al⟩
def aia:LF Tryz.f123 [] [1,1,1,1,1,1,1,0,1,0,0] uG:=sq (v:= .nil) dP (b:=cd) kN
def cf(x:Y3×List A4×List A6×Int×Int×A2):Rnd (Y3×List A4×List A6×Int×Int×A2) (A2) (Y3×List A4×A2):=if A1 (x.2.2.2.2.1<x.2.2.2.1) then if inb x.2.2.2.2.1 x.2.2.1.length then let b:=(rd (dfl .note) x.2.2.1 x.2.2.2.2.1).fr;let c:=(rd (dfl .note) x.2.2.1 x.2.2.2.2.1).nu;let d:=(rd (dfl .note) x.2.2.1 x.2.2.2.2.1).to;let e:=(rd (dfl .note) x.2.2.1 x.2.2.2.2.1).un;let f:=(rd (dfl .note) x.2.2.1 x.2.2.2.2.1).tx;(Mb ((b,c,d,e,f,()),())).bind λa=>if A1 ((B [104,101,108,100,32]).size+a.1.1.size<=4611686018427387904) then if Ac (x.2.1.length+([((B [104,101,108,100,32])++a.1.1)]:List A4).length) then I (.inl (x.1,(x.2.1++([((B [104,101,108,100,32])++a.1.1)]:List A4)),x.2.2.1,x.2.2.2.1,(w64<|x.2.2.2.2.1+1),())) else U else U else U else I (.inr<|.inr (x.1,x.2.1,()))
def an:=AR cf
def uH:Loop:=⟨[(1,Z7),(3,.row 9 .str),(52,.sl .note),(53,.int .i64),(54,.int .i64)],[(1,Z7),(3,.row 9 .str)],2,[],an⟩
def aie:LF Tryz.f123 [] [1,1,1,1,1,1,0,1,0,0] uH:=sq (v:= .nil) dP (b:=cf) kN
def cg(x:Y3×List A4×List Mark×Int×Int×A2):Rnd (Y3×List A4×List Mark×Int×Int×A2) (A2) (Y3×List A4×A2):=if A1 (x.2.2.2.2.1<x.2.2.2.1) then if inb x.2.2.2.2.1 x.2.2.1.length then let b:=(rd (dfl .mark) x.2.2.1 x.2.2.2.2.1).mf;let c:=(rd (dfl .mark) x.2.2.1 x.2.2.2.2.1).mn;let d:=(rd (dfl .mark) x.2.2.1 x.2.2.2.2.1).mu;(Pa ((B [109,97,114,107]),b,c,d,())).bind λa=>if Ac (x.2.1.length+([a.1.1]:List A4).length) then I (.inl (x.1,(x.2.1++([a.1.1]:List A4)),x.2.2.1,x.2.2.2.1,(w64<|x.2.2.2.2.1+1),())) else U else U else I (.inr<|.inr (x.1,x.2.1,()))
def ao:=AR cg
def uI:Loop:=⟨[(1,Z7),(3,.row 9 .str),(34,.sl .mark),(35,.int .i64),(36,.int .i64)],[(1,Z7),(3,.row 9 .str)],0,[],ao⟩
def aio:LF Tryz.f123 [] [1,1,1,1,1,0,1,0,0] uI:=sq (v:= .nil) dP (b:=cg) kN
def VW(x:Y3×A2):Option ((List A4×A2)×A2):=(Ps x).bind λg=>if !g.1.1 then I ((([]:List A4),()),()) else(BS (X:=Y3×List A4×A2) (λa=>(BS (X:=Y3×List A4×A2) (λb=>(AM (ao (b.1,b.2.1,b.1.2.2.2.2.1,(b.1.2.2.2.2.1.length:Int),0,())) (λ_=>U) λc=>(AM (an (c.1,c.2.1,c.1.2.2.2.1,(c.1.2.2.2.1.length:Int),0,())) (λ_=>U) λd=>(AM (al (d.2.1,d.1.2.2.2.2.2.1,(d.1.2.2.2.2.2.1.length:Int),0,())) (λ_=>U) λnt=>(RM nt).bind λnp=>I (np.1,())))))<|(if A1 (1<a.1.2.2.1) then(Is (a.1.2.2.1,())).bind λe=>if A1 ((B [110,101,120,116,32]).size+e.1.1.size<=4611686018427387904) then if Ac (a.2.1.length+([((B [110,101,120,116,32])++e.1.1)]:List A4).length) then I (.inr (a.1,(a.2.1++([((B [110,101,120,116,32])++e.1.1)]:List A4)),())) else U else U else I (.inr a))))<|(if A1 (0<x.1.2.1) then(Is (x.1.2.1,())).bind λf=>if A1 ((B [116,105,109,101,32]).size+f.1.1.size<=4611686018427387904) then if Ac ([((B [116,105,109,101,32])++f.1.1)]:List A4).length then I (.inr (x.1,([((B [116,105,109,101,32])++f.1.1)]:List A4),())) else U else U else I (.inr (x.1,([]:List A4),()))))
def rn:Ent:=(123,U,⟨[Z8],[.row 9 .str],VW⟩)
def adV:SQ Tryz.prog rn:=sk (v:=t1<|t1<|t1<|.join [(1,Z7),(3,.row 9 .str)] .nil<|.join [(1,Z7),(3,.row 9 .str)] .nil<|.two (t1<|.one<|.loop uI)<|.two (t1<|.one<|.loop uH)<|.two (t1<|.one<|.loop uG) .nil) (fn:=Tryz.f123) dP<|kC aio<|kC aie<|kC aia kN
def ajD:Cx:=cX [Rr,iR,iD] [] [(14,21)]
def alC:OKC Tryz.prog ajD AF:=okc mixed<|gC Ud<|gC vb<|gC tD<|AJ
def Rh(x:Y7×A4×A2):Option ((Y7×Bool×A2)×A2):=(O4 (x.1,())).bind λc=>if !c.1.1 then I (((noB,0,()),A3,()),()) else(fb x.2).bind λa=>if Ak (!(!a.1.1)) ((Pq x.2).isSome) then if(!a.1.1)||(A1<|2400<(w64<|(x.1.1.size:Int)+((((Pq x.2).getD ((noB,()),())).1.1).size:Int))) then I ((x.1,A3,()),()) else(Pq x.2).bind λb=>if A1 (x.1.1.size+b.1.1.size<=4611686018427387904) then I ((((x.1.1++b.1.1),x.1.2),A0,()),()) else U else U
def xS:Ent:=(154,U,⟨[Z15,.str],[Z15,.bool],Rh⟩)
def afH:SQ Tryz.prog xS:=sk (v:= .nil) (fn:=Tryz.f154) alC kN
def apc:Cx:=cX [Vl,iI,rO,rn,xS] [] []
def aqW:OKC Tryz.prog apc AF:=okc mixed<|gC bJ<|gC uK<|gC adN<|gC adV<|gC afH<|AJ
def OE(x:Y1×A4×A2):Option ((Y1×Bool×A2)×A2):=(JX (x.1.1,x.1.2.2.1,())).bind λb=>(S5 (b.1.1,x.2)).bind λe=>if !e.1.2.1 then I ((x.1,A3,()),()) else(Rh ((x.1.2.2.1,x.1.2.2.2.1,()),x.2)).bind λc=>(BS (X:=Y1×Y1×Y7×Bool×A2) (λa=>if !a.2.2.2.1 then I ((a.1,A3,()),()) else I (((a.1.1,a.1.2.1,a.2.2.1.1,a.2.2.1.2.1,a.1.2.2.2.2),A0,()),()))<|(if !c.1.2.1 then(VW (b.1.1,())).bind λf=>(RY ((x.1.2.2.1,x.1.2.2.2.1,()),f.1)).bind λd=>if !d.1.2.1 then I (.inl ((x.1,A3,()),())) else(Rh (d.1.1,x.2)).bind λg=>I (.inr (x.1,(0,A3,noB,0,([]:List AH),()),g.1)) else I (.inr (x.1,(0,A3,noB,0,([]:List AH),()),c.1))))
def We:Ent:=(115,U,⟨[Z12,.str],[Z12,.bool],OE⟩)
def s7:SQ Tryz.prog We:=sk (v:=t1<|t1<|t1<|t1<|.join [(2,Z19),(4,Z20),(10,Z21),(11,.bool)] .nil .nil) (fn:=Tryz.f115) aqW kN
def agm:Cx:=cX [Rr] [] []
def ai4:OKC Tryz.prog agm AF:=okc mixed<|gC Ud<|AJ
def c8(x:Y7×A2):Option ((Y7×A2)×A2):=(O4 x).bind λa=>if !a.1.1 then I (((noB,0,()),()),()) else I (((x.1.1,(x.1.1.size:Int),()),()),())
def uN:Ent:=(161,U,⟨[Z15],[Z15],c8⟩)
def aeD:SQ Tryz.prog uN:=sk (v:= .nil) (fn:=Tryz.f161) ai4 kN
def anT:Cx:=cX [uN] [] []
def aoW:OKC Tryz.prog anT AF:=okc mixed<|gC aeD<|AJ
def O9(x:Y1×A2):Option ((Y1×A2)×A2):=(c8 ((x.1.2.2.1,x.1.2.2.2.1,()),())).bind λa=>I (((x.1.1,x.1.2.1,a.1.1.1,a.1.1.2.1,x.1.2.2.2.2),()),())
def fQ:Ent:=(124,U,⟨[Z12],[Z12],O9⟩)
def qi:SQ Tryz.prog fQ:=sk (v:= .nil) (fn:=Tryz.f124) aoW kN
def amo:Cx:=cX [] [] []
def aoc:OKC Tryz.prog amo AF:=okc mixed<|AJ
def fL(x:Int×Y6×A2):Option ((List Frame×A2)×A2):=I ((([(Frame.mk x.1 x.2.1.2.2.1 x.2.1.2.1 x.2.1.2.2.2.1 x.2.1.2.2.2.2.1 x.2.1.2.2.2.2.2.1 x.2.1.2.2.2.2.2.2.1 0 0 noB)]:List Frame),()),())
def zm:Ent:=(150,U,⟨[.int .i64,Z13],[.row 106 .frame],fL⟩)
def ahl:SQ Tryz.prog zm:=sk (v:= .nil) (fn:=Tryz.f150) aoc kN
def ape:Cx:=cX [] [(28,28)] []
def aAX:OKC Tryz.prog ape AF:=okc mixed<|AJ
def fe(x:Y8×List AT×List AT×Int×Int×A2):Rnd (Y8×List AT×List AT×Int×Int×A2) (A2) (Y8×List AT×A2):=if A1 (x.2.2.2.2.1<x.2.2.2.1) then if inb x.2.2.2.2.1 x.2.2.1.length then let a:=(rd (dfl .mixed) x.2.2.1 x.2.2.2.2.1).nu;let b:=(rd (dfl .mixed) x.2.2.1 x.2.2.2.2.1).da;if !decide (a=x.1.1) then if Ac (x.2.1.length+([(AT.mk a b)]:List AT).length) then I (.inl (x.1,(x.2.1++([(AT.mk a b)]:List AT)),x.2.2.1,x.2.2.2.1,(w64<|x.2.2.2.2.1+1),())) else U else I (.inl (x.1,x.2.1,x.2.2.1,x.2.2.2.1,(w64<|x.2.2.2.2.1+1),())) else U else I (.inr<|.inr (x.1,x.2.1,()))
def dH:=AR fe
def yk:Loop:=⟨[(3,Z32),(5,.row 122 .mixed),(8,.sl .mixed),(9,.int .i64),(10,.int .i64)],[(3,Z32),(5,.row 122 .mixed)],0,[],dH⟩
def apC:LF Tryz.f152 [] [1,1,0,1,0,0] yk:=sq (v:= .nil) aAX (b:=fe) kN
def Wb(x:List AT×Y8×A2):Option ((List AT×A2)×A2):=(AM (dH (x.2.1,([]:List AT),x.1,(x.1.length:Int),0,())) (λ_=>U) λa=>(if A1 (14<=(a.2.1.length:Int)) then if A1 (0<=1)&&A1 (1<=(a.2.1.length:Int)) then if Ac ((Bm (AL 1) a.2.1).length+([(AT.mk a.1.1 a.1.2.1)]:List AT).length) then I ((((Bm (AL 1) a.2.1)++([(AT.mk a.1.1 a.1.2.1)]:List AT)),()),()) else U else U else if Ac (a.2.1.length+([(AT.mk a.1.1 a.1.2.1)]:List AT).length) then I (((a.2.1++([(AT.mk a.1.1 a.1.2.1)]:List AT)),()),()) else U))
def aAR:Ent:=(152,U,⟨[.fz .mixed,Z16],[.row 122 .mixed],Wb⟩)
def akM:SQ Tryz.prog aAR:=sk (v:=t1<|t1<|.two (t1<|.one<|.loop yk) .nil) (fn:=Tryz.f152) aAX<|kC apC kN
def aor:Cx:=cX [F3] [] [(8,9)]
def apk:OKC Tryz.prog aor AF:=okc mixed<|gC FK<|AJ
def W6(x:Int×Int×A2):Option ((Bool×A2)×A2):=(By (x.1,1,6,())).bind λa=>if Ak a.1.1 ((By (x.2.1,0,999,())).isSome) then let b:=(a.1.1&&(((By (x.2.1,0,999,())).getD ((A3,()),())).1.1));I ((b,()),()) else U
def iS:Ent:=(195,U,⟨[.int .i64,.int .i64],[.bool],W6⟩)
def ve:SQ Tryz.prog iS:=sk (v:= .nil) (fn:=Tryz.f195) apk kN
def ajE:Cx:=cX [F3] [] []
def alD:OKC Tryz.prog ajE AF:=okc mixed<|gC FK<|AJ
def Ph(x:Int×A2):Option ((Int×A2)×A2):=(By (x.1,0,65535,())).bind λa=>if !a.1.1 then I ((0,()),()) else let b:=(BG (w64<|(w64<|25173 * x.1)+13849) 65536);I ((b,()),())
def rm:Ent:=(196,U,⟨[.int .i64],[.int .i64],Ph⟩)
def ad7:SQ Tryz.prog rm:=sk (v:= .nil) (fn:=Tryz.f196) alD kN
def aiI:Cx:=cX [iS,rm] [] []
def rT:OKC Tryz.prog aiI AF:=okc mixed<|gC ve<|gC ad7<|AJ
def uC(x:Int×List Int×Int×Int×Int×A2):Rnd (Int×List Int×Int×Int×Int×A2) (Int×A2) (Int×A2):=if A1 (x.2.2.2.2.1<=x.1) then if inb x.2.2.2.2.1 x.2.1.length then let a:=(w64<|x.2.2.2.1+(rd (dfl .int) x.2.1 x.2.2.2.2.1));(if A1 (x.2.2.1<a) then I (.inr<|.inl x.2.2.2.2) else I (.inl (x.1,x.2.1,x.2.2.1,a,(w64<|x.2.2.2.2.1+1),()))) else U else I (.inr<|.inr (x.1,()))
def az:=AR uC
def sf:Loop:=⟨[(0,.int .i64),(5,.row 3 .int),(8,.int .i64),(9,.int .i64),(10,.int .i64)],[(0,.int .i64)],2,[(4,.int .i64)],az⟩
def ahD:LF Tryz.f197 [] [1,1,1,1,1,1,1,1,0,1,0,0] sf:=sq (v:= .nil) rT (b:=uC) kN
def uD(x:Int×Int×List Int×Int×Int×A2):Rnd (Int×Int×List Int×Int×Int×A2) (A2) (Int×Int×List Int×Int×A2):=if A1 (x.2.2.2.2.1<=x.1) then if !decide ((w64<|x.2.2.2.2.1 * (w64<|x.2.2.2.2.1 - 1))=0) then if Ac (x.2.2.1.length+([(w64<|Ax 60<|w64<|x.2.2.2.2.1 * (w64<|x.2.2.2.2.1 - 1))]:List Int).length) then if inb x.2.2.2.2.1 ((x.2.2.1++([(w64<|Ax 60<|w64<|x.2.2.2.2.1 * (w64<|x.2.2.2.2.1 - 1))]:List Int)).length) then let a:=(w64<|x.2.2.2.1+(rd (dfl .int) (x.2.2.1++([(w64<|Ax 60<|w64<|x.2.2.2.2.1 * (w64<|x.2.2.2.2.1 - 1))]:List Int)) x.2.2.2.2.1));I (.inl (x.1,x.2.1,(x.2.2.1++([(w64<|Ax 60<|w64<|x.2.2.2.2.1 * (w64<|x.2.2.2.2.1 - 1))]:List Int)),a,(w64<|x.2.2.2.2.1+1),())) else U else U else U else I (.inr<|.inr (x.1,x.2.1,x.2.2.1,x.2.2.2.1,()))
def bB:=AR uD
def sg:Loop:=⟨[(0,.int .i64),(1,.int .i64),(5,.row 3 .int),(6,.int .i64),(7,.int .i64)],[(0,.int .i64),(1,.int .i64),(5,.row 3 .int),(6,.int .i64)],0,[],bB⟩
def ahc:LF Tryz.f197 [] [1,1,1,1,1,0,1,0,0] sg:=sq (v:= .nil) rT (b:=uD) kN
def ca(x:Int×Int×A2):Option ((Int×A2)×A2):=(W6 x).bind λc=>if !c.1.1 then I ((0,()),()) else if A1 (x.2.1<x.1) then I ((1,()),()) else if !decide (x.1=0) then if inb 1 (([0,(w64<|(w64<|Ax 60 x.1)+10)]:List Int).length) then let d:=(rd (dfl .int) ([0,(w64<|(w64<|Ax 60 x.1)+10)]:List Int) 1);(AM (bB (x.1,x.2.1,([0,(w64<|(w64<|Ax 60 x.1)+10)]:List Int),d,2,())) (λ_=>U) (λa=>(Ph ((w64<|(w64<|31 * a.2.1)+a.1),())).bind λe=>(Ph e.1).bind λf=>if !decide (a.2.2.2.1=0) then let g:=(BG (w64<|Ax f.1.1 16) a.2.2.2.1);(AM (az (a.1,a.2.2.1,g,0,1,())) (λb=>I (b,())) λb=>I (b,())) else U)) else U else U
def vO:Ent:=(197,U,⟨[.int .i64,.int .i64],[.int .i64],ca⟩)
def aeH:SQ Tryz.prog vO:=sk (v:=t1<|t1<|t1<|t1<|t1<|.two (t1<|.one<|.loop sg)<|t1<|t1<|.two (t1<|.one<|.loop sf) .nil) (fn:=Tryz.f197) rT<|kC ahc<|kC ahD kN
def agl:Cx:=cX [] [] []
def ai3:OKC Tryz.prog agl AF:=okc mixed<|AJ
def qj(x:List Int×A2):Option ((List Int×A2)×A2):=if A1 ((x.1.length:Int)=0) then I ((([]:List Int),()),()) else if A1 (0<=(x.1.length:Int))&&A1 ((x.1.length:Int)<=4294967296) then I (((BH (BT (AL (x.1.length:Int))<|dfl .int).length x.1++Bm x.1.length (BT (AL (x.1.length:Int))<|dfl .int)),()),()) else U
def uM:Ent:=(198,U,⟨[.fz .int],[.row 3 .int],qj⟩)
def aeC:SQ Tryz.prog uM:=sk (v:= .nil) (fn:=Tryz.f198) ai3 kN
def aow:Cx:=cX [iS,rm,vO,uM] [] []
def fV:OKC Tryz.prog aow AF:=okc mixed<|gC ve<|gC ad7<|gC aeH<|gC aeC<|AJ
def Vz(x:Int×List Bool×Int×Int×Int×A2):Rnd (Int×List Bool×Int×Int×Int×A2) (A2) (Int×List Bool×Int×Int×Int×A2):=if inb x.2.2.2.2.1 x.2.1.length then if rd (dfl .bool) x.2.1 x.2.2.2.2.1 then if !decide (x.1=0) then let a:=(BG (w64<|x.2.2.2.2.1+1) x.1);I (.inl (x.1,x.2.1,x.2.2.1,x.2.2.2.1,a,())) else U else I (.inr<|.inr x) else U
def cZ:=AR Vz
def xc:Loop:=⟨[(0,.int .i64),(5,.abx 191 .bool),(6,.int .i64),(7,.int .i64),(8,.int .i64)],[(0,.int .i64),(5,.abx 191 .bool),(6,.int .i64),(7,.int .i64),(8,.int .i64)],2,[],cZ⟩
def anu:LF Tryz.f157 [] [1,1,1,1,1,0,1,0,0,1,0,0,1,1,0,0,0] xc:=sq (v:= .nil) fV (b:=Vz) kN
def gV(x:List Int×List Bool×Int×A2):Rnd (List Int×List Bool×Int×A2) (A2) (List Int×A2):=if A1 (x.2.2.1<6) then if inb x.2.2.1 x.2.1.length&&inb x.2.2.1 6 then let a:=(rd (dfl .bool) x.2.1 x.2.2.1);(if a then if Ac (x.1.length+([x.2.2.1]:List Int).length) then I (.inl ((x.1++([x.2.2.1]:List Int)),x.2.1,(w64<|x.2.2.1+1),())) else U else I (.inl (x.1,x.2.1,(w64<|x.2.2.1+1),()))) else U else I (.inr<|.inr (x.1,()))
def rG:=AR gV
def xb:Loop:=⟨[(9,.row 3 .int),(47,.arr .bool),(48,.int .i64)],[(9,.row 3 .int)],4,[],rG⟩
def ans:LF Tryz.f157 [] [1,1,1,1,1,1,1,0,1,0,0] xb:=sq (v:= .nil) fV (b:=gV) kN
def gW(x:Int×List Bool×Int×Int×A2):Rnd (Int×List Bool×Int×Int×A2) (A2) (List Bool×A2):=if A1 (0<x.2.2.2.1) then(Ph (x.2.2.1,())).bind λb=>if !decide (x.1=0) then let c:=(BG (w64<|Ax b.1.1 16) x.1);(AM (cZ (x.1,x.2.1,b.1.1,x.2.2.2.1,c,())) (λ_=>I<|.inr<|.inl ()) λa=>(if inb a.2.2.2.2.1 a.2.1.length then I (.inl (a.1,(Bn a.2.1 (AL a.2.2.2.2.1) A0),a.2.2.1,(w64<|a.2.2.2.1 - 1),())) else U)) else U else I (.inr<|.inr (x.2.1,()))
def rH:=AR gW
def xd:Loop:=⟨[(0,.int .i64),(5,.abx 191 .bool),(6,.int .i64),(7,.int .i64)],[(5,.abx 191 .bool)],0,[],rH⟩
def ao4:LF Tryz.f157 [] [1,1,1,1,1,0,1,0,0] xd:=sq (v:=t1<|.two (.one<|t1<|t1<|.two (.one<|.loop xc) .nil) .nil) fV (b:=gW)<|kC anu kN
def WB(x:Int×Int×A2):Option ((List Int×A2)×A2):=(W6 x).bind λa=>if !a.1.1 then I ((([]:List Int),()),()) else if A1 (x.2.1<x.1) then I ((([x.2.1]:List Int),()),()) else(Ph ((w64<|(w64<|7 * x.2.1)+1),())).bind λb=>(ca x).bind λc=>(AM (rH (x.1,(BT 6<|dfl .bool),b.1.1,c.1)) (λ_=>U) λd=>(AM (rG (([]:List Int),d.1,0,())) (λ_=>U) λe=>(qj e).bind λf=>I (f.1,())))
def ig:Ent:=(157,U,⟨[.int .i64,.int .i64],[.row 3 .int],WB⟩)
def vr:SQ Tryz.prog ig:=sk (v:=t1<|t1<|t1<|t1<|t1<|.two (t1<|.one<|.loop xd)<|t1<|.two (t1<|.one<|.loop xb) .nil) (fn:=Tryz.f157) fV<|kC ao4<|kC ans kN
def aon:Cx:=cX [] [] []
def aAI:OKC Tryz.prog aon AF:=okc mixed<|AJ
def yx(x:A4×List Int×Int×Int×A2):Rnd (A4×List Int×Int×Int×A2) (A2) (List Int×A2):=if A1 (x.2.2.2.1<x.2.2.1) then if inb x.2.2.2.1 x.2.1.length then if inb x.2.2.2.1 x.1.size then if inb x.2.2.2.1 x.2.1.length then let a:=(Dn .u8 (rd (dfl .u8) x.2.1 x.2.2.2.1)<|bt x.1 x.2.2.2.1);I (.inl (x.1,(Bn x.2.1 (AL x.2.2.2.1) a),x.2.2.1,(w64<|x.2.2.2.1+1),())) else U else U else U else I (.inr<|.inr (x.2.1,()))
def rb:=AR yx
def xh:Loop:=⟨[(1,.str),(5,.CV 5 .u8),(10,.int .i64),(11,.int .i64)],[(5,.CV 5 .u8)],0,[],rb⟩
def ao0:LF Tryz.f158 [] [1,1,0,1,0,0] xh:=sq (v:= .nil) aAI (b:=yx) kN
def WD(x:A4×A4×A2):Option ((A4×A2)×A2):=if Ac x.1.size then(AM (rb (x.2.1,(BE x.1),((BE x.1).length:Int),0,())) (λ_=>U) λa=>I (((BF a.1),()),())) else U
def iQ:Ent:=(158,U,⟨[.str,.str],[.str],WD⟩)
def va:SQ Tryz.prog iQ:=sk (v:=t1<|t1<|.two (t1<|.one<|.loop xh) .nil) (fn:=Tryz.f158) aAI<|kC ao0 kN
def ala:Cx:=cX [F3,ig,iQ] [] [(31,34)]
def eV:OKC Tryz.prog ala AF:=okc mixed<|gC FK<|gC vr<|gC va<|AJ
def VU(x:Int×List AT×List A4×Bool×A4×Int×Int×List AT×Int×Int×List Int×Int×Int×A2):Rnd (Int×List AT×List A4×Bool×A4×Int×Int×List AT×Int×Int×List Int×Int×Int×A2) (A2) (Int×List AT×List A4×Bool×A4×Int×Int×List AT×Int×Int×A2):=if A1 (x.2.2.2.2.2.2.2.2.2.2.2.2.1<x.2.2.2.2.2.2.2.2.2.2.2.1) then if inb x.2.2.2.2.2.2.2.2.2.2.2.2.1 x.2.2.2.2.2.2.2.2.2.2.1.length then let RD:=(rd (dfl .int) x.2.2.2.2.2.2.2.2.2.2.1 x.2.2.2.2.2.2.2.2.2.2.2.2.1);(if inb RD x.2.2.1.length then if A1 ((rd (dfl .str) x.2.2.1 RD)=noB) then let a:=(w64<|x.2.2.2.2.2.2.1+1);I (.inl (x.1,x.2.1,x.2.2.1,x.2.2.2.1,x.2.2.2.2.1,RD,a,x.2.2.2.2.2.2.2.1,x.2.2.2.2.2.2.2.2.1,x.2.2.2.2.2.2.2.2.2.1,x.2.2.2.2.2.2.2.2.2.2.1,x.2.2.2.2.2.2.2.2.2.2.2.1,(w64<|x.2.2.2.2.2.2.2.2.2.2.2.2.1+1),())) else if inb RD x.2.2.1.length then(WD (x.2.2.2.2.1,(rd (dfl .str) x.2.2.1 RD),())).bind λayo=>I (.inl (x.1,x.2.1,x.2.2.1,x.2.2.2.1,ayo.1.1,x.2.2.2.2.2.1,x.2.2.2.2.2.2.1,x.2.2.2.2.2.2.2.1,x.2.2.2.2.2.2.2.2.1,x.2.2.2.2.2.2.2.2.2.1,x.2.2.2.2.2.2.2.2.2.2.1,x.2.2.2.2.2.2.2.2.2.2.2.1,(w64<|x.2.2.2.2.2.2.2.2.2.2.2.2.1+1),())) else U else U) else U else I (.inr<|.inr (x.1,x.2.1,x.2.2.1,x.2.2.2.1,x.2.2.2.2.1,x.2.2.2.2.2.1,x.2.2.2.2.2.2.1,x.2.2.2.2.2.2.2.1,x.2.2.2.2.2.2.2.2.1,x.2.2.2.2.2.2.2.2.2.1,()))
def bP:=AR VU
def vn:Loop:=⟨[(0,.int .i64),(1,.sl .mixed),(5,.row 9 .str),(6,.bool),(9,.str),(10,.int .i64),(11,.int .i64),(20,.sl .mixed),(21,.int .i64),(22,.int .i64),(41,.row 3 .int),(42,.int .i64),(43,.int .i64)],[(0,.int .i64),(1,.sl .mixed),(5,.row 9 .str),(6,.bool),(9,.str),(10,.int .i64),(11,.int .i64),(20,.sl .mixed),(21,.int .i64),(22,.int .i64)],4,[],bP⟩
def ajq:LF Tryz.f193 [] [1,1,1,0,1,0,0,1,0,1,1,0,0,1,1,0,0,1,1,1,0,1,0,0] vn:=sq (v:= .nil) eV (b:=VU) kN
def Nz(x:Int×List AT×List A4×Bool×List AT×Int×Int×A2):Rnd (Int×List AT×List A4×Bool×List AT×Int×Int×A2) (A2) (Int×List AT×List A4×Bool×A2):=if A1 (x.2.2.2.2.2.2.1<x.2.2.2.2.2.1) then if inb x.2.2.2.2.2.2.1 x.2.2.2.2.1.length then let aby:=(rd (dfl .mixed) x.2.2.2.2.1 x.2.2.2.2.2.2.1).nu;let a:=(rd (dfl .mixed) x.2.2.2.2.1 x.2.2.2.2.2.2.1).da;(By (aby,0,999,())).bind λayp=>if(!ayp.1.1)||(!decide ((a.size:Int)=4)) then I (.inl (x.1,x.2.1,x.2.2.1,x.2.2.2.1,x.2.2.2.2.1,x.2.2.2.2.2.1,(w64<|x.2.2.2.2.2.2.1+1),())) else(WB (x.1,aby,())).bind λac1=>(AM (bP (x.1,x.2.1,x.2.2.1,x.2.2.2.1,a,(-1),0,x.2.2.2.2.1,x.2.2.2.2.2.1,x.2.2.2.2.2.2.1,ac1.1.1,(ac1.1.1.length:Int),0,())) (λ_=>I<|.inr<|.inl ()) λEu=>(if A1 (Eu.2.2.2.2.2.2.1=1) then if inb Eu.2.2.2.2.2.1 Eu.2.2.1.length then I (.inl (Eu.1,Eu.2.1,(Bn Eu.2.2.1 (AL Eu.2.2.2.2.2.1) Eu.2.2.2.2.1),A0,Eu.2.2.2.2.2.2.2.1,Eu.2.2.2.2.2.2.2.2.1,(w64<|Eu.2.2.2.2.2.2.2.2.2.1+1),())) else U else I (.inl (Eu.1,Eu.2.1,Eu.2.2.1,Eu.2.2.2.1,Eu.2.2.2.2.2.2.2.1,Eu.2.2.2.2.2.2.2.2.1,(w64<|Eu.2.2.2.2.2.2.2.2.2.1+1),())))) else U else I (.inr<|.inr (x.1,x.2.1,x.2.2.1,x.2.2.2.1,()))
def Uf:=AR Nz
def vo:Loop:=⟨[(0,.int .i64),(1,.sl .mixed),(5,.row 9 .str),(6,.bool),(20,.sl .mixed),(21,.int .i64),(22,.int .i64)],[(0,.int .i64),(1,.sl .mixed),(5,.row 9 .str),(6,.bool)],2,[],Uf⟩
def akk:LF Tryz.f193 [] [1,1,1,0,1,0,0,1,0,1,1,0,0] vo:=sq (v:=t1<|t1<|.two (.one<|t1<|t1<|t1<|.two (t1<|.one<|.loop vn) .nil) .nil) eV (b:=Nz)<|kC ajq kN
def sB(x:Int×List AT×List A4×Bool×A2):Rnd (Int×List AT×List A4×Bool×A2) (A2) (List A4×A2):=if x.2.2.2.1 then(AM (Uf (x.1,x.2.1,x.2.2.1,A3,x.2.1,(x.2.1.length:Int),0,())) (λ_=>I<|.inr<|.inl ()) λaD=>I<|.inl aD) else I (.inr<|.inr (x.2.2.1,()))
def qA:=AR sB
def vq:Loop:=⟨[(0,.int .i64),(1,.sl .mixed),(5,.row 9 .str),(6,.bool)],[(5,.row 9 .str)],0,[],qA⟩
def akJ:LF Tryz.f193 [] [1,1,1,0,1,0,0] vq:=sq (v:=t1<|.one<|t1<|t1<|.one<|.loop vo) eV (b:=sB)<|kC akk kN
def eO(x:Int×List AT×A2):Option ((List A4×A2)×A2):=(By (x.1,1,6,())).bind λa=>if !a.1.1 then I ((([]:List A4),()),()) else if A1 (0<=x.1)&&A1 (x.1<=4294967296) then(AM (qA (x.1,x.2.1,(BT (AL x.1)<|dfl .str),A0,())) (λ_=>U) λayK=>I (ayK,())) else U
def yf:Ent:=(193,U,⟨[.int .i64,.fz .mixed],[.row 9 .str],eO⟩)
def ag4:SQ Tryz.prog yf:=sk (v:=t1<|t1<|t1<|.two (t1<|.one<|.loop vq) .nil) (fn:=Tryz.f193) eV<|kC akJ kN
def alZ:Cx:=cX [F3,yf] [] []
def gO:OKC Tryz.prog alZ AF:=okc mixed<|gC FK<|gC ag4<|AJ
def dM(x:Int×A4×Int×A2):Rnd (Int×A4×Int×A2) (A4×Bool×A2) (Int×A4×A2):=if A1 (x.2.2.1<(x.2.1.size:Int)) then if inb x.2.2.1 x.2.1.size then if !decide ((bt x.2.1 x.2.2.1)=0) then I (.inr<|.inl (noB,A3,())) else I (.inl (x.1,x.2.1,(w64<|x.2.2.1+1),())) else U else I (.inr<|.inr (x.1,x.2.1,()))
def q9:=AR dM
def vl:Loop:=⟨[(0,.int .i64),(6,.str),(9,.int .i64)],[(0,.int .i64),(6,.str)],2,[(4,.str),(5,.bool)],q9⟩
def akj:LF Tryz.f153 [] [1,1,1,1,0,1,0,0] vl:=sq (v:= .nil) gO (b:=dM) kN
def VT(x:Int×A4×List A4×Int×Int×A2):Rnd (Int×A4×List A4×Int×Int×A2) (A4×Bool×A2) (Int×A4×A2):=if A1 (x.2.2.2.2.1<x.2.2.2.1) then if inb x.2.2.2.2.1 x.2.2.1.length then let a:=(rd (dfl .str) x.2.2.1 x.2.2.2.2.1);(if A1 (a=noB) then I (.inr<|.inl (noB,A3,())) else if A1 (x.2.1.size+a.size<=4611686018427387904) then I (.inl (x.1,(x.2.1++a),x.2.2.1,x.2.2.2.1,(w64<|x.2.2.2.2.1+1),())) else U) else U else I (.inr<|.inr (x.1,x.2.1,()))
def bO:=AR VT
def vm:Loop:=⟨[(0,.int .i64),(6,.str),(18,.row 9 .str),(19,.int .i64),(20,.int .i64)],[(0,.int .i64),(6,.str)],0,[(4,.str),(5,.bool)],bO⟩
def akI:LF Tryz.f153 [] [1,1,1,0,1,0,0] vm:=sq (v:= .nil) gO (b:=VT) kN
def eL(x:Int×List AT×A2):Option ((A4×Bool×A2)×A2):=(By (x.1,1,24,())).bind λd=>if !d.1.1 then I ((noB,A3,()),()) else(eO ((w64<|Ax (w64<|(w64<|x.1+4) - 1) 4),x.2)).bind λc=>(AM (bO (x.1,noB,c.1.1,(c.1.1.length:Int),0,())) (λb=>I (b,())) λb=>(AM (q9 (b.1,b.2.1,b.1,())) (λa=>I (a,())) λa=>(if A1 (0<=a.1)&&A1 (a.1<=(a.2.1.size:Int)) then let e:=(a.2.1.extract (0)<|AL a.1);I ((e,A0,()),()) else U)))
def ye:Ent:=(153,U,⟨[.int .i64,.fz .mixed],[.str,.bool],eL⟩)
def ag3:SQ Tryz.prog ye:=sk (v:=t1<|t1<|t1<|.two (t1<|.one<|.loop vm)<|.two (t1<|.one<|.loop vl) .nil) (fn:=Tryz.f153) gO<|kC akI<|kC akj kN
def aiB:Cx:=cX [Im,LQ,iG,We,V9,fQ,zm,W1,aAR,ye] [(85,85)] [(34,41)]
def aj2:OKC Tryz.prog aiB AF:=okc mixed<|gC JV<|gC MP<|gC tJ<|gC s7<|gC ay<|gC qi<|gC ahl<|gC bu<|gC akM<|gC ag3<|AJ
def V2(x:Y1×Y6×A2):Option ((Y1×List Frame×A2)×A2):=(H5 (x.1,())).bind λc=>let i:=(A1<|x.2.1.2.2.2.2.2.2.1<=c.1.1.2.1);(if i then(fL (3,x.2)).bind λj=>I ((x.1,j.1),()) else(Gg (c.1.1.2.2.2.1,x.2.1.2.2.2.1,x.2.1.2.2.2.2.1,())).bind λd=>if Ak (!(A1<|0<=d.1.1)) ((KM (c.1.1.2.2.2.2.1,x.2.1.2.2.2.1,x.2.1.2.2.2.2.1,())).isSome) then let k:=((A1<|0<=d.1.1)||(A1<|0<=((KM (c.1.1.2.2.2.2.1,x.2.1.2.2.2.1,x.2.1.2.2.2.2.1,())).getD ((0,()),())).1.1));(if k then(O9 (x.1,())).bind λl=>(fL (2,x.2)).bind λm=>I ((l.1.1,m.1),()) else let n:=(A1<|x.2.1.2.2.2.1=x.1.1);(if n then I ((x.1,([]:List Frame),()),()) else(S2 (x.1.2.2.2.2.1,x.2.1.2.2.2.1,x.2.1.2.2.2.2.1,())).bind λe=>(BS (X:=Y1×Y6×Y1×Int×A2) (λa=>if inb a.2.2.2.1 a.1.2.2.2.2.1.length then if !decide ((rd (dfl .half) a.1.2.2.2.2.1 a.2.2.2.1).to=a.2.1.2.2.2.2.2.1) then I ((a.1,([]:List Frame),()),()) else if !decide ((rd (dfl .half) a.1.2.2.2.2.1 a.2.2.2.1).un=a.2.1.2.2.2.2.2.2.1) then I ((a.1,([]:List Frame),()),()) else if !decide ((rd (dfl .half) a.1.2.2.2.2.1 a.2.2.2.1).sz=a.2.1.2.2.2.2.2.2.2.1) then I ((a.1,([]:List Frame),()),()) else(Wb ((rd (dfl .half) a.1.2.2.2.2.1 a.2.2.2.1).got,a.2.1.2.2.2.2.2.2.2.2,())).bind λb=>(eL ((rd (dfl .half) (Bn a.1.2.2.2.2.1 (AL a.2.2.2.1)<|AH.mk ((rd (dfl .half) a.1.2.2.2.2.1 a.2.2.2.1).fr) ((rd (dfl .half) a.1.2.2.2.2.1 a.2.2.2.1).nu) ((rd (dfl .half) a.1.2.2.2.2.1 a.2.2.2.1).to) ((rd (dfl .half) a.1.2.2.2.2.1 a.2.2.2.1).un) ((rd (dfl .half) a.1.2.2.2.2.1 a.2.2.2.1).sz) b.1.1) a.2.2.2.1).sz,(rd (dfl .half) (Bn a.1.2.2.2.2.1 (AL a.2.2.2.1)<|AH.mk ((rd (dfl .half) a.1.2.2.2.2.1 a.2.2.2.1).fr) ((rd (dfl .half) a.1.2.2.2.2.1 a.2.2.2.1).nu) ((rd (dfl .half) a.1.2.2.2.2.1 a.2.2.2.1).to) ((rd (dfl .half) a.1.2.2.2.2.1 a.2.2.2.1).un) ((rd (dfl .half) a.1.2.2.2.2.1 a.2.2.2.1).sz) b.1.1) a.2.2.2.1).got,())).bind λf=>if !f.1.2.1 then I (((a.1.1,a.1.2.1,a.1.2.2.1,a.1.2.2.2.1,(Bn a.1.2.2.2.2.1 (AL a.2.2.2.1)<|AH.mk ((rd (dfl .half) a.1.2.2.2.2.1 a.2.2.2.1).fr) ((rd (dfl .half) a.1.2.2.2.2.1 a.2.2.2.1).nu) ((rd (dfl .half) a.1.2.2.2.2.1 a.2.2.2.1).to) ((rd (dfl .half) a.1.2.2.2.2.1 a.2.2.2.1).un) ((rd (dfl .half) a.1.2.2.2.2.1 a.2.2.2.1).sz) b.1.1),()),([]:List Frame),()),()) else if A1 (0<=a.2.2.2.1)&&A1 (a.2.2.2.1<=((Bn a.1.2.2.2.2.1 (AL a.2.2.2.1)<|AH.mk ((rd (dfl .half) a.1.2.2.2.2.1 a.2.2.2.1).fr) ((rd (dfl .half) a.1.2.2.2.2.1 a.2.2.2.1).nu) ((rd (dfl .half) a.1.2.2.2.2.1 a.2.2.2.1).to) ((rd (dfl .half) a.1.2.2.2.2.1 a.2.2.2.1).un) ((rd (dfl .half) a.1.2.2.2.2.1 a.2.2.2.1).sz) b.1.1).length:Int)) then if Ac (([]:List AH).length+(BH (AL a.2.2.2.1)<|Bn a.1.2.2.2.2.1 (AL a.2.2.2.1)<|AH.mk ((rd (dfl .half) a.1.2.2.2.2.1 a.2.2.2.1).fr) ((rd (dfl .half) a.1.2.2.2.2.1 a.2.2.2.1).nu) ((rd (dfl .half) a.1.2.2.2.2.1 a.2.2.2.1).to) ((rd (dfl .half) a.1.2.2.2.2.1 a.2.2.2.1).un) ((rd (dfl .half) a.1.2.2.2.2.1 a.2.2.2.1).sz) b.1.1).length) then if A1 (0<=(w64<|a.2.2.2.1+1))&&A1 ((w64<|a.2.2.2.1+1)<=((Bn a.1.2.2.2.2.1 (AL a.2.2.2.1)<|AH.mk ((rd (dfl .half) a.1.2.2.2.2.1 a.2.2.2.1).fr) ((rd (dfl .half) a.1.2.2.2.2.1 a.2.2.2.1).nu) ((rd (dfl .half) a.1.2.2.2.2.1 a.2.2.2.1).to) ((rd (dfl .half) a.1.2.2.2.2.1 a.2.2.2.1).un) ((rd (dfl .half) a.1.2.2.2.2.1 a.2.2.2.1).sz) b.1.1).length:Int)) then if Ac ((([]:List AH)++(BH (AL a.2.2.2.1)<|Bn a.1.2.2.2.2.1 (AL a.2.2.2.1)<|AH.mk ((rd (dfl .half) a.1.2.2.2.2.1 a.2.2.2.1).fr) ((rd (dfl .half) a.1.2.2.2.2.1 a.2.2.2.1).nu) ((rd (dfl .half) a.1.2.2.2.2.1 a.2.2.2.1).to) ((rd (dfl .half) a.1.2.2.2.2.1 a.2.2.2.1).un) ((rd (dfl .half) a.1.2.2.2.2.1 a.2.2.2.1).sz) b.1.1)).length+(Bm (AL<|w64<|a.2.2.2.1+1)<|Bn a.1.2.2.2.2.1 (AL a.2.2.2.1)<|AH.mk ((rd (dfl .half) a.1.2.2.2.2.1 a.2.2.2.1).fr) ((rd (dfl .half) a.1.2.2.2.2.1 a.2.2.2.1).nu) ((rd (dfl .half) a.1.2.2.2.2.1 a.2.2.2.1).to) ((rd (dfl .half) a.1.2.2.2.2.1 a.2.2.2.1).un) ((rd (dfl .half) a.1.2.2.2.2.1 a.2.2.2.1).sz) b.1.1).length) then(Mb ((a.2.1.2.2.2.1,a.2.1.2.2.2.2.1,a.2.1.2.2.2.2.2.1,a.2.1.2.2.2.2.2.2.1,f.1.1,()),())).bind λg=>if A1 ((B [116,97,107,101,32]).size+g.1.1.size<=4611686018427387904) then(OE ((a.1.1,a.1.2.1,a.1.2.2.1,a.1.2.2.2.1,((([]:List AH)++(BH (AL a.2.2.2.1)<|Bn a.1.2.2.2.2.1 (AL a.2.2.2.1)<|AH.mk ((rd (dfl .half) a.1.2.2.2.2.1 a.2.2.2.1).fr) ((rd (dfl .half) a.1.2.2.2.2.1 a.2.2.2.1).nu) ((rd (dfl .half) a.1.2.2.2.2.1 a.2.2.2.1).to) ((rd (dfl .half) a.1.2.2.2.2.1 a.2.2.2.1).un) ((rd (dfl .half) a.1.2.2.2.2.1 a.2.2.2.1).sz) b.1.1))++(Bm (AL<|w64<|a.2.2.2.1+1)<|Bn a.1.2.2.2.2.1 (AL a.2.2.2.1)<|AH.mk ((rd (dfl .half) a.1.2.2.2.2.1 a.2.2.2.1).fr) ((rd (dfl .half) a.1.2.2.2.2.1 a.2.2.2.1).nu) ((rd (dfl .half) a.1.2.2.2.2.1 a.2.2.2.1).to) ((rd (dfl .half) a.1.2.2.2.2.1 a.2.2.2.1).un) ((rd (dfl .half) a.1.2.2.2.2.1 a.2.2.2.1).sz) b.1.1)),()),((B [116,97,107,101,32])++g.1.1),())).bind λh=>if !h.1.2.1 then let o:=((([]:List AH)++(BH (AL a.2.2.2.1)<|Bn a.1.2.2.2.2.1 (AL a.2.2.2.1)<|AH.mk ((rd (dfl .half) a.1.2.2.2.2.1 a.2.2.2.1).fr) ((rd (dfl .half) a.1.2.2.2.2.1 a.2.2.2.1).nu) ((rd (dfl .half) a.1.2.2.2.2.1 a.2.2.2.1).to) ((rd (dfl .half) a.1.2.2.2.2.1 a.2.2.2.1).un) ((rd (dfl .half) a.1.2.2.2.2.1 a.2.2.2.1).sz) b.1.1))++(Bm (AL<|w64<|a.2.2.2.1+1)<|Bn a.1.2.2.2.2.1 (AL a.2.2.2.1)<|AH.mk ((rd (dfl .half) a.1.2.2.2.2.1 a.2.2.2.1).fr) ((rd (dfl .half) a.1.2.2.2.2.1 a.2.2.2.1).nu) ((rd (dfl .half) a.1.2.2.2.2.1 a.2.2.2.1).to) ((rd (dfl .half) a.1.2.2.2.2.1 a.2.2.2.1).un) ((rd (dfl .half) a.1.2.2.2.2.1 a.2.2.2.1).sz) b.1.1));I (((a.1.1,a.1.2.1,a.1.2.2.1,a.1.2.2.2.1,o,()),([]:List Frame),()),()) else(O9 (h.1.1,())).bind λp=>(fL (2,a.2.1,())).bind λq=>I ((p.1.1,q.1),()) else U else U else U else U else U else U)<|(if A1 (e.1.1<0) then if Ac (x.1.2.2.2.2.1.length+([(AH.mk x.2.1.2.2.2.1 x.2.1.2.2.2.2.1 x.2.1.2.2.2.2.2.1 x.2.1.2.2.2.2.2.2.1 x.2.1.2.2.2.2.2.2.2.1 ([]:List AT))]:List AH).length) then if A1 (3<((x.1.2.2.2.2.1++([(AH.mk x.2.1.2.2.2.1 x.2.1.2.2.2.2.1 x.2.1.2.2.2.2.2.1 x.2.1.2.2.2.2.2.2.1 x.2.1.2.2.2.2.2.2.2.1 ([]:List AT))]:List AH)).length:Int)) then if A1 (0<=1)&&A1 (1<=((x.1.2.2.2.2.1++([(AH.mk x.2.1.2.2.2.1 x.2.1.2.2.2.2.1 x.2.1.2.2.2.2.2.1 x.2.1.2.2.2.2.2.2.1 x.2.1.2.2.2.2.2.2.2.1 ([]:List AT))]:List AH)).length:Int)) then let r:=(w64<|((Bm (AL 1)<|x.1.2.2.2.2.1++([(AH.mk x.2.1.2.2.2.1 x.2.1.2.2.2.2.1 x.2.1.2.2.2.2.2.1 x.2.1.2.2.2.2.2.2.1 x.2.1.2.2.2.2.2.2.2.1 ([]:List AT))]:List AH)).length:Int) - 1);I (.inr ((x.1.1,x.1.2.1,x.1.2.2.1,x.1.2.2.2.1,(Bm (AL 1)<|x.1.2.2.2.2.1++([(AH.mk x.2.1.2.2.2.1 x.2.1.2.2.2.2.1 x.2.1.2.2.2.2.2.1 x.2.1.2.2.2.2.2.2.1 x.2.1.2.2.2.2.2.2.2.1 ([]:List AT))]:List AH)),()),x.2.1,(0,A3,noB,0,([]:List AH),()),r,())) else U else let s:=(w64<|((x.1.2.2.2.2.1++([(AH.mk x.2.1.2.2.2.1 x.2.1.2.2.2.2.1 x.2.1.2.2.2.2.2.1 x.2.1.2.2.2.2.2.2.1 x.2.1.2.2.2.2.2.2.2.1 ([]:List AT))]:List AH)).length:Int) - 1);I (.inr ((x.1.1,x.1.2.1,x.1.2.2.1,x.1.2.2.2.1,(x.1.2.2.2.2.1++([(AH.mk x.2.1.2.2.2.1 x.2.1.2.2.2.2.1 x.2.1.2.2.2.2.2.1 x.2.1.2.2.2.2.2.2.1 x.2.1.2.2.2.2.2.2.2.1 ([]:List AT))]:List AH)),()),x.2.1,(0,A3,noB,0,([]:List AH),()),s,())) else U else I (.inr (x.1,x.2.1,(0,A3,noB,0,([]:List AH),()),e.1)))))) else U)
def vL:Ent:=(114,U,⟨[Z1,Z13],[Z12,.fz .frame],V2⟩)
def aeU:SQ Tryz.prog vL:=sk (v:=t1<|t1<|t1<|t1<|.join [(2,Z20),(3,Z14),(4,Z20),(7,.int .i64)] .nil .nil) (fn:=Tryz.f114) aj2 kN
def agr:Cx:=cX [Im,JY,LQ,LI,gI,vL,We,cj] [] [(70,77)]
def ai8:OKC Tryz.prog agr AF:=okc mixed<|gC JV<|gC KD<|gC MP<|gC MN<|gC sj<|gC aeU<|gC s7<|gC ot<|AJ
def RQ(x:Y1×Y6×A2):Option ((Y1×List Frame×A2)×A2):=(Hk (x.1,())).bind λf=>if !f.1.1 then I (((0,A3,noB,0,([]:List AH),()),([]:List Frame),()),()) else(He (x.1,())).bind λa=>if !x.1.2.1 then I ((a.1.1,([]:List Frame),()),()) else(Vh x.2).bind λg=>if !g.1.1 then I ((a.1.1,([]:List Frame),()),()) else if !decide (x.2.1.2.2.1=x.1.1) then I ((a.1.1,([]:List Frame),()),()) else if A1 (x.2.1.1=1) then(V2 (a.1.1,x.2)).bind λe=>(He (e.1.1,())).bind λh=>I ((h.1.1,e.1.2),()) else if A1 (x.2.1.1=2) then(H5 (x.1,())).bind λb=>(Gg (b.1.1.2.2.2.1,x.2.1.2.2.2.1,x.2.1.2.2.2.2.1,())).bind λc=>(BS (X:=Y6×Y1×Y1×Bool×A2) (λd=>if d.2.2.2.1 then(Pa ((B [108,101,116]),d.1.2.2.2.1,d.1.2.2.2.2.1,d.1.2.2.2.2.2.2.1,())).bind λi=>(OE (d.2.2.1,i.1)).bind λj=>I ((j.1.1,([]:List Frame),()),()) else I ((d.2.2.1,([]:List Frame),()),()))<|(if A1 (0<=c.1.1) then if inb c.1.1 b.1.1.2.2.2.1.length then if Ak (A1<|(rd (dfl .note) b.1.1.2.2.2.1 c.1.1).to=x.2.1.2.2.2.2.2.1) (inb c.1.1 b.1.1.2.2.2.1.length) then I (.inr (x.2.1,(0,A3,noB,0,([]:List AH),()),a.1.1,((A1<|(rd (dfl .note) b.1.1.2.2.2.1 c.1.1).to=x.2.1.2.2.2.2.2.1)&&(A1<|(rd (dfl .note) b.1.1.2.2.2.1 c.1.1).un=x.2.1.2.2.2.2.2.2.1)),())) else U else U else if Ak A3 (inb c.1.1 b.1.1.2.2.2.1.length) then I (.inr (x.2.1,(0,A3,noB,0,([]:List AH),()),a.1.1,A3,())) else U)) else I ((a.1.1,([]:List Frame),()),())
def uS:Ent:=(77,U,⟨[Z12,Z13],[Z12,.fz .frame],RQ⟩)
def adz:SQ Tryz.prog uS:=sk (v:=t1<|t1<|t1<|t1<|.two (t1<|.one<|t1<|t1<|t1<|.two (t1<|t1<|.join [(3,Z14),(4,Z20),(6,Z20),(78,.bool)] .nil .nil) .nil) .nil) (fn:=Tryz.f77) ai8 kN
def apb:Cx:=cX [rP] [] []
def aAV:OKC Tryz.prog apb AF:=okc mixed<|gC adO<|AJ
def fa(x:Y2×List Frame×Int×Int×A2):Rnd (Y2×List Frame×Int×Int×A2) (A2) (Y2×A2):=if A1 (x.2.2.2.1<x.2.2.1) then if inb x.2.2.2.1 x.2.1.length then let d:=(rd (dfl .frame) x.2.1 x.2.2.2.1).ki;let a:=(rd (dfl .frame) x.2.1 x.2.2.2.1).src;let b:=(rd (dfl .frame) x.2.1 x.2.2.2.1).dst;let e:=(rd (dfl .frame) x.2.1 x.2.2.2.1).fr;let f:=(rd (dfl .frame) x.2.1 x.2.2.2.1).nu;let g:=(rd (dfl .frame) x.2.1 x.2.2.2.1).to;let h:=(rd (dfl .frame) x.2.1 x.2.2.2.1).un;let i:=(rd (dfl .frame) x.2.1 x.2.2.2.1).sz;let j:=(rd (dfl .frame) x.2.1 x.2.2.2.1).mix;let k:=(rd (dfl .frame) x.2.1 x.2.2.2.1).da;if A1 ((x.1.2.2.2.1.length:Int)<30) then(Pc ((d,a,b,e,f,g,h,i,j,k,()),())).bind λc=>if Ac (x.1.2.2.2.1.length+([(AS.mk a b (BF c.1.1) A3)]:List AS).length) then I (.inl ((x.1.1,x.1.2.1,x.1.2.2.1,(x.1.2.2.2.1++([(AS.mk a b (BF c.1.1) A3)]:List AS)),x.1.2.2.2.2),x.2.1,x.2.2.1,(w64<|x.2.2.2.1+1),())) else U else I (.inl (x.1,x.2.1,x.2.2.1,(w64<|x.2.2.2.1+1),())) else U else I (.inr<|.inr (x.1,()))
def dD:=AR fa
def yh:Loop:=⟨[(0,Z2),(6,.sl .frame),(7,.int .i64),(8,.int .i64)],[(0,Z2)],0,[],dD⟩
def apA:LF Tryz.f78 [0] [1,0,0] yh:=sq (v:= .nil) aAV (b:=fa) kN
def OD(x:Y2×List Frame×A2):Option ((A2)×(Y2×A2)):=(AM (dD (x.1,x.2.1,(x.2.1.length:Int),0,())) (λ_=>U) λa=>I ((),a))
def jE:Ent:=(78,U,⟨[Z2,.fz .frame],[],OD⟩)
def wO:SQ Tryz.prog jE:=sk (v:=t1<|.one<|.loop yh) (fn:=Tryz.f78) aAV<|kC apA kN
def ajC:Cx:=cX [F3,vK,tq,uS,jE] [] [(137,141)]
def alB:OKC Tryz.prog ajC AF:=okc mixed<|gC FK<|gC aeT<|gC adt<|gC adz<|gC wO<|AJ
def Rg(x:Y2×Y6×A2):Option ((Bool×A2)×(Y2×A2)):=(By (x.2.1.2.2.2.2.1,0,(w64<|(x.1.2.2.2.1.length:Int) - 1),())).bind λj=>if !j.1.1 then I ((A3,()),(x.1,())) else if inb x.2.1.2.2.2.2.1 x.1.2.2.2.1.length then let d:=(rd (dfl .An) x.1.2.2.2.1 x.2.1.2.2.2.2.1).src;let e:=(rd (dfl .An) x.1.2.2.2.1 x.2.1.2.2.2.2.1).dst;let b:=(rd (dfl .An) x.1.2.2.2.1 x.2.1.2.2.2.2.1).data;let i:=(rd (dfl .An) x.1.2.2.2.1 x.2.1.2.2.2.2.1).sp;if A1 (x.2.1.1=5) then(V1 (x.1.2.2.2.1,x.2.1.2.2.2.2.1,())).bind λk=>I ((A0,()),((x.1.1,x.1.2.1,x.1.2.2.1,k.1.1,x.1.2.2.2.2),())) else if A1 (x.2.1.1=6) then(By (x.2.1.2.2.2.2.2.1,0,(w64<|(b.size:Int) - 1),())).bind λl=>if !l.1.1 then I ((A3,()),(x.1,())) else if i then I ((A3,()),(x.1,())) else(By (x.2.1.2.2.2.2.2.2.1,1,255,())).bind λm=>if !m.1.1 then I ((A3,()),(x.1,())) else if Ac b.size then if inb x.2.1.2.2.2.2.2.1 ((BE b).length) then if inb x.2.1.2.2.2.2.2.1 ((BE b).length) then let n:=(Dn .u8 (rd (dfl .u8) (BE b) x.2.1.2.2.2.2.2.1)<|w8 x.2.1.2.2.2.2.2.2.1);(if inb x.2.1.2.2.2.2.1 x.1.2.2.2.1.length then let g:=(BF<|Bn (BE b) (AL x.2.1.2.2.2.2.2.1) n);(if inb x.2.1.2.2.2.2.1 ((Bn x.1.2.2.2.1 (AL x.2.1.2.2.2.2.1)<|AS.mk ((rd (dfl .An) x.1.2.2.2.1 x.2.1.2.2.2.2.1).src) ((rd (dfl .An) x.1.2.2.2.1 x.2.1.2.2.2.2.1).dst) g<|(rd (dfl .An) x.1.2.2.2.1 x.2.1.2.2.2.2.1).sp).length) then I ((A0,()),((x.1.1,x.1.2.1,x.1.2.2.1,(Bn (Bn x.1.2.2.2.1 (AL x.2.1.2.2.2.2.1)<|AS.mk ((rd (dfl .An) x.1.2.2.2.1 x.2.1.2.2.2.2.1).src) ((rd (dfl .An) x.1.2.2.2.1 x.2.1.2.2.2.2.1).dst) g<|(rd (dfl .An) x.1.2.2.2.1 x.2.1.2.2.2.2.1).sp) (AL x.2.1.2.2.2.2.1)<|AS.mk ((rd (dfl .An) (Bn x.1.2.2.2.1 (AL x.2.1.2.2.2.2.1)<|AS.mk ((rd (dfl .An) x.1.2.2.2.1 x.2.1.2.2.2.2.1).src) ((rd (dfl .An) x.1.2.2.2.1 x.2.1.2.2.2.2.1).dst) g<|(rd (dfl .An) x.1.2.2.2.1 x.2.1.2.2.2.2.1).sp) x.2.1.2.2.2.2.1).src) ((rd (dfl .An) (Bn x.1.2.2.2.1 (AL x.2.1.2.2.2.2.1)<|AS.mk ((rd (dfl .An) x.1.2.2.2.1 x.2.1.2.2.2.2.1).src) ((rd (dfl .An) x.1.2.2.2.1 x.2.1.2.2.2.2.1).dst) g<|(rd (dfl .An) x.1.2.2.2.1 x.2.1.2.2.2.2.1).sp) x.2.1.2.2.2.2.1).dst) ((rd (dfl .An) (Bn x.1.2.2.2.1 (AL x.2.1.2.2.2.2.1)<|AS.mk ((rd (dfl .An) x.1.2.2.2.1 x.2.1.2.2.2.2.1).src) ((rd (dfl .An) x.1.2.2.2.1 x.2.1.2.2.2.2.1).dst) g<|(rd (dfl .An) x.1.2.2.2.1 x.2.1.2.2.2.2.1).sp) x.2.1.2.2.2.2.1).data) A0),x.1.2.2.2.2),())) else U) else U) else U else U else U else if A1 (x.2.1.1=4) then if inb (if e<d then e else d) x.1.2.2.1.length then if !(rd (dfl .bool) x.1.2.2.1<|if e<d then e else d) then I ((A3,()),(x.1,())) else(BS (X:=Y2×Y12×A2) (λc=>if Ac c.2.1.2.2.1.size then(bQ ((BE c.2.1.2.2.1),())).bind λh=>(BS (X:=Y2×Y12×Y6×Bool×A2) (λa=>if a.2.2.2.1 then if inb a.2.1.2.1 a.1.2.1.length then(RQ (((rd (dfl .AQ) a.1.2.1 a.2.1.2.1).id,(rd (dfl .AQ) a.1.2.1 a.2.1.2.1).up,(rd (dfl .AQ) a.1.2.1 a.2.1.2.1).log,(rd (dfl .AQ) a.1.2.1 a.2.1.2.1).fo,(rd (dfl .AQ) a.1.2.1 a.2.1.2.1).AN,()),a.2.2.1,())).bind λf=>if inb a.2.1.2.1 a.1.2.1.length then(OD ((a.1.1,(Bn a.1.2.1 (AL a.2.1.2.1)<|AA.mk f.1.1.1 f.1.1.2.1 f.1.1.2.2.1 f.1.1.2.2.2.1 f.1.1.2.2.2.2.1),a.1.2.2),f.1.2)).bind λo=>I ((A0,()),o.2) else U else U else I ((A0,()),(a.1,())))<|(if h.1.2.1 then I (.inr (c.1,c.2.1,h.1.1,((A1<|h.1.1.2.1=c.2.1.1)&&(A1<|h.1.1.2.2.1=c.2.1.2.1)),())) else I (.inr (c.1,c.2.1,h.1.1,A3,())))) else U)<|(if A1 (x.2.1.2.2.2.2.2.2.1=0) then(V1 (x.1.2.2.2.1,x.2.1.2.2.2.2.1,())).bind λp=>I (.inr ((x.1.1,x.1.2.1,x.1.2.2.1,p.1.1,x.1.2.2.2.2),(d,e,b,i,()),())) else I (.inr (x.1,(d,e,b,i,()),())))) else U else I ((A0,()),(x.1,())) else U
def xR:Ent:=(45,U,⟨[Z2,Z13],[.bool],Rg⟩)
def afG:SQ Tryz.prog xR:=sk (v:=t1<|t1<|t1<|.two (t1<|.one<|t1<|t1<|t1<|t1<|t1<|.two (t1<|.join [(0,Z2),(5,Z33)] .nil<|t1<|.join [(0,Z2),(5,Z33),(7,Z14),(142,.bool)] .nil .nil) .nil) .nil) (fn:=Tryz.f45) alB kN
def alT:Cx:=cX [LI,We,fQ] [] []
def an7:OKC Tryz.prog alT AF:=okc mixed<|gC MN<|gC s7<|gC qi<|AJ
def O3(x:Y1×A4×A2):Option ((Y1×Bool×A2)×A2):=(OE x).bind λa=>if !a.1.2.1 then(He (x.1,())).bind λb=>I ((b.1.1,A3,()),()) else(O9 (a.1.1,())).bind λc=>(He c.1).bind λd=>I ((d.1.1,A0,()),())
def ee:Ent:=(117,U,⟨[Z12,.str],[Z1,.bool],O3⟩)
def px:SQ Tryz.prog ee:=sk (v:= .nil) (fn:=Tryz.f117) an7 kN
def aiJ:Cx:=cX [Im,JY,LI,ee,V9] [] []
def ajy:OKC Tryz.prog aiJ AF:=okc mixed<|gC JV<|gC KD<|gC MN<|gC px<|gC ay<|AJ
def V4(x:Y1×Int×Int×A4×A2):Option ((Y1×Int×A2)×A2):=(Hk (x.1,())).bind λd=>if !d.1.1 then I (((0,A3,noB,0,([]:List AH),()),0,()),()) else if !x.1.2.1 then(He (x.1,())).bind λe=>I ((e.1.1,0,()),()) else(H5 (x.1,())).bind λb=>(Mb ((x.1.1,b.1.1.2.2.1,x.2),())).bind λc=>if A1 ((B [111,119,110,32]).size+c.1.1.size<=4611686018427387904) then(O3 (x.1,((B [111,119,110,32])++c.1.1),())).bind λa=>if !a.1.2.1 then I ((a.1.1,0,()),()) else I ((a.1.1,b.1.1.2.2.1,()),()) else U
def vP:Ent:=(79,U,⟨[Z12,.int .i64,.int .i64,.str],[Z1,.int .i64],V4⟩)
def aeI:SQ Tryz.prog vP:=sk (v:= .nil) (fn:=Tryz.f79) ajy kN
def ago:Cx:=cX [Im,JY,LI,ee,Rp] [] []
def ai5:OKC Tryz.prog ago AF:=okc mixed<|gC JV<|gC KD<|gC MN<|gC px<|gC US<|AJ
def Uv(x:Y1×A2):Option ((Y1×Bool×A2)×A2):=(Hk x).bind λb=>if !b.1.1 then I (((0,A3,noB,0,([]:List AH),()),A3,()),()) else if !x.1.2.1 then(He x).bind λc=>I ((c.1.1,A3,()),()) else(H5 x).bind λd=>(Is ((w64<|d.1.1.2.1+1),())).bind λa=>if A1 ((B [116,105,109,101,32]).size+a.1.1.size<=4611686018427387904) then(O3 (x.1,((B [116,105,109,101,32])++a.1.1),())).bind λe=>I (e.1,()) else U
def uP:Ent:=(80,U,⟨[Z12],[Z1,.bool],Uv⟩)
def aeF:SQ Tryz.prog uP:=sk (v:= .nil) (fn:=Tryz.f80) ai5 kN
def amr:Cx:=cX [F3,bC] [] []
def zJ:OKC Tryz.prog amr AF:=okc mixed<|gC FK<|gC oU<|AJ
def eA(x:A4×List A4×Int×A2):Rnd (A4×List A4×Int×A2) (A2) (List A4×A2):=if A1 (x.2.2.1<(x.1.size:Int)) then if A1 (0<=4)&&A1 (4<=4294967296) then if A1 (0<=x.2.2.1)&&A1 (x.2.2.1<=(x.1.size:Int)) then if Ac (x.2.1.length+([(BF<|BH (BT (AL 4)<|dfl .u8).length (BE<|x.1.extract (AL x.2.2.1)<|x.1.size)++Bm (BE<|x.1.extract (AL x.2.2.1)<|x.1.size).length (BT (AL 4)<|dfl .u8))]:List A4).length) then I (.inl (x.1,(x.2.1++([(BF<|BH (BT (AL 4)<|dfl .u8).length (BE<|x.1.extract (AL x.2.2.1)<|x.1.size)++Bm (BE<|x.1.extract (AL x.2.2.1)<|x.1.size).length (BT (AL 4)<|dfl .u8))]:List A4)),(w64<|x.2.2.1+4),())) else U else U else U else I (.inr<|.inr (x.2.1,()))
def qk:=AR eA
def wZ:Loop:=⟨[(0,.str),(3,.row 9 .str),(4,.int .i64)],[(3,.row 9 .str)],0,[],qk⟩
def amY:LF Tryz.f156 [] [1,1,1,0,1,0,0] wZ:=sq (v:= .nil) zJ (b:=eA) kN
def fN(x:A4×A2):Option ((List A4×A2)×A2):=(By ((x.1.size:Int),1,24,())).bind λa=>if !a.1.1 then I ((([]:List A4),()),()) else(AM (qk (x.1,([]:List A4),0,())) (λ_=>U) λb=>(RM b).bind λc=>I (c.1,()))
def zp:Ent:=(156,U,⟨[.str],[.row 9 .str],fN⟩)
def ahp:SQ Tryz.prog zp:=sk (v:=t1<|t1<|t1<|.two (t1<|.one<|.loop wZ) .nil) (fn:=Tryz.f156) zJ<|kC amY kN
def alb:Cx:=cX [zp,ig,iQ] [] []
def xy:OKC Tryz.prog alb AF:=okc mixed<|gC ahp<|gC vr<|gC va<|AJ
def VV(x:List A4×A4×List Int×Int×Int×A2):Rnd (List A4×A4×List Int×Int×Int×A2) (A2) (A4×A2):=if A1 (x.2.2.2.2.1<x.2.2.2.1) then if inb x.2.2.2.2.1 x.2.2.1.length then let a:=(rd (dfl .int) x.2.2.1 x.2.2.2.2.1);(if A1 (x.2.2.2.2.1=0) then if inb a x.1.length then I (.inl (x.1,(rd (dfl .str) x.1 a),x.2.2.1,x.2.2.2.1,(w64<|x.2.2.2.2.1+1),())) else U else if inb a x.1.length then(WD (x.2.1,(rd (dfl .str) x.1 a),())).bind λb=>I (.inl (x.1,b.1.1,x.2.2.1,x.2.2.2.1,(w64<|x.2.2.2.2.1+1),())) else U) else U else I (.inr<|.inr (x.2.1,()))
def Ug:=AR VV
def vt:Loop:=⟨[(5,.row 9 .str),(6,.str),(14,.row 3 .int),(15,.int .i64),(16,.int .i64)],[(6,.str)],0,[],Ug⟩
def akK:LF Tryz.f120 [] [1,1,1,0,1,0,0] vt:=sq (v:= .nil) xy (b:=VV) kN
def eP(x:A4×Int×A2):Option ((A4×A2)×A2):=(fN (x.1,())).bind λa=>(WB ((a.1.1.length:Int),x.2)).bind λb=>(AM (Ug (a.1.1,noB,b.1.1,(b.1.1.length:Int),0,())) (λ_=>U) λc=>I (c,()))
def xz:Ent:=(120,U,⟨[.str,.int .i64],[.str],eP⟩)
def ag5:SQ Tryz.prog xz:=sk (v:=t1<|t1<|t1<|.two (t1<|.one<|.loop vt) .nil) (fn:=Tryz.f120) xy<|kC akK kN
def aiK:Cx:=cX [Im,JY,LQ,F3,dN,xz] [] []
def ajz:OKC Tryz.prog aiK AF:=okc mixed<|gC JV<|gC KD<|gC MP<|gC FK<|gC pX<|gC ag5<|AJ
def V5(x:Y1×Int×Int×Int×A2):Option ((Y6×Bool×A2)×A2):=(Hk (x.1,())).bind λe=>if !e.1.1 then I (((0,0,0,0,0,0,0,0,0,noB,()),A3,()),()) else if !x.1.2.1 then I (((0,0,0,0,0,0,0,0,0,noB,()),A3,()),()) else(By (x.2.2.2.1,0,999,())).bind λf=>if !f.1.1 then I (((0,0,0,0,0,0,0,0,0,noB,()),A3,()),()) else(H5 (x.1,())).bind λa=>(Gg (a.1.1.2.2.2.1,x.2.1,x.2.2.1,())).bind λb=>if A1 (b.1.1<0) then I (((0,0,0,0,0,0,0,0,0,noB,()),A3,()),()) else if inb b.1.1 a.1.1.2.2.2.1.length then let g:=(rd (dfl .note) a.1.1.2.2.2.1 b.1.1).fr;let h:=(rd (dfl .note) a.1.1.2.2.2.1 b.1.1).nu;let c:=(rd (dfl .note) a.1.1.2.2.2.1 b.1.1).to;let i:=(rd (dfl .note) a.1.1.2.2.2.1 b.1.1).un;let d:=(rd (dfl .note) a.1.1.2.2.2.1 b.1.1).tx;(Ip (x.1.1,c,())).bind λj=>(eP (d,x.2.2.2)).bind λk=>I (((1,x.1.1,j.1.1,g,h,c,i,(d.size:Int),x.2.2.2.1,k.1),A0,()),()) else U
def vQ:Ent:=(81,U,⟨[Z12,.int .i64,.int .i64,.int .i64],[Z13,.bool],V5⟩)
def aeJ:SQ Tryz.prog vQ:=sk (v:= .nil) (fn:=Tryz.f81) ajz kN
def aiE:Cx:=cX [Rr,ck] [] []
def aj3:OKC Tryz.prog aiE AF:=okc mixed<|gC Ud<|gC p9<|AJ
def cY(x:Y7×Int×A2):Option ((Y7×A2)×A2):=(O4 (x.1,())).bind λc=>if !c.1.1 then I (((noB,0,()),()),()) else if A1 (0<=(w64<|x.1.2.1+(if 0<(if(w64<|(x.1.1.size:Int) - x.1.2.1)<x.2.1 then(w64<|(x.1.1.size:Int) - x.1.2.1) else x.2.1) then(if(w64<|(x.1.1.size:Int) - x.1.2.1)<x.2.1 then(w64<|(x.1.1.size:Int) - x.1.2.1) else x.2.1) else 0)))&&A1 ((w64<|x.1.2.1+(if 0<(if(w64<|(x.1.1.size:Int) - x.1.2.1)<x.2.1 then(w64<|(x.1.1.size:Int) - x.1.2.1) else x.2.1) then(if(w64<|(x.1.1.size:Int) - x.1.2.1)<x.2.1 then(w64<|(x.1.1.size:Int) - x.1.2.1) else x.2.1) else 0))<=(x.1.1.size:Int)) then let b:=(x.1.1.extract (0)<|AL<|w64<|x.1.2.1+(if 0<(if(w64<|(x.1.1.size:Int) - x.1.2.1)<x.2.1 then(w64<|(x.1.1.size:Int) - x.1.2.1) else x.2.1) then(if(w64<|(x.1.1.size:Int) - x.1.2.1)<x.2.1 then(w64<|(x.1.1.size:Int) - x.1.2.1) else x.2.1) else 0));(Pb (b,())).bind λa=>if A1 (0<=a.1.2.1)&&A1 (a.1.2.1<=(b.size:Int)) then let d:=(b.extract (0)<|AL a.1.2.1);I (((d,a.1.2),()),()) else U else U
def vM:Ent:=(121,U,⟨[Z15,.int .i64],[Z15],cY⟩)
def aeX:SQ Tryz.prog vM:=sk (v:= .nil) (fn:=Tryz.f121) aj3 kN
def ags:Cx:=cX [JY,vM] [] []
def ai9:OKC Tryz.prog ags AF:=okc mixed<|gC KD<|gC aeX<|AJ
def Uy(x:Y1×Int×A2):Option ((Y1×A2)×A2):=(Hk (x.1,())).bind λb=>if !b.1.1 then I (((0,A3,noB,0,([]:List AH),()),()),()) else(cY ((x.1.2.2.1,x.1.2.2.2.1,()),x.2)).bind λa=>I (((x.1.1,A3,a.1.1.1,a.1.1.2.1,([]:List AH),()),()),())
def uT:Ent:=(82,U,⟨[Z12,.int .i64],[Z1],Uy⟩)
def ae0:SQ Tryz.prog uT:=sk (v:= .nil) (fn:=Tryz.f82) ai9 kN
def agp:Cx:=cX [JY,LI] [] []
def ai6:OKC Tryz.prog agp AF:=okc mixed<|gC KD<|gC MN<|AJ
def Uw(x:Y1×A2):Option ((Y1×A2)×A2):=(Hk x).bind λb=>if !b.1.1 then I (((0,A3,noB,0,([]:List AH),()),()),()) else(He x).bind λa=>I (((a.1.1.1,A0,a.1.1.2.2),()),())
def uQ:Ent:=(83,U,⟨[Z12],[Z1],Uw⟩)
def aeG:SQ Tryz.prog uQ:=sk (v:= .nil) (fn:=Tryz.f83) ai6 kN
def aiM:Cx:=cX [Im,JY,LQ,LI,cj,ee] [] [(29,30)]
def ak1:OKC Tryz.prog aiM AF:=okc mixed<|gC JV<|gC KD<|gC MP<|gC MN<|gC ot<|gC px<|AJ
def V6(x:Y1×Int×Int×A2):Option ((Y1×Y4×Bool×A2)×A2):=(Hk (x.1,())).bind λd=>if !d.1.1 then I (((0,A3,noB,0,([]:List AH),()),(0,0,0,0,noB,()),A3,()),()) else(H5 (x.1,())).bind λa=>(Gg (a.1.1.2.2.2.2.2.1,x.2)).bind λb=>if(!x.1.2.1)||(A1<|b.1.1<0) then(He (x.1,())).bind λe=>I ((e.1.1,(0,0,0,0,noB,()),A3,()),()) else if inb b.1.1 a.1.1.2.2.2.2.2.1.length then(Pa ((B [101,97,116]),x.2.1,x.2.2.1,(rd (dfl .note) a.1.1.2.2.2.2.2.1 b.1.1).un,())).bind λf=>(O3 (x.1,f.1)).bind λc=>if !c.1.2.1 then I ((c.1.1,(0,0,0,0,noB,()),A3,()),()) else if inb b.1.1 a.1.1.2.2.2.2.2.1.length then let g:=(rd (dfl .note) a.1.1.2.2.2.2.2.1 b.1.1).fr;let h:=(rd (dfl .note) a.1.1.2.2.2.2.2.1 b.1.1).nu;let i:=(rd (dfl .note) a.1.1.2.2.2.2.2.1 b.1.1).to;let j:=(rd (dfl .note) a.1.1.2.2.2.2.2.1 b.1.1).un;let k:=(rd (dfl .note) a.1.1.2.2.2.2.2.1 b.1.1).tx;I ((c.1.1,(g,h,i,j,k,()),A0,()),()) else U else U
def vR:Ent:=(84,U,⟨[Z12,.int .i64,.int .i64],[Z1,Z6,.bool],V6⟩)
def aeK:SQ Tryz.prog vR:=sk (v:= .nil) (fn:=Tryz.f84) ak1 kN
def agq:Cx:=cX [Im,JY,LI,rO,rn] [] []
def ai7:OKC Tryz.prog agq AF:=okc mixed<|gC JV<|gC KD<|gC MN<|gC adN<|gC adV<|AJ
def Ux(x:Y1×A2):Option ((Y1×Bool×A2)×A2):=(Hk x).bind λc=>if !c.1.1 then I (((0,A3,noB,0,([]:List AH),()),A3,()),()) else(He x).bind λa=>if !x.1.2.1 then I ((a.1.1,A3,()),()) else(H5 x).bind λd=>(VW d.1).bind λe=>(RY ((x.1.2.2.1,x.1.2.2.2.1,()),e.1)).bind λb=>I (((a.1.1.1,a.1.1.2.1,b.1.1.1,b.1.1.2.1,a.1.1.2.2.2.2),b.1.2),())
def uR:Ent:=(85,U,⟨[Z12],[Z1,.bool],Ux⟩)
def ady:SQ Tryz.prog uR:=sk (v:= .nil) (fn:=Tryz.f85) ai7 kN
def af7:Cx:=cX [JY,LI,fQ] [] [(15,22)]
def agU:OKC Tryz.prog af7 AF:=okc mixed<|gC KD<|gC MN<|gC qi<|AJ
def Uh(x:Y1×A2):Option ((Y1×Bool×A2)×A2):=(Hk x).bind λb=>if !b.1.1 then I (((0,A3,noB,0,([]:List AH),()),A3,()),()) else(He x).bind λa=>if(!x.1.2.1)||(A1<|x.1.2.2.2.1=(x.1.2.2.1.size:Int)) then I ((a.1.1,A3,()),()) else(O9 a.1).bind λc=>I ((c.1.1,A0,()),())
def tp:Ent:=(86,U,⟨[Z12],[Z12,.bool],Uh⟩)
def ads:SQ Tryz.prog tp:=sk (v:= .nil) (fn:=Tryz.f86) agU kN
def anX:Cx:=cX [Ir,jE,vP,uP,vQ,uT,uQ,vR,uR,tp] [] []
def aoa:OKC Tryz.prog anX AF:=okc mixed<|gC JT<|gC wO<|gC aeI<|gC aeF<|gC aeJ<|gC ae0<|gC aeG<|gC aeK<|gC ady<|gC ads<|AJ
def S4(x:Y2×Y6×A2):Option ((Bool×A2)×(Y2×A2)):=(FJ (x.2.1.2.1,())).bind λj=>if !j.1.1 then I ((A3,()),(x.1,())) else if inb x.2.1.2.1 x.1.2.1.length then let e:=(rd (dfl .AQ) x.1.2.1 x.2.1.2.1).id;let a:=(rd (dfl .AQ) x.1.2.1 x.2.1.2.1).up;let f:=(rd (dfl .AQ) x.1.2.1 x.2.1.2.1).log;let g:=(rd (dfl .AQ) x.1.2.1 x.2.1.2.1).fo;let h:=(rd (dfl .AQ) x.1.2.1 x.2.1.2.1).AN;(BS (X:=Y2×Y6×Y1×Bool×A2) (λc=>if inb c.2.1.2.1 c.1.2.1.length then I (c.2.2.2,((c.1.1,(Bn c.1.2.1 (AL c.2.1.2.1)<|AA.mk c.2.2.1.1 c.2.2.1.2.1 c.2.2.1.2.2.1 c.2.2.1.2.2.2.1 c.2.2.1.2.2.2.2.1),c.1.2.2),())) else U)<|(if A1 (x.2.1.1=1) then if A1 (6<=(x.1.2.2.2.2.1.length:Int)) then I (.inl ((A3,()),(x.1,()))) else(V4 ((e,a,f,g,h,()),x.2.1.2.2.2.2.2.2.2)).bind λi=>if A1 (i.1.2.1=0) then I (.inl ((A3,()),(x.1,()))) else if Ac (x.1.2.2.2.2.1.length+([(A6.mk x.2.1.2.1 i.1.2.1 x.2.1.2.2.2.2.2.2.2.1 x.2.1.2.2.2.2.2.2.2.2.1 x.2.1.2.2.2.2.2.2.2.2.2.1)]:List A6).length) then I (.inr ((x.1.1,x.1.2.1,x.1.2.2.1,x.1.2.2.2.1,(x.1.2.2.2.2.1++([(A6.mk x.2.1.2.1 i.1.2.1 x.2.1.2.2.2.2.2.2.2.1 x.2.1.2.2.2.2.2.2.2.2.1 x.2.1.2.2.2.2.2.2.2.2.2.1)]:List A6)),x.1.2.2.2.2.2),x.2.1,i.1.1,A0,())) else U else if A1 (x.2.1.1=2) then(Uv ((e,a,f,g,h,()),())).bind λk=>I (.inr (x.1,x.2.1,k.1)) else if A1 (x.2.1.1=3) then(V5 ((e,a,f,g,h,()),x.2.1.2.2.1,x.2.1.2.2.2.1,x.2.1.2.2.2.2.2.1,())).bind λb=>if b.1.2.1 then(OD (x.1,([(Frame.mk b.1.1.1 b.1.1.2.1 b.1.1.2.2.1 b.1.1.2.2.2.1 b.1.1.2.2.2.2.1 b.1.1.2.2.2.2.2.1 b.1.1.2.2.2.2.2.2.1 b.1.1.2.2.2.2.2.2.2.1 b.1.1.2.2.2.2.2.2.2.2.1 b.1.1.2.2.2.2.2.2.2.2.2.1)]:List Frame),())).bind λl=>I (.inr (l.2.1,x.2.1,(e,a,f,g,h,()),b.1.2)) else I (.inr (x.1,x.2.1,(e,a,f,g,h,()),b.1.2)) else if A1 (x.2.1.1=7) then(Uy ((e,a,f,g,h,()),x.2.1.2.2.2.2.2.2.1,())).bind λm=>I (.inr (x.1,x.2.1,m.1.1,a,())) else if A1 (x.2.1.1=8) then(Uw ((e,a,f,g,h,()),())).bind λn=>I (.inr (x.1,x.2.1,n.1.1,(!a),())) else if A1 (x.2.1.1=11) then if A1 (6<=(x.1.2.2.2.2.2.1.length:Int)) then I (.inl ((A3,()),(x.1,()))) else(V6 ((e,a,f,g,h,()),x.2.1.2.2.1,x.2.1.2.2.2.1,())).bind λd=>if !d.1.2.2.1 then I (.inl ((A3,()),(x.1,()))) else if Ac (x.1.2.2.2.2.2.1.length+([(A6.mk d.1.2.1.1 d.1.2.1.2.1 d.1.2.1.2.2.1 d.1.2.1.2.2.2.1 d.1.2.1.2.2.2.2.1)]:List A6).length) then I (.inr ((x.1.1,x.1.2.1,x.1.2.2.1,x.1.2.2.2.1,x.1.2.2.2.2.1,(x.1.2.2.2.2.2.1++([(A6.mk d.1.2.1.1 d.1.2.1.2.1 d.1.2.1.2.2.1 d.1.2.1.2.2.2.1 d.1.2.1.2.2.2.2.1)]:List A6)),()),x.2.1,d.1.1,A0,())) else U else if A1 (x.2.1.1=12) then(Ux ((e,a,f,g,h,()),())).bind λo=>I (.inr (x.1,x.2.1,o.1)) else if A1 (x.2.1.1=13) then(Uh ((e,a,f,g,h,()),())).bind λp=>I (.inr (x.1,x.2.1,p.1)) else I (.inr (x.1,x.2.1,(e,a,f,g,h,()),A3,())))) else U
def zj:Ent:=(46,U,⟨[Z2,Z13],[.bool],S4⟩)
def ahj:SQ Tryz.prog zj:=sk (v:=t1<|t1<|t1<|t1<|.join [(0,Z2),(3,Z25),(5,Z34),(6,.bool)] .nil .nil) (fn:=Tryz.f46) aoa kN
def alU:Cx:=cX [rN,zk,xR,zj] [] [(28,30)]
def amj:OKC Tryz.prog alU AF:=okc mixed<|gC aco<|gC ahk<|gC afG<|gC ahj<|AJ
def Rm(x:Y2×Y6×A2):Option ((Y2×Bool×A2)×A2):=(LL (x.1,())).bind λc=>(BS (X:=Y2×Y2×Y2×Bool×A2) (λb=>if(!b.2.2.2.1)||(A1<|b.1.1=99999) then(LL (b.1,())).bind λm=>I ((m.1.1,A3,()),()) else(LL (((w64<|b.2.2.1.1+1),b.2.2.1.2),())).bind λn=>I ((n.1.1,A0,()),()))<|(BS (X:=Y2×Y6×Y2×Y2×Int×Bool×A2) (λa=>if a.2.2.2.2.2.1 then(fJ (a.2.2.2.1,a.2.1,())).bind λd=>I (.inr (a.1,a.2.2.1,d.2.1,d.1)) else let e:=(A1<|a.2.2.2.2.1=4);(if e then if e then(Rg (a.2.2.2.1,a.2.1,())).bind λf=>I (.inr (a.1,a.2.2.1,f.2.1,f.1)) else(S4 (a.2.2.2.1,a.2.1,())).bind λg=>I (.inr (a.1,a.2.2.1,g.2.1,g.1)) else let h:=(A1<|a.2.2.2.2.1=5);(if h then if h then(Rg (a.2.2.2.1,a.2.1,())).bind λi=>I (.inr (a.1,a.2.2.1,i.2.1,i.1)) else(S4 (a.2.2.2.1,a.2.1,())).bind λj=>I (.inr (a.1,a.2.2.1,j.2.1,j.1)) else let o:=(A1<|a.2.2.2.2.1=6);(if o then(Rg (a.2.2.2.1,a.2.1,())).bind λk=>I (.inr (a.1,a.2.2.1,k.2.1,k.1)) else(S4 (a.2.2.2.1,a.2.1,())).bind λl=>I<|.inr (a.1,a.2.2.1,l.2.1,l.1)))))<|(if A1 (x.2.1.1=9) then I (.inr (x.1,x.2.1,(0,([]:List AA),([]:List Bool),([]:List AS),([]:List A6),([]:List A6),()),c.1.1,x.2.1.1,(A1<|x.2.1.1=9),())) else I (.inr (x.1,x.2.1,(0,([]:List AA),([]:List Bool),([]:List AS),([]:List A6),([]:List A6),()),c.1.1,x.2.1.1,(A1<|x.2.1.1=10),())))))
def gG:Ent:=(26,U,⟨[Z30,Z13],[Z3,.bool],Rm⟩)
def sQ:SQ Tryz.prog gG:=sk (v:=t1<|t1<|t1<|.join [(2,Z29),(4,Z2),(6,Z2),(7,.bool)] (t1<|.one<|.join [(2,Z29),(3,Z25),(4,Z2),(6,Z2),(11,.int .i64),(14,.bool)] .nil .nil) .nil) (fn:=Tryz.f26) amj kN
def aiG:Cx:=cX [uO,gG] [] []
def vY:OKC Tryz.prog aiG AF:=okc mixed<|gC aeE<|gC sQ<|AJ
def bh(x:Y2×Y2×List Event×Int×Int×A2):Rnd (Y2×Y2×List Event×Int×Int×A2) (A2) (Y2×Y2×A2):=if A1 (x.2.2.2.2.1<x.2.2.2.1) then if inb x.2.2.2.2.1 x.2.2.1.length then let a:=(rd (dfl .BK) x.2.2.1 x.2.2.2.2.1).ki;let b:=(rd (dfl .BK) x.2.2.1 x.2.2.2.2.1).at_;let c:=(rd (dfl .BK) x.2.2.1 x.2.2.2.2.1).fr;let d:=(rd (dfl .BK) x.2.2.1 x.2.2.2.2.1).nu;let e:=(rd (dfl .BK) x.2.2.1 x.2.2.2.2.1).wo;let f:=(rd (dfl .BK) x.2.2.1 x.2.2.2.2.1).mix;let g:=(rd (dfl .BK) x.2.2.1 x.2.2.2.2.1).kp;let h:=(rd (dfl .BK) x.2.2.1 x.2.2.2.2.1).to;let i:=(rd (dfl .BK) x.2.2.1 x.2.2.2.2.1).un;let j:=(rd (dfl .BK) x.2.2.1 x.2.2.2.2.1).tx;(Rm (x.2.1,(a,b,c,d,e,f,g,h,i,j,()),())).bind λk=>I (.inl (x.1,k.1.1,x.2.2.1,x.2.2.2.1,(w64<|x.2.2.2.2.1+1),())) else U else I (.inr<|.inr (x.1,x.2.1,()))
def ax:=AR bh
def sb:Loop:=⟨[(2,Z2),(3,Z2),(11,.sl .BK),(12,.int .i64),(13,.int .i64)],[(2,Z2),(3,Z2)],0,[],ax⟩
def ah4:LF Tryz.f13 [] [1,1,1,0,1,0,0] sb:=sq (v:= .nil) vY (b:=bh) kN
def II(x:List Event×A2):Option ((Y2×A2)×A2):=(c9 ()).bind λa=>if A1 (2000<(x.1.length:Int)) then I (a.1,()) else(AM (ax ((0,([]:List AA),([]:List Bool),([]:List AS),([]:List A6),([]:List A6),()),a.1.1,x.1,(x.1.length:Int),0,())) (λ_=>U) λb=>I (b.2,()))
def Md:Ent:=(13,U,⟨[.fz .BK],[Z3],II⟩)
def Ns:SQ Tryz.prog Md:=sk (v:=t1<|t1<|t1<|.two (t1<|.one<|.loop sb) .nil) (fn:=Tryz.f13) vY<|kC ah4 kN
def alN:Cx:=cX [] [] []
def yG:OKC Tryz.prog alN AF:=okc mixed<|AJ
def VQ(x:List A6×List A6×Int×A2):Rnd (List A6×List A6×Int×A2) (Bool×A2) (A2):=if A1 (x.2.2.1<(x.1.length:Int)) then if inb x.2.2.1 x.1.length then if inb x.2.2.1 x.2.1.length then if !(MF ((rd (dfl .note) x.1 x.2.2.1).fr) ((rd (dfl .note) x.1 x.2.2.1).nu) ((rd (dfl .note) x.1 x.2.2.1).to) ((rd (dfl .note) x.1 x.2.2.1).un) ((rd (dfl .note) x.1 x.2.2.1).tx) ((rd (dfl .note) x.2.1 x.2.2.1).fr) ((rd (dfl .note) x.2.1 x.2.2.1).nu) ((rd (dfl .note) x.2.1 x.2.2.1).to) ((rd (dfl .note) x.2.1 x.2.2.1).un)<|(rd (dfl .note) x.2.1 x.2.2.1).tx) then I (.inr<|.inl (A3,())) else I (.inl (x.1,x.2.1,(w64<|x.2.2.1+1),())) else U else U else I (.inr<|.inr ())
def po:=AR VQ
def uX:Loop:=⟨[(0,.sl .note),(1,.sl .note),(5,.int .i64)],[],0,[(4,.bool)],po⟩
def aky:LF Tryz.f27 [] [1,1,0,1,0,0] uX:=sq (v:= .nil) yG (b:=VQ) kN
def Rw(x:List A6×List A6×A2):Option ((Bool×A2)×A2):=if !decide ((x.1.length:Int)=(x.2.1.length:Int)) then I ((A3,()),()) else(AM (po (x.1,x.2.1,0,())) (λa=>I (a,())) λa=>I ((A0,()),()))
def yY:Ent:=(27,U,⟨[.fz .note,.fz .note],[.bool],Rw⟩)
def agD:SQ Tryz.prog yY:=sk (v:=t1<|t1<|.two (t1<|.one<|.loop uX) .nil) (fn:=Tryz.f27) yG<|kC aky kN
def aj9:Cx:=cX [] [] []
def rq:OKC Tryz.prog aj9 AF:=okc mixed<|AJ
def VF(x:List AH×List AH×Int×Int×A2):Rnd (List AH×List AH×Int×Int×A2) (Bool×A2) (List AH×List AH×Int×A2):=if inb x.2.2.1 x.1.length then if A1 (x.2.2.2.1<(((rd (dfl .half) x.1 x.2.2.1).got).length:Int)) then if inb x.2.2.1 x.1.length then if inb x.2.2.2.1 (((rd (dfl .half) x.1 x.2.2.1).got).length) then if inb x.2.2.1 x.2.1.length then if inb x.2.2.2.1 (((rd (dfl .half) x.2.1 x.2.2.1).got).length) then if !(A1 ((rd (dfl .mixed) ((rd (dfl .half) x.1 x.2.2.1).got) x.2.2.2.1).nu=(rd (dfl .mixed) ((rd (dfl .half) x.2.1 x.2.2.1).got) x.2.2.2.1).nu)&&(A1 ((rd (dfl .mixed) ((rd (dfl .half) x.1 x.2.2.1).got) x.2.2.2.1).da=(rd (dfl .mixed) ((rd (dfl .half) x.2.1 x.2.2.1).got) x.2.2.2.1).da)&&A0)) then I (.inr<|.inl (A3,())) else I (.inl (x.1,x.2.1,x.2.2.1,(w64<|x.2.2.2.1+1),())) else U else U else U else U else I (.inr<|.inr (x.1,x.2.1,x.2.2.1,())) else U
def pR:=AR VF
def td:Loop:=⟨[(0,.sl .half),(1,.sl .half),(5,.int .i64),(6,.int .i64)],[(0,.sl .half),(1,.sl .half),(5,.int .i64)],2,[(4,.bool)],pR⟩
def aid:LF Tryz.f47 [] [1,1,0,1,0,0,1,0,0,1,1,0,0] td:=sq (v:= .nil) rq (b:=VF) kN
def Uz(x:List AH×List AH×Int×A2):Rnd (List AH×List AH×Int×A2) (Bool×A2) (A2):=if A1 (x.2.2.1<(x.1.length:Int)) then if inb x.2.2.1 x.1.length then if inb x.2.2.1 x.2.1.length then if !decide ((rd (dfl .half) x.1 x.2.2.1).fr=(rd (dfl .half) x.2.1 x.2.2.1).fr) then I (.inr<|.inl (A3,())) else if inb x.2.2.1 x.1.length then if inb x.2.2.1 x.2.1.length then if !decide ((rd (dfl .half) x.1 x.2.2.1).nu=(rd (dfl .half) x.2.1 x.2.2.1).nu) then I (.inr<|.inl (A3,())) else if inb x.2.2.1 x.1.length then if inb x.2.2.1 x.2.1.length then if !decide ((rd (dfl .half) x.1 x.2.2.1).to=(rd (dfl .half) x.2.1 x.2.2.1).to) then I (.inr<|.inl (A3,())) else if inb x.2.2.1 x.1.length then if inb x.2.2.1 x.2.1.length then if !decide ((rd (dfl .half) x.1 x.2.2.1).un=(rd (dfl .half) x.2.1 x.2.2.1).un) then I (.inr<|.inl (A3,())) else if inb x.2.2.1 x.1.length then if inb x.2.2.1 x.2.1.length then if !decide ((rd (dfl .half) x.1 x.2.2.1).sz=(rd (dfl .half) x.2.1 x.2.2.1).sz) then I (.inr<|.inl (A3,())) else if inb x.2.2.1 x.1.length then if inb x.2.2.1 x.2.1.length then if !decide ((((rd (dfl .half) x.1 x.2.2.1).got).length:Int)=(((rd (dfl .half) x.2.1 x.2.2.1).got).length:Int)) then I (.inr<|.inl (A3,())) else(AM (pR (x.1,x.2.1,x.2.2.1,0,())) (λa=>I<|.inr<|.inl a) λa=>I<|.inl (a.1,a.2.1,(w64<|a.2.2.1+1),())) else U else U else U else U else U else U else U else U else U else U else U else U else I (.inr<|.inr ())
def pS:=AR Uz
def tC:Loop:=⟨[(0,.sl .half),(1,.sl .half),(5,.int .i64)],[],0,[(4,.bool)],pS⟩
def ail:LF Tryz.f47 [] [1,1,0,1,0,0] tC:=sq (v:=t1<|.two (.one<|t1<|t1<|.one<|.loop td) .nil) rq (b:=Uz)<|kC aid kN
def Pg(x:List AH×List AH×A2):Option ((Bool×A2)×A2):=if !decide ((x.1.length:Int)=(x.2.1.length:Int)) then I ((A3,()),()) else(AM (pS (x.1,x.2.1,0,())) (λa=>I (a,())) λa=>I ((A0,()),()))
def xP:Ent:=(47,U,⟨[.fz .half,.fz .half],[.bool],Pg⟩)
def aej:SQ Tryz.prog xP:=sk (v:=t1<|t1<|.two (t1<|.one<|.loop tC) .nil) (fn:=Tryz.f47) rq<|kC ail kN
def aj8:Cx:=cX [xP] [] [(25,29)]
def al9:OKC Tryz.prog aj8 AF:=okc mixed<|gC aej<|AJ
def dC(x:Y1×Y1×A2):Option ((Bool×A2)×A2):=if A1 (x.1.1=x.2.1.1) then if A1 (x.1.2.1=x.2.1.2.1) then if Ak (A1 (x.1.2.2.1=x.2.1.2.2.1)&&(A1 (x.1.2.2.2.1=x.2.1.2.2.2.1)&&A0)) ((Pg (x.1.2.2.2.2.1,x.2.1.2.2.2.2)).isSome) then let a:=((A1 (x.1.2.2.1=x.2.1.2.2.1)&&(A1 (x.1.2.2.2.1=x.2.1.2.2.2.1)&&A0))&&(((Pg (x.1.2.2.2.2.1,x.2.1.2.2.2.2)).getD ((A3,()),())).1.1));I ((a,()),()) else U else if Ak A3 ((Pg (x.1.2.2.2.2.1,x.2.1.2.2.2.2)).isSome) then I ((A3,()),()) else U else if Ak A3 ((Pg (x.1.2.2.2.2.1,x.2.1.2.2.2.2)).isSome) then I ((A3,()),()) else U
def xO:Ent:=(28,U,⟨[Z12,Z12],[.bool],dC⟩)
def af0:SQ Tryz.prog xO:=sk (v:= .nil) (fn:=Tryz.f28) al9 kN
def alM:Cx:=cX [yY,xO] [] []
def eU:OKC Tryz.prog alM AF:=okc mixed<|gC agD<|gC af0<|AJ
def VN(x:Y2×Y2×Int×A2):Rnd (Y2×Y2×Int×A2) (Bool×A2) (A2):=if A1 (x.2.2.1<(x.1.2.2.2.1.length:Int)) then if inb x.2.2.1 x.1.2.2.2.1.length then if inb x.2.2.1 x.2.1.2.2.2.1.length then if !(A1 ((rd (dfl .An) x.1.2.2.2.1 x.2.2.1).src=(rd (dfl .An) x.2.1.2.2.2.1 x.2.2.1).src)&&(A1 ((rd (dfl .An) x.1.2.2.2.1 x.2.2.1).dst=(rd (dfl .An) x.2.1.2.2.2.1 x.2.2.1).dst)&&(A1 ((rd (dfl .An) x.1.2.2.2.1 x.2.2.1).data=(rd (dfl .An) x.2.1.2.2.2.1 x.2.2.1).data)&&(A1 ((rd (dfl .An) x.1.2.2.2.1 x.2.2.1).sp=(rd (dfl .An) x.2.1.2.2.2.1 x.2.2.1).sp)&&A0)))) then I (.inr<|.inl (A3,())) else I (.inl (x.1,x.2.1,(w64<|x.2.2.1+1),())) else U else U else I (.inr<|.inr ())
def ph:=AR VN
def uU:Loop:=⟨[(2,Z29),(3,Z29),(7,.int .i64)],[],4,[(4,.bool)],ph⟩
def ajp:LF Tryz.f14 [] [1,1,1,1,0,1,0,0] uU:=sq (v:= .nil) eU (b:=VN) kN
def VO(x:Y2×Y2×Int×A2):Rnd (Y2×Y2×Int×A2) (Bool×A2) (Y2×Y2×A2):=if A1 (x.2.2.1<(x.1.2.2.1.length:Int)) then if inb x.2.2.1 x.1.2.2.1.length then if inb x.2.2.1 x.2.1.2.2.1.length then if !decide ((rd (dfl .bool) x.1.2.2.1 x.2.2.1)=(rd (dfl .bool) x.2.1.2.2.1 x.2.2.1)) then I (.inr<|.inl (A3,())) else I (.inl (x.1,x.2.1,(w64<|x.2.2.1+1),())) else U else U else I (.inr<|.inr (x.1,x.2.1,()))
def pj:=AR VO
def uV:Loop:=⟨[(2,Z29),(3,Z29),(6,.int .i64)],[(2,Z29),(3,Z29)],2,[(4,.bool)],pj⟩
def akg:LF Tryz.f14 [] [1,1,1,0,1,0,0] uV:=sq (v:= .nil) eU (b:=VO) kN
def VP(x:Y2×Y2×Int×A2):Rnd (Y2×Y2×Int×A2) (Bool×A2) (Y2×Y2×A2):=if A1 (x.2.2.1<(x.1.2.1.length:Int)) then if inb x.2.2.1 x.1.2.1.length then if inb x.2.2.1 x.2.1.2.1.length then(dC (((rd (dfl .AQ) x.1.2.1 x.2.2.1).id,(rd (dfl .AQ) x.1.2.1 x.2.2.1).up,(rd (dfl .AQ) x.1.2.1 x.2.2.1).log,(rd (dfl .AQ) x.1.2.1 x.2.2.1).fo,(rd (dfl .AQ) x.1.2.1 x.2.2.1).AN,()),((rd (dfl .AQ) x.2.1.2.1 x.2.2.1).id,(rd (dfl .AQ) x.2.1.2.1 x.2.2.1).up,(rd (dfl .AQ) x.2.1.2.1 x.2.2.1).log,(rd (dfl .AQ) x.2.1.2.1 x.2.2.1).fo,(rd (dfl .AQ) x.2.1.2.1 x.2.2.1).AN,()),())).bind λa=>if !a.1.1 then I (.inr<|.inl (A3,())) else I (.inl (x.1,x.2.1,(w64<|x.2.2.1+1),())) else U else U else I (.inr<|.inr (x.1,x.2.1,()))
def pn:=AR VP
def uW:Loop:=⟨[(2,Z29),(3,Z29),(5,.int .i64)],[(2,Z29),(3,Z29)],0,[(4,.bool)],pn⟩
def akx:LF Tryz.f14 [] [1,1,0,1,0,0] uW:=sq (v:= .nil) eU (b:=VP) kN
def It(x:Y2×Y2×A2):Option ((Bool×A2)×A2):=if !decide (x.1.1=x.2.1.1) then I ((A3,()),()) else if !decide ((x.1.2.1.length:Int)=(x.2.1.2.1.length:Int)) then I ((A3,()),()) else if !decide ((x.1.2.2.1.length:Int)=(x.2.1.2.2.1.length:Int)) then I ((A3,()),()) else if !decide ((x.1.2.2.2.1.length:Int)=(x.2.1.2.2.2.1.length:Int)) then I ((A3,()),()) else(Rw (x.1.2.2.2.2.1,x.2.1.2.2.2.2.1,())).bind λd=>if !d.1.1 then I ((A3,()),()) else(Rw (x.1.2.2.2.2.2.1,x.2.1.2.2.2.2.2)).bind λe=>if !e.1.1 then I ((A3,()),()) else(AM (pn (x.1,x.2.1,0,())) (λa=>I (a,())) λa=>(AM (pj (a.1,a.2.1,0,())) (λb=>I (b,())) λb=>(AM (ph (b.1,b.2.1,0,())) (λc=>I (c,())) λc=>I ((A0,()),()))))
def MX:Ent:=(14,U,⟨[Z30,Z30],[.bool],It⟩)
def Nw:SQ Tryz.prog MX:=sk (v:=t1<|t1<|.two (t1<|.one<|.loop uW)<|.two (t1<|.one<|.loop uV)<|.two (t1<|.one<|.loop uU) .nil) (fn:=Tryz.f14) eU<|kC akx<|kC akg<|kC ajp kN
end Go.VS
end
