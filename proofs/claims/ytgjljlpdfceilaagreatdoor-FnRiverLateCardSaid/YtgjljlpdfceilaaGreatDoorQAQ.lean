/- Part 17. -/
import Derived.Test.YtgjljlpdfceilaaGreatDoorQAP
open Bool renaming false->A3,true->U
open Decidable renaming decide->A1
open Int renaming tdiv->B5,tmod->BO,toNat->AR
open List renaming drop->Bv,replicate->BV,set->Bw,take->BS
open Option renaming none->A0,some->I
set_option linter.all false
noncomputable section
namespace Go.VS
open Go Go.Proofs
set_option linter.unusedVariables false
set_option maxRecDepth 100000
def Vk:SQ Tryz.prog M1:=soX (fn:=Tryz.f85) (l:=5) (g:=9) aii (by kernel_rfl) rfl (by kernel_rfl) ay9 ay8
def ak4:Cx:=cX [M3] [] []
def ao6:OKC Tryz.prog ak4 AI:=okc mixed<|gC N8<|AL
def iR(x:Y0×List A4×A2):Option ((A4×A2)×(Y0×A2)):=(Co (x.1,(x.2.1.length:Int),())).bind λa=>if inb a.1.1 x.2.1.length then let b:=(rd (dfl .str) x.2.1 a.1.1);I ((b,()),a.2) else A0
def aCG:Ent:=(101,A0,⟨[Z0,.fz .str],[.str],iR⟩)
def aeh:SQ Tryz.prog aCG:=sk (v:= .nil) (fn:=Tryz.f101) ao6 kN
def afO:Cx:=cX [M3,JI,M1,aCG] [] []
def agW:OKC Tryz.prog afO AI:=okc mixed<|gC N8<|gC Jy<|gC Vk<|gC aeh<|AL
def W9(x:Y10×A2):Option ((A2)×(Y10×A2)):=(Co (x.1.1,4,())).bind λc=>(iR (c.2.1,([(B [97]),(B [104,101,108,108,111]),(B [97,32,108,111,110,103,101,114,32,109,101,115,115,97,103,101]),(B [97,98,99,100]),(B [49,50,51,52,53,54,55,56]),(B [106,117,115,116,32,116,119,101,110,116,121,45,102,111,117,114,32,98,121,116,101,115,32,33,33]),(B [109,105,120,101,100,32,98,108,111,99,107,115])]:List A4),())).bind λb=>(BW (X:=Y10×Int×A4×A2) (λa=>if inb a.2.1 a.1.2.2.1.length then(GQ (((rd (dfl .AN) a.1.2.2.1 a.2.1).id,(rd (dfl .AN) a.1.2.2.1 a.2.1).up,(rd (dfl .AN) a.1.2.2.1 a.2.1).log,(rd (dfl .AN) a.1.2.2.1 a.2.1).fo,(rd (dfl .AN) a.1.2.2.1 a.2.1).AM,()),())).bind λf=>(Co (a.1.1,4,())).bind λd=>(Co (d.2.1,12,())).bind λe=>(G6 ((e.2.1,a.1.2),(1,a.2.1,0,0,0,0,0,d.1.1,(w64<|(w64<|f.1.1.2.1+1)+e.1.1),a.2.2),())).bind λg=>I ((),g.2) else A0)<|(if A1 (24<(b.1.1.size:Int)) then if A1 (0<=24)&&A1 (24<=(b.1.1.size:Int)) then let h:=(b.1.1.extract (0)<|AR 24);I (.inr ((b.2.1,x.1.2),c.1.1,h,())) else A0 else I (.inr ((b.2.1,x.1.2),c.1.1,b.1))))
def vo:Ent:=(63,A0,⟨[Z22],[],W9⟩)
def abn:SQ Tryz.prog vo:=sk (v:=t1<|t1<|.join [(0,Z24),(2,.int .i64),(3,.str)] .nil .nil) (fn:=Tryz.f63) agW kN
def adG:Cx:=cX [M3,M1] [] [(12,18)]
def we:OKC Tryz.prog adG AI:=okc mixed<|gC N8<|gC Vk<|AL
def tr(x:Y10×Int×Int×Int×A2):Rnd (Y10×Int×Int×Int×A2) (A2) (Y10×A2):=if(A1<|x.2.2.2.1<x.2.1)&&(A1<|0<(x.1.2.2.2.2.1.length:Int)) then(BW (X:=Y10×Int×Int×Int×Y6×A2) (λe=>(BW (X:=Y10×Int×Int×Int×Y6×A2) (λc=>(BW (X:=Y10×Int×Int×Int×Y6×Bool×A2) (λb=>if b.2.2.2.2.2.1 then(Co (b.1.1,17,())).bind λg=>(Co (g.2.1,255,())).bind λh=>(G6 ((h.2.1,b.1.2),(b.2.2.2.2.1.1,b.2.2.2.2.1.2.1,b.2.2.2.2.1.2.2.1,b.2.2.2.2.1.2.2.2.1,b.2.2.2.2.1.2.2.2.2.1,g.1.1,(w64<|1+h.1.1),b.2.2.2.2.1.2.2.2.2.2.2.2),())).bind λo=>I (.inl (o.2.1,b.2.1,b.2.2.1,(w64<|b.2.2.2.1+1),())) else I (.inl (b.1,b.2.1,b.2.2.1,(w64<|b.2.2.2.1+1),())))<|(if A1 (c.2.2.2.2.1.1=6) then(Co (c.1.1,2,())).bind λi=>I (.inr ((i.2.1,c.1.2),c.2.1,c.2.2.1,c.2.2.2.1,c.2.2.2.2.1,(A1<|i.1.1=0),())) else I (.inr (c.1,c.2.1,c.2.2.1,c.2.2.2.1,c.2.2.2.2.1,A3,())))))<|(G6 (e.1,e.2.2.2.2)).bind λf=>if !f.1.1 then(G6 (f.2.1,(5,0,0,0,0,0,0,0,0,noB,()),())).bind λp=>I (.inr (p.2.1,e.2)) else I (.inr (f.2.1,e.2))))<|(BW (X:=Y10×Int×Int×Int×Y6×Bool×A2) (λa=>if a.2.2.2.2.2.1 then(Co (a.1.1,5,())).bind λd=>if A1 (d.1.1=0) then I (.inr ((d.2.1,a.1.2),a.2.1,a.2.2.1,a.2.2.2.1,(5,a.2.2.2.2.1.2),())) else if A1 (d.1.1=1) then I (.inr ((d.2.1,a.1.2),a.2.1,a.2.2.1,a.2.2.2.1,(a.2.2.2.2.1.1,a.2.2.2.2.1.2.1,a.2.2.2.2.1.2.2.1,a.2.2.2.2.1.2.2.2.1,a.2.2.2.2.1.2.2.2.2.1,a.2.2.2.2.1.2.2.2.2.2.1,1,a.2.2.2.2.1.2.2.2.2.2.2.2),())) else if A1 (d.1.1=2) then(Co (d.2.1,(a.1.2.2.2.2.1.length:Int),())).bind λj=>(Co (j.2.1,17,())).bind λk=>(Co (k.2.1,255,())).bind λl=>I (.inr ((l.2.1,a.1.2),a.2.1,a.2.2.1,a.2.2.2.1,(6,a.2.2.2.2.1.2.1,a.2.2.2.2.1.2.2.1,a.2.2.2.2.1.2.2.2.1,j.1.1,k.1.1,(w64<|1+l.1.1),a.2.2.2.2.1.2.2.2.2.2.2.2),())) else(Co (d.2.1,(a.1.2.2.2.2.1.length:Int),())).bind λm=>I (.inr ((m.2.1,a.1.2),a.2.1,a.2.2.1,a.2.2.2.1,(a.2.2.2.2.1.1,a.2.2.2.2.1.2.1,a.2.2.2.2.1.2.2.1,a.2.2.2.2.1.2.2.2.1,m.1.1,a.2.2.2.2.1.2.2.2.2.2),())) else I (.inr (a.1,a.2.1,a.2.2.1,a.2.2.2.1,a.2.2.2.2.1,())))<|(if A1 (0<x.2.2.1) then(Co (x.1.1,x.2.2.1,())).bind λn=>I (.inr ((n.2.1,x.1.2),x.2.1,x.2.2.1,x.2.2.2.1,(4,0,0,0,0,0,0,0,0,noB,()),(A1<|n.1.1=0),())) else I (.inr (x.1,x.2.1,x.2.2.1,x.2.2.2.1,(4,0,0,0,0,0,0,0,0,noB,()),A3,()))))) else I (.inr<|.inr (x.1,()))
def abh:=AW tr
def abp:Loop:=⟨[(0,Z24),(1,.int .i64),(2,.int .i64),(6,.int .i64)],[(0,Z24)],0,[],abh⟩
def ad7:LF Tryz.f84 [0] [1,0,0] abp:=sq (v:=t1<|.two (.one<|t1<|.join [(0,Z24),(1,.int .i64),(2,.int .i64),(6,.int .i64),(7,Z25)] (.join [(0,Z24),(1,.int .i64),(2,.int .i64),(6,.int .i64),(7,Z25),(33,.bool)] .nil .nil)<|.join [(0,Z24),(1,.int .i64),(2,.int .i64),(6,.int .i64),(7,Z25)] .nil<|.join [(0,Z24),(1,.int .i64),(2,.int .i64),(6,.int .i64),(7,Z25),(102,.bool)] .nil .nil) .nil) we (b:=tr) kN
def OO(x:Y10×Int×Int×A2):Option ((A2)×(Y10×A2)):=(AP (abh (x.1,x.2.1,x.2.2.1,0,())) (λ_=>A0) λa=>I ((),a))
def eH:Ent:=(84,A0,⟨[Z22,.int .i64,.int .i64],[],OO⟩)
def sw:SQ Tryz.prog eH:=sk (v:=t1<|.one<|.loop abp) (fn:=Tryz.f84) we<|kC ad7 kN
def adn:Cx:=cX [M3,JI] [] []
def yZ:OKC Tryz.prog adn AI:=okc mixed<|gC N8<|gC Jy<|AL
def uF(x:Y10×Y4×Int×Int×A2):Rnd (Y10×Y4×Int×Int×A2) (Y10×Int×Y4×Bool×A2) (Y10×Y4×A2):=if A1 (x.2.2.2.1<4) then if inb x.2.2.1 x.1.2.2.1.length then(GQ (((rd (dfl .AN) x.1.2.2.1 x.2.2.1).id,(rd (dfl .AN) x.1.2.2.1 x.2.2.1).up,(rd (dfl .AN) x.1.2.2.1 x.2.2.1).log,(rd (dfl .AN) x.1.2.2.1 x.2.2.1).fo,(rd (dfl .AN) x.1.2.2.1 x.2.2.1).AM,()),())).bind λa=>if A1 (0<(a.1.1.2.2.2.1.length:Int)) then(Co (x.1.1,(a.1.1.2.2.2.1.length:Int),())).bind λb=>if inb b.1.1 a.1.1.2.2.2.1.length then let c:=(rd (dfl .note) a.1.1.2.2.2.1 b.1.1).fr;let d:=(rd (dfl .note) a.1.1.2.2.2.1 b.1.1).nu;let e:=(rd (dfl .note) a.1.1.2.2.2.1 b.1.1).to;let f:=(rd (dfl .note) a.1.1.2.2.2.1 b.1.1).un;let g:=(rd (dfl .note) a.1.1.2.2.2.1 b.1.1).tx;I (.inr<|.inl ((b.2.1,x.1.2),x.2.2.1,(c,d,e,f,g,()),U,())) else A0 else let h:=(BO (w64<|x.2.2.1+1) 4);I (.inl (x.1,x.2.1,h,(w64<|x.2.2.2.1+1),())) else A0 else I (.inr<|.inr (x.1,x.2.1,()))
def aba:=AW uF
def acF:Loop:=⟨[(0,Z24),(3,Z5),(5,.int .i64),(6,.int .i64)],[(0,Z24),(3,Z5)],0,[(0,Z24),(2,.int .i64),(3,Z5),(4,.bool)],aba⟩
def aeH:LF Tryz.f122 [0] [1,1,0,1,0,0] acF:=sq (v:= .nil) yZ (b:=uF) kN
def ey(x:Y10×A2):Option ((Int×Y4×Bool×A2)×(Y10×A2)):=(Co (x.1.1,4,())).bind λb=>(AP (aba ((b.2.1,x.1.2),(0,0,0,0,noB,()),b.1.1,0,())) (λa=>I (a.2,(a.1,()))) λa=>I ((0,(0,0,0,0,noB,()),A3,()),(a.1,())))
def xi:Ent:=(122,A0,⟨[Z22],[.int .i64,Z6,.bool],ey⟩)
def acf:SQ Tryz.prog xi:=sk (v:=t1<|t1<|.two (t1<|.one<|.loop acF) .nil) (fn:=Tryz.f122) yZ<|kC aeH kN
def adF:Cx:=cX [M3,eH,M1,xi] [] []
def wc:OKC Tryz.prog adF AI:=okc mixed<|gC N8<|gC sw<|gC Vk<|gC acf<|AL
def tO(x:Y10×Int×Int×Int×Y4×Int×Int×A2):Rnd (Y10×Int×Int×Int×Y4×Int×Int×A2) (A2) (Y10×Int×Int×A2):=if A1 (x.2.2.2.2.2.2.1<x.2.1) then(G6 (x.1,(3,x.2.2.2.1,x.2.2.2.2.1.1,x.2.2.2.2.1.2.1,0,(w64<|x.2.2.2.2.2.1+x.2.2.2.2.2.2.1),0,0,0,noB,()),())).bind λa=>let b:=(w64<|x.2.2.2.2.2.2.1+1);I (.inl (a.2.1,x.2.1,x.2.2.1,x.2.2.2.1,x.2.2.2.2.1,x.2.2.2.2.2.1,b,())) else I (.inr<|.inr (x.1,x.2.1,x.2.2.1,()))
def abg:=AW tO
def abo:Loop:=⟨[(0,Z24),(1,.int .i64),(2,.int .i64),(6,.int .i64),(7,Z5),(9,.int .i64),(10,.int .i64)],[(0,Z24),(1,.int .i64),(2,.int .i64)],0,[],abg⟩
def ad6:LF Tryz.f83 [0] [1,1,1,0,1,0,0] abo:=sq (v:= .nil) wc (b:=tO) kN
def QB(x:Y10×Int×Int×A2):Option ((A2)×(Y10×A2)):=(ey (x.1,())).bind λa=>if !a.1.2.2.1 then I ((),a.2) else(Co (a.2.1.1,2,())).bind λc=>(Co (c.2.1,40,())).bind λd=>(AP (abg ((d.2.1,a.2.1.2),x.2.1,x.2.2.1,a.1.1,a.1.2.1,(w64<|c.1.1 * d.1.1),0,())) (λ_=>A0) λb=>(Co (b.1.1,(w64<|b.2.1+4),())).bind λe=>(OO ((e.2.1,b.1.2),e.1.1,b.2.2)).bind λf=>I ((),f.2))
def uP:Ent:=(83,A0,⟨[Z22,.int .i64,.int .i64],[],QB⟩)
def abf:SQ Tryz.prog uP:=sk (v:=t1<|t1<|t1<|.two (t1<|.one<|.loop abo) .nil) (fn:=Tryz.f83) wc<|kC ad6 kN
def ado:Cx:=cX [M3,uP,eH,M1] [] [(89,96)]
def WN:OKC Tryz.prog ado AI:=okc mixed<|gC N8<|gC abf<|gC sw<|gC Vk<|AL
def u9(x:Y10×Int×Int×A2):Rnd (Y10×Int×Int×A2) (A2) (Y10×A2):=if A1 (0<x.2.2.1) then(G6 (x.1,(2,x.2.1,0,0,0,0,0,0,0,noB,()),())).bind λa=>I (.inl (a.2.1,x.2.1,(w64<|x.2.2.1 - 1),())) else I (.inr<|.inr (x.1,()))
def abc:=AW u9
def acH:Loop:=⟨[(0,Z24),(5,.int .i64),(6,.int .i64)],[(0,Z24)],5,[],abc⟩
def aeA:LF Tryz.f86 [0] [1,1,1,1,0,1,0,1,1,1,0,1,0,0] acH:=sq (v:= .nil) WN (b:=u9) kN
def uA(x:Y10×Int×Int×Int×A2):Rnd (Y10×Int×Int×Int×A2) (A2) (Y10×Int×A2):=if A1 (x.2.2.2.1<x.2.2.1) then(G6 (x.1,(4,0,0,0,x.2.2.2.1,0,1,0,0,noB,()),())).bind λa=>I (.inl (a.2.1,x.2.1,x.2.2.1,(w64<|x.2.2.2.1+1),())) else I (.inr<|.inr (x.1,x.2.1,()))
def abd:=AW uA
def acI:Loop:=⟨[(0,Z24),(2,.int .i64),(3,.int .i64),(4,.int .i64)],[(0,Z24),(2,.int .i64)],2,[],abd⟩
def aeD:LF Tryz.f86 [0] [1,1,0,1,0,0,1,0,0,1,1,0,0] acI:=sq (v:= .nil) WN (b:=uA) kN
def uG(x:Y10×Int×Int×A2):Rnd (Y10×Int×Int×A2) (A2) (Y10×A2):=if(A1<|x.2.2.1<12)&&(A1<|x.2.1<(x.1.2.2.2.2.1.length:Int)) then(G6 (x.1,(4,0,0,0,x.2.1,0,0,0,0,noB,()),())).bind λa=>I (.inl (a.2.1,x.2.1,(w64<|x.2.2.1+1),())) else I (.inr<|.inr (x.1,()))
def abb:=AW uG
def acG:Loop:=⟨[(0,Z24),(7,.int .i64),(8,.int .i64)],[(0,Z24)],7,[],abb⟩
def ae8:LF Tryz.f86 [0] [1,1,1,1,1,1,1,0,1,0,0] acG:=sq (v:= .nil) WN (b:=uG) kN
def uB(x:Y10×Int×A2):Rnd (Y10×Int×A2) (A2) (Y10×A2):=(Co (x.1.1,2,())).bind λa=>if A1 (x.2.1<(w64<|1+a.1.1)) then let c:=(x.1.2.2.2.2.1.length:Int);(AP (abd ((a.2.1,x.1.2),x.2.1,c,0,())) (λ_=>I<|.inr<|.inl ()) λb=>I<|.inl (b.1,(w64<|b.2.1+1),())) else I (.inr<|.inr ((a.2.1,x.1.2),()))
def abe:=AW uB
def acJ:Loop:=⟨[(0,Z24),(2,.int .i64)],[(0,Z24)],0,[],abe⟩
def aeI:LF Tryz.f86 [0] [1,1,0,1,0,0] acJ:=sq (v:=t1<|.two (.one<|t1<|t1<|.one<|.loop acI) .nil) WN (b:=uB)<|kC aeD kN
def ez(x:Y10×A2):Option ((A2)×(Y10×A2)):=(OO (x.1,40,0,())).bind λg=>(QB (g.2.1,6,0,())).bind λh=>(AP (abe (h.2.1,0,())) (λ_=>A0) λb=>(Co (b.1.1,4,())).bind λc=>(BW (X:=Y10×A2) (λd=>let i:=(d.1.2.2.2.2.1.length:Int);(QB (d.1,6,0,())).bind λj=>(AP (abb (j.2.1,i,0,())) (λ_=>A0) λk=>(OO (k.1,40,0,())).bind λl=>I ((),l.2)))<|(Co (c.2.1,3,())).bind λa=>if A1 (a.1.1=0) then(Co (a.2.1,40,())).bind λe=>(G6 ((e.2.1,b.1.2),(7,c.1.1,0,0,0,0,e.1.1,0,0,noB,()),())).bind λm=>(G6 (m.2.1,(8,c.1.1,0,0,0,0,0,0,0,noB,()),())).bind λn=>I (.inr n.2) else if A1 (a.1.1=1) then(Co (a.2.1,9,())).bind λf=>(AP (abc ((f.2.1,b.1.2),c.1.1,f.1)) (λ_=>A0) λo=>I<|.inr o) else I (.inr ((a.2.1,b.1.2),()))))
def xj:Ent:=(86,A0,⟨[Z22],[],ez⟩)
def acg:SQ Tryz.prog xj:=sk (v:=t1<|t1<|.two (t1<|.one<|.loop acJ)<|t1<|.join [(0,Z24)] (t1<|.one<|t1<|t1<|t1<|.two (t1<|.one<|.loop acH) .nil)<|t1<|t1<|.two (t1<|.one<|.loop acG) .nil) (fn:=Tryz.f86) WN<|kC aeI<|kC aeA<|kC ae8 kN
def adm:Cx:=cX [M3,JI,vo,uP,eH,M1,xj] [] []
def xW:OKC Tryz.prog adm AI:=okc mixed<|gC N8<|gC Jy<|gC abn<|gC abf<|gC sw<|gC Vk<|gC acg<|AL
def uE(x:Y10×Int×A2):Rnd (Y10×Int×A2) (A2) (Y10×A2):=if A1 (x.2.1<4) then(QB (x.1,7,0,())).bind λa=>(OO (a.2.1,20,0,())).bind λb=>I (.inl (b.2.1,(w64<|x.2.1+1),())) else I (.inr<|.inr (x.1,()))
def abZ:=AW uE
def acE:Loop:=⟨[(0,Z24),(8,.int .i64)],[(0,Z24)],1,[],abZ⟩
def aeG:LF Tryz.f45 [0] [1,1,0,1,1,1,1,1,1,1,1,1,1,1,1,1,1,1,1,1,1,1,1,1,0,0] acE:=sq (v:= .nil) xW (b:=uE) kN
def eu(x:Y10×Int×A2):Option ((A2)×(Y10×A2)):=(Co (x.1.1,4,())).bind λj=>(Co (j.2.1,24,())).bind λg=>(BW (X:=Y10×Int×Int×Int×Bool×A2) (λa=>if a.2.2.2.2.1 then(W9 (a.1,())).bind λD=>I ((),D.2) else(BW (X:=Y10×Int×Int×Int×Bool×A2) (λd=>if d.2.2.2.2.1 then(Co (d.1.1,7,())).bind λl=>(QB ((l.2.1,d.1.2),(w64<|1+l.1.1),d.2.1,())).bind λE=>I ((),E.2) else(BW (X:=Y10×Int×Int×Int×Bool×A2) (λf=>if f.2.2.2.2.1 then(Co (f.1.1,20,())).bind λm=>(OO ((m.2.1,f.1.2),(w64<|1+m.1.1),f.2.1,())).bind λF=>I ((),F.2) else(BW (X:=Y10×Int×Int×Bool×A2) (λc=>if c.2.2.2.1 then(G6 (c.1,(2,c.2.1,0,0,0,0,0,0,0,noB,()),())).bind λG=>I ((),G.2) else let H:=(A1<|c.2.2.1=13);(if H then(Co (c.1.1,50,())).bind λn=>(G6 ((n.2.1,c.1.2),(7,c.2.1,0,0,0,0,n.1.1,0,0,noB,()),())).bind λJ=>I ((),J.2) else(BW (X:=Y10×Int×Int×Bool×A2) (λe=>if e.2.2.2.1 then(G6 (e.1,(8,e.2.1,0,0,0,0,0,0,0,noB,()),())).bind λK=>I ((),K.2) else let L:=(A1<|e.2.2.1=16);(if L then(Co (e.1.1,2,())).bind λo=>(Co (o.2.1,3,())).bind λp=>(G6 ((p.2.1,e.1.2),((w64<|9+o.1.1),p.1.1,0,0,0,0,0,0,0,noB,()),())).bind λM=>I ((),M.2) else(BW (X:=Y10×Int×Int×Bool×A2) (λb=>if b.2.2.2.1 then if inb b.2.1 b.1.2.2.1.length then(GQ (((rd (dfl .AN) b.1.2.2.1 b.2.1).id,(rd (dfl .AN) b.1.2.2.1 b.2.1).up,(rd (dfl .AN) b.1.2.2.1 b.2.1).log,(rd (dfl .AN) b.1.2.2.1 b.2.1).fo,(rd (dfl .AN) b.1.2.2.1 b.2.1).AM,()),())).bind λh=>if A1 (0<(h.1.1.2.2.2.2.2.1.length:Int)) then(Co (b.1.1,(h.1.1.2.2.2.2.2.1.length:Int),())).bind λi=>if inb i.1.1 h.1.1.2.2.2.2.2.1.length then let N:=(rd (dfl .note) h.1.1.2.2.2.2.2.1 i.1.1).fr;let O:=(rd (dfl .note) h.1.1.2.2.2.2.2.1 i.1.1).nu;let v55:=(rd (dfl .note) h.1.1.2.2.2.2.2.1 i.1.1).to;let v56:=(rd (dfl .note) h.1.1.2.2.2.2.2.1 i.1.1).un;let v57:=(rd (dfl .note) h.1.1.2.2.2.2.2.1 i.1.1).tx;(G6 ((i.2.1,b.1.2),(11,b.2.1,N,O,0,0,0,0,0,noB,()),())).bind λP=>I ((),P.2) else A0 else I ((),(b.1,())) else A0 else let Q:=(A1<|b.2.2.1=19);(if Q then(Co (b.1.1,2,())).bind λq=>(G6 ((q.2.1,b.1.2),((w64<|12+q.1.1),b.2.1,0,0,0,0,0,0,0,noB,()),())).bind λR=>I ((),R.2) else(BW (X:=Y10×Bool×A2) (λk=>if k.2.1 then(ez (k.1,())).bind λS=>I ((),S.2) else(AP (abZ (k.1,0,())) (λ_=>A0) λT=>I ((),T))) (let r:=(A1<|b.2.2.1=20);(if r then I (.inr (b.1,r,())) else let s:=(A1<|b.2.2.1=21);(if s then I (.inr (b.1,s,())) else let U:=(A1<|b.2.2.1=22);I (.inr (b.1,U,())))))))) (let t:=(A1<|e.2.2.1=17);(if t then I (.inr (e.1,e.2.1,e.2.2.1,t,())) else let V:=(A1<|e.2.2.1=18);I (.inr (e.1,e.2.1,e.2.2.1,V,()))))))) (let u:=(A1<|c.2.2.1=14);(if u then I (.inr (c.1,c.2.1,c.2.2.1,u,())) else let W:=(A1<|c.2.2.1=15);I (.inr (c.1,c.2.1,c.2.2.1,W,()))))))) (let v:=(A1<|f.2.2.2.1=11);(if v then I (.inr (f.1,f.2.2.1,f.2.2.2.1,v,())) else let Y:=(A1<|f.2.2.2.1=12);I (.inr (f.1,f.2.2.1,f.2.2.2.1,Y,())))))) (let w:=(A1<|d.2.2.2.1=9);(if w then I (.inr (d.1,d.2.1,d.2.2.1,d.2.2.2.1,w,())) else let Z:=(A1<|d.2.2.2.1=10);I (.inr (d.1,d.2.1,d.2.2.1,d.2.2.2.1,Z,())))))) (let y:=(A1<|a.2.2.2.1=3);(if y then I (.inr (a.1,a.2.1,a.2.2.1,a.2.2.2.1,y,())) else let z:=(A1<|a.2.2.2.1=4);(if z then I (.inr (a.1,a.2.1,a.2.2.1,a.2.2.2.1,z,())) else let A:=(A1<|a.2.2.2.1=5);(if A then I (.inr (a.1,a.2.1,a.2.2.1,a.2.2.2.1,A,())) else let B:=(A1<|a.2.2.2.1=6);(if B then I (.inr (a.1,a.2.1,a.2.2.1,a.2.2.2.1,B,())) else let C:=(A1<|a.2.2.2.1=7);(if C then I (.inr (a.1,a.2.1,a.2.2.1,a.2.2.2.1,C,())) else let v17:=(A1<|a.2.2.2.1=8);I (.inr (a.1,a.2.1,a.2.2.1,a.2.2.2.1,v17,()))))))))))<|(if A1 (g.1.1=0) then I (.inr ((g.2.1,x.1.2),x.2.1,j.1.1,g.1.1,(A1<|g.1.1=0),())) else if A1 (g.1.1=1) then I (.inr ((g.2.1,x.1.2),x.2.1,j.1.1,g.1.1,(A1<|g.1.1=1),())) else I (.inr ((g.2.1,x.1.2),x.2.1,j.1.1,g.1.1,(A1<|g.1.1=2),()))))
def xh:Ent:=(45,A0,⟨[Z22,.int .i64],[],eu⟩)
def ace:SQ Tryz.prog xh:=sk (v:=t1<|t1<|.one<|.join [(0,Z24),(1,.int .i64),(4,.int .i64),(18,.int .i64),(27,.bool)] .nil<|t1<|.join [(0,Z24),(1,.int .i64),(4,.int .i64),(18,.int .i64),(33,.bool)] .nil<|t1<|.join [(0,Z24),(1,.int .i64),(4,.int .i64),(18,.int .i64),(49,.bool)] .nil<|t1<|.join [(0,Z24),(4,.int .i64),(18,.int .i64),(61,.bool)] .nil<|t1<|t1<|t1<|.join [(0,Z24),(4,.int .i64),(18,.int .i64),(79,.bool)] .nil<|t1<|t1<|t1<|.join [(0,Z24),(4,.int .i64),(18,.int .i64),(102,.bool)] .nil<|t1<|t1<|t1<|.join [(0,Z24),(153,.bool)] .nil<|t1<|t1<|.one<|.loop acE) (fn:=Tryz.f45) xW<|kC aeG kN
def ak3:Cx:=cX [M3,vr,xh,vo] [] []
def aC8:OKC Tryz.prog ak3 AI:=okc mixed<|gC N8<|gC abr<|gC ace<|gC abn<|AL
def k9(x:Y0×Y11×Int×Int×A2):Rnd (Y0×Y11×Int×Int×A2) (A2) (Y0×Y11×A2):=if A1 (0<x.2.2.2.1) then(eu ((x.1,x.2.1.2),x.2.2.1,())).bind λa=>I (.inl (a.2.1.1,((),a.2.1.2),x.2.2.1,(w64<|x.2.2.2.1 - 1),())) else I (.inr<|.inr (x.1,((),x.2.1.2),()))
def xF:=AW k9
def zP:Loop:=⟨[(0,Z23),(5,Z28),(6,.int .i64),(7,.int .i64)],[(0,Z23),(5,Z28)],0,[],xF⟩
def ail:LF Tryz.f34 [0] [1,1,1,1,0,1,0,0] zP:=sq (v:= .nil) aC8 (b:=k9) kN
def iQ(x:Y0×Int×A2):Option ((Y11×A2)×(Y0×A2)):=(Si ()).bind λa=>(Co (x.1,5,())).bind λb=>if inb b.1.1 (([0,0,3,6,12]:List Int).length) then let f:=(rd (dfl .int) ([0,0,3,6,12]:List Int) b.1.1);(W9 ((b.2.1,a.1.1.1,a.1.1.2.1,a.1.1.2.2.1,a.1.1.2.2.2.1,a.1.1.2.2.2.2.1,a.1.1.2.2.2.2.2.1,([]:List Event),()),())).bind λc=>(Co (c.2.1.1,x.2)).bind λd=>(AP (xF (d.2.1,((),c.2.1.2),f,d.1)) (λ_=>A0) λe=>I ((((),e.2.1.2),()),(e.1,()))) else A0
def aCF:Ent:=(34,A0,⟨[Z0,.int .i64],[Z28],iQ⟩)
def aeg:SQ Tryz.prog aCF:=sk (v:=t1<|t1<|t1<|t1<|.two (t1<|.one<|.loop zP) .nil) (fn:=Tryz.f34) aC8<|kC ail kN
def acw:Cx:=cX [aDN,M3,aCF] [] []
def adE:OKC Tryz.prog acw AI:=okc mixed<|gC aev<|gC N8<|gC aeg<|AL
def Lx(x:List Int×A2):Option ((List Event×A2)×A2):=(jU x).bind λc=>(Co (c.1.1,60,())).bind λa=>if A1 (a.1.1=0) then(Co (a.2.1,2,())).bind λb=>if A1 (0<=(w64<|2000+b.1.1))&&A1 ((w64<|2000+b.1.1)<=4294967296) then I (((BV (AR<|w64<|2000+b.1.1)<|dfl .CO),()),()) else A0 else(iQ (a.2.1,26,())).bind λd=>I (d.1.1.2.2.2.2.2.2.2,())
def QD:Ent:=(12,A0,⟨[.fz .u8],[.row 51 .CO],Lx⟩)
def SV:SQ Tryz.prog QD:=sk (v:= .nil) (fn:=Tryz.f12) adE kN
def ajV:Cx:=cX [HK,LA,Il,Xh] [] [(57,64)]
def XD:OKC Tryz.prog ajV AI:=okc mixed<|gC Hk<|gC M4<|gC JF<|gC fJ<|AL
def gb(x:Y2×Int×A2):Rnd (Y2×Int×A2) (Bool×A2) (A2):=if A1 (x.2.1<(x.1.2.2.2.2.2.1.length:Int)) then if inb x.2.1 x.1.2.2.2.2.2.1.length then(Od (((rd (dfl .note) x.1.2.2.2.2.2.1 x.2.1).fr,(rd (dfl .note) x.1.2.2.2.2.2.1 x.2.1).nu,(rd (dfl .note) x.1.2.2.2.2.2.1 x.2.1).to,(rd (dfl .note) x.1.2.2.2.2.2.1 x.2.1).un,(rd (dfl .note) x.1.2.2.2.2.2.1 x.2.1).tx,()),())).bind λa=>if !a.1.1 then I (.inr<|.inl (A3,())) else I (.inl (x.1,(w64<|x.2.1+1),())) else A0 else I (.inr<|.inr ())
def ur:=AW gb
def zB:Loop:=⟨[(1,Z29),(7,.int .i64)],[],6,[(2,.bool)],ur⟩
def aj4:LF Tryz.f30 [] [1,1,1,1,1,0,1,0,0] zB:=sq (v:= .nil) XD (b:=gb) kN
def gf(x:Y2×Int×A2):Rnd (Y2×Int×A2) (Bool×A2) (Y2×A2):=if A1 (x.2.1<(x.1.2.2.2.2.1.length:Int)) then if inb x.2.1 x.1.2.2.2.2.1.length then(Od (((rd (dfl .note) x.1.2.2.2.2.1 x.2.1).fr,(rd (dfl .note) x.1.2.2.2.2.1 x.2.1).nu,(rd (dfl .note) x.1.2.2.2.2.1 x.2.1).to,(rd (dfl .note) x.1.2.2.2.2.1 x.2.1).un,(rd (dfl .note) x.1.2.2.2.2.1 x.2.1).tx,()),())).bind λa=>if !a.1.1 then I (.inr<|.inl (A3,())) else I (.inl (x.1,(w64<|x.2.1+1),())) else A0 else I (.inr<|.inr (x.1,()))
def uu:=AW gf
def zC:Loop:=⟨[(1,Z29),(6,.int .i64)],[(1,Z29)],4,[(2,.bool)],uu⟩
def aj5:LF Tryz.f30 [] [1,1,1,1,0,1,0,0] zC:=sq (v:= .nil) XD (b:=gf) kN
def gh(x:Y2×Int×A2):Rnd (Y2×Int×A2) (Bool×A2) (Y2×A2):=if A1 (x.2.1<(x.1.2.2.2.1.length:Int)) then if inb x.2.1 x.1.2.2.2.1.length then let a:=(rd (dfl .Ak) x.1.2.2.2.1 x.2.1).src;let b:=(rd (dfl .Ak) x.1.2.2.2.1 x.2.1).dst;let c:=(rd (dfl .Ak) x.1.2.2.2.1 x.2.1).data;let f:=(rd (dfl .Ak) x.1.2.2.2.1 x.2.1).sp;(Fq (a,())).bind λd=>if !d.1.1 then I (.inr<|.inl (A3,())) else(Fq (b,())).bind λe=>if !e.1.1 then I (.inr<|.inl (A3,())) else if !decide ((w64<|a - b)=1) then if !decide ((w64<|b - a)=1) then I (.inr<|.inl (A3,())) else if A1 (40<(c.size:Int)) then I (.inr<|.inl (A3,())) else I (.inl (x.1,(w64<|x.2.1+1),())) else if A1 (40<(c.size:Int)) then I (.inr<|.inl (A3,())) else I (.inl (x.1,(w64<|x.2.1+1),())) else A0 else I (.inr<|.inr (x.1,()))
def uv:=AW gh
def zD:Loop:=⟨[(1,Z29),(4,.int .i64)],[(1,Z29)],2,[(2,.bool)],uv⟩
def aj9:LF Tryz.f30 [] [1,1,1,0,1,0,0] zD:=sq (v:= .nil) XD (b:=gh) kN
def gi(x:Y2×Int×A2):Rnd (Y2×Int×A2) (Bool×A2) (Y2×A2):=if A1 (x.2.1<(x.1.2.1.length:Int)) then if inb x.2.1 x.1.2.1.length then(JJ (((rd (dfl .AN) x.1.2.1 x.2.1).id,(rd (dfl .AN) x.1.2.1 x.2.1).up,(rd (dfl .AN) x.1.2.1 x.2.1).log,(rd (dfl .AN) x.1.2.1 x.2.1).fo,(rd (dfl .AN) x.1.2.1 x.2.1).AM,()),())).bind λa=>if Ah (!(!a.1.1)) (inb x.2.1 x.1.2.1.length) then if(!a.1.1)||(!decide ((rd (dfl .AN) x.1.2.1 x.2.1).id=x.2.1)) then I (.inr<|.inl (A3,())) else I (.inl (x.1,(w64<|x.2.1+1),())) else A0 else A0 else I (.inr<|.inr (x.1,()))
def uw:=AW gi
def zE:Loop:=⟨[(1,Z29),(3,.int .i64)],[(1,Z29)],0,[(2,.bool)],uw⟩
def ait:LF Tryz.f30 [] [1,1,0,1,0,0] zE:=sq (v:= .nil) XD (b:=gi) kN
def QX(x:Y2×A2):Option ((Bool×A2)×A2):=(DL (x.1.1,0,99999,())).bind λe=>if !e.1.1 then I ((A3,()),()) else if !decide ((x.1.2.1.length:Int)=4) then I ((A3,()),()) else if !decide ((x.1.2.2.1.length:Int)=3) then I ((A3,()),()) else if A1 (30<(x.1.2.2.2.1.length:Int)) then I ((A3,()),()) else if A1 (6<(x.1.2.2.2.2.1.length:Int)) then I ((A3,()),()) else if A1 (6<(x.1.2.2.2.2.2.1.length:Int)) then I ((A3,()),()) else(AP (uw (x.1,0,())) (λa=>I (a,())) λa=>(AP (uv (a.1,0,())) (λb=>I (b,())) λb=>(AP (uu (b.1,0,())) (λc=>I (c,())) λc=>(AP (ur (c.1,0,())) (λd=>I (d,())) λd=>I ((U,()),())))))
def aCM:Ent:=(30,A0,⟨[Z30],[.bool],QX⟩)
def aen:SQ Tryz.prog aCM:=sk (v:=t1<|t1<|.two (t1<|.one<|.loop zE)<|.two (t1<|.one<|.loop zD)<|.two (t1<|.one<|.loop zC)<|.two (t1<|.one<|.loop zB) .nil) (fn:=Tryz.f30) XD<|kC ait<|kC aj9<|kC aj5<|kC aj4 kN
def ajJ:Cx:=cX [NI] [] []
def aCA:OKC Tryz.prog ajJ AI:=okc mixed<|gC OQ<|AL
def iE(x:Y2×Y2×Y2×Int×A2):Rnd (Y2×Y2×Y2×Int×A2) (A2) (Y2×Y2×A2):=if A1 (x.2.2.2.1<(x.1.2.1.length:Int)) then if inb x.2.2.2.1 x.1.2.1.length then(HI (((rd (dfl .AN) x.1.2.1 x.2.2.2.1).id,(rd (dfl .AN) x.1.2.1 x.2.2.2.1).up,(rd (dfl .AN) x.1.2.1 x.2.2.2.1).log,(rd (dfl .AN) x.1.2.1 x.2.2.2.1).fo,(rd (dfl .AN) x.1.2.1 x.2.2.2.1).AM,()),())).bind λa=>if Af (x.2.2.1.2.1.length+([(AA.mk a.1.1.1 a.1.1.2.1 a.1.1.2.2.1 a.1.1.2.2.2.1 a.1.1.2.2.2.2.1)]:List AA).length) then I (.inl (x.1,x.2.1,(x.2.2.1.1,(x.2.2.1.2.1++([(AA.mk a.1.1.1 a.1.1.2.1 a.1.1.2.2.1 a.1.1.2.2.2.1 a.1.1.2.2.2.2.1)]:List AA)),x.2.2.1.2.2),(w64<|x.2.2.2.1+1),())) else A0 else A0 else I (.inr<|.inr (x.2.1,x.2.2.1,()))
def fA:=AW iE
def zT:Loop:=⟨[(1,Z29),(2,Z2),(3,Z2),(4,.int .i64)],[(2,Z2),(3,Z2)],0,[],fA⟩
def ain:LF Tryz.f54 [] [1,1,0,1,0,0] zT:=sq (v:= .nil) aCA (b:=iE) kN
def QV(x:Y2×A2):Option ((Y2×A2)×A2):=if Af (([]:List Bool).length+x.1.2.2.1.length) then if Af (([]:List AO).length+x.1.2.2.2.1.length) then if Af (([]:List A6).length+x.1.2.2.2.2.1.length) then if Af (([]:List A6).length+x.1.2.2.2.2.2.1.length) then(AP (fA (x.1,(0,([]:List AA),([]:List Bool),([]:List AO),([]:List A6),([]:List A6),()),(x.1.1,([]:List AA),(([]:List Bool)++x.1.2.2.1),(([]:List AO)++x.1.2.2.2.1),(([]:List A6)++x.1.2.2.2.2.1),(([]:List A6)++x.1.2.2.2.2.2.1),()),0,())) (λ_=>A0) λa=>I (a.2,())) else A0 else A0 else A0 else A0
def aCH:Ent:=(54,A0,⟨[Z30],[Z3],QV⟩)
def aei:SQ Tryz.prog aCH:=sk (v:=t1<|t1<|.two (t1<|.one<|.loop zT) .nil) (fn:=Tryz.f54) aCA<|kC ain kN
def ajW:Cx:=cX [aCM,aCH,aDk] [] []
def aoE:OKC Tryz.prog ajW AI:=okc mixed<|gC aen<|gC aei<|gC ah6<|AL
def OW(x:Y2×Y6×A2):Option ((Y2×Bool×A2)×A2):=(QX (x.1,())).bind λb=>if !b.1.1 then I (((0,([]:List AA),([]:List Bool),([]:List AO),([]:List A6),([]:List A6),()),A3,()),()) else if A1 (99999<=x.1.1) then(QV (x.1,())).bind λc=>I ((c.1.1,A3,()),()) else(QV (x.1,())).bind λd=>(Xk (d.1.1,x.2)).bind λa=>if !a.1.2.1 then(QV (x.1,())).bind λe=>I ((e.1.1,A3,()),()) else(QV (a.1.1,())).bind λf=>I ((f.1.1,U,()),())
def aCN:Ent:=(36,A0,⟨[Z30,Z13],[Z3,.bool],OW⟩)
def aeo:SQ Tryz.prog aCN:=sk (v:= .nil) (fn:=Tryz.f36) aoE kN
def ah0:Cx:=cX [vr,aCN] [] []
def zZ:OKC Tryz.prog ah0 AI:=okc mixed<|gC abr<|gC aeo<|AL
def fI(x:List Event×Y2×Y2×Int×A2):Rnd (List Event×Y2×Y2×Int×A2) (A2) (Y2×Y2×A2):=if A1 (x.2.2.2.1<(x.1.length:Int)) then if inb x.2.2.2.1 x.1.length then(OW (x.2.2.1,((rd (dfl .CO) x.1 x.2.2.2.1).ki,(rd (dfl .CO) x.1 x.2.2.2.1).at_,(rd (dfl .CO) x.1 x.2.2.2.1).fr,(rd (dfl .CO) x.1 x.2.2.2.1).nu,(rd (dfl .CO) x.1 x.2.2.2.1).wo,(rd (dfl .CO) x.1 x.2.2.2.1).mix,(rd (dfl .CO) x.1 x.2.2.2.1).kp,(rd (dfl .CO) x.1 x.2.2.2.1).to,(rd (dfl .CO) x.1 x.2.2.2.1).un,(rd (dfl .CO) x.1 x.2.2.2.1).tx,()),())).bind λa=>I (.inl (x.1,x.2.1,a.1.1,(w64<|x.2.2.2.1+1),())) else A0 else I (.inr<|.inr (x.2.1,x.2.2.1,()))
def dY:=AW fI
def xO:Loop:=⟨[(0,.sl .CO),(2,Z2),(3,Z2),(4,.int .i64)],[(2,Z2),(3,Z2)],0,[],dY⟩
def agM:LF Tryz.f14 [] [1,1,1,0,1,0,0] xO:=sq (v:= .nil) zZ (b:=fI) kN
def N9(x:List Event×A2):Option ((Y2×A2)×A2):=(Si ()).bind λa=>if A1 (2000<(x.1.length:Int)) then I (a.1,()) else(AP (dY (x.1,(0,([]:List AA),([]:List Bool),([]:List AO),([]:List A6),([]:List A6),()),a.1.1,0,())) (λ_=>A0) λb=>I (b.2,()))
def QJ:Ent:=(14,A0,⟨[.fz .CO],[Z3],N9⟩)
def SW:SQ Tryz.prog QJ:=sk (v:=t1<|t1<|t1<|.two (t1<|.one<|.loop xO) .nil) (fn:=Tryz.f14) zZ<|kC agM kN
def acz:Cx:=cX [] [] []
def adX:OKC Tryz.prog acz AI:=okc mixed<|AL
def dV(x:List AA×A2):Option ((List AA×A2)×A2):=if A1 ((x.1.length:Int)=0) then I ((([]:List AA),()),()) else if A1 (0<=(x.1.length:Int))&&A1 ((x.1.length:Int)<=4294967296) then I (((BS (BV (AR (x.1.length:Int))<|dfl .AN).length x.1++Bv x.1.length (BV (AR (x.1.length:Int))<|dfl .AN)),()),()) else A0
def xD:Ent:=(70,A0,⟨[.fz .AN],[.row 45 .AN],dV⟩)
def acP:SQ Tryz.prog xD:=sk (v:= .nil) (fn:=Tryz.f70) adX kN
def ady:Cx:=cX [] [] []
def af8:OKC Tryz.prog ady AI:=okc mixed<|AL
def eU(x:List Bool×A2):Option ((List Bool×A2)×A2):=if A1 ((x.1.length:Int)=0) then I ((([]:List Bool),()),()) else if A1 (0<=(x.1.length:Int))&&A1 ((x.1.length:Int)<=4294967296) then I (((BS (BV (AR (x.1.length:Int))<|dfl .bool).length x.1++Bv x.1.length (BV (AR (x.1.length:Int))<|dfl .bool)),()),()) else A0
def xm:Ent:=(71,A0,⟨[.fz .bool],[.row 4 .bool],eU⟩)
def acT:SQ Tryz.prog xm:=sk (v:= .nil) (fn:=Tryz.f71) af8 kN
def acy:Cx:=cX [] [] []
def adW:OKC Tryz.prog acy AI:=okc mixed<|AL
def df(x:List AO×A2):Option ((List AO×A2)×A2):=if A1 ((x.1.length:Int)=0) then I ((([]:List AO),()),()) else if A1 (0<=(x.1.length:Int))&&A1 ((x.1.length:Int)<=4294967296) then I (((BS (BV (AR (x.1.length:Int))<|dfl .Ak).length x.1++Bv x.1.length (BV (AR (x.1.length:Int))<|dfl .Ak)),()),()) else A0
def xC:Ent:=(72,A0,⟨[.fz .Ak],[.row 59 .Ak],df⟩)
def acO:SQ Tryz.prog xC:=sk (v:= .nil) (fn:=Tryz.f72) adW kN
def adz:Cx:=cX [] [] []
def af9:OKC Tryz.prog adz AI:=okc mixed<|AL
def OS(x:List A6×A2):Option ((List A6×A2)×A2):=if A1 ((x.1.length:Int)=0) then I ((([]:List A6),()),()) else if A1 (0<=(x.1.length:Int))&&A1 ((x.1.length:Int)<=4294967296) then I (((BS (BV (AR (x.1.length:Int))<|dfl .note).length x.1++Bv x.1.length (BV (AR (x.1.length:Int))<|dfl .note)),()),()) else A0
def vJ:Ent:=(73,A0,⟨[.fz .note],[.row 36 .note],OS⟩)
def abk:SQ Tryz.prog vJ:=sk (v:= .nil) (fn:=Tryz.f73) af9 kN
def ae1:Cx:=cX [] [] []
def afB:OKC Tryz.prog ae1 AI:=okc mixed<|AL
def uh(x:List AJ×A2):Option ((List AJ×A2)×A2):=if A1 ((x.1.length:Int)=0) then I ((([]:List AJ),()),()) else if A1 (0<=(x.1.length:Int))&&A1 ((x.1.length:Int)<=4294967296) then I (((BS (BV (AR (x.1.length:Int))<|dfl .half).length x.1++Bv x.1.length (BV (AR (x.1.length:Int))<|dfl .half)),()),()) else A0
def xS:Ent:=(116,A0,⟨[.fz .half],[.row 107 .half],uh⟩)
def acV:SQ Tryz.prog xS:=sk (v:= .nil) (fn:=Tryz.f116) afB kN
def adJ:Cx:=cX [] [] []
def ade:OKC Tryz.prog adJ AI:=okc mixed<|AL
def uO(x:List AX×A2):Option ((List AX×A2)×A2):=if A1 ((x.1.length:Int)=0) then I ((([]:List AX),()),()) else if A1 (0<=(x.1.length:Int))&&A1 ((x.1.length:Int)<=4294967296) then I (((BS (BV (AR (x.1.length:Int))<|dfl .mixed).length x.1++Bv x.1.length (BV (AR (x.1.length:Int))<|dfl .mixed)),()),()) else A0
def wb:Ent:=(117,A0,⟨[.fz .mixed],[.row 142 .mixed],uO⟩)
def acS:SQ Tryz.prog wb:=sk (v:= .nil) (fn:=Tryz.f117) ade kN
def afY:Cx:=cX [xS,wb] [] []
def yr:OKC Tryz.prog afY AI:=okc mixed<|gC acV<|gC acS<|AL
def eQ(x:Y1×Y1×Int×Int×A2):Rnd (Y1×Y1×Int×Int×A2) (A2) (Y1×Y1×A2):=if A1 (x.2.2.2.1<x.2.2.1) then if inb x.2.2.2.1 x.2.1.2.2.2.2.1.length then(uO ((rd (dfl .half) x.2.1.2.2.2.2.1 x.2.2.2.1).got,())).bind λa=>if inb x.2.2.2.1 x.2.1.2.2.2.2.1.length then I (.inl (x.1,(x.2.1.1,x.2.1.2.1,x.2.1.2.2.1,x.2.1.2.2.2.1,(Bw x.2.1.2.2.2.2.1 (AR x.2.2.2.1)<|AJ.mk ((rd (dfl .half) x.2.1.2.2.2.2.1 x.2.2.2.1).fr) ((rd (dfl .half) x.2.1.2.2.2.2.1 x.2.2.2.1).nu) ((rd (dfl .half) x.2.1.2.2.2.2.1 x.2.2.2.1).to) ((rd (dfl .half) x.2.1.2.2.2.2.1 x.2.2.2.1).un) ((rd (dfl .half) x.2.1.2.2.2.2.1 x.2.2.2.1).sz) a.1.1),()),x.2.2.1,(w64<|x.2.2.2.1+1),())) else A0 else A0 else I (.inr<|.inr (x.1,x.2.1,()))
def tG:=AW eQ
def wz:Loop:=⟨[(2,Z20),(3,Z20),(12,.int .i64),(13,.int .i64)],[(2,Z20),(3,Z20)],0,[],tG⟩
def aef:LF Tryz.f74 [] [1,1,1,0,1,0,0] wz:=sq (v:= .nil) yr (b:=eQ) kN
def I9(x:Y1×A2):Option ((Y1×A2)×A2):=(uh x.1.2.2.2.2).bind λa=>(AP (tG ((0,A3,noB,0,([]:List AJ),()),(x.1.1,x.1.2.1,x.1.2.2.1,x.1.2.2.2.1,a.1),(a.1.1.length:Int),0,())) (λ_=>A0) λb=>I (b.2,()))
def Ly:Ent:=(74,A0,⟨[Z12],[Z1],I9⟩)
def N7:SQ Tryz.prog Ly:=sk (v:=t1<|t1<|t1<|.two (t1<|.one<|.loop wz) .nil) (fn:=Tryz.f74) yr<|kC aef kN
def aga:Cx:=cX [xD,xm,xC,vJ,Ly] [] []
def za:OKC Tryz.prog aga AI:=okc mixed<|gC acP<|gC acT<|gC acO<|gC abk<|gC N7<|AL
def fK(x:Y2×Y2×Int×Int×A2):Rnd (Y2×Y2×Int×Int×A2) (A2) (Y2×Y2×A2):=if A1 (x.2.2.2.1<x.2.2.1) then if inb x.2.2.2.1 x.2.1.2.1.length then(I9 (((rd (dfl .AN) x.2.1.2.1 x.2.2.2.1).id,(rd (dfl .AN) x.2.1.2.1 x.2.2.2.1).up,(rd (dfl .AN) x.2.1.2.1 x.2.2.2.1).log,(rd (dfl .AN) x.2.1.2.1 x.2.2.2.1).fo,(rd (dfl .AN) x.2.1.2.1 x.2.2.2.1).AM,()),())).bind λa=>if inb x.2.2.2.1 x.2.1.2.1.length then I (.inl (x.1,(x.2.1.1,(Bw x.2.1.2.1 (AR x.2.2.2.1)<|AA.mk a.1.1.1 a.1.1.2.1 a.1.1.2.2.1 a.1.1.2.2.2.1 a.1.1.2.2.2.2.1),x.2.1.2.2),x.2.2.1,(w64<|x.2.2.2.1+1),())) else A0 else A0 else I (.inr<|.inr (x.1,x.2.1,()))
def de:=AW fK
def xo:Loop:=⟨[(2,Z2),(3,Z2),(25,.int .i64),(26,.int .i64)],[(2,Z2),(3,Z2)],0,[],de⟩
def agO:LF Tryz.f39 [] [1,1,0,1,0,0] xo:=sq (v:= .nil) za (b:=fK) kN
def K6(x:Y2×A2):Option ((Y2×A2)×A2):=(dV (x.1.2.1,())).bind λa=>(eU (x.1.2.2.1,())).bind λb=>(df (x.1.2.2.2.1,())).bind λc=>(OS (x.1.2.2.2.2.1,())).bind λd=>(OS x.1.2.2.2.2.2).bind λe=>(AP (de ((0,([]:List AA),([]:List Bool),([]:List AO),([]:List A6),([]:List A6),()),(x.1.1,a.1.1,b.1.1,c.1.1,d.1.1,e.1),(a.1.1.length:Int),0,())) (λ_=>A0) λf=>I (f.2,()))
def gE:Ent:=(39,A0,⟨[Z30],[Z3],K6⟩)
def tV:SQ Tryz.prog gE:=sk (v:=t1<|t1<|.two (t1<|.one<|.loop xo) .nil) (fn:=Tryz.f39) za<|kC agO kN
def asO:Cx:=cX [] [] [(11,13)]
def au3:OKC Tryz.prog asO AI:=okc mixed<|AL
def CD(x:Int×Int×Int×A2):Option ((Bool×A2)×A2):=let a:=((A1<|x.2.1<=x.1)&&(A1<|x.1<=x.2.2.1));I ((a,()),())
def FZ:Ent:=(60,A0,⟨[.int .i64,.int .i64,.int .i64],[.bool],CD⟩)
def Fv:SQ Tryz.prog FZ:=sk (v:= .nil) (fn:=Tryz.f60) au3 kN
def aoW:Cx:=cX [FZ] [] []
def aph:OKC Tryz.prog aoW AI:=okc mixed<|gC Fv<|AL
def Fu(x:Int×A2):Option ((Bool×A2)×A2):=(CD (x.1,0,3,())).bind λa=>I (a.1,())
def JG:Ent:=(62,A0,⟨[.int .i64],[.bool],Fu⟩)
def Jz:SQ Tryz.prog JG:=sk (v:= .nil) (fn:=Tryz.f62) aph kN
def adY:Cx:=cX [JG] [] []
def afC:OKC Tryz.prog adY AI:=okc mixed<|gC Jz<|AL
def vG(x:Int×A2):Option ((Y1×A2)×A2):=(Fu x).bind λa=>if !a.1.1 then I (((0,A3,noB,0,([]:List AJ),()),()),()) else I (((x.1,U,noB,0,([]:List AJ),()),()),())
def xT:Ent:=(66,A0,⟨[.int .i64],[Z1],vG⟩)
def acW:SQ Tryz.prog xT:=sk (v:= .nil) (fn:=Tryz.f66) afC kN
def aey:Cx:=cX [gE,xT] [] []
def yt:OKC Tryz.prog aey AI:=okc mixed<|gC tV<|gC acW<|AL
def WJ(x:Y2×Y2×Int×A2):Rnd (Y2×Y2×Int×A2) (A2) (Y2×Y2×A2):=if A1 (x.2.2.1<4) then(vG x.2.2).bind λa=>if Af (x.2.1.2.1.length+([(AA.mk a.1.1.1 a.1.1.2.1 a.1.1.2.2.1 a.1.1.2.2.2.1 a.1.1.2.2.2.2.1)]:List AA).length) then if A1 (0<x.2.2.1) then if Af (x.2.1.2.2.1.length+([U]:List Bool).length) then I (.inl (x.1,(x.2.1.1,(x.2.1.2.1++([(AA.mk a.1.1.1 a.1.1.2.1 a.1.1.2.2.1 a.1.1.2.2.2.1 a.1.1.2.2.2.2.1)]:List AA)),(x.2.1.2.2.1++([U]:List Bool)),x.2.1.2.2.2),(w64<|x.2.2.1+1),())) else A0 else I (.inl (x.1,(x.2.1.1,(x.2.1.2.1++([(AA.mk a.1.1.1 a.1.1.2.1 a.1.1.2.2.1 a.1.1.2.2.2.1 a.1.1.2.2.2.2.1)]:List AA)),x.2.1.2.2),(w64<|x.2.2.1+1),())) else A0 else I (.inr<|.inr (x.1,x.2.1,()))
def dh:=AW WJ
def wY:Loop:=⟨[(0,Z2),(1,Z2),(2,.int .i64)],[(0,Z2),(1,Z2)],0,[],dh⟩
def aeP:LF Tryz.f37 [] [1,1,0,1,0,0] wY:=sq (v:= .nil) yt (b:=WJ) kN
def fP(x:A2):Option ((Y2×A2)×A2):=(AP (dh ((0,([]:List AA),([]:List Bool),([]:List AO),([]:List A6),([]:List A6),()),(0,([]:List AA),([]:List Bool),([]:List AO),([]:List A6),([]:List A6),()),0,())) (λ_=>A0) λa=>(K6 a.2).bind λb=>I (b.1,()))
def yj:Ent:=(37,A0,⟨[],[Z3],fP⟩)
def acp:SQ Tryz.prog yj:=sk (v:=t1<|t1<|.two (t1<|.one<|.loop wY) .nil) (fn:=Tryz.f37) yt<|kC aeP kN
def aoe:Cx:=cX [FZ] [] [(20,29)]
def apn:OKC Tryz.prog aoe AI:=okc mixed<|gC Fv<|AL
def jh(x:Y2×Y6×A2):Option ((Bool×A2)×(Y2×A2)):=(CD (x.2.1.2.1,0,(w64<|(x.1.2.2.1.length:Int) - 1),())).bind λa=>if Ah (!(!a.1.1)) (inb x.2.1.2.1 x.1.2.2.1.length) then if(!a.1.1)||(A1<|(rd (dfl .bool) x.1.2.2.1 x.2.1.2.1)=(A1<|x.2.1.1=9)) then I ((A3,()),(x.1,())) else if inb x.2.1.2.1 x.1.2.2.1.length then I ((U,()),((x.1.1,x.1.2.1,(Bw x.1.2.2.1 (AR x.2.1.2.1)<|A1<|x.2.1.1=9),x.1.2.2.2),())) else A0 else A0
def aCu:Ent:=(67,A0,⟨[Z2,Z13],[.bool],jh⟩)
def afz:SQ Tryz.prog aCu:=sk (v:= .nil) (fn:=Tryz.f67) apn kN
def agb:Cx:=cX [] [] []
def aiF:OKC Tryz.prog agb AI:=okc mixed<|AL
def Wa(x:List AO×Int×A2):Option ((List AO×A2)×A2):=if A1 (0<=x.2.1)&&A1 (x.2.1<=(x.1.length:Int)) then if Af (([]:List AO).length+(BS (AR x.2.1) x.1).length) then if A1 (0<=(w64<|x.2.1+1))&&A1 ((w64<|x.2.1+1)<=(x.1.length:Int)) then if Af ((([]:List AO)++(BS (AR x.2.1) x.1)).length+(Bv (AR<|w64<|x.2.1+1) x.1).length) then I ((((([]:List AO)++(BS (AR x.2.1) x.1))++(Bv (AR<|w64<|x.2.1+1) x.1)),()),()) else A0 else A0 else A0 else A0
def zu:Ent:=(104,A0,⟨[.fz .Ak,.int .i64],[.row 59 .Ak],Wa⟩)
def ad9:SQ Tryz.prog zu:=sk (v:= .nil) (fn:=Tryz.f104) aiF kN
def aid:Cx:=cX [JG] [] []
def akD:OKC Tryz.prog aid AI:=okc mixed<|gC Jz<|AL
def I6(x:Int×Int×A2):Option ((Int×A2)×A2):=(BW (X:=Int×Int×Bool×A2) (λa=>if a.2.2.1 then I (((-1),()),()) else if A1 (a.1<a.2.1) then I (((w64<|a.1+1),()),()) else I (((w64<|a.1 - 1),()),()))<|(Fu (x.1,())).bind λb=>if !b.1.1 then I (.inr (x.1,x.2.1,U,())) else(Fu x.2).bind λc=>if !c.1.1 then I (.inr (x.1,x.2.1,U,())) else I (.inr (x.1,x.2.1,(A1<|x.1=x.2.1),())))
def Sx:Ent:=(44,A0,⟨[.int .i64,.int .i64],[.int .i64],I6⟩)
def Vy:SQ Tryz.prog Sx:=sk (v:=t1<|.two (.one<|.join [(0,.int .i64),(1,.int .i64),(5,.bool)] .nil .nil) .nil) (fn:=Tryz.f44) akD kN
def akT:Cx:=cX [Sx,FZ,JG] [] [(56,63),(82,89)]
def ao0:OKC Tryz.prog akT AI:=okc mixed<|gC Vy<|gC Fv<|gC Jz<|AL
def XJ(x:Y6×A2):Option ((Bool×A2)×A2):=(Fu (x.1.2.1,())).bind λb=>if !b.1.1 then I ((A3,()),()) else(Fu (x.1.2.2.1,())).bind λc=>if !c.1.1 then I ((A3,()),()) else(Fu (x.1.2.2.2.1,())).bind λd=>if !d.1.1 then I ((A3,()),()) else(Fu (x.1.2.2.2.2.2.1,())).bind λe=>if !e.1.1 then I ((A3,()),()) else(CD (x.1.2.2.2.2.1,1,99,())).bind λf=>if !f.1.1 then I ((A3,()),()) else(CD (x.1.2.2.2.2.2.2.1,1,999,())).bind λg=>if !g.1.1 then I ((A3,()),()) else if A1 (x.1.1=1) then(CD (x.1.2.2.2.2.2.2.2.1,1,24,())).bind λh=>if h.1.1 then(CD (x.1.2.2.2.2.2.2.2.2.1,0,999,())).bind λi=>if i.1.1 then if Ah (A1<|(x.1.2.2.2.2.2.2.2.2.2.1.size:Int)=4) ((I6 (x.1.2.1,x.1.2.2.2.2.2.1,())).isSome) then let j:=((A1<|(x.1.2.2.2.2.2.2.2.2.2.1.size:Int)=4)&&(A1<|x.1.2.2.1=((I6 (x.1.2.1,x.1.2.2.2.2.2.1,())).getD ((0,()),())).1.1));I ((j,()),()) else A0 else if Ah A3 ((I6 (x.1.2.1,x.1.2.2.2.2.2.1,())).isSome) then I ((A3,()),()) else A0 else if Ah A3 ((I6 (x.1.2.1,x.1.2.2.2.2.2.1,())).isSome) then I ((A3,()),()) else A0 else(BW (X:=Y6×Bool×A2) (λa=>if a.2.1 then if A1 (a.1.2.2.2.2.2.2.2.1=0) then if A1 (a.1.2.2.2.2.2.2.2.2.1=0) then if Ah (A1<|a.1.2.2.2.2.2.2.2.2.2.1=noB) ((I6 (a.1.2.2.1,a.1.2.2.2.2.2.1,())).isSome) then let k:=((A1<|a.1.2.2.2.2.2.2.2.2.2.1=noB)&&(A1<|a.1.2.1=((I6 (a.1.2.2.1,a.1.2.2.2.2.2.1,())).getD ((0,()),())).1.1));I ((k,()),()) else A0 else if Ah A3 ((I6 (a.1.2.2.1,a.1.2.2.2.2.2.1,())).isSome) then I ((A3,()),()) else A0 else if Ah A3 ((I6 (a.1.2.2.1,a.1.2.2.2.2.2.1,())).isSome) then I ((A3,()),()) else A0 else I ((A3,()),()))<|(if A1 (x.1.1=2) then I (.inr (x.1,(A1<|x.1.1=2),())) else I (.inr (x.1,(A1<|x.1.1=3),()))))
def kW:Ent:=(146,A0,⟨[Z13],[.bool],XJ⟩)
def xf:SQ Tryz.prog kW:=sk (v:=t1<|t1<|.two (t1<|.one<|t1<|t1<|.join [(1,Z14),(65,.bool)] .nil .nil) .nil) (fn:=Tryz.f146) ao0 kN
def aih:Cx:=cX [] [] []
def aBV:OKC Tryz.prog aih AI:=okc mixed<|AL
def gD(x:Int×List Int×Int×Int×A2):Rnd (Int×List Int×Int×Int×A2) (A2) (Int×A2):=if A1 (x.2.2.2.1<x.2.2.1) then if inb x.2.2.2.1 x.2.1.length then let a:=(rd (dfl .u8) x.2.1 x.2.2.2.1);let b:=(BO (w64<|x.1+(w64<|(w64 a) * (w64<|(BO x.2.2.2.1 1000)+1))) 65521);I (.inl (b,x.2.1,x.2.2.1,(w64<|x.2.2.2.1+1),())) else A0 else I (.inr<|.inr (x.1,()))
def eG:=AW gD
def yg:Loop:=⟨[(3,.int .i64),(6,.sl .u8),(7,.int .i64),(8,.int .i64)],[(3,.int .i64)],0,[],eG⟩
def ai3:LF Tryz.f182 [] [1,1,0,1,0,0] yg:=sq (v:= .nil) aBV (b:=gD) kN
def Wv(x:List Int×A2):Option ((Int×A2)×A2):=(AP (eG (0,x.1,(x.1.length:Int),0,())) (λ_=>A0) λa=>I (a,()))
def aBP:Ent:=(182,A0,⟨[.fz .u8],[.int .i64],Wv⟩)
def adj:SQ Tryz.prog aBP:=sk (v:=t1<|t1<|.two (t1<|.one<|.loop yg) .nil) (fn:=Tryz.f182) aBV<|kC ai3 kN
def adx:Cx:=cX [] [] []
def af7:OKC Tryz.prog adx AI:=okc mixed<|AL
def eS(x:List Int×A2):Option ((List Int×A2)×A2):=if A1 ((x.1.length:Int)=0) then I ((([]:List Int),()),()) else if A1 (0<=(x.1.length:Int))&&A1 ((x.1.length:Int)<=4294967296) then I (((BS (BV (AR (x.1.length:Int))<|dfl .u8).length x.1++Bv x.1.length (BV (AR (x.1.length:Int))<|dfl .u8)),()),()) else A0
def xl:Ent:=(183,A0,⟨[.fz .u8],[.row 5 .u8],eS⟩)
def acd:SQ Tryz.prog xl:=sk (v:= .nil) (fn:=Tryz.f183) af7 kN
def agt:Cx:=cX [kW,aBP,xl] [] []
def aiP:OKC Tryz.prog agt AI:=okc mixed<|gC xf<|gC adj<|gC acd<|AL
def QI(x:Y6×A2):Option ((List Int×A2)×A2):=(XJ x).bind λc=>if !c.1.1 then I ((([]:List Int),()),()) else(BW (X:=List Int×A2) (λb=>(Wv b).bind λa=>if Af (b.1.length+([(w8<|w64<|B5 a.1.1 256),(w8<|BO a.1.1 256)]:List Int).length) then(eS ((b.1++([(w8<|w64<|B5 a.1.1 256),(w8<|BO a.1.1 256)]:List Int)),())).bind λd=>I (d.1,()) else A0)<|(if A1 (x.1.1=1) then if Af (([(w8 x.1.1),(w8 x.1.2.1),(w8 x.1.2.2.1),(w8 x.1.2.2.2.1),(w8 x.1.2.2.2.2.1),(w8 x.1.2.2.2.2.2.1),(w8<|w64<|B5 x.1.2.2.2.2.2.2.1 256),(w8<|BO x.1.2.2.2.2.2.2.1 256)]:List Int).length+([(w8 x.1.2.2.2.2.2.2.2.1),(w8<|w64<|B5 x.1.2.2.2.2.2.2.2.2.1 256),(w8<|BO x.1.2.2.2.2.2.2.2.2.1 256)]:List Int).length) then if Af ((([(w8 x.1.1),(w8 x.1.2.1),(w8 x.1.2.2.1),(w8 x.1.2.2.2.1),(w8 x.1.2.2.2.2.1),(w8 x.1.2.2.2.2.2.1),(w8<|w64<|B5 x.1.2.2.2.2.2.2.1 256),(w8<|BO x.1.2.2.2.2.2.2.1 256)]:List Int)++([(w8 x.1.2.2.2.2.2.2.2.1),(w8<|w64<|B5 x.1.2.2.2.2.2.2.2.2.1 256),(w8<|BO x.1.2.2.2.2.2.2.2.2.1 256)]:List Int)).length+(BF x.1.2.2.2.2.2.2.2.2.2.1).length) then I (.inr (((([(w8 x.1.1),(w8 x.1.2.1),(w8 x.1.2.2.1),(w8 x.1.2.2.2.1),(w8 x.1.2.2.2.2.1),(w8 x.1.2.2.2.2.2.1),(w8<|w64<|B5 x.1.2.2.2.2.2.2.1 256),(w8<|BO x.1.2.2.2.2.2.2.1 256)]:List Int)++([(w8 x.1.2.2.2.2.2.2.2.1),(w8<|w64<|B5 x.1.2.2.2.2.2.2.2.2.1 256),(w8<|BO x.1.2.2.2.2.2.2.2.2.1 256)]:List Int))++(BF x.1.2.2.2.2.2.2.2.2.2.1)),())) else A0 else A0 else I (.inr (([(w8 x.1.1),(w8 x.1.2.1),(w8 x.1.2.2.1),(w8 x.1.2.2.2.1),(w8 x.1.2.2.2.2.1),(w8 x.1.2.2.2.2.2.1),(w8<|w64<|B5 x.1.2.2.2.2.2.2.1 256),(w8<|BO x.1.2.2.2.2.2.2.1 256)]:List Int),()))))
def wF:Ent:=(145,A0,⟨[Z13],[.row 5 .u8],QI⟩)
def xB:SQ Tryz.prog wF:=sk (v:=t1<|t1<|t1<|.join [(3,.row 5 .u8)] .nil .nil) (fn:=Tryz.f145) aiP kN
def ada:Cx:=cX [wF] [] [(9,11)]
def afE:OKC Tryz.prog ada AI:=okc mixed<|gC xB<|AL
def fF(x:List Int×A2):Option ((Y6×Bool×A2)×A2):=if(!decide ((x.1.length:Int)=10))&&(!decide ((x.1.length:Int)=17)) then I (((0,0,0,0,0,0,0,0,0,noB,()),A3,()),()) else if inb 0 x.1.length then if inb 1 x.1.length then if inb 2 x.1.length then if inb 3 x.1.length then if inb 4 x.1.length then if inb 5 x.1.length then if inb 6 x.1.length then if inb 7 x.1.length then let b:=(w64<|rd (dfl .u8) x.1 0);let c:=(w64<|rd (dfl .u8) x.1 1);let d:=(w64<|rd (dfl .u8) x.1 2);let e:=(w64<|rd (dfl .u8) x.1 3);let f:=(w64<|rd (dfl .u8) x.1 4);let g:=(w64<|rd (dfl .u8) x.1 5);let h:=(w64<|(w64<|256 * (w64<|rd (dfl .u8) x.1 6))+(w64<|rd (dfl .u8) x.1 7));(BW (X:=List Int×Y6×Y6×A2) (λa=>(QI a.2.2).bind λi=>if !decide ((BK i.1.1)=(BK a.1)) then I (((0,0,0,0,0,0,0,0,0,noB,()),A3,()),()) else I ((a.2.2.1,U,()),()))<|(if A1 ((x.1.length:Int)=17) then if inb 8 x.1.length then let j:=(w64<|rd (dfl .u8) x.1 8);(if inb 9 x.1.length then if inb 10 x.1.length then let k:=(w64<|(w64<|256 * (w64<|rd (dfl .u8) x.1 9))+(w64<|rd (dfl .u8) x.1 10));(if(A1 (0<=15)&&A1 (15<=(x.1.length:Int)))&&(A1 (0<=11)&&A1 (11<=15)) then let l:=(BK<|Bv (AR 11)<|BS (AR 15) x.1);I (.inr (x.1,(0,0,0,0,0,0,0,0,0,noB,()),(b,c,d,e,f,g,h,j,k,l,()),())) else A0) else A0 else A0) else A0 else I (.inr (x.1,(0,0,0,0,0,0,0,0,0,noB,()),(b,c,d,e,f,g,h,0,0,noB,()),())))) else A0 else A0 else A0 else A0 else A0 else A0 else A0 else A0
def xV:Ent:=(105,A0,⟨[.fz .u8],[Z13,.bool],fF⟩)
def aci:SQ Tryz.prog xV:=sk (v:=t1<|t1<|t1<|.join [(0,.sl .u8),(2,Z14),(4,Z14)] .nil .nil) (fn:=Tryz.f105) afE kN
def acx:Cx:=cX [] [] []
def adV:OKC Tryz.prog acx AI:=okc mixed<|AL
def SX(x:List A4×A2):Option ((List A4×A2)×A2):=if A1 ((x.1.length:Int)=0) then I ((([]:List A4),()),()) else if A1 (0<=(x.1.length:Int))&&A1 ((x.1.length:Int)<=4294967296) then I (((BS (BV (AR (x.1.length:Int))<|dfl .str).length x.1++Bv x.1.length (BV (AR (x.1.length:Int))<|dfl .str)),()),()) else A0
def eC:Ent:=(118,A0,⟨[.fz .str],[.row 9 .str],SX⟩)
def su:SQ Tryz.prog eC:=sk (v:= .nil) (fn:=Tryz.f118) adV kN
def akI:Cx:=cX [FZ] [] [(11,18)]
def aCT:OKC Tryz.prog akI AI:=okc mixed<|gC Fv<|AL
def gu(x:A4×Int×Int×A2):Rnd (A4×Int×Int×A2) (Int×Bool×A2) (Int×A2):=if A1 (x.2.2.1<(x.1.size:Int)) then if inb x.2.2.1 x.1.size then(CD ((w64<|bt x.1 x.2.2.1),48,57,())).bind λa=>if !a.1.1 then I (.inr<|.inl (0,A3,())) else if inb x.2.2.1 x.1.size then let b:=(w64<|(w64<|10 * x.2.1)+(w64<|w8<|(bt x.1 x.2.2.1) - 48));I (.inl (x.1,b,(w64<|x.2.2.1+1),())) else A0 else A0 else I (.inr<|.inr (x.2.1,()))
def ub:=AW gu
def aA9:Loop:=⟨[(0,.str),(4,.int .i64),(5,.int .i64)],[(4,.int .i64)],0,[(2,.int .i64),(3,.bool)],ub⟩
def ajp:LF Tryz.f119 [] [1,1,1,0,1,0,0] aA9:=sq (v:= .nil) aCT (b:=gu) kN
def QZ(x:A4×A2):Option ((Int×Bool×A2)×A2):=(CD ((x.1.size:Int),1,5,())).bind λb=>if Ah (!(!b.1.1)) (inb 0 x.1.size) then if(!b.1.1)||((A1<|(bt x.1 0)=48)&&(A1<|1<(x.1.size:Int))) then I ((0,A3,()),()) else(AP (ub (x.1,0,0,())) (λa=>I (a,())) λa=>I ((a.1,U,()),())) else A0
def jP:Ent:=(119,A0,⟨[.str],[.int .i64,.bool],QZ⟩)
def ua:SQ Tryz.prog jP:=sk (v:=t1<|t1<|t1<|.two (t1<|.one<|.loop aA9) .nil) (fn:=Tryz.f119) aCT<|kC ajp kN
def agf:Cx:=cX [FZ,eC,jP] [] [(26,29),(38,41)]
def wI:OKC Tryz.prog agf AI:=okc mixed<|gC Fv<|gC su<|gC ua<|AL
def fN(x:A4×List A4×Int×Int×A2):Rnd (A4×List A4×Int×Int×A2) (A2) (A4×List A4×Int×Int×A2):=if A1 (x.2.2.2.1<(x.1.size:Int)) then if Ah (A1<|x.2.2.2.1<(w64<|x.2.2.1+3)) (inb x.2.2.2.1 x.1.size) then if(A1<|x.2.2.2.1<(w64<|x.2.2.1+3))&&(!decide ((bt x.1 x.2.2.2.1)=58)) then I (.inl (x.1,x.2.1,x.2.2.1,(w64<|x.2.2.2.1+1),())) else I (.inr<|.inr x) else A0 else if Ah A3 (inb x.2.2.2.1 x.1.size) then I (.inr<|.inr x) else A0
def tZ:=AW fN
def xq:Loop:=⟨[(0,.str),(4,.row 9 .str),(5,.int .i64),(6,.int .i64)],[(0,.str),(4,.row 9 .str),(5,.int .i64),(6,.int .i64)],2,[],tZ⟩
def agG:LF Tryz.f81 [] [1,1,1,0,0,0,1,0,1,0,0,0] xq:=sq (v:= .nil) wI (b:=fN) kN
def Sk(x:A4×List A4×Int×A2):Rnd (A4×List A4×Int×A2) (A2) (List A4×Int×A2):=if A1 (x.2.2.1<(x.1.size:Int)) then(AP (tZ (x.1,x.2.1,x.2.2.1,x.2.2)) (λ_=>I<|.inr<|.inl ()) λa=>(if Ah (!(A1<|(a.1.size:Int)<=a.2.2.2.1)) (inb a.2.2.2.1 a.1.size) then if(A1<|(a.1.size:Int)<=a.2.2.2.1)||(!decide ((bt a.1 a.2.2.2.1)=58)) then I (.inr<|.inr (a.2.1,a.2.2.1,())) else if(A1 (0<=a.2.2.2.1)&&A1 (a.2.2.2.1<=(a.1.size:Int)))&&(A1 (0<=a.2.2.1)&&A1 (a.2.2.1<=a.2.2.2.1)) then(QZ ((a.1.extract (AR a.2.2.1)<|AR a.2.2.2.1),())).bind λc=>let b:=(w64<|(w64<|a.2.2.2.1+1)+c.1.1);(if !c.1.2.1 then I (.inr<|.inr (a.2.1,a.2.2.1,())) else(CD (c.1.1,1,60,())).bind λd=>if !d.1.1 then I (.inr<|.inr (a.2.1,a.2.2.1,())) else if A1 ((a.1.size:Int)<=b) then I (.inr<|.inr (a.2.1,a.2.2.1,())) else if inb b a.1.size then if !decide ((bt a.1 b)=59) then I (.inr<|.inr (a.2.1,a.2.2.1,())) else if(A1 (0<=b)&&A1 (b<=(a.1.size:Int)))&&(A1 (0<=(w64<|a.2.2.2.1+1))&&A1 ((w64<|a.2.2.2.1+1)<=b)) then if Af (a.2.1.length+([(a.1.extract (AR<|w64<|a.2.2.2.1+1)<|AR b)]:List A4).length) then I (.inl (a.1,(a.2.1++([(a.1.extract (AR<|w64<|a.2.2.2.1+1)<|AR b)]:List A4)),(w64<|b+1),())) else A0 else A0 else A0) else A0 else A0)) else I (.inr<|.inr x.2)
def td:=AW Sk
def xt:Loop:=⟨[(0,.str),(4,.row 9 .str),(5,.int .i64)],[(4,.row 9 .str),(5,.int .i64)],0,[],td⟩
def agQ:LF Tryz.f81 [] [1,1,1,0,0,0] xt:=sq (v:=t1<|.one<|t1<|.two (.one<|.loop xq) .nil) wI (b:=Sk)<|kC agG kN
def QQ(x:A4×A2):Option ((List A4×Int×A2)×A2):=(AP (td (x.1,([]:List A4),0,())) (λ_=>A0) λa=>(SX (a.1,())).bind λb=>I ((b.1.1,a.2),()))
def gG:Ent:=(81,A0,⟨[.str],[.row 9 .str,.int .i64],QQ⟩)
def tY:SQ Tryz.prog gG:=sk (v:=t1<|t1<|t1<|.two (.one<|.loop xt) .nil) (fn:=Tryz.f81) wI<|kC agQ kN
def ags:Cx:=cX [JG] [] []
def aiO:OKC Tryz.prog ags AI:=okc mixed<|gC Jz<|AL
def fv(x:Int×A2):Option ((Y3×A2)×A2):=(Fu x).bind λa=>if !a.1.1 then I (((0,0,0,([]:List A6),([]:List Mark),([]:List A6),()),()),()) else I (((x.1,0,1,([]:List A6),([]:List Mark),([]:List A6),()),()),())
def zW:Ent:=(120,A0,⟨[.int .i64],[Z4],fv⟩)
def adN:SQ Tryz.prog zW:=sk (v:= .nil) (fn:=Tryz.f120) aiO kN
def aoV:Cx:=cX [] [] [(21,24)]
def aCc:OKC Tryz.prog aoV AI:=okc mixed<|AL
def iv(x:Int×Int×List Mark×Int×Int×A2):Rnd (Int×Int×List Mark×Int×Int×A2) (Int×A2) (A2):=if A1 (x.2.2.2.2.1<x.2.2.2.1) then if inb x.2.2.2.2.1 x.2.2.1.length then let a:=(rd (dfl .mark) x.2.2.1 x.2.2.2.2.1).mf;let b:=(rd (dfl .mark) x.2.2.1 x.2.2.2.2.1).mn;let c:=(rd (dfl .mark) x.2.2.1 x.2.2.2.2.1).mu;if(A1<|a=x.1)&&(A1<|b=x.2.1) then I (.inr<|.inl x.2.2.2.2) else I (.inl (x.1,x.2.1,x.2.2.1,x.2.2.2.1,(w64<|x.2.2.2.2.1+1),())) else A0 else I (.inr<|.inr ())
def vW:=AW iv
def aAN:Loop:=⟨[(1,.int .i64),(2,.int .i64),(9,.sl .mark),(10,.int .i64),(11,.int .i64)],[],0,[(6,.int .i64)],vW⟩
def anm:LF Tryz.f185 [] [1,0,1,0,0] aAN:=sq (v:= .nil) aCc (b:=iv) kN
def LC(x:List Mark×Int×Int×A2):Option ((Int×A2)×A2):=(AP (vW (x.2.1,x.2.2.1,x.1,(x.1.length:Int),0,())) (λa=>I (a,())) λa=>I (((-1),()),()))
def Xi:Ent:=(185,A0,⟨[.fz .mark,.int .i64,.int .i64],[.int .i64],LC⟩)
def fL:SQ Tryz.prog Xi:=sk (v:=t1<|.two (t1<|.one<|.loop aAN) .nil) (fn:=Tryz.f185) aCc<|kC anm kN
def aoP:Cx:=cX [FZ] [] []
def aD6:OKC Tryz.prog aoP AI:=okc mixed<|gC Fv<|AL
def jE(x:A4×Int×A2):Rnd (A4×Int×A2) (Bool×A2) (A4×A2):=if A1 (x.2.1<(x.1.size:Int)) then if inb x.2.1 x.1.size then(CD ((w64<|bt x.1 x.2.1),32,126,())).bind λa=>if !a.1.1 then I (.inr<|.inl (A3,())) else I (.inl (x.1,(w64<|x.2.1+1),())) else A0 else I (.inr<|.inr (x.1,()))
def vd:=AW jE
def aAp:Loop:=⟨[(0,.str),(3,.int .i64)],[(0,.str)],0,[(2,.bool)],vd⟩
def ani:LF Tryz.f132 [] [1,0,1,0,0] aAp:=sq (v:= .nil) aD6 (b:=jE) kN
def Oe(x:A4×A2):Option ((Bool×A2)×A2):=(AP (vd (x.1,0,())) (λa=>I (a,())) λa=>(CD ((a.1.size:Int),1,24,())).bind λb=>I (b.1,()))
def aCo:Ent:=(132,A0,⟨[.str],[.bool],Oe⟩)
def afr:SQ Tryz.prog aCo:=sk (v:=t1<|.two (t1<|.one<|.loop aAp) .nil) (fn:=Tryz.f132) aD6<|kC ani kN
def ao1:Cx:=cX [FZ,JG,aCo] [] [(22,24)]
def apr:OKC Tryz.prog ao1 AI:=okc mixed<|gC Fv<|gC Jz<|gC afr<|AL
def Og(x:Y4×A2):Option ((Bool×A2)×A2):=(Fu (x.1.1,())).bind λb=>if b.1.1 then(Fu (x.1.2.2.1,())).bind λc=>if c.1.1 then(CD (x.1.2.1,1,99,())).bind λd=>if d.1.1 then(CD (x.1.2.2.2.1,1,999,())).bind λa=>if Ah a.1.1 ((Oe x.1.2.2.2.2).isSome) then let e:=(a.1.1&&(((Oe x.1.2.2.2.2).getD ((A3,()),())).1.1));I ((e,()),()) else A0 else if Ah A3 ((Oe x.1.2.2.2.2).isSome) then I ((A3,()),()) else A0 else if Ah A3 ((Oe x.1.2.2.2.2).isSome) then I ((A3,()),()) else A0 else if Ah A3 ((Oe x.1.2.2.2.2).isSome) then I ((A3,()),()) else A0
def TN:Ent:=(100,A0,⟨[Z6],[.bool],Og⟩)
def WR:SQ Tryz.prog TN:=sk (v:= .nil) (fn:=Tryz.f100) apr kN
def aoc:Cx:=cX [] [] [(13,20)]
def apl:OKC Tryz.prog aoc AI:=okc mixed<|AL
def M8(x:Int×Int×Int×Int×A2):Option ((Bool×A2)×A2):=let a:=((A1<|x.1<x.2.2.1)||((A1<|x.1=x.2.2.1)&&(A1<|x.2.1<x.2.2.2.1)));I ((a,()),())
def Xj:Ent:=(236,A0,⟨[.int .i64,.int .i64,.int .i64,.int .i64],[.bool],M8⟩)
def fM:SQ Tryz.prog Xj:=sk (v:= .nil) (fn:=Tryz.f236) apl kN
def ajg:Cx:=cX [TN,Xj] [] [(16,37)]
def aCS:OKC Tryz.prog ajg AI:=okc mixed<|gC WR<|gC fM<|AL
def gr(x:List A6×List A6×Int×Int×A2):Rnd (List A6×List A6×Int×Int×A2) (Bool×A2) (A2):=if A1 (x.2.2.2.1<x.2.2.1) then if inb x.2.2.2.1 x.2.1.length then let b:=(rd (dfl .note) x.2.1 x.2.2.2.1).fr;let c:=(rd (dfl .note) x.2.1 x.2.2.2.1).nu;let d:=(rd (dfl .note) x.2.1 x.2.2.2.1).to;let e:=(rd (dfl .note) x.2.1 x.2.2.2.1).un;let f:=(rd (dfl .note) x.2.1 x.2.2.2.1).tx;(Og ((b,c,d,e,f,()),())).bind λa=>if Ah ((!(!a.1.1))&&(A1<|0<x.2.2.2.1)) (inb (w64<|x.2.2.2.1 - 1) x.1.length) then if Ah ((!(!a.1.1))&&(A1<|0<x.2.2.2.1)) (inb (w64<|x.2.2.2.1 - 1) x.1.length) then if Ah ((!(!a.1.1))&&(A1<|0<x.2.2.2.1)) ((M8 ((rd (dfl .note) x.1<|w64<|x.2.2.2.1 - 1).fr,(rd (dfl .note) x.1<|w64<|x.2.2.2.1 - 1).nu,b,c,())).isSome) then if(!a.1.1)||((A1<|0<x.2.2.2.1)&&(!(((M8 ((rd (dfl .note) x.1<|w64<|x.2.2.2.1 - 1).fr,(rd (dfl .note) x.1<|w64<|x.2.2.2.1 - 1).nu,b,c,())).getD ((A3,()),())).1.1))) then I (.inr<|.inl (A3,())) else I (.inl (x.1,x.2.1,x.2.2.1,(w64<|x.2.2.2.1+1),())) else A0 else A0 else A0 else A0 else I (.inr<|.inr ())
def uZ:=AW gr
def aA8:Loop:=⟨[(0,.sl .note),(5,.sl .note),(6,.int .i64),(7,.int .i64)],[],0,[(2,.bool)],uZ⟩
def ajo:LF Tryz.f195 [] [1,0,1,0,0] aA8:=sq (v:= .nil) aCS (b:=gr) kN
def XF(x:List A6×A2):Option ((Bool×A2)×A2):=(AP (uZ (x.1,x.1,(x.1.length:Int),0,())) (λa=>I (a,())) λa=>I ((U,()),()))
def aC1:Ent:=(195,A0,⟨[.fz .note],[.bool],XF⟩)
def aeQ:SQ Tryz.prog aC1:=sk (v:=t1<|.two (t1<|.one<|.loop aA8) .nil) (fn:=Tryz.f195) aCS<|kC ajo kN
def aoT:Cx:=cX [FZ,JG] [] [(12,14)]
def apg:OKC Tryz.prog aoT AI:=okc mixed<|gC Fv<|gC Jz<|AL
def jg(x:Y5×A2):Option ((Bool×A2)×A2):=(Fu (x.1.1,())).bind λb=>if b.1.1 then(CD (x.1.2.1,1,99,())).bind λa=>if Ah a.1.1 ((CD (x.1.2.2.1,1,999,())).isSome) then let c:=(a.1.1&&(((CD (x.1.2.2.1,1,999,())).getD ((A3,()),())).1.1));I ((c,()),()) else A0 else if Ah A3 ((CD (x.1.2.2.1,1,999,())).isSome) then I ((A3,()),()) else A0
def aCp:Ent:=(237,A0,⟨[Z11],[.bool],jg⟩)
def afs:SQ Tryz.prog aCp:=sk (v:= .nil) (fn:=Tryz.f237) apg kN
def akJ:Cx:=cX [Xj,aCp] [] [(16,37)]
def aCU:OKC Tryz.prog akJ AI:=okc mixed<|gC fM<|gC afs<|AL
def gv(x:List Mark×List Mark×Int×Int×A2):Rnd (List Mark×List Mark×Int×Int×A2) (Bool×A2) (A2):=if A1 (x.2.2.2.1<x.2.2.1) then if inb x.2.2.2.1 x.2.1.length then let b:=(rd (dfl .mark) x.2.1 x.2.2.2.1).mf;let c:=(rd (dfl .mark) x.2.1 x.2.2.2.1).mn;let d:=(rd (dfl .mark) x.2.1 x.2.2.2.1).mu;(jg ((b,c,d,()),())).bind λa=>if Ah ((!(!a.1.1))&&(A1<|0<x.2.2.2.1)) (inb (w64<|x.2.2.2.1 - 1) x.1.length) then if Ah ((!(!a.1.1))&&(A1<|0<x.2.2.2.1)) (inb (w64<|x.2.2.2.1 - 1) x.1.length) then if Ah ((!(!a.1.1))&&(A1<|0<x.2.2.2.1)) ((M8 ((rd (dfl .mark) x.1<|w64<|x.2.2.2.1 - 1).mf,(rd (dfl .mark) x.1<|w64<|x.2.2.2.1 - 1).mn,b,c,())).isSome) then if(!a.1.1)||((A1<|0<x.2.2.2.1)&&(!(((M8 ((rd (dfl .mark) x.1<|w64<|x.2.2.2.1 - 1).mf,(rd (dfl .mark) x.1<|w64<|x.2.2.2.1 - 1).mn,b,c,())).getD ((A3,()),())).1.1))) then I (.inr<|.inl (A3,())) else I (.inl (x.1,x.2.1,x.2.2.1,(w64<|x.2.2.2.1+1),())) else A0 else A0 else A0 else A0 else I (.inr<|.inr ())
def ue:=AW gv
def aAB:Loop:=⟨[(0,.sl .mark),(5,.sl .mark),(6,.int .i64),(7,.int .i64)],[],0,[(2,.bool)],ue⟩
def ajq:LF Tryz.f196 [] [1,0,1,0,0] aAB:=sq (v:= .nil) aCU (b:=gv) kN
def ir(x:List Mark×A2):Option ((Bool×A2)×A2):=(AP (ue (x.1,x.1,(x.1.length:Int),0,())) (λa=>I (a,())) λa=>I ((U,()),()))
def aC3:Ent:=(196,A0,⟨[.fz .mark],[.bool],ir⟩)
def aeS:SQ Tryz.prog aC3:=sk (v:=t1<|.two (t1<|.one<|.loop aAB) .nil) (fn:=Tryz.f196) aCU<|kC ajq kN
def aq5:Cx:=cX [FZ] [] [(10,23)]
def aqo:OKC Tryz.prog aq5 AI:=okc mixed<|gC Fv<|AL
def Xw(x:Int×Y4×A2):Option ((Bool×A2)×A2):=if Ah (!decide (x.1=x.2.1.2.2.1)) ((CD (x.1,x.2.1.1,x.2.1.2.2.1,())).isSome) then if Ah ((!decide (x.1=x.2.1.2.2.1))&&(!(((CD (x.1,x.2.1.1,x.2.1.2.2.1,())).getD ((A3,()),())).1.1))) ((CD (x.1,x.2.1.2.2.1,x.2.1.1,())).isSome) then let a:=((!decide (x.1=x.2.1.2.2.1))&&((((CD (x.1,x.2.1.1,x.2.1.2.2.1,())).getD ((A3,()),())).1.1)||(((CD (x.1,x.2.1.2.2.1,x.2.1.1,())).getD ((A3,()),())).1.1)));I ((a,()),()) else A0 else A0
def aDo:Ent:=(197,A0,⟨[.int .i64,Z6],[.bool],Xw⟩)
def ai7:SQ Tryz.prog aDo:=sk (v:= .nil) (fn:=Tryz.f197) aqo kN
def ao3:Cx:=cX [FZ,JG,Xi,aC1,aC3,aDo] [] [(123,127)]
def jr:OKC Tryz.prog ao3 AI:=okc mixed<|gC Fv<|gC Jz<|gC fL<|gC aeQ<|gC aeS<|gC ai7<|AL
def jL(x:Y3×List A6×Int×Int×A2):Rnd (Y3×List A6×Int×Int×A2) (Bool×A2) (A2):=if A1 (x.2.2.2.1<x.2.2.1) then if inb x.2.2.2.1 x.2.1.length then let ap:=(rd (dfl .note) x.2.1 x.2.2.2.1).fr;let Ud:=(rd (dfl .note) x.2.1 x.2.2.2.1).nu;let ao:=(rd (dfl .note) x.2.1 x.2.2.2.1).to;let a:=(rd (dfl .note) x.2.1 x.2.2.2.1).un;let aEg:=(rd (dfl .note) x.2.1 x.2.2.2.1).tx;(if A1 (ap=x.1.1) then if A1 (x.1.2.2.1<=Ud) then I (.inr<|.inl (A3,())) else if !decide (ao=x.1.1) then I (.inr<|.inl (A3,())) else if A1 (x.1.2.1<a) then(LC (x.1.2.2.2.2.1,ap,Ud,())).bind λamU=>if A1 (amU.1.1<0) then I (.inr<|.inl (A3,())) else I (.inl (x.1,x.2.1,x.2.2.1,(w64<|x.2.2.2.1+1),())) else I (.inl (x.1,x.2.1,x.2.2.1,(w64<|x.2.2.2.1+1),())) else if !decide (ao=x.1.1) then I (.inr<|.inl (A3,())) else if A1 (x.1.2.1<a) then(LC (x.1.2.2.2.2.1,ap,Ud,())).bind λamT=>if A1 (amT.1.1<0) then I (.inr<|.inl (A3,())) else I (.inl (x.1,x.2.1,x.2.2.1,(w64<|x.2.2.2.1+1),())) else I (.inl (x.1,x.2.1,x.2.2.1,(w64<|x.2.2.2.1+1),()))) else A0 else I (.inr<|.inr ())
def vk:=AW jL
def aAW:Loop:=⟨[(1,Z7),(131,.sl .note),(132,.int .i64),(133,.int .i64)],[],4,[(2,.bool)],vk⟩
def anC:LF Tryz.f158 [] [1,1,1,1,1,0,1,0,0] aAW:=sq (v:= .nil) jr (b:=jL) kN
def jM(x:Y3×List Mark×Int×Int×A2):Rnd (Y3×List Mark×Int×Int×A2) (Bool×A2) (Y3×A2):=if A1 (x.2.2.2.1<x.2.2.1) then if inb x.2.2.2.1 x.2.1.length then let amJ:=(rd (dfl .mark) x.2.1 x.2.2.2.1).mf;let ou:=(rd (dfl .mark) x.2.1 x.2.2.2.1).mn;let a:=(rd (dfl .mark) x.2.1 x.2.2.2.1).mu;if A1 (amJ=x.1.1) then if(A1<|x.1.2.2.1<=ou)||(A1<|a<=x.1.2.1) then I (.inr<|.inl (A3,())) else I (.inl (x.1,x.2.1,x.2.2.1,(w64<|x.2.2.2.1+1),())) else if A1 (a<=x.1.2.1) then I (.inr<|.inl (A3,())) else I (.inl (x.1,x.2.1,x.2.2.1,(w64<|x.2.2.2.1+1),())) else A0 else I (.inr<|.inr (x.1,()))
def vl:=AW jM
def aB7:Loop:=⟨[(1,Z7),(104,.sl .mark),(105,.int .i64),(106,.int .i64)],[(1,Z7)],2,[(2,.bool)],vl⟩
def an1:LF Tryz.f158 [] [1,1,1,1,0,1,0,0] aB7:=sq (v:= .nil) jr (b:=jM) kN
def jN(x:Y3×List A6×Int×Int×A2):Rnd (Y3×List A6×Int×Int×A2) (Bool×A2) (Y3×A2):=if A1 (x.2.2.2.1<x.2.2.1) then if inb x.2.2.2.1 x.2.1.length then let a:=(rd (dfl .note) x.2.1 x.2.2.2.1).fr;let b:=(rd (dfl .note) x.2.1 x.2.2.2.1).nu;let d:=(rd (dfl .note) x.2.1 x.2.2.2.1).to;let c:=(rd (dfl .note) x.2.1 x.2.2.2.1).un;let e:=(rd (dfl .note) x.2.1 x.2.2.2.1).tx;if A1 (a=x.1.1) then if A1 (x.1.2.2.1<=b) then I (.inr<|.inl (A3,())) else if A1 (c<=x.1.2.1) then I (.inr<|.inl (A3,())) else(Xw (x.1.1,(a,b,d,c,e,()),())).bind λf=>if !f.1.1 then I (.inr<|.inl (A3,())) else(LC (x.1.2.2.2.2.1,a,b,())).bind λg=>if A1 (0<=g.1.1) then I (.inr<|.inl (A3,())) else I (.inl (x.1,x.2.1,x.2.2.1,(w64<|x.2.2.2.1+1),())) else if A1 (c<=x.1.2.1) then I (.inr<|.inl (A3,())) else(Xw (x.1.1,(a,b,d,c,e,()),())).bind λh=>if !h.1.1 then I (.inr<|.inl (A3,())) else(LC (x.1.2.2.2.2.1,a,b,())).bind λi=>if A1 (0<=i.1.1) then I (.inr<|.inl (A3,())) else I (.inl (x.1,x.2.1,x.2.2.1,(w64<|x.2.2.2.1+1),())) else A0 else I (.inr<|.inr (x.1,()))
def vm:=AW jN
def aB8:Loop:=⟨[(1,Z7),(60,.sl .note),(61,.int .i64),(62,.int .i64)],[(1,Z7)],0,[(2,.bool)],vm⟩
def anq:LF Tryz.f158 [] [1,1,1,0,1,0,0] aB8:=sq (v:= .nil) jr (b:=jN) kN
def Qg(x:Y3×A2):Option ((Bool×A2)×A2):=(Fu (x.1.1,())).bind λb=>if !b.1.1 then I ((A3,()),()) else(CD (x.1.2.1,0,999,())).bind λc=>if !c.1.1 then I ((A3,()),()) else(CD (x.1.2.2.1,1,100,())).bind λd=>if !d.1.1 then I ((A3,()),()) else if A1 (6<(x.1.2.2.2.1.length:Int)) then I ((A3,()),()) else if A1 (12<(x.1.2.2.2.2.1.length:Int)) then I ((A3,()),()) else if A1 (6<(x.1.2.2.2.2.2.1.length:Int)) then I ((A3,()),()) else(XF (x.1.2.2.2.1,())).bind λe=>if !e.1.1 then I ((A3,()),()) else(ir (x.1.2.2.2.2.1,())).bind λf=>if !f.1.1 then I ((A3,()),()) else(XF x.1.2.2.2.2.2).bind λg=>if !g.1.1 then I ((A3,()),()) else(AP (vm (x.1,x.1.2.2.2.1,(x.1.2.2.2.1.length:Int),0,())) (λa=>I (a,())) λa=>(AP (vl (a.1,a.1.2.2.2.2.1,(a.1.2.2.2.2.1.length:Int),0,())) (λUc=>I (Uc,())) λUc=>(AP (vk (Uc.1,Uc.1.2.2.2.2.2.1,(Uc.1.2.2.2.2.2.1.length:Int),0,())) (λaEe=>I (aEe,())) λaEe=>I ((U,()),()))))
def lr:Ent:=(158,A0,⟨[Z8],[.bool],Qg⟩)
def ye:SQ Tryz.prog lr:=sk (v:=t1<|t1<|t1<|.two (t1<|.one<|.loop aB8)<|.two (t1<|.one<|.loop aB7)<|.two (t1<|.one<|.loop aAW) .nil) (fn:=Tryz.f158) jr<|kC anq<|kC an1<|kC anC kN
def akM:Cx:=cX [] [] []
def l4:OKC Tryz.prog akM AI:=okc mixed<|AL
def gy(x:Int×Y3×Y3×List Mark×Int×Int×A2):Rnd (Int×Y3×Y3×List Mark×Int×Int×A2) (A2) (Y3×Y3×A2):=if A1 (x.2.2.2.2.2.1<x.2.2.2.2.1) then if inb x.2.2.2.2.2.1 x.2.2.2.1.length then let b:=(rd (dfl .mark) x.2.2.2.1 x.2.2.2.2.2.1).mf;let c:=(rd (dfl .mark) x.2.2.2.1 x.2.2.2.2.2.1).mn;let a:=(rd (dfl .mark) x.2.2.2.1 x.2.2.2.2.2.1).mu;if A1 (x.1<a) then if Af (x.2.2.1.2.2.2.2.1.length+([(Mark.mk b c a)]:List Mark).length) then I (.inl (x.1,x.2.1,(x.2.2.1.1,x.2.2.1.2.1,x.2.2.1.2.2.1,x.2.2.1.2.2.2.1,(x.2.2.1.2.2.2.2.1++([(Mark.mk b c a)]:List Mark)),x.2.2.1.2.2.2.2.2),x.2.2.2.1,x.2.2.2.2.1,(w64<|x.2.2.2.2.2.1+1),())) else A0 else I (.inl (x.1,x.2.1,x.2.2.1,x.2.2.2.1,x.2.2.2.2.1,(w64<|x.2.2.2.2.2.1+1),())) else A0 else I (.inr<|.inr (x.2.1,x.2.2.1,()))
def ui:=AW gy
def aAD:Loop:=⟨[(1,.int .i64),(4,Z9),(5,Z31),(37,.sl .mark),(38,.int .i64),(39,.int .i64)],[(4,Z9),(5,Z31)],2,[],ui⟩
def ajD:LF Tryz.f239 [] [1,1,1,0,1,0,0] aAD:=sq (v:= .nil) l4 (b:=gy) kN
def gz(x:Int×Y3×Y3×Y3×List A6×Int×Int×A2):Rnd (Int×Y3×Y3×Y3×List A6×Int×Int×A2) (A2) (Int×Y3×Y3×Y3×A2):=if A1 (x.2.2.2.2.2.2.1<x.2.2.2.2.2.1) then if inb x.2.2.2.2.2.2.1 x.2.2.2.2.1.length then let b:=(rd (dfl .note) x.2.2.2.2.1 x.2.2.2.2.2.2.1).fr;let c:=(rd (dfl .note) x.2.2.2.2.1 x.2.2.2.2.2.2.1).nu;let d:=(rd (dfl .note) x.2.2.2.2.1 x.2.2.2.2.2.2.1).to;let a:=(rd (dfl .note) x.2.2.2.2.1 x.2.2.2.2.2.2.1).un;let e:=(rd (dfl .note) x.2.2.2.2.1 x.2.2.2.2.2.2.1).tx;if A1 (x.1<a) then if Af (x.2.2.2.1.2.2.2.1.length+([(A6.mk b c d a e)]:List A6).length) then I (.inl (x.1,x.2.1,x.2.2.1,(x.2.2.2.1.1,x.2.2.2.1.2.1,x.2.2.2.1.2.2.1,(x.2.2.2.1.2.2.2.1++([(A6.mk b c d a e)]:List A6)),x.2.2.2.1.2.2.2.2),x.2.2.2.2.1,x.2.2.2.2.2.1,(w64<|x.2.2.2.2.2.2.1+1),())) else A0 else I (.inl (x.1,x.2.1,x.2.2.1,x.2.2.2.1,x.2.2.2.2.1,x.2.2.2.2.2.1,(w64<|x.2.2.2.2.2.2.1+1),())) else A0 else I (.inr<|.inr (x.1,x.2.1,x.2.2.1,x.2.2.2.1,()))
def vA:=AW gz
def aAE:Loop:=⟨[(1,.int .i64),(2,Z7),(4,Z9),(5,Z31),(19,.sl .note),(20,.int .i64),(21,.int .i64)],[(1,.int .i64),(2,Z7),(4,Z9),(5,Z31)],0,[],vA⟩
def ajr:LF Tryz.f239 [] [1,1,0,1,0,0] aAE:=sq (v:= .nil) l4 (b:=gz) kN
def j9(x:Y3×Int×A2):Option ((Y3×A2)×A2):=(AP (vA (x.2.1,x.1,(0,0,0,([]:List A6),([]:List Mark),([]:List A6),()),(x.1.1,x.2.1,x.1.2.2.1,([]:List A6),([]:List Mark),x.1.2.2.2.2.2),x.1.2.2.2.1,(x.1.2.2.2.1.length:Int),0,())) (λ_=>A0) λa=>(AP (ui (a.1,a.2.2.1,a.2.2.2.1,a.2.1.2.2.2.2.1,(a.2.1.2.2.2.2.1.length:Int),0,())) (λ_=>A0) λb=>I (b.2,())))
def aC4:Ent:=(239,A0,⟨[Z8,.int .i64],[Z8],j9⟩)
def afF:SQ Tryz.prog aC4:=sk (v:=t1<|t1<|.two (t1<|.one<|.loop aAE)<|.two (t1<|.one<|.loop aAD) .nil) (fn:=Tryz.f239) l4<|kC ajr<|kC ajD kN
def aq7:Cx:=cX [aC4] [] [(12,15),(24,27)]
def aqq:OKC Tryz.prog aq7 AI:=okc mixed<|gC afF<|AL
def Xp(x:Y3×A4×Int×A2):Option ((Y3×Bool×A2)×A2):=let a:=((A1<|x.2.1=(B [116,105,109,101]))&&(A1<|x.1.2.1<x.2.2.1));(if a then(j9 (x.1,x.2.2)).bind λb=>I ((b.1.1,U,()),()) else let c:=((A1<|x.2.1=(B [110,101,120,116]))&&(A1<|x.1.2.2.1<x.2.2.1));(if c then I (((x.1.1,x.1.2.1,x.2.2.1,x.1.2.2.2),U,()),()) else I ((x.1,A3,()),())))
def aDp:Ent:=(199,A0,⟨[Z8,.str,.int .i64],[Z8,.bool],Xp⟩)
def aha:SQ Tryz.prog aDp:=sk (v:= .nil) (fn:=Tryz.f199) aqq kN
def agm:Cx:=cX [TN,T7] [] []
def aiJ:OKC Tryz.prog agm AI:=okc mixed<|gC WR<|gC Vz<|AL
def NB(x:Y4×A2):Option ((A4×A2)×A2):=(Og x).bind λe=>if !e.1.1 then I ((noB,()),()) else(JH (x.1.1,())).bind λa=>if A1 (a.1.1.size+(B [32]).size<=4611686018427387904) then(JH (x.1.2.1,())).bind λb=>if A1 ((a.1.1++(B [32])).size+b.1.1.size<=4611686018427387904) then if A1 (((a.1.1++(B [32]))++b.1.1).size+(B [32]).size<=4611686018427387904) then(JH (x.1.2.2.1,())).bind λc=>if A1 ((((a.1.1++(B [32]))++b.1.1)++(B [32])).size+c.1.1.size<=4611686018427387904) then if A1 (((((a.1.1++(B [32]))++b.1.1)++(B [32]))++c.1.1).size+(B [32]).size<=4611686018427387904) then(JH (x.1.2.2.2.1,())).bind λd=>if A1 ((((((a.1.1++(B [32]))++b.1.1)++(B [32]))++c.1.1)++(B [32])).size+d.1.1.size<=4611686018427387904) then if A1 (((((((a.1.1++(B [32]))++b.1.1)++(B [32]))++c.1.1)++(B [32]))++d.1.1).size+(B [32]).size<=4611686018427387904) then if A1 ((((((((a.1.1++(B [32]))++b.1.1)++(B [32]))++c.1.1)++(B [32]))++d.1.1)++(B [32])).size+x.1.2.2.2.2.1.size<=4611686018427387904) then let f:=((((((((a.1.1++(B [32]))++b.1.1)++(B [32]))++c.1.1)++(B [32]))++d.1.1)++(B [32]))++x.1.2.2.2.2.1);I ((f,()),()) else A0 else A0 else A0 else A0 else A0 else A0 else A0 else A0
def Wj:Ent:=(151,A0,⟨[Z6],[.str],NB⟩)
def dz:SQ Tryz.prog Wj:=sk (v:= .nil) (fn:=Tryz.f151) aiJ kN
def aiX:Cx:=cX [jP] [] []
def aBT:OKC Tryz.prog aiX AI:=okc mixed<|gC ua<|AL
def fj(x:List Int×List A4×Int×Int×A2):Rnd (List Int×List A4×Int×Int×A2) (List Int×Bool×A2) (List Int×A2):=if A1 (x.2.2.2.1<x.2.2.1) then if inb x.2.2.2.1 x.2.1.length then let b:=(rd (dfl .str) x.2.1 x.2.2.2.1);(QZ (b,())).bind λa=>if !a.1.2.1 then I (.inr<|.inl (([]:List Int),A3,())) else if Af (x.1.length+([a.1.1]:List Int).length) then I (.inl ((x.1++([a.1.1]:List Int)),x.2.1,x.2.2.1,(w64<|x.2.2.2.1+1),())) else A0 else A0 else I (.inr<|.inr (x.1,()))
def uN:=AW fj
def yX:Loop:=⟨[(4,.row 3 .int),(9,.sl .str),(10,.int .i64),(11,.int .i64)],[(4,.row 3 .int)],0,[(2,.row 3 .int),(3,.bool)],uN⟩
def ai0:LF Tryz.f202 [] [1,1,0,1,0,0] yX:=sq (v:= .nil) aBT (b:=fj) kN
def Sr(x:List A4×A2):Option ((List Int×Bool×A2)×A2):=(AP (uN (([]:List Int),x.1,(x.1.length:Int),0,())) (λa=>I (a,())) λa=>I ((a.1,U,()),()))
def jv:Ent:=(202,A0,⟨[.fz .str],[.row 3 .int,.bool],Sr⟩)
def wy:SQ Tryz.prog jv:=sk (v:=t1<|t1<|.two (t1<|.one<|.loop yX) .nil) (fn:=Tryz.f202) aBT<|kC ai0 kN
def aic:Cx:=cX [TN,Wj,jv,zm] [] [(43,46)]
def akC:OKC Tryz.prog aic AI:=okc mixed<|gC WR<|gC dz<|gC wy<|gC ad0<|AL
def XA(x:A4×A2):Option ((Y4×Bool×A2)×A2):=(vj (x.1,(B [32]),5,())).bind λb=>if !decide ((b.1.1.length:Int)=5) then I (((0,0,0,0,noB,()),A3,()),()) else if A1 (0<=4)&&A1 (4<=(b.1.1.length:Int)) then(Sr ((BS (AR 4) b.1.1),())).bind λa=>if !a.1.2.1 then I (((0,0,0,0,noB,()),A3,()),()) else if inb 0 a.1.1.length then if inb 1 a.1.1.length then if inb 2 a.1.1.length then if inb 3 a.1.1.length then if inb 4 b.1.1.length then(Og (((rd (dfl .int) a.1.1 0),(rd (dfl .int) a.1.1 1),(rd (dfl .int) a.1.1 2),(rd (dfl .int) a.1.1 3),(rd (dfl .str) b.1.1 4),()),())).bind λc=>if Ah (!(!c.1.1)) ((NB (((rd (dfl .int) a.1.1 0),(rd (dfl .int) a.1.1 1),(rd (dfl .int) a.1.1 2),(rd (dfl .int) a.1.1 3),(rd (dfl .str) b.1.1 4),()),())).isSome) then if(!c.1.1)||(!decide (((NB (((rd (dfl .int) a.1.1 0),(rd (dfl .int) a.1.1 1),(rd (dfl .int) a.1.1 2),(rd (dfl .int) a.1.1 3),(rd (dfl .str) b.1.1 4),()),())).getD ((noB,()),())).1.1=x.1)) then I (((0,0,0,0,noB,()),A3,()),()) else I ((((rd (dfl .int) a.1.1 0),(rd (dfl .int) a.1.1 1),(rd (dfl .int) a.1.1 2),(rd (dfl .int) a.1.1 3),(rd (dfl .str) b.1.1 4),()),U,()),()) else A0 else A0 else A0 else A0 else A0 else A0 else A0
def aBO:Ent:=(200,A0,⟨[.str],[Z6,.bool],XA⟩)
def adi:SQ Tryz.prog aBO:=sk (v:= .nil) (fn:=Tryz.f200) akC kN
def aoS:Cx:=cX [] [] [(21,24)]
def aCa:OKC Tryz.prog aoS AI:=okc mixed<|AL
def jG(x:Int×Int×List A6×Int×Int×A2):Rnd (Int×Int×List A6×Int×Int×A2) (Int×A2) (A2):=if A1 (x.2.2.2.2.1<x.2.2.2.1) then if inb x.2.2.2.2.1 x.2.2.1.length then let a:=(rd (dfl .note) x.2.2.1 x.2.2.2.2.1).fr;let b:=(rd (dfl .note) x.2.2.1 x.2.2.2.2.1).nu;let c:=(rd (dfl .note) x.2.2.1 x.2.2.2.2.1).to;let d:=(rd (dfl .note) x.2.2.1 x.2.2.2.2.1).un;let e:=(rd (dfl .note) x.2.2.1 x.2.2.2.2.1).tx;if(A1<|a=x.1)&&(A1<|b=x.2.1) then I (.inr<|.inl x.2.2.2.2) else I (.inl (x.1,x.2.1,x.2.2.1,x.2.2.2.1,(w64<|x.2.2.2.2.1+1),())) else A0 else I (.inr<|.inr ())
def vf:=AW jG
def aAs:Loop:=⟨[(1,.int .i64),(2,.int .i64),(9,.sl .note),(10,.int .i64),(11,.int .i64)],[],0,[(6,.int .i64)],vf⟩
def ank:LF Tryz.f52 [] [1,0,1,0,0] aAs:=sq (v:= .nil) aCa (b:=jG) kN
def HJ(x:List A6×Int×Int×A2):Option ((Int×A2)×A2):=(AP (vf (x.2.1,x.2.2.1,x.1,(x.1.length:Int),0,())) (λa=>I (a,())) λa=>I (((-1),()),()))
def M9:Ent:=(52,A0,⟨[.fz .note,.int .i64,.int .i64],[.int .i64],HJ⟩)
def NC:SQ Tryz.prog M9:=sk (v:=t1<|.two (t1<|.one<|.loop aAs) .nil) (fn:=Tryz.f52) aCa<|kC ank kN
def aoR:Cx:=cX [Xj] [] [(11,25)]
def aCZ:OKC Tryz.prog aoR AI:=okc mixed<|gC fM<|AL
def jF(x:List A6×Y4×Int×A2):Rnd (List A6×Y4×Int×A2) (A2) (List A6×Y4×Int×A2):=if Ah (A1<|x.2.2.1<(x.1.length:Int)) (inb x.2.2.1 x.1.length) then if Ah (A1<|x.2.2.1<(x.1.length:Int)) (inb x.2.2.1 x.1.length) then if Ah (A1<|x.2.2.1<(x.1.length:Int)) ((M8 ((rd (dfl .note) x.1 x.2.2.1).fr,(rd (dfl .note) x.1 x.2.2.1).nu,x.2.1.1,x.2.1.2.1,())).isSome) then if(A1<|x.2.2.1<(x.1.length:Int))&&(((M8 ((rd (dfl .note) x.1 x.2.2.1).fr,(rd (dfl .note) x.1 x.2.2.1).nu,x.2.1.1,x.2.1.2.1,())).getD ((A3,()),())).1.1) then I (.inl (x.1,x.2.1,(w64<|x.2.2.1+1),())) else I (.inr<|.inr x) else A0 else A0 else A0
def ve:=AW jF
def aAr:Loop:=⟨[(0,.sl .note),(3,Z5),(5,.int .i64)],[(0,.sl .note),(3,Z5),(5,.int .i64)],0,[],ve⟩
def anj:LF Tryz.f242 [] [1,1,0,0,0] aAr:=sq (v:= .nil) aCZ (b:=jF) kN
def Qf(x:List A6×Y4×A2):Option ((List A6×A2)×A2):=(AP (ve (x.1,x.2.1,0,())) (λ_=>A0) λa=>(if A1 (0<=a.2.2.1)&&A1 (a.2.2.1<=(a.1.length:Int)) then if Af (([]:List A6).length+(BS (AR a.2.2.1) a.1).length) then if Af ((([]:List A6)++(BS (AR a.2.2.1) a.1)).length+([(A6.mk a.2.1.1 a.2.1.2.1 a.2.1.2.2.1 a.2.1.2.2.2.1 a.2.1.2.2.2.2.1)]:List A6).length) then if A1 (0<=a.2.2.1)&&A1 (a.2.2.1<=(a.1.length:Int)) then if Af (((([]:List A6)++(BS (AR a.2.2.1) a.1))++([(A6.mk a.2.1.1 a.2.1.2.1 a.2.1.2.2.1 a.2.1.2.2.2.1 a.2.1.2.2.2.2.1)]:List A6)).length+(Bv (AR a.2.2.1) a.1).length) then I (((((([]:List A6)++(BS (AR a.2.2.1) a.1))++([(A6.mk a.2.1.1 a.2.1.2.1 a.2.1.2.2.1 a.2.1.2.2.2.1 a.2.1.2.2.2.2.1)]:List A6))++(Bv (AR a.2.2.1) a.1)),()),()) else A0 else A0 else A0 else A0 else A0))
def lm:Ent:=(242,A0,⟨[.fz .note,Z6],[.row 36 .note],Qf⟩)
def yW:SQ Tryz.prog lm:=sk (v:=t1<|t1<|.two (.one<|.loop aAr) .nil) (fn:=Tryz.f242) aCZ<|kC anj kN
def aoU:Cx:=cX [Xj] [] [(11,25)]
def aCb:OKC Tryz.prog aoU AI:=okc mixed<|gC fM<|AL
def iu(x:List Mark×Y5×Int×A2):Rnd (List Mark×Y5×Int×A2) (A2) (List Mark×Y5×Int×A2):=if Ah (A1<|x.2.2.1<(x.1.length:Int)) (inb x.2.2.1 x.1.length) then if Ah (A1<|x.2.2.1<(x.1.length:Int)) (inb x.2.2.1 x.1.length) then if Ah (A1<|x.2.2.1<(x.1.length:Int)) ((M8 ((rd (dfl .mark) x.1 x.2.2.1).mf,(rd (dfl .mark) x.1 x.2.2.1).mn,x.2.1.1,x.2.1.2.1,())).isSome) then if(A1<|x.2.2.1<(x.1.length:Int))&&(((M8 ((rd (dfl .mark) x.1 x.2.2.1).mf,(rd (dfl .mark) x.1 x.2.2.1).mn,x.2.1.1,x.2.1.2.1,())).getD ((A3,()),())).1.1) then I (.inl (x.1,x.2.1,(w64<|x.2.2.1+1),())) else I (.inr<|.inr x) else A0 else A0 else A0
def vV:=AW iu
def aAt:Loop:=⟨[(0,.sl .mark),(3,Z10),(5,.int .i64)],[(0,.sl .mark),(3,Z10),(5,.int .i64)],0,[],vV⟩
def anl:LF Tryz.f245 [] [1,1,0,0,0] aAt:=sq (v:= .nil) aCb (b:=iu) kN
def TG(x:List Mark×Y5×A2):Option ((List Mark×A2)×A2):=(AP (vV (x.1,x.2.1,0,())) (λ_=>A0) λa=>(if A1 (0<=a.2.2.1)&&A1 (a.2.2.1<=(a.1.length:Int)) then if Af (([]:List Mark).length+(BS (AR a.2.2.1) a.1).length) then if Af ((([]:List Mark)++(BS (AR a.2.2.1) a.1)).length+([(Mark.mk a.2.1.1 a.2.1.2.1 a.2.1.2.2.1)]:List Mark).length) then if A1 (0<=a.2.2.1)&&A1 (a.2.2.1<=(a.1.length:Int)) then if Af (((([]:List Mark)++(BS (AR a.2.2.1) a.1))++([(Mark.mk a.2.1.1 a.2.1.2.1 a.2.1.2.2.1)]:List Mark)).length+(Bv (AR a.2.2.1) a.1).length) then I (((((([]:List Mark)++(BS (AR a.2.2.1) a.1))++([(Mark.mk a.2.1.1 a.2.1.2.1 a.2.1.2.2.1)]:List Mark))++(Bv (AR a.2.2.1) a.1)),()),()) else A0 else A0 else A0 else A0 else A0))
def ln:Ent:=(245,A0,⟨[.fz .mark,Z11],[.row 61 .mark],TG⟩)
def yY:SQ Tryz.prog ln:=sk (v:=t1<|t1<|.two (.one<|.loop aAt) .nil) (fn:=Tryz.f245) aCb<|kC anl kN
def aog:Cx:=cX [M9,TN,Xi,lm,ln] [] []
def apq:OKC Tryz.prog aog AI:=okc mixed<|gC NC<|gC WR<|gC fL<|gC yW<|gC yY<|AL
def Xd(x:Y3×Y4×A2):Option ((Y3×Bool×A2)×A2):=(Og x.2).bind λa=>if !a.1.1 then I ((x.1,A3,()),()) else if A1 (x.2.1.2.2.2.1<=x.1.2.1) then I ((x.1,A3,()),()) else(HJ (x.1.2.2.2.1,x.2.1.1,x.2.1.2.1,())).bind λb=>if A1 (0<=b.1.1) then I ((x.1,A3,()),()) else(HJ (x.1.2.2.2.2.2.1,x.2.1.1,x.2.1.2.1,())).bind λc=>if A1 (0<=c.1.1) then I ((x.1,A3,()),()) else(LC (x.1.2.2.2.2.1,x.2.1.1,x.2.1.2.1,())).bind λd=>if A1 (0<=d.1.1) then I ((x.1,A3,()),()) else if A1 (12<(w64<|(w64<|(x.1.2.2.2.1.length:Int)+(x.1.2.2.2.2.1.length:Int))+1)) then I ((x.1,A3,()),()) else if A1 (x.2.1.2.2.1=x.1.1) then(Qf (x.1.2.2.2.2.2.1,x.2)).bind λe=>(TG (x.1.2.2.2.2.1,(x.2.1.1,x.2.1.2.1,x.2.1.2.2.2.1,()),())).bind λf=>I (((x.1.1,x.1.2.1,x.1.2.2.1,x.1.2.2.2.1,f.1.1,e.1),U,()),()) else(Qf (x.1.2.2.2.1,x.2)).bind λg=>I (((x.1.1,x.1.2.1,x.1.2.2.1,g.1.1,x.1.2.2.2.2),U,()),())
def aCw:Ent:=(241,A0,⟨[Z8,Z6],[Z8,.bool],Xd⟩)
def ag1:SQ Tryz.prog aCw:=sk (v:= .nil) (fn:=Tryz.f241) apq kN
def aoa:Cx:=cX [M9,aCw,lm] [] [(19,23),(38,42),(59,66)]
def apj:OKC Tryz.prog aoa AI:=okc mixed<|gC NC<|gC ag1<|gC yW<|AL
def Xb(x:Y3×A4×Y4×A2):Option ((Y3×Bool×A2)×A2):=(BW (X:=A4×Y3×Y4×Y3×Bool×A2) (λa=>if a.2.2.2.2.1 then let c:=(w64<|a.2.1.2.2.1+1);(Xd ((a.2.1.1,a.2.1.2.1,c,a.2.1.2.2.2),a.2.2.1,())).bind λd=>I (d.1,()) else let e:=((A1<|a.1=(B [116,97,107,101]))&&(!decide (a.2.2.1.1=a.2.1.1)));(if e then(Xd (a.2.1,a.2.2.1,())).bind λf=>I (f.1,()) else(HJ (a.2.1.2.2.2.1,a.2.2.1.1,a.2.2.1.2.1,())).bind λb=>if Ah (!(A1<|0<=b.1.1)) ((HJ (a.2.1.2.2.2.2.2.1,a.2.2.1.1,a.2.2.1.2.1,())).isSome) then let g:=((A1<|0<=b.1.1)||(A1<|0<=((HJ (a.2.1.2.2.2.2.2.1,a.2.2.1.1,a.2.2.1.2.1,())).getD ((0,()),())).1.1));(if g then I ((a.2.1,A3,()),()) else let h:=(A1<|a.1=(B [104,101,108,100]));(if h then(Qf (a.2.1.2.2.2.1,a.2.2.1,())).bind λi=>I (((a.2.1.1,a.2.1.2.1,a.2.1.2.2.1,i.1.1,a.2.1.2.2.2.2),U,()),()) else let j:=(A1<|a.1=(B [105,110,98,111,120]));(if j then(Qf (a.2.1.2.2.2.2.2.1,a.2.2.1,())).bind λk=>I (((a.2.1.1,a.2.1.2.1,a.2.1.2.2.1,a.2.1.2.2.2.1,a.2.1.2.2.2.2.1,k.1),U,()),()) else I ((a.2.1,A3,()),())))) else A0))<|(if A1 (x.2.1=(B [111,119,110])) then let l:=((A1<|x.2.2.1.1=x.1.1)&&(A1<|x.2.2.1.2.1=x.1.2.2.1));I (.inr (x.2.1,x.1,x.2.2.1,(0,0,0,([]:List A6),([]:List Mark),([]:List A6),()),l,())) else I (.inr (x.2.1,x.1,x.2.2.1,(0,0,0,([]:List A6),([]:List Mark),([]:List A6),()),A3,()))))
def aCr:Ent:=(201,A0,⟨[Z8,.str,Z6],[Z8,.bool],Xb⟩)
def afv:SQ Tryz.prog aCr:=sk (v:=t1<|.two (.one<|.join [(1,.str),(3,Z7),(5,Z5),(6,Z9),(8,.bool)] .nil .nil) .nil) (fn:=Tryz.f201) apj kN
def ajh:Cx:=cX [] [] []
def aoH:OKC Tryz.prog ajh AI:=okc mixed<|AL
def T6(x:List A6×Int×A2):Option ((List A6×A2)×A2):=if A1 (0<=x.2.1)&&A1 (x.2.1<=(x.1.length:Int)) then if Af (([]:List A6).length+(BS (AR x.2.1) x.1).length) then if A1 (0<=(w64<|x.2.1+1))&&A1 ((w64<|x.2.1+1)<=(x.1.length:Int)) then if Af ((([]:List A6)++(BS (AR x.2.1) x.1)).length+(Bv (AR<|w64<|x.2.1+1) x.1).length) then I ((((([]:List A6)++(BS (AR x.2.1) x.1))++(Bv (AR<|w64<|x.2.1+1) x.1)),()),()) else A0 else A0 else A0 else A0
def aC2:Ent:=(244,A0,⟨[.fz .note,.int .i64],[.row 36 .note],T6⟩)
def aeR:SQ Tryz.prog aC2:=sk (v:= .nil) (fn:=Tryz.f244) aoH kN
def aob:Cx:=cX [M9,Xi,aC2,ln] [] [(41,49),(70,78),(90,91)]
def apk:OKC Tryz.prog aob AI:=okc mixed<|gC NC<|gC fL<|gC aeR<|gC yY<|AL
def Xc(x:Y3×A4×Y5×A2):Option ((Y3×Bool×A2)×A2):=(HJ (x.1.2.2.2.1,x.2.2.1.1,x.2.2.1.2.1,())).bind λc=>(HJ (x.1.2.2.2.2.2.1,x.2.2.1.1,x.2.2.1.2.1,())).bind λd=>(LC (x.1.2.2.2.2.1,x.2.2.1.1,x.2.2.1.2.1,())).bind λe=>(BW (X:=A4×Y3×Y5×Y3×Int×Int×Bool×Bool×A2) (λa=>if a.2.2.2.2.2.2.2.1 then(T6 (a.2.1.2.2.2.1,a.2.2.2.2.1,())).bind λf=>(TG (a.2.1.2.2.2.2.1,a.2.2.1,())).bind λg=>I (((a.2.1.1,a.2.1.2.1,a.2.1.2.2.1,f.1.1,g.1.1,a.2.1.2.2.2.2.2),U,()),()) else(BW (X:=A4×Y3×Y5×Y3×Int×Bool×Bool×A2) (λb=>if b.2.2.2.2.2.2.1 then(T6 (b.2.1.2.2.2.2.2.1,b.2.2.2.2.1,())).bind λh=>I (((b.2.1.1,b.2.1.2.1,b.2.1.2.2.1,b.2.1.2.2.2.1,b.2.1.2.2.2.2.1,h.1),U,()),()) else let i:=((A1<|b.1=(B [109,97,114,107]))&&(!b.2.2.2.2.2.1));(if i then(TG (b.2.1.2.2.2.2.1,b.2.2.1,())).bind λj=>I (((b.2.1.1,b.2.1.2.1,b.2.1.2.2.1,b.2.1.2.2.2.1,j.1.1,b.2.1.2.2.2.2.2),U,()),()) else I ((b.2.1,A3,()),())))<|(if A1 (a.1=(B [101,97,116])) then if Ah (A1<|0<=a.2.2.2.2.2.1) (inb a.2.2.2.2.2.1 a.2.1.2.2.2.2.2.1.length) then let k:=((A1<|0<=a.2.2.2.2.2.1)&&(A1<|(rd (dfl .note) a.2.1.2.2.2.2.2.1 a.2.2.2.2.2.1).un=a.2.2.1.2.2.1));I (.inr (a.1,a.2.1,a.2.2.1,a.2.2.2.1,a.2.2.2.2.2.1,a.2.2.2.2.2.2.1,k,())) else A0 else if Ah A3 (inb a.2.2.2.2.2.1 a.2.1.2.2.2.2.2.1.length) then I (.inr (a.1,a.2.1,a.2.2.1,a.2.2.2.1,a.2.2.2.2.2.1,a.2.2.2.2.2.2.1,A3,())) else A0)))<|(if A1 (x.2.1=(B [108,101,116])) then if Ah (A1<|0<=c.1.1) (inb c.1.1 x.1.2.2.2.1.length) then let l:=((A1<|0<=c.1.1)&&(A1<|(rd (dfl .note) x.1.2.2.2.1 c.1.1).un=x.2.2.1.2.2.1));I (.inr (x.2.1,x.1,x.2.2.1,(0,0,0,([]:List A6),([]:List Mark),([]:List A6),()),c.1.1,d.1.1,(A1<|0<=e.1.1),l,())) else A0 else if Ah A3 (inb c.1.1 x.1.2.2.2.1.length) then I (.inr (x.2.1,x.1,x.2.2.1,(0,0,0,([]:List A6),([]:List Mark),([]:List A6),()),c.1.1,d.1.1,(A1<|0<=e.1.1),A3,())) else A0))
def aCs:Ent:=(204,A0,⟨[Z8,.str,Z11],[Z8,.bool],Xc⟩)
def afw:SQ Tryz.prog aCs:=sk (v:=t1<|t1<|t1<|.two (.one<|.join [(1,.str),(3,Z7),(5,Z10),(6,Z9),(8,.int .i64),(9,.int .i64),(10,.bool),(33,.bool)] .nil<|t1<|.join [(1,.str),(3,Z7),(5,Z10),(6,Z9),(9,.int .i64),(10,.bool),(62,.bool)] .nil .nil) .nil) (fn:=Tryz.f204) apk kN
def aq8:Cx:=cX [jP,aDM,aDp,aBO,aCr,jv,aBA,aCs] [] [(69,71)]
def aqr:OKC Tryz.prog aq8 AI:=okc mixed<|gC ua<|gC aeu<|gC aha<|gC adi<|gC afv<|gC wy<|gC adO<|gC afw<|AL
def Xq(x:Y3×A4×A2):Option ((Y3×Bool×A2)×A2):=(XS (x.2.1,(B [32]),())).bind λc=>if !c.1.2.2.1 then I ((x.1,A3,()),()) else(BW (X:=Y3×Y3×A4×A4×A4×Bool×A2) (λa=>if a.2.2.2.2.2.1 then(QZ (a.2.2.2.1,())).bind λf=>if f.1.2.1 then(Xp (a.1,a.2.2.1,f.1.1,())).bind λn=>I (n.1,()) else I ((a.1,A3,()),()) else(BW (X:=Y3×Y3×A4×A4×A4×Bool×A2) (λb=>if b.2.2.2.2.2.1 then(XA (b.2.2.2.1,())).bind λg=>if g.1.2.1 then(Xb (b.1,b.2.2.1,g.1.1,())).bind λo=>I (o.1,()) else I ((b.1,A3,()),()) else(BW (X:=Y3×Y3×A4×A4×Bool×A2) (λe=>if e.2.2.2.2.1 then(iD (e.2.2.2.1,(B [32]),())).bind λp=>(Sr p.1).bind λd=>if d.1.2.1&&(A1<|(d.1.1.length:Int)=3) then if inb 0 d.1.1.length then if inb 1 d.1.1.length then if inb 2 d.1.1.length then(Xc (e.1,e.2.2.1,((rd (dfl .int) d.1.1 0),(rd (dfl .int) d.1.1 1),(rd (dfl .int) d.1.1 2),()),())).bind λq=>I (q.1,()) else A0 else A0 else A0 else I ((e.1,A3,()),()) else I ((e.1,A3,()),())) (let h:=(A1<|b.2.2.2.2.1=(B [108,101,116]));(if h then I (.inr (b.1,b.2.1,b.2.2.1,b.2.2.2.1,h,())) else let i:=(A1<|b.2.2.2.2.1=(B [101,97,116]));(if i then I (.inr (b.1,b.2.1,b.2.2.1,b.2.2.2.1,i,())) else let r:=(A1<|b.2.2.2.2.1=(B [109,97,114,107]));I (.inr (b.1,b.2.1,b.2.2.1,b.2.2.2.1,r,()))))))) (let j:=(A1<|a.2.2.2.2.1=(B [111,119,110]));(if j then I (.inr (a.1,a.2.1,a.2.2.1,a.2.2.2.1,a.2.2.2.2.1,j,())) else let k:=(A1<|a.2.2.2.2.1=(B [116,97,107,101]));(if k then I (.inr (a.1,a.2.1,a.2.2.1,a.2.2.2.1,a.2.2.2.2.1,k,())) else let l:=(A1<|a.2.2.2.2.1=(B [104,101,108,100]));(if l then I (.inr (a.1,a.2.1,a.2.2.1,a.2.2.2.1,a.2.2.2.2.1,l,())) else let s:=(A1<|a.2.2.2.2.1=(B [105,110,98,111,120]));I (.inr (a.1,a.2.1,a.2.2.1,a.2.2.2.1,a.2.2.2.2.1,s,())))))))) (let m:=(A1<|c.1.1=(B [116,105,109,101]));(if m then I (.inr (x.1,(0,0,0,([]:List A6),([]:List Mark),([]:List A6),()),c.1.1,c.1.2.1,c.1.1,m,())) else let t:=(A1<|c.1.1=(B [110,101,120,116]));I (.inr (x.1,(0,0,0,([]:List A6),([]:List Mark),([]:List A6),()),c.1.1,c.1.2.1,c.1.1,t,())))))
def aDq:Ent:=(159,A0,⟨[Z8,.str],[Z8,.bool],Xq⟩)
def ahb:SQ Tryz.prog aDq:=sk (v:=t1<|t1<|t1<|.two (t1<|.one<|.join [(2,Z7),(4,Z9),(6,.str),(7,.str),(24,.str),(25,.bool)] .nil<|t1<|.join [(2,Z7),(4,Z9),(6,.str),(7,.str),(24,.str),(40,.bool)] .nil<|t1<|.join [(2,Z7),(4,Z9),(6,.str),(7,.str),(57,.bool)] .nil .nil) .nil) (fn:=Tryz.f159) aqr kN
def ae0:Cx:=cX [] [] []
def afA:OKC Tryz.prog ae0 AI:=okc mixed<|AL
def ug(x:List Mark×A2):Option ((List Mark×A2)×A2):=if A1 ((x.1.length:Int)=0) then I ((([]:List Mark),()),()) else if A1 (0<=(x.1.length:Int))&&A1 ((x.1.length:Int)<=4294967296) then I (((BS (BV (AR (x.1.length:Int))<|dfl .mark).length x.1++Bv x.1.length (BV (AR (x.1.length:Int))<|dfl .mark)),()),()) else A0
def xR:Ent:=(205,A0,⟨[.fz .mark],[.row 61 .mark],ug⟩)
def acU:SQ Tryz.prog xR:=sk (v:= .nil) (fn:=Tryz.f205) afA kN
def aiY:Cx:=cX [vJ,xR] [] []
def ak8:OKC Tryz.prog aiY AI:=okc mixed<|gC abk<|gC acU<|AL
def Ss(x:Y3×A2):Option ((Y3×A2)×A2):=(OS (x.1.2.2.2.1,())).bind λa=>(ug (x.1.2.2.2.2.1,())).bind λb=>(OS x.1.2.2.2.2.2).bind λc=>I (((x.1.1,x.1.2.1,x.1.2.2.1,a.1.1,b.1.1,c.1),()),())
def aBL:Ent:=(160,A0,⟨[Z8],[Z4],Ss⟩)
def aeN:SQ Tryz.prog aBL:=sk (v:= .nil) (fn:=Tryz.f160) ak8 kN
def ao5:Cx:=cX [lr,aDq,aBL] [] [(22,24)]
def aps:OKC Tryz.prog ao5 AI:=okc mixed<|gC ye<|gC ahb<|gC aeN<|AL
def TM(x:Y3×A4×A2):Option ((Y3×Bool×A2)×A2):=(Qg (x.1,())).bind λb=>if !b.1.1 then I (((0,0,0,([]:List A6),([]:List Mark),([]:List A6),()),A3,()),()) else(Ss (x.1,())).bind λc=>(Xq (c.1.1,x.2)).bind λa=>if Ah (!(!a.1.2.1)) ((Qg (a.1.1,())).isSome) then if(!a.1.2.1)||(!(((Qg (a.1.1,())).getD ((A3,()),())).1.1)) then(Ss (x.1,())).bind λd=>I ((d.1.1,A3,()),()) else(Ss (a.1.1,())).bind λe=>I ((e.1.1,U,()),()) else A0
def lu:Ent:=(121,A0,⟨[Z8,.str],[Z4,.bool],TM⟩)
def yf:SQ Tryz.prog lu:=sk (v:= .nil) (fn:=Tryz.f121) aps kN
def ao4:Cx:=cX [JG,zW,lu] [] []
def aCf:OKC Tryz.prog ao4 AI:=okc mixed<|gC Jz<|gC adN<|gC yf<|AL
def XI(x:Y3×Y3×List A4×Int×Int×A2):Rnd (Y3×Y3×List A4×Int×Int×A2) (Y3×Bool×A2) (Y3×Y3×A2):=if A1 (x.2.2.2.2.1<x.2.2.2.1) then if inb x.2.2.2.2.1 x.2.2.1.length then let b:=(rd (dfl .str) x.2.2.1 x.2.2.2.2.1);(TM (x.2.1,b,())).bind λa=>if !a.1.2.1 then I (.inr<|.inl ((0,0,0,([]:List A6),([]:List Mark),([]:List A6),()),A3,())) else I (.inl (x.1,a.1.1,x.2.2.1,x.2.2.2.1,(w64<|x.2.2.2.2.1+1),())) else A0 else I (.inr<|.inr (x.1,x.2.1,()))
def vn:=AW XI
def aB9:Loop:=⟨[(4,Z9),(6,Z9),(17,.sl .str),(18,.int .i64),(19,.int .i64)],[(4,Z9),(6,Z9)],0,[(4,Z9),(5,.bool)],vn⟩
def anr:LF Tryz.f82 [] [1,1,1,0,1,0,0] aB9:=sq (v:= .nil) aCf (b:=XI) kN
def jm(x:Int×List A4×A2):Option ((Y3×Bool×A2)×A2):=(Fu (x.1,())).bind λb=>if !b.1.1 then I (((0,0,0,([]:List A6),([]:List Mark),([]:List A6),()),A3,()),()) else(fv (x.1,())).bind λc=>(AP (vn ((0,0,0,([]:List A6),([]:List Mark),([]:List A6),()),c.1.1,x.2.1,(x.2.1.length:Int),0,())) (λa=>I (a,())) λa=>I ((a.2.1,U,()),()))
def aCx:Ent:=(82,A0,⟨[.int .i64,.fz .str],[Z4,.bool],jm⟩)
def ag9:SQ Tryz.prog aCx:=sk (v:=t1<|t1<|t1<|.two (t1<|.one<|.loop aB9) .nil) (fn:=Tryz.f82) aCf<|kC anr kN
def ajf:Cx:=cX [gG,aCx] [] []
def aoG:OKC Tryz.prog ajf AI:=okc mixed<|gC tY<|gC ag9<|AL
def K5(x:Int×A4×A2):Option ((Y3×Bool×A2)×A2):=(QQ x.2).bind λa=>(jm (x.1,a.1.1,())).bind λb=>I (b.1,())
def XM:Ent:=(43,A0,⟨[.int .i64,.str],[Z4,.bool],K5⟩)
def eP:SQ Tryz.prog XM:=sk (v:= .nil) (fn:=Tryz.f43) aoG kN
def akN:Cx:=cX [FZ,gG] [] [(12,18),(41,44)]
def anx:OKC Tryz.prog akN AI:=okc mixed<|gC Fv<|gC tY<|AL
def OY(x:Y7×A2):Option ((Bool×A2)×A2):=if Ah (!(A1<|2400<(x.1.1.size:Int))) ((CD (x.1.2.1,0,(x.1.1.size:Int),())).isSome) then if(A1<|2400<(x.1.1.size:Int))||(!(((CD (x.1.2.1,0,(x.1.1.size:Int),())).getD ((A3,()),())).1.1)) then I ((A3,()),()) else(QQ (x.1.1,())).bind λa=>if A1 (0<=x.1.2.1)&&A1 (x.1.2.1<=(x.1.1.size:Int)) then(QQ ((x.1.1.extract (0)<|AR x.1.2.1),())).bind λb=>let c:=((A1<|a.1.2.1=(x.1.1.size:Int))&&(A1<|b.1.2.1=x.1.2.1));I ((c,()),()) else A0 else A0
def T9:Ent:=(78,A0,⟨[Z15],[.bool],OY⟩)
def WI:SQ Tryz.prog T9:=sk (v:= .nil) (fn:=Tryz.f78) anx kN
def aoX:Cx:=cX [FZ,JG] [] [(54,57)]
def lx:OKC Tryz.prog aoX AI:=okc mixed<|gC Fv<|gC Jz<|AL
def iy(x:Y9×Y8×List AX×Int×Int×List AX×Int×Int×A2):Rnd (Y9×Y8×List AX×Int×Int×List AX×Int×Int×A2) (Bool×A2) (Y9×List AX×Int×Int×A2):=if A1 (x.2.2.2.2.2.2.2.1<x.2.2.2.2.2.2.1) then if inb x.2.2.2.2.2.2.2.1 x.2.2.2.2.2.1.length then let a:=(rd (dfl .mixed) x.2.2.2.2.2.1 x.2.2.2.2.2.2.2.1).nu;let b:=(rd (dfl .mixed) x.2.2.2.2.2.1 x.2.2.2.2.2.2.2.1).da;if A1 (a=x.2.1.1) then I (.inr<|.inl (A3,())) else I (.inl (x.1,x.2.1,x.2.2.1,x.2.2.2.1,x.2.2.2.2.1,x.2.2.2.2.2.1,x.2.2.2.2.2.2.1,(w64<|x.2.2.2.2.2.2.2.1+1),())) else A0 else I (.inr<|.inr (x.1,x.2.2.1,x.2.2.2.1,x.2.2.2.2.1,()))
def vX:=AW iy
def aAP:Loop:=⟨[(1,Z17),(4,Z32),(42,.sl .mixed),(43,.int .i64),(44,.int .i64),(62,.sl .mixed),(63,.int .i64),(64,.int .i64)],[(1,Z17),(42,.sl .mixed),(43,.int .i64),(44,.int .i64)],2,[(2,.bool)],vX⟩
def an0:LF Tryz.f79 [] [1,1,0,1,0,0,1,1,0,0,1,1,1,0,0] aAP:=sq (v:= .nil) lx (b:=iy) kN
def iz(x:Y9×List AX×Int×Int×A2):Rnd (Y9×List AX×Int×Int×A2) (Bool×A2) (A2):=if A1 (x.2.2.2.1<x.2.2.1) then if inb x.2.2.2.1 x.2.1.length then let b:=(rd (dfl .mixed) x.2.1 x.2.2.2.1).nu;let c:=(rd (dfl .mixed) x.2.1 x.2.2.2.1).da;(CD (b,0,999,())).bind λd=>if(!d.1.1)||(!decide ((c.size:Int)=4)) then I (.inr<|.inl (A3,())) else if A1 (0<=x.2.2.2.1)&&A1 (x.2.2.2.1<=(x.1.2.2.2.2.2.1.length:Int)) then(AP (vX (x.1,(b,c,()),x.2.1,x.2.2.1,x.2.2.2.1,(BS (AR x.2.2.2.1) x.1.2.2.2.2.2.1),((BS (AR x.2.2.2.1) x.1.2.2.2.2.2.1).length:Int),0,())) (λa=>I<|.inr<|.inl a) λa=>I<|.inl (a.1,a.2.1,a.2.2.1,(w64<|a.2.2.2.1+1),())) else A0 else A0 else I (.inr<|.inr ())
def vY:=AW iz
def aAQ:Loop:=⟨[(1,Z17),(42,.sl .mixed),(43,.int .i64),(44,.int .i64)],[],0,[(2,.bool)],vY⟩
def ann:LF Tryz.f79 [] [1,1,0,1,0,0] aAQ:=sq (v:=t1<|t1<|.two (.one<|t1<|t1<|t1<|.one<|.loop aAP) .nil) lx (b:=iz)<|kC an0 kN
def jS(x:Y9×A2):Option ((Bool×A2)×A2):=(Fu (x.1.1,())).bind λb=>if !b.1.1 then I ((A3,()),()) else(Fu (x.1.2.2.1,())).bind λc=>if !c.1.1 then I ((A3,()),()) else(CD (x.1.2.1,1,99,())).bind λd=>if !d.1.1 then I ((A3,()),()) else(CD (x.1.2.2.2.1,1,999,())).bind λe=>if !e.1.1 then I ((A3,()),()) else(CD (x.1.2.2.2.2.1,1,24,())).bind λf=>if !f.1.1 then I ((A3,()),()) else if A1 (14<(x.1.2.2.2.2.2.1.length:Int)) then I ((A3,()),()) else(AP (vY (x.1,x.1.2.2.2.2.2.1,(x.1.2.2.2.2.2.1.length:Int),0,())) (λa=>I (a,())) λa=>I ((U,()),()))
def aCq:Ent:=(79,A0,⟨[Z18],[.bool],jS⟩)
def afu:SQ Tryz.prog aCq:=sk (v:=t1<|t1<|.two (t1<|.one<|.loop aAQ) .nil) (fn:=Tryz.f79) lx<|kC ann kN
def aoY:Cx:=cX [] [] [(21,24)]
def aCd:OKC Tryz.prog aoY AI:=okc mixed<|AL
def XG(x:Int×Int×List AJ×Int×Int×A2):Rnd (Int×Int×List AJ×Int×Int×A2) (Int×A2) (A2):=if A1 (x.2.2.2.2.1<x.2.2.2.1) then if inb x.2.2.2.2.1 x.2.2.1.length then let a:=(rd (dfl .half) x.2.2.1 x.2.2.2.2.1).fr;let b:=(rd (dfl .half) x.2.2.1 x.2.2.2.2.1).nu;let c:=(rd (dfl .half) x.2.2.1 x.2.2.2.2.1).to;let d:=(rd (dfl .half) x.2.2.1 x.2.2.2.2.1).un;let e:=(rd (dfl .half) x.2.2.1 x.2.2.2.2.1).sz;let f:=(rd (dfl .half) x.2.2.1 x.2.2.2.2.1).got;if(A1<|a=x.1)&&(A1<|b=x.2.1) then I (.inr<|.inl x.2.2.2.2) else I (.inl (x.1,x.2.1,x.2.2.1,x.2.2.2.1,(w64<|x.2.2.2.2.1+1),())) else A0 else I (.inr<|.inr ())
def vZ:=AW XG
def aAR:Loop:=⟨[(1,.int .i64),(2,.int .i64),(9,.sl .half),(10,.int .i64),(11,.int .i64)],[],0,[(6,.int .i64)],vZ⟩
def ano:LF Tryz.f80 [] [1,0,1,0,0] aAR:=sq (v:= .nil) aCd (b:=XG) kN
def TJ(x:List AJ×Int×Int×A2):Option ((Int×A2)×A2):=(AP (vZ (x.2.1,x.2.2.1,x.1,(x.1.length:Int),0,())) (λa=>I (a,())) λa=>I (((-1),()),()))
def lp:Ent:=(80,A0,⟨[.fz .half,.int .i64,.int .i64],[.int .i64],TJ⟩)
def xz:SQ Tryz.prog lp:=sk (v:=t1<|.two (t1<|.one<|.loop aAR) .nil) (fn:=Tryz.f80) aCd<|kC ano kN
def aie:Cx:=cX [XM,JG,T9,aCq,lp] [] [(61,62),(76,84)]
def aBU:OKC Tryz.prog aie AI:=okc mixed<|gC eP<|gC Jz<|gC WI<|gC afu<|gC xz<|AL
def fu(x:Y1×List AJ×Int×Int×A2):Rnd (Y1×List AJ×Int×Int×A2) (Bool×A2) (A2):=if A1 (x.2.2.2.1<x.2.2.1) then if inb x.2.2.2.1 x.2.1.length then let a:=(rd (dfl .half) x.2.1 x.2.2.2.1).fr;let b:=(rd (dfl .half) x.2.1 x.2.2.2.1).nu;let d:=(rd (dfl .half) x.2.1 x.2.2.2.1).to;let e:=(rd (dfl .half) x.2.1 x.2.2.2.1).un;let f:=(rd (dfl .half) x.2.1 x.2.2.2.1).sz;let g:=(rd (dfl .half) x.2.1 x.2.2.2.1).got;(jS ((a,b,d,e,f,g,()),())).bind λc=>if Ah (!(!c.1.1)) ((TJ (x.1.2.2.2.2.1,a,b,())).isSome) then if(!c.1.1)||(A1<|((TJ (x.1.2.2.2.2.1,a,b,())).getD ((0,()),())).1.1<x.2.2.2.1) then I (.inr<|.inl (A3,())) else I (.inl (x.1,x.2.1,x.2.2.1,(w64<|x.2.2.2.1+1),())) else A0 else A0 else I (.inr<|.inr ())
def di:=AW fu
def yB:Loop:=⟨[(1,Z19),(65,.sl .half),(66,.int .i64),(67,.int .i64)],[],0,[(2,.bool)],di⟩
def ai1:LF Tryz.f42 [] [1,1,1,1,1,0,1,0,0] yB:=sq (v:= .nil) aBU (b:=fu) kN
def I7(x:Y1×A2):Option ((Bool×A2)×A2):=(BW (X:=Y1×A2) (λa=>(K5 (a.1.1,a.1.2.2.1,())).bind λc=>if A1 (0<=a.1.2.2.2.1)&&A1 (a.1.2.2.2.1<=(a.1.2.2.1.size:Int)) then(K5 (a.1.1,(a.1.2.2.1.extract (0)<|AR a.1.2.2.2.1),())).bind λd=>if(!c.1.2.1)||(!d.1.2.1) then I ((A3,()),()) else(AP (di (a.1,a.1.2.2.2.2.1,(a.1.2.2.2.2.1.length:Int),0,())) (λb=>I (b,())) λb=>I ((U,()),())) else A0)<|(Fu (x.1.1,())).bind λe=>if !e.1.1 then I (.inl ((A3,()),())) else(OY ((x.1.2.2.1,x.1.2.2.2.1,()),())).bind λf=>if !f.1.1 then I (.inl ((A3,()),())) else if A1 (3<(x.1.2.2.2.2.1.length:Int)) then I (.inl ((A3,()),())) else if !x.1.2.1 then if A1 (0<(x.1.2.2.2.2.1.length:Int)) then I (.inl ((A3,()),())) else I (.inr x) else I (.inr x))
def K3:Ent:=(42,A0,⟨[Z12],[.bool],I7⟩)
def L7:SQ Tryz.prog K3:=sk (v:=t1<|.join [(1,Z19)] .nil<|t1<|t1<|t1<|.two (t1<|.one<|.loop yB) .nil) (fn:=Tryz.f42) aBU<|kC ai1 kN
def agq:Cx:=cX [K3,XM] [] []
def aiM:OKC Tryz.prog agq AI:=okc mixed<|gC L7<|gC eP<|AL
def FF(x:Y1×A2):Option ((Y3×A2)×A2):=(I7 x).bind λa=>if !a.1.1 then I (((0,0,0,([]:List A6),([]:List Mark),([]:List A6),()),()),()) else(K5 (x.1.1,x.1.2.2.1,())).bind λb=>I ((b.1.1,()),())
def IA:Ent:=(18,A0,⟨[Z12],[Z4],FF⟩)
def Ic:SQ Tryz.prog IA:=sk (v:= .nil) (fn:=Tryz.f18) aiM kN
def aq3:Cx:=cX [FZ] [] []
def aqn:OKC Tryz.prog aq3 AI:=okc mixed<|gC Fv<|AL
def YI(x:A4×A2):Option ((Bool×A2)×A2):=(CD ((x.1.size:Int),1,60,())).bind λa=>I (a.1,())
def mP:Ent:=(192,A0,⟨[.str],[.bool],YI⟩)
def aA7:SQ Tryz.prog mP:=sk (v:= .nil) (fn:=Tryz.f192) aqn kN
def aoQ:Cx:=cX [T7] [] []
def apf:OKC Tryz.prog aoQ AI:=okc mixed<|gC Vz<|AL
def Qe(x:A4×A2):Option ((A4×A2)×A2):=(JH ((x.1.size:Int),())).bind λa=>if A1 (a.1.1.size+(B [58]).size<=4611686018427387904) then if A1 ((a.1.1++(B [58])).size+x.1.size<=4611686018427387904) then if A1 (((a.1.1++(B [58]))++x.1).size+(B [59]).size<=4611686018427387904) then let b:=(((a.1.1++(B [58]))++x.1)++(B [59]));I ((b,()),()) else A0 else A0 else A0
def lj:Ent:=(193,A0,⟨[.str],[.str],Qe⟩)
def yV:SQ Tryz.prog lj:=sk (v:= .nil) (fn:=Tryz.f193) apf kN
def agh:Cx:=cX [T9,mP,lj] [] [(23,25)]
def zd:OKC Tryz.prog agh AI:=okc mixed<|gC WI<|gC aA7<|gC yV<|AL
def Sl(x:Y7×Y7×A4×List A4×Int×Int×A2):Rnd (Y7×Y7×A4×List A4×Int×Int×A2) (Y7×Bool×A2) (Y7×Y7×A4×A2):=if A1 (x.2.2.2.2.2.1<x.2.2.2.2.1) then if inb x.2.2.2.2.2.1 x.2.2.2.1.length then let a:=(rd (dfl .str) x.2.2.2.1 x.2.2.2.2.2.1);(YI (a,())).bind λc=>if(!c.1.1)||(A1<|2400<(x.2.2.1.size:Int)) then I (.inr<|.inl (x.1,A3,())) else(Qe (a,())).bind λb=>if A1 (x.2.2.1.size+b.1.1.size<=4611686018427387904) then I (.inl (x.1,x.2.1,(x.2.2.1++b.1.1),x.2.2.2.1,x.2.2.2.2.1,(w64<|x.2.2.2.2.2.1+1),())) else A0 else A0 else I (.inr<|.inr (x.1,x.2.1,x.2.2.1,()))
def SY:=AW Sl
def xu:Loop:=⟨[(2,Z21),(4,Z21),(6,.str),(13,.sl .str),(14,.int .i64),(15,.int .i64)],[(2,Z21),(4,Z21),(6,.str)],0,[(4,Z21),(5,.bool)],SY⟩
def agR:LF Tryz.f155 [] [1,1,1,0,1,0,0] xu:=sq (v:= .nil) zd (b:=Sl) kN
def Sq(x:Y7×List A4×A2):Option ((Y7×Bool×A2)×A2):=(OY (x.1,())).bind λb=>if !b.1.1 then I (((noB,0,()),A3,()),()) else(AP (SY (x.1,(noB,0,()),noB,x.2.1,(x.2.1.length:Int),0,())) (λa=>I (a,())) λa=>(if A1 (2400<(a.2.2.1.size:Int)) then I ((a.1,A3,()),()) else I (((a.2.2.1,(a.2.2.1.size:Int),()),U,()),())))
def wE:Ent:=(155,A0,⟨[Z15,.fz .str],[Z15,.bool],Sq⟩)
def ac1:SQ Tryz.prog wE:=sk (v:=t1<|t1<|t1<|.two (t1<|.one<|.loop xu) .nil) (fn:=Tryz.f155) zd<|kC agR kN
def agc:Cx:=cX [T7] [] []
def aiG:OKC Tryz.prog agc AI:=okc mixed<|gC Vz<|AL
def QP(x:A4×Int×Int×Int×A2):Option ((A4×A2)×A2):=if A1 (x.1.size+(B [32]).size<=4611686018427387904) then(JH (x.2.1,())).bind λa=>if A1 ((x.1++(B [32])).size+a.1.1.size<=4611686018427387904) then if A1 (((x.1++(B [32]))++a.1.1).size+(B [32]).size<=4611686018427387904) then(JH (x.2.2.1,())).bind λb=>if A1 ((((x.1++(B [32]))++a.1.1)++(B [32])).size+b.1.1.size<=4611686018427387904) then if A1 (((((x.1++(B [32]))++a.1.1)++(B [32]))++b.1.1).size+(B [32]).size<=4611686018427387904) then(JH x.2.2.2).bind λc=>if A1 ((((((x.1++(B [32]))++a.1.1)++(B [32]))++b.1.1)++(B [32])).size+c.1.1.size<=4611686018427387904) then let d:=((((((x.1++(B [32]))++a.1.1)++(B [32]))++b.1.1)++(B [32]))++c.1.1);I ((d,()),()) else A0 else A0 else A0 else A0 else A0 else A0
def gF:Ent:=(149,A0,⟨[.str,.int .i64,.int .i64,.int .i64],[.str],QP⟩)
def tW:SQ Tryz.prog gF:=sk (v:= .nil) (fn:=Tryz.f149) aiG kN
def aif:Cx:=cX [eC,gF,Wj,T7,lr] [] []
def gZ:OKC Tryz.prog aif AI:=okc mixed<|gC su<|gC tW<|gC dz<|gC Vz<|gC ye<|AL
def fw(x:List A4×List A6×Int×Int×A2):Rnd (List A4×List A6×Int×Int×A2) (A2) (List A4×A2):=if A1 (x.2.2.2.1<x.2.2.1) then if inb x.2.2.2.1 x.2.1.length then let ou:=(rd (dfl .note) x.2.1 x.2.2.2.1).fr;let a:=(rd (dfl .note) x.2.1 x.2.2.2.1).nu;let alN:=(rd (dfl .note) x.2.1 x.2.2.2.1).to;let b:=(rd (dfl .note) x.2.1 x.2.2.2.1).un;let alM:=(rd (dfl .note) x.2.1 x.2.2.2.1).tx;(NB ((ou,a,alN,b,alM,()),())).bind λoy=>if A1 ((B [105,110,98,111,120,32]).size+oy.1.1.size<=4611686018427387904) then if Af (x.1.length+([((B [105,110,98,111,120,32])++oy.1.1)]:List A4).length) then I (.inl ((x.1++([((B [105,110,98,111,120,32])++oy.1.1)]:List A4)),x.2.1,x.2.2.1,(w64<|x.2.2.2.1+1),())) else A0 else A0 else A0 else I (.inr<|.inr (x.1,()))
def dj:=AW fw
def yD:Loop:=⟨[(3,.row 9 .str),(66,.sl .note),(67,.int .i64),(68,.int .i64)],[(3,.row 9 .str)],4,[],dj⟩
def ahp:LF Tryz.f156 [] [1,1,1,1,1,1,1,0,1,0,0] yD:=sq (v:= .nil) gZ (b:=fw) kN
def gA(x:Y3×List A4×List A6×Int×Int×A2):Rnd (Y3×List A4×List A6×Int×Int×A2) (A2) (Y3×List A4×A2):=if A1 (x.2.2.2.2.1<x.2.2.2.1) then if inb x.2.2.2.2.1 x.2.2.1.length then let b:=(rd (dfl .note) x.2.2.1 x.2.2.2.2.1).fr;let c:=(rd (dfl .note) x.2.2.1 x.2.2.2.2.1).nu;let d:=(rd (dfl .note) x.2.2.1 x.2.2.2.2.1).to;let e:=(rd (dfl .note) x.2.2.1 x.2.2.2.2.1).un;let f:=(rd (dfl .note) x.2.2.1 x.2.2.2.2.1).tx;(NB ((b,c,d,e,f,()),())).bind λa=>if A1 ((B [104,101,108,100,32]).size+a.1.1.size<=4611686018427387904) then if Af (x.2.1.length+([((B [104,101,108,100,32])++a.1.1)]:List A4).length) then I (.inl (x.1,(x.2.1++([((B [104,101,108,100,32])++a.1.1)]:List A4)),x.2.2.1,x.2.2.2.1,(w64<|x.2.2.2.2.1+1),())) else A0 else A0 else A0 else I (.inr<|.inr (x.1,x.2.1,()))
def eE:=AW gA
def yE:Loop:=⟨[(1,Z7),(3,.row 9 .str),(52,.sl .note),(53,.int .i64),(54,.int .i64)],[(1,Z7),(3,.row 9 .str)],2,[],eE⟩
def aht:LF Tryz.f156 [] [1,1,1,1,1,1,0,1,0,0] yE:=sq (v:= .nil) gZ (b:=gA) kN
def gB(x:Y3×List A4×List Mark×Int×Int×A2):Rnd (Y3×List A4×List Mark×Int×Int×A2) (A2) (Y3×List A4×A2):=if A1 (x.2.2.2.2.1<x.2.2.2.1) then if inb x.2.2.2.2.1 x.2.2.1.length then let b:=(rd (dfl .mark) x.2.2.1 x.2.2.2.2.1).mf;let c:=(rd (dfl .mark) x.2.2.1 x.2.2.2.2.1).mn;let d:=(rd (dfl .mark) x.2.2.1 x.2.2.2.2.1).mu;(QP ((B [109,97,114,107]),b,c,d,())).bind λa=>if Af (x.2.1.length+([a.1.1]:List A4).length) then I (.inl (x.1,(x.2.1++([a.1.1]:List A4)),x.2.2.1,x.2.2.2.1,(w64<|x.2.2.2.2.1+1),())) else A0 else A0 else I (.inr<|.inr (x.1,x.2.1,()))
def eF:=AW gB
def yd:Loop:=⟨[(1,Z7),(3,.row 9 .str),(34,.sl .mark),(35,.int .i64),(36,.int .i64)],[(1,Z7),(3,.row 9 .str)],0,[],eF⟩
def ai2:LF Tryz.f156 [] [1,1,1,1,1,0,1,0,0] yd:=sq (v:= .nil) gZ (b:=gB) kN
def Wu(x:Y3×A2):Option ((List A4×A2)×A2):=(Qg x).bind λg=>if !g.1.1 then I ((([]:List A4),()),()) else(BW (X:=Y3×List A4×A2) (λa=>(BW (X:=Y3×List A4×A2) (λb=>(AP (eF (b.1,b.2.1,b.1.2.2.2.2.1,(b.1.2.2.2.2.1.length:Int),0,())) (λ_=>A0) λc=>(AP (eE (c.1,c.2.1,c.1.2.2.2.1,(c.1.2.2.2.1.length:Int),0,())) (λ_=>A0) λd=>(AP (dj (d.2.1,d.1.2.2.2.2.2.1,(d.1.2.2.2.2.2.1.length:Int),0,())) (λ_=>A0) λoZ=>(SX oZ).bind λow=>I (ow.1,())))))<|(if A1 (1<a.1.2.2.1) then(JH (a.1.2.2.1,())).bind λe=>if A1 ((B [110,101,120,116,32]).size+e.1.1.size<=4611686018427387904) then if Af (a.2.1.length+([((B [110,101,120,116,32])++e.1.1)]:List A4).length) then I (.inr (a.1,(a.2.1++([((B [110,101,120,116,32])++e.1.1)]:List A4)),())) else A0 else A0 else I (.inr a))))<|(if A1 (0<x.1.2.1) then(JH (x.1.2.1,())).bind λf=>if A1 ((B [116,105,109,101,32]).size+f.1.1.size<=4611686018427387904) then if Af ([((B [116,105,109,101,32])++f.1.1)]:List A4).length then I (.inr (x.1,([((B [116,105,109,101,32])++f.1.1)]:List A4),())) else A0 else A0 else I (.inr (x.1,([]:List A4),()))))
def jy:Ent:=(156,A0,⟨[Z8],[.row 9 .str],Wu⟩)
def wa:SQ Tryz.prog jy:=sk (v:=t1<|t1<|t1<|.join [(1,Z7),(3,.row 9 .str)] .nil<|.join [(1,Z7),(3,.row 9 .str)] .nil<|.two (t1<|.one<|.loop yd)<|.two (t1<|.one<|.loop yE)<|.two (t1<|.one<|.loop yD) .nil) (fn:=Tryz.f156) gZ<|kC ai2<|kC aht<|kC ahp kN
def aia:Cx:=cX [T9,mP,lj] [] [(14,21)]
def akA:OKC Tryz.prog aia AI:=okc mixed<|gC WI<|gC aA7<|gC yV<|AL
def Sv(x:Y7×A4×A2):Option ((Y7×Bool×A2)×A2):=(OY (x.1,())).bind λc=>if !c.1.1 then I (((noB,0,()),A3,()),()) else(YI x.2).bind λa=>if Ah (!(!a.1.1)) ((Qe x.2).isSome) then if(!a.1.1)||(A1<|2400<(w64<|(x.1.1.size:Int)+((((Qe x.2).getD ((noB,()),())).1.1).size:Int))) then I ((x.1,A3,()),()) else(Qe x.2).bind λb=>if A1 (x.1.1.size+b.1.1.size<=4611686018427387904) then I ((((x.1.1++b.1.1),x.1.2),U,()),()) else A0 else A0
def aBN:Ent:=(188,A0,⟨[Z15,.str],[Z15,.bool],Sv⟩)
def adh:SQ Tryz.prog aBN:=sk (v:= .nil) (fn:=Tryz.f188) akA kN
def aqz:Cx:=cX [XM,lu,wE,jy,aBN] [] []
def arM:OKC Tryz.prog aqz AI:=okc mixed<|gC eP<|gC yf<|gC ac1<|gC wa<|gC adh<|AL
def Oj(x:Y1×A4×A2):Option ((Y1×Bool×A2)×A2):=(K5 (x.1.1,x.1.2.2.1,())).bind λb=>(TM (b.1.1,x.2)).bind λe=>if !e.1.2.1 then I ((x.1,A3,()),()) else(Sv ((x.1.2.2.1,x.1.2.2.2.1,()),x.2)).bind λc=>(BW (X:=Y1×Y1×Y7×Bool×A2) (λa=>if !a.2.2.2.1 then I ((a.1,A3,()),()) else I (((a.1.1,a.1.2.1,a.2.2.1.1,a.2.2.1.2.1,a.1.2.2.2.2),U,()),()))<|(if !c.1.2.1 then(Wu (b.1.1,())).bind λf=>(Sq ((x.1.2.2.1,x.1.2.2.2.1,()),f.1)).bind λd=>if !d.1.2.1 then I (.inl ((x.1,A3,()),())) else(Sv (d.1.1,x.2)).bind λg=>I (.inr (x.1,(0,A3,noB,0,([]:List AJ),()),g.1)) else I (.inr (x.1,(0,A3,noB,0,([]:List AJ),()),c.1))))
def Yd:Ent:=(148,A0,⟨[Z12,.str],[Z12,.bool],Oj⟩)
def kI:SQ Tryz.prog Yd:=sk (v:=t1<|t1<|t1<|t1<|.join [(2,Z19),(4,Z20),(10,Z21),(11,.bool)] .nil .nil) (fn:=Tryz.f148) arM kN
def aew:Cx:=cX [T9] [] []
def ahJ:OKC Tryz.prog aew AI:=okc mixed<|gC WI<|AL
def fO(x:Y7×A2):Option ((Y7×A2)×A2):=(OY x).bind λa=>if !a.1.1 then I (((noB,0,()),()),()) else I (((x.1.1,(x.1.1.size:Int),()),()),())
def yi:Ent:=(194,A0,⟨[Z15],[Z15],fO⟩)
def aco:SQ Tryz.prog yi:=sk (v:= .nil) (fn:=Tryz.f194) ahJ kN
def aoZ:Cx:=cX [yi] [] []
def api:OKC Tryz.prog aoZ AI:=okc mixed<|gC aco<|AL
def Of(x:Y1×A2):Option ((Y1×A2)×A2):=(fO ((x.1.2.2.1,x.1.2.2.2.1,()),())).bind λa=>I (((x.1.1,x.1.2.1,a.1.1.1,a.1.1.2.1,x.1.2.2.2.2),()),())
def jo:Ent:=(157,A0,⟨[Z12],[Z12],Of⟩)
def va:SQ Tryz.prog jo:=sk (v:= .nil) (fn:=Tryz.f157) api kN
def aof:Cx:=cX [] [] []
def apo:OKC Tryz.prog aof AI:=okc mixed<|AL
def jk(x:Int×Y6×A2):Option ((List Frame×A2)×A2):=I ((([(Frame.mk x.1 x.2.1.2.2.1 x.2.1.2.1 x.2.1.2.2.2.1 x.2.1.2.2.2.2.1 x.2.1.2.2.2.2.2.1 x.2.1.2.2.2.2.2.2.1 0 0 noB)]:List Frame),()),())
def aCv:Ent:=(184,A0,⟨[.int .i64,Z13],[.row 124 .frame],jk⟩)
def ag0:SQ Tryz.prog aCv:=sk (v:= .nil) (fn:=Tryz.f184) apo kN
def ar1:Cx:=cX [] [(28,28)] []
def aEK:OKC Tryz.prog ar1 AI:=okc mixed<|AL
def YK(x:Y8×List AX×List AX×Int×Int×A2):Rnd (Y8×List AX×List AX×Int×Int×A2) (A2) (Y8×List AX×A2):=if A1 (x.2.2.2.2.1<x.2.2.2.1) then if inb x.2.2.2.2.1 x.2.2.1.length then let a:=(rd (dfl .mixed) x.2.2.1 x.2.2.2.2.1).nu;let b:=(rd (dfl .mixed) x.2.2.1 x.2.2.2.2.1).da;if !decide (a=x.1.1) then if Af (x.2.1.length+([(AX.mk a b)]:List AX).length) then I (.inl (x.1,(x.2.1++([(AX.mk a b)]:List AX)),x.2.2.1,x.2.2.2.1,(w64<|x.2.2.2.2.1+1),())) else A0 else I (.inl (x.1,x.2.1,x.2.2.1,x.2.2.2.1,(w64<|x.2.2.2.2.1+1),())) else A0 else I (.inr<|.inr (x.1,x.2.1,()))
def gw:=AW YK
def aDI:Loop:=⟨[(3,Z32),(5,.row 142 .mixed),(8,.sl .mixed),(9,.int .i64),(10,.int .i64)],[(3,Z32),(5,.row 142 .mixed)],0,[],gw⟩
def aqY:LF Tryz.f186 [] [1,1,0,1,0,0] aDI:=sq (v:= .nil) aEK (b:=YK) kN
def YS(x:List AX×Y8×A2):Option ((List AX×A2)×A2):=(AP (gw (x.2.1,([]:List AX),x.1,(x.1.length:Int),0,())) (λ_=>A0) λa=>(if A1 (14<=(a.2.1.length:Int)) then if A1 (0<=1)&&A1 (1<=(a.2.1.length:Int)) then if Af ((Bv (AR 1) a.2.1).length+([(AX.mk a.1.1 a.1.2.1)]:List AX).length) then I ((((Bv (AR 1) a.2.1)++([(AX.mk a.1.1 a.1.2.1)]:List AX)),()),()) else A0 else A0 else if Af (a.2.1.length+([(AX.mk a.1.1 a.1.2.1)]:List AX).length) then I (((a.2.1++([(AX.mk a.1.1 a.1.2.1)]:List AX)),()),()) else A0))
def aEE:Ent:=(186,A0,⟨[.fz .mixed,Z16],[.row 142 .mixed],YS⟩)
def ajx:SQ Tryz.prog aEE:=sk (v:=t1<|t1<|.two (t1<|.one<|.loop aDI) .nil) (fn:=Tryz.f186) aEK<|kC aqY kN
def aq6:Cx:=cX [FZ] [] [(8,9)]
def aqp:OKC Tryz.prog aq6 AI:=okc mixed<|gC Fv<|AL
def Xo(x:Int×Int×A2):Option ((Bool×A2)×A2):=(CD (x.1,1,6,())).bind λa=>if Ah a.1.1 ((CD (x.2.1,0,999,())).isSome) then let b:=(a.1.1&&(((CD (x.2.1,0,999,())).getD ((A3,()),())).1.1));I ((b,()),()) else A0
def mQ:Ent:=(232,A0,⟨[.int .i64,.int .i64],[.bool],Xo⟩)
def aAA:SQ Tryz.prog mQ:=sk (v:= .nil) (fn:=Tryz.f232) aqp kN
def aib:Cx:=cX [FZ] [] []
def akB:OKC Tryz.prog aib AI:=okc mixed<|gC Fv<|AL
def QU(x:Int×A2):Option ((Int×A2)×A2):=(CD (x.1,0,65535,())).bind λa=>if !a.1.1 then I ((0,()),()) else let b:=(BO (w64<|(w64<|25173 * x.1)+13849) 65536);I ((b,()),())
def jx:Ent:=(233,A0,⟨[.int .i64],[.int .i64],QU⟩)
def wZ:SQ Tryz.prog jx:=sk (v:= .nil) (fn:=Tryz.f233) akB kN
def agn:Cx:=cX [mQ,jx] [] []
def wJ:OKC Tryz.prog agn AI:=okc mixed<|gC aAA<|gC wZ<|AL
def y0(x:Int×List Int×Int×Int×Int×A2):Rnd (Int×List Int×Int×Int×Int×A2) (Int×A2) (Int×A2):=if A1 (x.2.2.2.2.1<=x.1) then if inb x.2.2.2.2.1 x.2.1.length then let a:=(w64<|x.2.2.2.1+(rd (dfl .int) x.2.1 x.2.2.2.2.1));(if A1 (x.2.2.1<a) then I (.inr<|.inl x.2.2.2.2) else I (.inl (x.1,x.2.1,x.2.2.1,a,(w64<|x.2.2.2.2.1+1),()))) else A0 else I (.inr<|.inr (x.1,()))
def eA:=AW y0
def xc:Loop:=⟨[(0,.int .i64),(5,.row 3 .int),(8,.int .i64),(9,.int .i64),(10,.int .i64)],[(0,.int .i64)],2,[(4,.int .i64)],eA⟩
def agI:LF Tryz.f234 [] [1,1,1,1,1,1,1,1,0,1,0,0] xc:=sq (v:= .nil) wJ (b:=y0) kN
def y6(x:Int×Int×List Int×Int×Int×A2):Rnd (Int×Int×List Int×Int×Int×A2) (A2) (Int×Int×List Int×Int×A2):=if A1 (x.2.2.2.2.1<=x.1) then if !decide ((w64<|x.2.2.2.2.1 * (w64<|x.2.2.2.2.1 - 1))=0) then if Af (x.2.2.1.length+([(w64<|B5 60<|w64<|x.2.2.2.2.1 * (w64<|x.2.2.2.2.1 - 1))]:List Int).length) then if inb x.2.2.2.2.1 ((x.2.2.1++([(w64<|B5 60<|w64<|x.2.2.2.2.1 * (w64<|x.2.2.2.2.1 - 1))]:List Int)).length) then let a:=(w64<|x.2.2.2.1+(rd (dfl .int) (x.2.2.1++([(w64<|B5 60<|w64<|x.2.2.2.2.1 * (w64<|x.2.2.2.2.1 - 1))]:List Int)) x.2.2.2.2.1));I (.inl (x.1,x.2.1,(x.2.2.1++([(w64<|B5 60<|w64<|x.2.2.2.2.1 * (w64<|x.2.2.2.2.1 - 1))]:List Int)),a,(w64<|x.2.2.2.2.1+1),())) else A0 else A0 else A0 else I (.inr<|.inr (x.1,x.2.1,x.2.2.1,x.2.2.2.1,()))
def eB:=AW y6
def xd:Loop:=⟨[(0,.int .i64),(1,.int .i64),(5,.row 3 .int),(6,.int .i64),(7,.int .i64)],[(0,.int .i64),(1,.int .i64),(5,.row 3 .int),(6,.int .i64)],0,[],eB⟩
def agV:LF Tryz.f234 [] [1,1,1,1,1,0,1,0,0] xd:=sq (v:= .nil) wJ (b:=y6) kN
def ft(x:Int×Int×A2):Option ((Int×A2)×A2):=(Xo x).bind λc=>if !c.1.1 then I ((0,()),()) else if A1 (x.2.1<x.1) then I ((1,()),()) else if !decide (x.1=0) then if inb 1 (([0,(w64<|(w64<|B5 60 x.1)+10)]:List Int).length) then let d:=(rd (dfl .int) ([0,(w64<|(w64<|B5 60 x.1)+10)]:List Int) 1);(AP (eB (x.1,x.2.1,([0,(w64<|(w64<|B5 60 x.1)+10)]:List Int),d,2,())) (λ_=>A0) (λa=>(QU ((w64<|(w64<|31 * a.2.1)+a.1),())).bind λe=>(QU e.1).bind λf=>if !decide (a.2.2.2.1=0) then let g:=(BO (w64<|B5 f.1.1 16) a.2.2.2.1);(AP (eA (a.1,a.2.2.1,g,0,1,())) (λb=>I (b,())) λb=>I (b,())) else A0)) else A0 else A0
def zy:Ent:=(234,A0,⟨[.int .i64,.int .i64],[.int .i64],ft⟩)
def ad4:SQ Tryz.prog zy:=sk (v:=t1<|t1<|t1<|t1<|t1<|.two (t1<|.one<|.loop xd)<|t1<|t1<|.two (t1<|.one<|.loop xc) .nil) (fn:=Tryz.f234) wJ<|kC agV<|kC agI kN
def afZ:Cx:=cX [] [] []
def ahI:OKC Tryz.prog afZ AI:=okc mixed<|AL
def vb(x:List Int×A2):Option ((List Int×A2)×A2):=if A1 ((x.1.length:Int)=0) then I ((([]:List Int),()),()) else if A1 (0<=(x.1.length:Int))&&A1 ((x.1.length:Int)<=4294967296) then I (((BS (BV (AR (x.1.length:Int))<|dfl .int).length x.1++Bv x.1.length (BV (AR (x.1.length:Int))<|dfl .int)),()),()) else A0
def yh:Ent:=(235,A0,⟨[.fz .int],[.row 3 .int],vb⟩)
def acn:SQ Tryz.prog yh:=sk (v:= .nil) (fn:=Tryz.f235) ahI kN
def aqB:Cx:=cX [mQ,jx,zy,yh] [] []
def YP:OKC Tryz.prog aqB AI:=okc mixed<|gC aAA<|gC wZ<|gC ad4<|gC acn<|AL
def Xf(x:Int×List Bool×Int×Int×Int×A2):Rnd (Int×List Bool×Int×Int×Int×A2) (A2) (Int×List Bool×Int×Int×Int×A2):=if inb x.2.2.2.2.1 x.2.1.length then if rd (dfl .bool) x.2.1 x.2.2.2.2.1 then if !decide (x.1=0) then let a:=(BO (w64<|x.2.2.2.2.1+1) x.1);I (.inl (x.1,x.2.1,x.2.2.1,x.2.2.2.1,a,())) else A0 else I (.inr<|.inr x) else A0
def fq:=AW Xf
def aBa:Loop:=⟨[(0,.int .i64),(5,.abx 218 .bool),(6,.int .i64),(7,.int .i64),(8,.int .i64)],[(0,.int .i64),(5,.abx 218 .bool),(6,.int .i64),(7,.int .i64),(8,.int .i64)],2,[],fq⟩
def ap3:LF Tryz.f190 [] [1,1,1,1,1,0,1,0,0,1,0,0,1,1,0,0,0] aBa:=sq (v:= .nil) YP (b:=Xf) kN
def l8(x:List Int×List Bool×Int×A2):Rnd (List Int×List Bool×Int×A2) (A2) (List Int×A2):=if A1 (x.2.2.1<6) then if inb x.2.2.1 x.2.1.length&&inb x.2.2.1 6 then let a:=(rd (dfl .bool) x.2.1 x.2.2.1);(if a then if Af (x.1.length+([x.2.2.1]:List Int).length) then I (.inl ((x.1++([x.2.2.1]:List Int)),x.2.1,(w64<|x.2.2.1+1),())) else A0 else I (.inl (x.1,x.2.1,(w64<|x.2.2.1+1),()))) else A0 else I (.inr<|.inr (x.1,()))
def wS:=AW l8
def aBZ:Loop:=⟨[(9,.row 3 .int),(47,.arr .bool),(48,.int .i64)],[(9,.row 3 .int)],4,[],wS⟩
def ap0:LF Tryz.f190 [] [1,1,1,1,1,1,1,0,1,0,0] aBZ:=sq (v:= .nil) YP (b:=l8) kN
def l9(x:Int×List Bool×Int×Int×A2):Rnd (Int×List Bool×Int×Int×A2) (A2) (List Bool×A2):=if A1 (0<x.2.2.2.1) then(QU (x.2.2.1,())).bind λb=>if !decide (x.1=0) then let c:=(BO (w64<|B5 b.1.1 16) x.1);(AP (fq (x.1,x.2.1,b.1.1,x.2.2.2.1,c,())) (λ_=>I<|.inr<|.inl ()) λa=>(if inb a.2.2.2.2.1 a.2.1.length then I (.inl (a.1,(Bw a.2.1 (AR a.2.2.2.2.1) U),a.2.2.1,(w64<|a.2.2.2.1 - 1),())) else A0)) else A0 else I (.inr<|.inr (x.2.1,()))
def wT:=AW l9
def aBb:Loop:=⟨[(0,.int .i64),(5,.abx 218 .bool),(6,.int .i64),(7,.int .i64)],[(5,.abx 218 .bool)],0,[],wT⟩
def apD:LF Tryz.f190 [] [1,1,1,1,1,0,1,0,0] aBb:=sq (v:=t1<|.two (.one<|t1<|t1<|.two (.one<|.loop aBa) .nil) .nil) YP (b:=l9)<|kC ap3 kN
def Xt(x:Int×Int×A2):Option ((List Int×A2)×A2):=(Xo x).bind λa=>if !a.1.1 then I ((([]:List Int),()),()) else if A1 (x.2.1<x.1) then I ((([x.2.1]:List Int),()),()) else(QU ((w64<|(w64<|7 * x.2.1)+1),())).bind λb=>(ft x).bind λc=>(AP (wT (x.1,(BV 6<|dfl .bool),b.1.1,c.1)) (λ_=>A0) λd=>(AP (wS (([]:List Int),d.1,0,())) (λ_=>A0) λe=>(vb e).bind λf=>I (f.1,())))
def mR:Ent:=(190,A0,⟨[.int .i64,.int .i64],[.row 3 .int],Xt⟩)
def zh:SQ Tryz.prog mR:=sk (v:=t1<|t1<|t1<|t1<|t1<|.two (t1<|.one<|.loop aBb)<|t1<|.two (t1<|.one<|.loop aBZ) .nil) (fn:=Tryz.f190) YP<|kC apD<|kC ap0 kN
def aq1:Cx:=cX [] [] []
def aDv:OKC Tryz.prog aq1 AI:=okc mixed<|AL
def aDD(x:A4×List Int×Int×Int×A2):Rnd (A4×List Int×Int×Int×A2) (A2) (List Int×A2):=if A1 (x.2.2.2.1<x.2.2.1) then if inb x.2.2.2.1 x.2.1.length then if inb x.2.2.2.1 x.1.size then if inb x.2.2.2.1 x.2.1.length then let a:=(E4 .u8 (rd (dfl .u8) x.2.1 x.2.2.2.1)<|bt x.1 x.2.2.2.1);I (.inl (x.1,(Bw x.2.1 (AR x.2.2.2.1) a),x.2.2.1,(w64<|x.2.2.2.1+1),())) else A0 else A0 else A0 else I (.inr<|.inr (x.2.1,()))
def wO:=AW aDD
def aBd:Loop:=⟨[(1,.str),(5,.Cq 5 .u8),(10,.int .i64),(11,.int .i64)],[(5,.Cq 5 .u8)],0,[],wO⟩
def ap8:LF Tryz.f191 [] [1,1,0,1,0,0] aBd:=sq (v:= .nil) aDv (b:=aDD) kN
def Xu(x:A4×A4×A2):Option ((A4×A2)×A2):=if Af x.1.size then(AP (wO (x.2.1,(BF x.1),((BF x.1).length:Int),0,())) (λ_=>A0) λa=>I (((BK a.1),()),())) else A0
def mO:Ent:=(191,A0,⟨[.str,.str],[.str],Xu⟩)
def aA6:SQ Tryz.prog mO:=sk (v:=t1<|t1<|.two (t1<|.one<|.loop aBd) .nil) (fn:=Tryz.f191) aDv<|kC ap8 kN
def akR:Cx:=cX [FZ,mR,mO] [] [(31,34)]
def jJ:OKC Tryz.prog akR AI:=okc mixed<|gC Fv<|gC zh<|gC aA6<|AL
def Ws(x:Int×List AX×List A4×Bool×A4×Int×Int×List AX×Int×Int×List Int×Int×Int×A2):Rnd (Int×List AX×List A4×Bool×A4×Int×Int×List AX×Int×Int×List Int×Int×Int×A2) (A2) (Int×List AX×List A4×Bool×A4×Int×Int×List AX×Int×Int×A2):=if A1 (x.2.2.2.2.2.2.2.2.2.2.2.2.1<x.2.2.2.2.2.2.2.2.2.2.2.1) then if inb x.2.2.2.2.2.2.2.2.2.2.2.2.1 x.2.2.2.2.2.2.2.2.2.2.1.length then let Ue:=(rd (dfl .int) x.2.2.2.2.2.2.2.2.2.2.1 x.2.2.2.2.2.2.2.2.2.2.2.2.1);(if inb Ue x.2.2.1.length then if A1 ((rd (dfl .str) x.2.2.1 Ue)=noB) then let alH:=(w64<|x.2.2.2.2.2.2.1+1);I (.inl (x.1,x.2.1,x.2.2.1,x.2.2.2.1,x.2.2.2.2.1,Ue,alH,x.2.2.2.2.2.2.2.1,x.2.2.2.2.2.2.2.2.1,x.2.2.2.2.2.2.2.2.2.1,x.2.2.2.2.2.2.2.2.2.2.1,x.2.2.2.2.2.2.2.2.2.2.2.1,(w64<|x.2.2.2.2.2.2.2.2.2.2.2.2.1+1),())) else if inb Ue x.2.2.1.length then(Xu (x.2.2.2.2.1,(rd (dfl .str) x.2.2.1 Ue),())).bind λamZ=>I (.inl (x.1,x.2.1,x.2.2.1,x.2.2.2.1,amZ.1.1,x.2.2.2.2.2.1,x.2.2.2.2.2.2.1,x.2.2.2.2.2.2.2.1,x.2.2.2.2.2.2.2.2.1,x.2.2.2.2.2.2.2.2.2.1,x.2.2.2.2.2.2.2.2.2.2.1,x.2.2.2.2.2.2.2.2.2.2.2.1,(w64<|x.2.2.2.2.2.2.2.2.2.2.2.2.1+1),())) else A0 else A0) else A0 else I (.inr<|.inr (x.1,x.2.1,x.2.2.1,x.2.2.2.1,x.2.2.2.2.1,x.2.2.2.2.2.1,x.2.2.2.2.2.2.1,x.2.2.2.2.2.2.2.1,x.2.2.2.2.2.2.2.2.1,x.2.2.2.2.2.2.2.2.2.1,()))
def eh:=AW Ws
def ze:Loop:=⟨[(0,.int .i64),(1,.sl .mixed),(5,.row 9 .str),(6,.bool),(9,.str),(10,.int .i64),(11,.int .i64),(20,.sl .mixed),(21,.int .i64),(22,.int .i64),(41,.row 3 .int),(42,.int .i64),(43,.int .i64)],[(0,.int .i64),(1,.sl .mixed),(5,.row 9 .str),(6,.bool),(9,.str),(10,.int .i64),(11,.int .i64),(20,.sl .mixed),(21,.int .i64),(22,.int .i64)],4,[],eh⟩
def aj7:LF Tryz.f230 [] [1,1,1,0,1,0,0,1,0,1,1,0,0,1,1,0,0,1,1,1,0,1,0,0] ze:=sq (v:= .nil) jJ (b:=Ws) kN
def OT(x:Int×List AX×List A4×Bool×List AX×Int×Int×A2):Rnd (Int×List AX×List A4×Bool×List AX×Int×Int×A2) (A2) (Int×List AX×List A4×Bool×A2):=if A1 (x.2.2.2.2.2.2.1<x.2.2.2.2.2.1) then if inb x.2.2.2.2.2.2.1 x.2.2.2.2.1.length then let aEh:=(rd (dfl .mixed) x.2.2.2.2.1 x.2.2.2.2.2.2.1).nu;let a:=(rd (dfl .mixed) x.2.2.2.2.1 x.2.2.2.2.2.2.1).da;(CD (aEh,0,999,())).bind λama=>if(!ama.1.1)||(!decide ((a.size:Int)=4)) then I (.inl (x.1,x.2.1,x.2.2.1,x.2.2.2.1,x.2.2.2.2.1,x.2.2.2.2.2.1,(w64<|x.2.2.2.2.2.2.1+1),())) else(Xt (x.1,aEh,())).bind λaEu=>(AP (eh (x.1,x.2.1,x.2.2.1,x.2.2.2.1,a,(-1),0,x.2.2.2.2.1,x.2.2.2.2.2.1,x.2.2.2.2.2.2.1,aEu.1.1,(aEu.1.1.length:Int),0,())) (λ_=>I<|.inr<|.inl ()) λGr=>(if A1 (Gr.2.2.2.2.2.2.1=1) then if inb Gr.2.2.2.2.2.1 Gr.2.2.1.length then I (.inl (Gr.1,Gr.2.1,(Bw Gr.2.2.1 (AR Gr.2.2.2.2.2.1) Gr.2.2.2.2.1),U,Gr.2.2.2.2.2.2.2.1,Gr.2.2.2.2.2.2.2.2.1,(w64<|Gr.2.2.2.2.2.2.2.2.2.1+1),())) else A0 else I (.inl (Gr.1,Gr.2.1,Gr.2.2.1,Gr.2.2.2.1,Gr.2.2.2.2.2.2.2.1,Gr.2.2.2.2.2.2.2.2.1,(w64<|Gr.2.2.2.2.2.2.2.2.2.1+1),())))) else A0 else I (.inr<|.inr (x.1,x.2.1,x.2.2.1,x.2.2.2.1,()))
def WK:=AW OT
def zf:Loop:=⟨[(0,.int .i64),(1,.sl .mixed),(5,.row 9 .str),(6,.bool),(20,.sl .mixed),(21,.int .i64),(22,.int .i64)],[(0,.int .i64),(1,.sl .mixed),(5,.row 9 .str),(6,.bool)],2,[],WK⟩
def ajG:LF Tryz.f230 [] [1,1,1,0,1,0,0,1,0,1,1,0,0] zf:=sq (v:=t1<|t1<|.two (.one<|t1<|t1<|t1<|.two (t1<|.one<|.loop ze) .nil) .nil) jJ (b:=OT)<|kC aj7 kN
def kL(x:Int×List AX×List A4×Bool×A2):Rnd (Int×List AX×List A4×Bool×A2) (A2) (List A4×A2):=if x.2.2.2.1 then(AP (WK (x.1,x.2.1,x.2.2.1,A3,x.2.1,(x.2.1.length:Int),0,())) (λ_=>I<|.inr<|.inl ()) λalQ=>I<|.inl alQ) else I (.inr<|.inr (x.2.2.1,()))
def vF:=AW kL
def zg:Loop:=⟨[(0,.int .i64),(1,.sl .mixed),(5,.row 9 .str),(6,.bool)],[(5,.row 9 .str)],0,[],vF⟩
def aju:LF Tryz.f230 [] [1,1,1,0,1,0,0] zg:=sq (v:=t1<|.one<|t1<|t1<|.one<|.loop zf) jJ (b:=kL)<|kC ajG kN
def jC(x:Int×List AX×A2):Option ((List A4×A2)×A2):=(CD (x.1,1,6,())).bind λa=>if !a.1.1 then I ((([]:List A4),()),()) else if A1 (0<=x.1)&&A1 (x.1<=4294967296) then(AP (vF (x.1,x.2.1,(BV (AR x.1)<|dfl .str),U,())) (λ_=>A0) λalP=>I (alP,())) else A0
def aC6:Ent:=(230,A0,⟨[.int .i64,.fz .mixed],[.row 9 .str],jC⟩)
def afH:SQ Tryz.prog aC6:=sk (v:=t1<|t1<|t1<|.two (t1<|.one<|.loop zg) .nil) (fn:=Tryz.f230) jJ<|kC aju kN
def akQ:Cx:=cX [FZ,aC6] [] []
def l7:OKC Tryz.prog akQ AI:=okc mixed<|gC Fv<|gC afH<|AL
def iB(x:Int×A4×Int×A2):Rnd (Int×A4×Int×A2) (A4×Bool×A2) (Int×A4×A2):=if A1 (x.2.2.1<(x.2.1.size:Int)) then if inb x.2.2.1 x.2.1.size then if !decide ((bt x.2.1 x.2.2.1)=0) then I (.inr<|.inl (noB,A3,())) else I (.inl (x.1,x.2.1,(w64<|x.2.2.1+1),())) else A0 else I (.inr<|.inr (x.1,x.2.1,()))
def vE:=AW iB
def aAJ:Loop:=⟨[(0,.int .i64),(6,.str),(9,.int .i64)],[(0,.int .i64),(6,.str)],2,[(4,.str),(5,.bool)],vE⟩
def ajF:LF Tryz.f187 [] [1,1,1,1,0,1,0,0] aAJ:=sq (v:= .nil) l7 (b:=iB) kN
def Wr(x:Int×A4×List A4×Int×Int×A2):Rnd (Int×A4×List A4×Int×Int×A2) (A4×Bool×A2) (Int×A4×A2):=if A1 (x.2.2.2.2.1<x.2.2.2.1) then if inb x.2.2.2.2.1 x.2.2.1.length then let a:=(rd (dfl .str) x.2.2.1 x.2.2.2.2.1);(if A1 (a=noB) then I (.inr<|.inl (noB,A3,())) else if A1 (x.2.1.size+a.size<=4611686018427387904) then I (.inl (x.1,(x.2.1++a),x.2.2.1,x.2.2.2.1,(w64<|x.2.2.2.2.1+1),())) else A0) else A0 else I (.inr<|.inr (x.1,x.2.1,()))
def ee:=AW Wr
def aAK:Loop:=⟨[(0,.int .i64),(6,.str),(18,.row 9 .str),(19,.int .i64),(20,.int .i64)],[(0,.int .i64),(6,.str)],0,[(4,.str),(5,.bool)],ee⟩
def ajt:LF Tryz.f187 [] [1,1,1,0,1,0,0] aAK:=sq (v:= .nil) l7 (b:=Wr) kN
def jB(x:Int×List AX×A2):Option ((A4×Bool×A2)×A2):=(CD (x.1,1,24,())).bind λd=>if !d.1.1 then I ((noB,A3,()),()) else(jC ((w64<|B5 (w64<|(w64<|x.1+4) - 1) 4),x.2)).bind λc=>(AP (ee (x.1,noB,c.1.1,(c.1.1.length:Int),0,())) (λb=>I (b,())) λb=>(AP (vE (b.1,b.2.1,b.1,())) (λa=>I (a,())) λa=>(if A1 (0<=a.1)&&A1 (a.1<=(a.2.1.size:Int)) then let e:=(a.2.1.extract (0)<|AR a.1);I ((e,U,()),()) else A0)))
def aC5:Ent:=(187,A0,⟨[.int .i64,.fz .mixed],[.str,.bool],jB⟩)
def afG:SQ Tryz.prog aC5:=sk (v:=t1<|t1<|t1<|.two (t1<|.one<|.loop aAK)<|.two (t1<|.one<|.loop aAJ) .nil) (fn:=Tryz.f187) l7<|kC ajt<|kC ajF kN
def agd:Cx:=cX [IA,M9,lp,Yd,Wj,jo,aCv,Xi,aEE,aC5] [(85,85)] [(34,41)]
def aiH:OKC Tryz.prog agd AI:=okc mixed<|gC Ic<|gC NC<|gC xz<|gC kI<|gC dz<|gC va<|gC ag0<|gC fL<|gC ajx<|gC afG<|AL
def Wb(x:Y1×Y6×A2):Option ((Y1×List Frame×A2)×A2):=(FF (x.1,())).bind λc=>let i:=(A1<|x.2.1.2.2.2.2.2.2.1<=c.1.1.2.1);(if i then(jk (3,x.2)).bind λj=>I ((x.1,j.1),()) else(HJ (c.1.1.2.2.2.1,x.2.1.2.2.2.1,x.2.1.2.2.2.2.1,())).bind λd=>if Ah (!(A1<|0<=d.1.1)) ((LC (c.1.1.2.2.2.2.1,x.2.1.2.2.2.1,x.2.1.2.2.2.2.1,())).isSome) then let k:=((A1<|0<=d.1.1)||(A1<|0<=((LC (c.1.1.2.2.2.2.1,x.2.1.2.2.2.1,x.2.1.2.2.2.2.1,())).getD ((0,()),())).1.1));(if k then(Of (x.1,())).bind λl=>(jk (2,x.2)).bind λm=>I ((l.1.1,m.1),()) else let n:=(A1<|x.2.1.2.2.2.1=x.1.1);(if n then I ((x.1,([]:List Frame),()),()) else(TJ (x.1.2.2.2.2.1,x.2.1.2.2.2.1,x.2.1.2.2.2.2.1,())).bind λe=>(BW (X:=Y1×Y6×Y1×Int×A2) (λa=>if inb a.2.2.2.1 a.1.2.2.2.2.1.length then if !decide ((rd (dfl .half) a.1.2.2.2.2.1 a.2.2.2.1).to=a.2.1.2.2.2.2.2.1) then I ((a.1,([]:List Frame),()),()) else if !decide ((rd (dfl .half) a.1.2.2.2.2.1 a.2.2.2.1).un=a.2.1.2.2.2.2.2.2.1) then I ((a.1,([]:List Frame),()),()) else if !decide ((rd (dfl .half) a.1.2.2.2.2.1 a.2.2.2.1).sz=a.2.1.2.2.2.2.2.2.2.1) then I ((a.1,([]:List Frame),()),()) else(YS ((rd (dfl .half) a.1.2.2.2.2.1 a.2.2.2.1).got,a.2.1.2.2.2.2.2.2.2.2,())).bind λb=>(jB ((rd (dfl .half) (Bw a.1.2.2.2.2.1 (AR a.2.2.2.1)<|AJ.mk ((rd (dfl .half) a.1.2.2.2.2.1 a.2.2.2.1).fr) ((rd (dfl .half) a.1.2.2.2.2.1 a.2.2.2.1).nu) ((rd (dfl .half) a.1.2.2.2.2.1 a.2.2.2.1).to) ((rd (dfl .half) a.1.2.2.2.2.1 a.2.2.2.1).un) ((rd (dfl .half) a.1.2.2.2.2.1 a.2.2.2.1).sz) b.1.1) a.2.2.2.1).sz,(rd (dfl .half) (Bw a.1.2.2.2.2.1 (AR a.2.2.2.1)<|AJ.mk ((rd (dfl .half) a.1.2.2.2.2.1 a.2.2.2.1).fr) ((rd (dfl .half) a.1.2.2.2.2.1 a.2.2.2.1).nu) ((rd (dfl .half) a.1.2.2.2.2.1 a.2.2.2.1).to) ((rd (dfl .half) a.1.2.2.2.2.1 a.2.2.2.1).un) ((rd (dfl .half) a.1.2.2.2.2.1 a.2.2.2.1).sz) b.1.1) a.2.2.2.1).got,())).bind λf=>if !f.1.2.1 then I (((a.1.1,a.1.2.1,a.1.2.2.1,a.1.2.2.2.1,(Bw a.1.2.2.2.2.1 (AR a.2.2.2.1)<|AJ.mk ((rd (dfl .half) a.1.2.2.2.2.1 a.2.2.2.1).fr) ((rd (dfl .half) a.1.2.2.2.2.1 a.2.2.2.1).nu) ((rd (dfl .half) a.1.2.2.2.2.1 a.2.2.2.1).to) ((rd (dfl .half) a.1.2.2.2.2.1 a.2.2.2.1).un) ((rd (dfl .half) a.1.2.2.2.2.1 a.2.2.2.1).sz) b.1.1),()),([]:List Frame),()),()) else if A1 (0<=a.2.2.2.1)&&A1 (a.2.2.2.1<=((Bw a.1.2.2.2.2.1 (AR a.2.2.2.1)<|AJ.mk ((rd (dfl .half) a.1.2.2.2.2.1 a.2.2.2.1).fr) ((rd (dfl .half) a.1.2.2.2.2.1 a.2.2.2.1).nu) ((rd (dfl .half) a.1.2.2.2.2.1 a.2.2.2.1).to) ((rd (dfl .half) a.1.2.2.2.2.1 a.2.2.2.1).un) ((rd (dfl .half) a.1.2.2.2.2.1 a.2.2.2.1).sz) b.1.1).length:Int)) then if Af (([]:List AJ).length+(BS (AR a.2.2.2.1)<|Bw a.1.2.2.2.2.1 (AR a.2.2.2.1)<|AJ.mk ((rd (dfl .half) a.1.2.2.2.2.1 a.2.2.2.1).fr) ((rd (dfl .half) a.1.2.2.2.2.1 a.2.2.2.1).nu) ((rd (dfl .half) a.1.2.2.2.2.1 a.2.2.2.1).to) ((rd (dfl .half) a.1.2.2.2.2.1 a.2.2.2.1).un) ((rd (dfl .half) a.1.2.2.2.2.1 a.2.2.2.1).sz) b.1.1).length) then if A1 (0<=(w64<|a.2.2.2.1+1))&&A1 ((w64<|a.2.2.2.1+1)<=((Bw a.1.2.2.2.2.1 (AR a.2.2.2.1)<|AJ.mk ((rd (dfl .half) a.1.2.2.2.2.1 a.2.2.2.1).fr) ((rd (dfl .half) a.1.2.2.2.2.1 a.2.2.2.1).nu) ((rd (dfl .half) a.1.2.2.2.2.1 a.2.2.2.1).to) ((rd (dfl .half) a.1.2.2.2.2.1 a.2.2.2.1).un) ((rd (dfl .half) a.1.2.2.2.2.1 a.2.2.2.1).sz) b.1.1).length:Int)) then if Af ((([]:List AJ)++(BS (AR a.2.2.2.1)<|Bw a.1.2.2.2.2.1 (AR a.2.2.2.1)<|AJ.mk ((rd (dfl .half) a.1.2.2.2.2.1 a.2.2.2.1).fr) ((rd (dfl .half) a.1.2.2.2.2.1 a.2.2.2.1).nu) ((rd (dfl .half) a.1.2.2.2.2.1 a.2.2.2.1).to) ((rd (dfl .half) a.1.2.2.2.2.1 a.2.2.2.1).un) ((rd (dfl .half) a.1.2.2.2.2.1 a.2.2.2.1).sz) b.1.1)).length+(Bv (AR<|w64<|a.2.2.2.1+1)<|Bw a.1.2.2.2.2.1 (AR a.2.2.2.1)<|AJ.mk ((rd (dfl .half) a.1.2.2.2.2.1 a.2.2.2.1).fr) ((rd (dfl .half) a.1.2.2.2.2.1 a.2.2.2.1).nu) ((rd (dfl .half) a.1.2.2.2.2.1 a.2.2.2.1).to) ((rd (dfl .half) a.1.2.2.2.2.1 a.2.2.2.1).un) ((rd (dfl .half) a.1.2.2.2.2.1 a.2.2.2.1).sz) b.1.1).length) then(NB ((a.2.1.2.2.2.1,a.2.1.2.2.2.2.1,a.2.1.2.2.2.2.2.1,a.2.1.2.2.2.2.2.2.1,f.1.1,()),())).bind λg=>if A1 ((B [116,97,107,101,32]).size+g.1.1.size<=4611686018427387904) then(Oj ((a.1.1,a.1.2.1,a.1.2.2.1,a.1.2.2.2.1,((([]:List AJ)++(BS (AR a.2.2.2.1)<|Bw a.1.2.2.2.2.1 (AR a.2.2.2.1)<|AJ.mk ((rd (dfl .half) a.1.2.2.2.2.1 a.2.2.2.1).fr) ((rd (dfl .half) a.1.2.2.2.2.1 a.2.2.2.1).nu) ((rd (dfl .half) a.1.2.2.2.2.1 a.2.2.2.1).to) ((rd (dfl .half) a.1.2.2.2.2.1 a.2.2.2.1).un) ((rd (dfl .half) a.1.2.2.2.2.1 a.2.2.2.1).sz) b.1.1))++(Bv (AR<|w64<|a.2.2.2.1+1)<|Bw a.1.2.2.2.2.1 (AR a.2.2.2.1)<|AJ.mk ((rd (dfl .half) a.1.2.2.2.2.1 a.2.2.2.1).fr) ((rd (dfl .half) a.1.2.2.2.2.1 a.2.2.2.1).nu) ((rd (dfl .half) a.1.2.2.2.2.1 a.2.2.2.1).to) ((rd (dfl .half) a.1.2.2.2.2.1 a.2.2.2.1).un) ((rd (dfl .half) a.1.2.2.2.2.1 a.2.2.2.1).sz) b.1.1)),()),((B [116,97,107,101,32])++g.1.1),())).bind λh=>if !h.1.2.1 then let o:=((([]:List AJ)++(BS (AR a.2.2.2.1)<|Bw a.1.2.2.2.2.1 (AR a.2.2.2.1)<|AJ.mk ((rd (dfl .half) a.1.2.2.2.2.1 a.2.2.2.1).fr) ((rd (dfl .half) a.1.2.2.2.2.1 a.2.2.2.1).nu) ((rd (dfl .half) a.1.2.2.2.2.1 a.2.2.2.1).to) ((rd (dfl .half) a.1.2.2.2.2.1 a.2.2.2.1).un) ((rd (dfl .half) a.1.2.2.2.2.1 a.2.2.2.1).sz) b.1.1))++(Bv (AR<|w64<|a.2.2.2.1+1)<|Bw a.1.2.2.2.2.1 (AR a.2.2.2.1)<|AJ.mk ((rd (dfl .half) a.1.2.2.2.2.1 a.2.2.2.1).fr) ((rd (dfl .half) a.1.2.2.2.2.1 a.2.2.2.1).nu) ((rd (dfl .half) a.1.2.2.2.2.1 a.2.2.2.1).to) ((rd (dfl .half) a.1.2.2.2.2.1 a.2.2.2.1).un) ((rd (dfl .half) a.1.2.2.2.2.1 a.2.2.2.1).sz) b.1.1));I (((a.1.1,a.1.2.1,a.1.2.2.1,a.1.2.2.2.1,o,()),([]:List Frame),()),()) else(Of (h.1.1,())).bind λp=>(jk (2,a.2.1,())).bind λq=>I ((p.1.1,q.1),()) else A0 else A0 else A0 else A0 else A0 else A0)<|(if A1 (e.1.1<0) then if Af (x.1.2.2.2.2.1.length+([(AJ.mk x.2.1.2.2.2.1 x.2.1.2.2.2.2.1 x.2.1.2.2.2.2.2.1 x.2.1.2.2.2.2.2.2.1 x.2.1.2.2.2.2.2.2.2.1 ([]:List AX))]:List AJ).length) then if A1 (3<((x.1.2.2.2.2.1++([(AJ.mk x.2.1.2.2.2.1 x.2.1.2.2.2.2.1 x.2.1.2.2.2.2.2.1 x.2.1.2.2.2.2.2.2.1 x.2.1.2.2.2.2.2.2.2.1 ([]:List AX))]:List AJ)).length:Int)) then if A1 (0<=1)&&A1 (1<=((x.1.2.2.2.2.1++([(AJ.mk x.2.1.2.2.2.1 x.2.1.2.2.2.2.1 x.2.1.2.2.2.2.2.1 x.2.1.2.2.2.2.2.2.1 x.2.1.2.2.2.2.2.2.2.1 ([]:List AX))]:List AJ)).length:Int)) then let r:=(w64<|((Bv (AR 1)<|x.1.2.2.2.2.1++([(AJ.mk x.2.1.2.2.2.1 x.2.1.2.2.2.2.1 x.2.1.2.2.2.2.2.1 x.2.1.2.2.2.2.2.2.1 x.2.1.2.2.2.2.2.2.2.1 ([]:List AX))]:List AJ)).length:Int) - 1);I (.inr ((x.1.1,x.1.2.1,x.1.2.2.1,x.1.2.2.2.1,(Bv (AR 1)<|x.1.2.2.2.2.1++([(AJ.mk x.2.1.2.2.2.1 x.2.1.2.2.2.2.1 x.2.1.2.2.2.2.2.1 x.2.1.2.2.2.2.2.2.1 x.2.1.2.2.2.2.2.2.2.1 ([]:List AX))]:List AJ)),()),x.2.1,(0,A3,noB,0,([]:List AJ),()),r,())) else A0 else let s:=(w64<|((x.1.2.2.2.2.1++([(AJ.mk x.2.1.2.2.2.1 x.2.1.2.2.2.2.1 x.2.1.2.2.2.2.2.1 x.2.1.2.2.2.2.2.2.1 x.2.1.2.2.2.2.2.2.2.1 ([]:List AX))]:List AJ)).length:Int) - 1);I (.inr ((x.1.1,x.1.2.1,x.1.2.2.1,x.1.2.2.2.1,(x.1.2.2.2.2.1++([(AJ.mk x.2.1.2.2.2.1 x.2.1.2.2.2.2.1 x.2.1.2.2.2.2.2.1 x.2.1.2.2.2.2.2.2.1 x.2.1.2.2.2.2.2.2.2.1 ([]:List AX))]:List AJ)),()),x.2.1,(0,A3,noB,0,([]:List AJ),()),s,())) else A0 else I (.inr (x.1,x.2.1,(0,A3,noB,0,([]:List AJ),()),e.1)))))) else A0)
def zv:Ent:=(147,A0,⟨[Z1,Z13],[Z12,.fz .frame],Wb⟩)
def adA:SQ Tryz.prog zv:=sk (v:=t1<|t1<|t1<|t1<|.join [(2,Z20),(3,Z14),(4,Z20),(7,.int .i64)] .nil .nil) (fn:=Tryz.f147) aiH kN
def af2:Cx:=cX [IA,K3,M9,Ly,kW,zv,Yd,gF] [] [(70,77)]
def ahN:OKC Tryz.prog af2 AI:=okc mixed<|gC Ic<|gC L7<|gC NC<|gC N7<|gC xf<|gC adA<|gC kI<|gC tW<|AL
def Sc(x:Y1×Y6×A2):Option ((Y1×List Frame×A2)×A2):=(I7 (x.1,())).bind λf=>if !f.1.1 then I (((0,A3,noB,0,([]:List AJ),()),([]:List Frame),()),()) else(I9 (x.1,())).bind λa=>if !x.1.2.1 then I ((a.1.1,([]:List Frame),()),()) else(XJ x.2).bind λg=>if !g.1.1 then I ((a.1.1,([]:List Frame),()),()) else if !decide (x.2.1.2.2.1=x.1.1) then I ((a.1.1,([]:List Frame),()),()) else if A1 (x.2.1.1=1) then(Wb (a.1.1,x.2)).bind λe=>(I9 (e.1.1,())).bind λh=>I ((h.1.1,e.1.2),()) else if A1 (x.2.1.1=2) then(FF (x.1,())).bind λb=>(HJ (b.1.1.2.2.2.1,x.2.1.2.2.2.1,x.2.1.2.2.2.2.1,())).bind λc=>(BW (X:=Y6×Y1×Y1×Bool×A2) (λd=>if d.2.2.2.1 then(QP ((B [108,101,116]),d.1.2.2.2.1,d.1.2.2.2.2.1,d.1.2.2.2.2.2.2.1,())).bind λi=>(Oj (d.2.2.1,i.1)).bind λj=>I ((j.1.1,([]:List Frame),()),()) else I ((d.2.2.1,([]:List Frame),()),()))<|(if A1 (0<=c.1.1) then if inb c.1.1 b.1.1.2.2.2.1.length then if Ah (A1<|(rd (dfl .note) b.1.1.2.2.2.1 c.1.1).to=x.2.1.2.2.2.2.2.1) (inb c.1.1 b.1.1.2.2.2.1.length) then I (.inr (x.2.1,(0,A3,noB,0,([]:List AJ),()),a.1.1,((A1<|(rd (dfl .note) b.1.1.2.2.2.1 c.1.1).to=x.2.1.2.2.2.2.2.1)&&(A1<|(rd (dfl .note) b.1.1.2.2.2.1 c.1.1).un=x.2.1.2.2.2.2.2.2.1)),())) else A0 else A0 else if Ah A3 (inb c.1.1 b.1.1.2.2.2.1.length) then I (.inr (x.2.1,(0,A3,noB,0,([]:List AJ),()),a.1.1,A3,())) else A0)) else I ((a.1.1,([]:List Frame),()),())
def yn:Ent:=(106,A0,⟨[Z12,Z13],[Z12,.fz .frame],Sc⟩)
def acu:SQ Tryz.prog yn:=sk (v:=t1<|t1<|t1<|t1<|.two (t1<|.one<|t1<|t1<|t1<|.two (t1<|t1<|.join [(3,Z14),(4,Z20),(6,Z20),(78,.bool)] .nil .nil) .nil) .nil) (fn:=Tryz.f106) ahN kN
def aqy:Cx:=cX [wF] [] []
def aEI:OKC Tryz.prog aqy AI:=okc mixed<|gC xB<|AL
def YH(x:Y2×List Frame×Int×Int×A2):Rnd (Y2×List Frame×Int×Int×A2) (A2) (Y2×A2):=if A1 (x.2.2.2.1<x.2.2.1) then if inb x.2.2.2.1 x.2.1.length then let d:=(rd (dfl .frame) x.2.1 x.2.2.2.1).ki;let a:=(rd (dfl .frame) x.2.1 x.2.2.2.1).src;let b:=(rd (dfl .frame) x.2.1 x.2.2.2.1).dst;let e:=(rd (dfl .frame) x.2.1 x.2.2.2.1).fr;let f:=(rd (dfl .frame) x.2.1 x.2.2.2.1).nu;let g:=(rd (dfl .frame) x.2.1 x.2.2.2.1).to;let h:=(rd (dfl .frame) x.2.1 x.2.2.2.1).un;let i:=(rd (dfl .frame) x.2.1 x.2.2.2.1).sz;let j:=(rd (dfl .frame) x.2.1 x.2.2.2.1).mix;let k:=(rd (dfl .frame) x.2.1 x.2.2.2.1).da;if A1 ((x.1.2.2.2.1.length:Int)<30) then(QI ((d,a,b,e,f,g,h,i,j,k,()),())).bind λc=>if Af (x.1.2.2.2.1.length+([(AO.mk a b (BK c.1.1) A3)]:List AO).length) then I (.inl ((x.1.1,x.1.2.1,x.1.2.2.1,(x.1.2.2.2.1++([(AO.mk a b (BK c.1.1) A3)]:List AO)),x.1.2.2.2.2),x.2.1,x.2.2.1,(w64<|x.2.2.2.1+1),())) else A0 else I (.inl (x.1,x.2.1,x.2.2.1,(w64<|x.2.2.2.1+1),())) else A0 else I (.inr<|.inr (x.1,()))
def gq:=AW YH
def aDF:Loop:=⟨[(0,Z2),(6,.sl .frame),(7,.int .i64),(8,.int .i64)],[(0,Z2)],0,[],gq⟩
def aqW:LF Tryz.f107 [0] [1,0,0] aDF:=sq (v:= .nil) aEI (b:=YH) kN
def Oi(x:Y2×List Frame×A2):Option ((A2)×(Y2×A2)):=(AP (gq (x.1,x.2.1,(x.2.1.length:Int),0,())) (λ_=>A0) λa=>I ((),a))
def mc:Ent:=(107,A0,⟨[Z2,.fz .frame],[],Oi⟩)
def aAq:SQ Tryz.prog mc:=sk (v:=t1<|.one<|.loop aDF) (fn:=Tryz.f107) aEI<|kC aqW kN
def aiZ:Cx:=cX [FZ,zu,xV,yn,mc] [] [(137,141)]
def ak9:OKC Tryz.prog aiZ AI:=okc mixed<|gC Fv<|gC ad9<|gC aci<|gC acu<|gC aAq<|AL
def Su(x:Y2×Y6×A2):Option ((Bool×A2)×(Y2×A2)):=(CD (x.2.1.2.2.2.2.1,0,(w64<|(x.1.2.2.2.1.length:Int) - 1),())).bind λj=>if !j.1.1 then I ((A3,()),(x.1,())) else if inb x.2.1.2.2.2.2.1 x.1.2.2.2.1.length then let d:=(rd (dfl .Ak) x.1.2.2.2.1 x.2.1.2.2.2.2.1).src;let e:=(rd (dfl .Ak) x.1.2.2.2.1 x.2.1.2.2.2.2.1).dst;let b:=(rd (dfl .Ak) x.1.2.2.2.1 x.2.1.2.2.2.2.1).data;let i:=(rd (dfl .Ak) x.1.2.2.2.1 x.2.1.2.2.2.2.1).sp;if A1 (x.2.1.1=5) then(Wa (x.1.2.2.2.1,x.2.1.2.2.2.2.1,())).bind λk=>I ((U,()),((x.1.1,x.1.2.1,x.1.2.2.1,k.1.1,x.1.2.2.2.2),())) else if A1 (x.2.1.1=6) then(CD (x.2.1.2.2.2.2.2.1,0,(w64<|(b.size:Int) - 1),())).bind λl=>if !l.1.1 then I ((A3,()),(x.1,())) else if i then I ((A3,()),(x.1,())) else(CD (x.2.1.2.2.2.2.2.2.1,1,255,())).bind λm=>if !m.1.1 then I ((A3,()),(x.1,())) else if Af b.size then if inb x.2.1.2.2.2.2.2.1 ((BF b).length) then if inb x.2.1.2.2.2.2.2.1 ((BF b).length) then let n:=(E4 .u8 (rd (dfl .u8) (BF b) x.2.1.2.2.2.2.2.1)<|w8 x.2.1.2.2.2.2.2.2.1);(if inb x.2.1.2.2.2.2.1 x.1.2.2.2.1.length then let g:=(BK<|Bw (BF b) (AR x.2.1.2.2.2.2.2.1) n);(if inb x.2.1.2.2.2.2.1 ((Bw x.1.2.2.2.1 (AR x.2.1.2.2.2.2.1)<|AO.mk ((rd (dfl .Ak) x.1.2.2.2.1 x.2.1.2.2.2.2.1).src) ((rd (dfl .Ak) x.1.2.2.2.1 x.2.1.2.2.2.2.1).dst) g<|(rd (dfl .Ak) x.1.2.2.2.1 x.2.1.2.2.2.2.1).sp).length) then I ((U,()),((x.1.1,x.1.2.1,x.1.2.2.1,(Bw (Bw x.1.2.2.2.1 (AR x.2.1.2.2.2.2.1)<|AO.mk ((rd (dfl .Ak) x.1.2.2.2.1 x.2.1.2.2.2.2.1).src) ((rd (dfl .Ak) x.1.2.2.2.1 x.2.1.2.2.2.2.1).dst) g<|(rd (dfl .Ak) x.1.2.2.2.1 x.2.1.2.2.2.2.1).sp) (AR x.2.1.2.2.2.2.1)<|AO.mk ((rd (dfl .Ak) (Bw x.1.2.2.2.1 (AR x.2.1.2.2.2.2.1)<|AO.mk ((rd (dfl .Ak) x.1.2.2.2.1 x.2.1.2.2.2.2.1).src) ((rd (dfl .Ak) x.1.2.2.2.1 x.2.1.2.2.2.2.1).dst) g<|(rd (dfl .Ak) x.1.2.2.2.1 x.2.1.2.2.2.2.1).sp) x.2.1.2.2.2.2.1).src) ((rd (dfl .Ak) (Bw x.1.2.2.2.1 (AR x.2.1.2.2.2.2.1)<|AO.mk ((rd (dfl .Ak) x.1.2.2.2.1 x.2.1.2.2.2.2.1).src) ((rd (dfl .Ak) x.1.2.2.2.1 x.2.1.2.2.2.2.1).dst) g<|(rd (dfl .Ak) x.1.2.2.2.1 x.2.1.2.2.2.2.1).sp) x.2.1.2.2.2.2.1).dst) ((rd (dfl .Ak) (Bw x.1.2.2.2.1 (AR x.2.1.2.2.2.2.1)<|AO.mk ((rd (dfl .Ak) x.1.2.2.2.1 x.2.1.2.2.2.2.1).src) ((rd (dfl .Ak) x.1.2.2.2.1 x.2.1.2.2.2.2.1).dst) g<|(rd (dfl .Ak) x.1.2.2.2.1 x.2.1.2.2.2.2.1).sp) x.2.1.2.2.2.2.1).data) U),x.1.2.2.2.2),())) else A0) else A0) else A0 else A0 else A0 else if A1 (x.2.1.1=4) then if inb (if e<d then e else d) x.1.2.2.1.length then if !(rd (dfl .bool) x.1.2.2.1<|if e<d then e else d) then I ((A3,()),(x.1,())) else(BW (X:=Y2×Y12×A2) (λc=>if Af c.2.1.2.2.1.size then(fF ((BF c.2.1.2.2.1),())).bind λh=>(BW (X:=Y2×Y12×Y6×Bool×A2) (λa=>if a.2.2.2.1 then if inb a.2.1.2.1 a.1.2.1.length then(Sc (((rd (dfl .AN) a.1.2.1 a.2.1.2.1).id,(rd (dfl .AN) a.1.2.1 a.2.1.2.1).up,(rd (dfl .AN) a.1.2.1 a.2.1.2.1).log,(rd (dfl .AN) a.1.2.1 a.2.1.2.1).fo,(rd (dfl .AN) a.1.2.1 a.2.1.2.1).AM,()),a.2.2.1,())).bind λf=>if inb a.2.1.2.1 a.1.2.1.length then(Oi ((a.1.1,(Bw a.1.2.1 (AR a.2.1.2.1)<|AA.mk f.1.1.1 f.1.1.2.1 f.1.1.2.2.1 f.1.1.2.2.2.1 f.1.1.2.2.2.2.1),a.1.2.2),f.1.2)).bind λo=>I ((U,()),o.2) else A0 else A0 else I ((U,()),(a.1,())))<|(if h.1.2.1 then I (.inr (c.1,c.2.1,h.1.1,((A1<|h.1.1.2.1=c.2.1.1)&&(A1<|h.1.1.2.2.1=c.2.1.2.1)),())) else I (.inr (c.1,c.2.1,h.1.1,A3,())))) else A0)<|(if A1 (x.2.1.2.2.2.2.2.2.1=0) then(Wa (x.1.2.2.2.1,x.2.1.2.2.2.2.1,())).bind λp=>I (.inr ((x.1.1,x.1.2.1,x.1.2.2.1,p.1.1,x.1.2.2.2.2),(d,e,b,i,()),())) else I (.inr (x.1,(d,e,b,i,()),())))) else A0 else I ((U,()),(x.1,())) else A0
def aBM:Ent:=(68,A0,⟨[Z2,Z13],[.bool],Su⟩)
def adg:SQ Tryz.prog aBM:=sk (v:=t1<|t1<|t1<|.two (t1<|.one<|t1<|t1<|t1<|t1<|t1<|.two (t1<|.join [(0,Z2),(5,Z33)] .nil<|t1<|.join [(0,Z2),(5,Z33),(7,Z14),(142,.bool)] .nil .nil) .nil) .nil) (fn:=Tryz.f68) ak9 kN
def akK:Cx:=cX [Ly,Yd,jo] [] []
def aoI:OKC Tryz.prog akK AI:=okc mixed<|gC N7<|gC kI<|gC va<|AL
def OX(x:Y1×A4×A2):Option ((Y1×Bool×A2)×A2):=(Oj x).bind λa=>if !a.1.2.1 then(I9 (x.1,())).bind λb=>I ((b.1.1,A3,()),()) else(Of (a.1.1,())).bind λc=>(I9 c.1).bind λd=>I ((d.1.1,U,()),())
def jQ:Ent:=(150,A0,⟨[Z12,.str],[Z1,.bool],OX⟩)
def uf:SQ Tryz.prog jQ:=sk (v:= .nil) (fn:=Tryz.f150) aoI kN
def ago:Cx:=cX [IA,K3,Ly,jQ,Wj] [] []
def aiK:OKC Tryz.prog ago AI:=okc mixed<|gC Ic<|gC L7<|gC N7<|gC uf<|gC dz<|AL
def Wd(x:Y1×Int×Int×A4×A2):Option ((Y1×Int×A2)×A2):=(I7 (x.1,())).bind λd=>if !d.1.1 then I (((0,A3,noB,0,([]:List AJ),()),0,()),()) else if !x.1.2.1 then(I9 (x.1,())).bind λe=>I ((e.1.1,0,()),()) else(FF (x.1,())).bind λb=>(NB ((x.1.1,b.1.1.2.2.1,x.2),())).bind λc=>if A1 ((B [111,119,110,32]).size+c.1.1.size<=4611686018427387904) then(OX (x.1,((B [111,119,110,32])++c.1.1),())).bind λa=>if !a.1.2.1 then I ((a.1.1,0,()),()) else I ((a.1.1,b.1.1.2.2.1,()),()) else A0
def zz:Ent:=(108,A0,⟨[Z12,.int .i64,.int .i64,.str],[Z1,.int .i64],Wd⟩)
def adK:SQ Tryz.prog zz:=sk (v:= .nil) (fn:=Tryz.f108) aiK kN
def aez:Cx:=cX [IA,K3,Ly,jQ,T7] [] []
def ahK:OKC Tryz.prog aez AI:=okc mixed<|gC Ic<|gC L7<|gC N7<|gC uf<|gC Vz<|AL
def WT(x:Y1×A2):Option ((Y1×Bool×A2)×A2):=(I7 x).bind λb=>if !b.1.1 then I (((0,A3,noB,0,([]:List AJ),()),A3,()),()) else if !x.1.2.1 then(I9 x).bind λc=>I ((c.1.1,A3,()),()) else(FF x).bind λd=>(JH ((w64<|d.1.1.2.1+1),())).bind λa=>if A1 ((B [116,105,109,101,32]).size+a.1.1.size<=4611686018427387904) then(OX (x.1,((B [116,105,109,101,32])++a.1.1),())).bind λe=>I (e.1,()) else A0
def yk:Ent:=(109,A0,⟨[Z12],[Z1,.bool],WT⟩)
def acq:SQ Tryz.prog yk:=sk (v:= .nil) (fn:=Tryz.f109) ahK kN
def ao2:Cx:=cX [FZ,eC] [] []
def aCe:OKC Tryz.prog ao2 AI:=okc mixed<|gC Fv<|gC su<|AL
def jK(x:A4×List A4×Int×A2):Rnd (A4×List A4×Int×A2) (A2) (List A4×A2):=if A1 (x.2.2.1<(x.1.size:Int)) then if A1 (0<=4)&&A1 (4<=4294967296) then if A1 (0<=x.2.2.1)&&A1 (x.2.2.1<=(x.1.size:Int)) then if Af (x.2.1.length+([(BK<|BS (BV (AR 4)<|dfl .u8).length (BF<|x.1.extract (AR x.2.2.1)<|x.1.size)++Bv (BF<|x.1.extract (AR x.2.2.1)<|x.1.size).length (BV (AR 4)<|dfl .u8))]:List A4).length) then I (.inl (x.1,(x.2.1++([(BK<|BS (BV (AR 4)<|dfl .u8).length (BF<|x.1.extract (AR x.2.2.1)<|x.1.size)++Bv (BF<|x.1.extract (AR x.2.2.1)<|x.1.size).length (BV (AR 4)<|dfl .u8))]:List A4)),(w64<|x.2.2.1+4),())) else A0 else A0 else A0 else I (.inr<|.inr (x.2.1,()))
def vc:=AW jK
def aAU:Loop:=⟨[(0,.str),(3,.row 9 .str),(4,.int .i64)],[(3,.row 9 .str)],0,[],vc⟩
def anp:LF Tryz.f76 [] [1,1,1,0,1,0,0] aAU:=sq (v:= .nil) aCe (b:=jK) kN
def Xg(x:A4×A2):Option ((List A4×A2)×A2):=(CD ((x.1.size:Int),1,24,())).bind λa=>if !a.1.1 then I ((([]:List A4),()),()) else(AP (vc (x.1,([]:List A4),0,())) (λ_=>A0) λb=>(SX b).bind λc=>I (c.1,()))
def lq:Ent:=(76,A0,⟨[.str],[.row 9 .str],Xg⟩)
def yA:SQ Tryz.prog lq:=sk (v:=t1<|t1<|t1<|.two (t1<|.one<|.loop aAU) .nil) (fn:=Tryz.f76) aCe<|kC anp kN
def akS:Cx:=cX [lq,mR,mO] [] []
def aCV:OKC Tryz.prog akS AI:=okc mixed<|gC yA<|gC zh<|gC aA6<|AL
def Wt(x:List A4×A4×List Int×Int×Int×A2):Rnd (List A4×A4×List Int×Int×Int×A2) (A2) (A4×A2):=if A1 (x.2.2.2.2.1<x.2.2.2.1) then if inb x.2.2.2.2.1 x.2.2.1.length then let a:=(rd (dfl .int) x.2.2.1 x.2.2.2.2.1);(if A1 (x.2.2.2.2.1=0) then if inb a x.1.length then I (.inl (x.1,(rd (dfl .str) x.1 a),x.2.2.1,x.2.2.2.1,(w64<|x.2.2.2.2.1+1),())) else A0 else if inb a x.1.length then(Xu (x.2.1,(rd (dfl .str) x.1 a),())).bind λb=>I (.inl (x.1,b.1.1,x.2.2.1,x.2.2.2.1,(w64<|x.2.2.2.2.1+1),())) else A0) else A0 else I (.inr<|.inr (x.2.1,()))
def WL:=AW Wt
def zi:Loop:=⟨[(5,.row 9 .str),(6,.str),(14,.row 3 .int),(15,.int .i64),(16,.int .i64)],[(6,.str)],0,[],WL⟩
def ajv:LF Tryz.f153 [] [1,1,1,0,1,0,0] zi:=sq (v:= .nil) aCV (b:=Wt) kN
def jD(x:A4×Int×A2):Option ((A4×A2)×A2):=(Xg (x.1,())).bind λa=>(Xt ((a.1.1.length:Int),x.2)).bind λb=>(AP (WL (a.1.1,noB,b.1.1,(b.1.1.length:Int),0,())) (λ_=>A0) λc=>I (c,()))
def aC7:Ent:=(153,A0,⟨[.str,.int .i64],[.str],jD⟩)
def afI:SQ Tryz.prog aC7:=sk (v:=t1<|t1<|t1<|.two (t1<|.one<|.loop zi) .nil) (fn:=Tryz.f153) aCV<|kC ajv kN
def agp:Cx:=cX [IA,K3,Sx,M9,FZ,aC7] [] []
def aiL:OKC Tryz.prog agp AI:=okc mixed<|gC Ic<|gC L7<|gC Vy<|gC NC<|gC Fv<|gC afI<|AL
def We(x:Y1×Int×Int×Int×A2):Option ((Y6×Bool×A2)×A2):=(I7 (x.1,())).bind λe=>if !e.1.1 then I (((0,0,0,0,0,0,0,0,0,noB,()),A3,()),()) else if !x.1.2.1 then I (((0,0,0,0,0,0,0,0,0,noB,()),A3,()),()) else(CD (x.2.2.2.1,0,999,())).bind λf=>if !f.1.1 then I (((0,0,0,0,0,0,0,0,0,noB,()),A3,()),()) else(FF (x.1,())).bind λa=>(HJ (a.1.1.2.2.2.1,x.2.1,x.2.2.1,())).bind λb=>if A1 (b.1.1<0) then I (((0,0,0,0,0,0,0,0,0,noB,()),A3,()),()) else if inb b.1.1 a.1.1.2.2.2.1.length then let g:=(rd (dfl .note) a.1.1.2.2.2.1 b.1.1).fr;let h:=(rd (dfl .note) a.1.1.2.2.2.1 b.1.1).nu;let c:=(rd (dfl .note) a.1.1.2.2.2.1 b.1.1).to;let i:=(rd (dfl .note) a.1.1.2.2.2.1 b.1.1).un;let d:=(rd (dfl .note) a.1.1.2.2.2.1 b.1.1).tx;(I6 (x.1.1,c,())).bind λj=>(jD (d,x.2.2.2)).bind λk=>I (((1,x.1.1,j.1.1,g,h,c,i,(d.size:Int),x.2.2.2.1,k.1),U,()),()) else A0
def aA0:Ent:=(110,A0,⟨[Z12,.int .i64,.int .i64,.int .i64],[Z13,.bool],We⟩)
def adL:SQ Tryz.prog aA0:=sk (v:= .nil) (fn:=Tryz.f110) aiL kN
def agi:Cx:=cX [T9,gG] [] []
def aiI:OKC Tryz.prog agi AI:=okc mixed<|gC WI<|gC tY<|AL
def fp(x:Y7×Int×A2):Option ((Y7×A2)×A2):=(OY (x.1,())).bind λc=>if !c.1.1 then I (((noB,0,()),()),()) else if A1 (0<=(w64<|x.1.2.1+(if 0<(if(w64<|(x.1.1.size:Int) - x.1.2.1)<x.2.1 then(w64<|(x.1.1.size:Int) - x.1.2.1) else x.2.1) then(if(w64<|(x.1.1.size:Int) - x.1.2.1)<x.2.1 then(w64<|(x.1.1.size:Int) - x.1.2.1) else x.2.1) else 0)))&&A1 ((w64<|x.1.2.1+(if 0<(if(w64<|(x.1.1.size:Int) - x.1.2.1)<x.2.1 then(w64<|(x.1.1.size:Int) - x.1.2.1) else x.2.1) then(if(w64<|(x.1.1.size:Int) - x.1.2.1)<x.2.1 then(w64<|(x.1.1.size:Int) - x.1.2.1) else x.2.1) else 0))<=(x.1.1.size:Int)) then let b:=(x.1.1.extract (0)<|AR<|w64<|x.1.2.1+(if 0<(if(w64<|(x.1.1.size:Int) - x.1.2.1)<x.2.1 then(w64<|(x.1.1.size:Int) - x.1.2.1) else x.2.1) then(if(w64<|(x.1.1.size:Int) - x.1.2.1)<x.2.1 then(w64<|(x.1.1.size:Int) - x.1.2.1) else x.2.1) else 0));(QQ (b,())).bind λa=>if A1 (0<=a.1.2.1)&&A1 (a.1.2.1<=(b.size:Int)) then let d:=(b.extract (0)<|AR a.1.2.1);I (((d,a.1.2),()),()) else A0 else A0
def zx:Ent:=(154,A0,⟨[Z15,.int .i64],[Z15],fp⟩)
def ad3:SQ Tryz.prog zx:=sk (v:= .nil) (fn:=Tryz.f154) aiI kN
def af3:Cx:=cX [K3,zx] [] []
def ahO:OKC Tryz.prog af3 AI:=okc mixed<|gC L7<|gC ad3<|AL
def WW(x:Y1×Int×A2):Option ((Y1×A2)×A2):=(I7 (x.1,())).bind λb=>if !b.1.1 then I (((0,A3,noB,0,([]:List AJ),()),()),()) else(fp ((x.1.2.2.1,x.1.2.2.2.1,()),x.2)).bind λa=>I (((x.1.1,A3,a.1.1.1,a.1.1.2.1,([]:List AJ),()),()),())
def yo:Ent:=(111,A0,⟨[Z12,.int .i64],[Z1],WW⟩)
def acv:SQ Tryz.prog yo:=sk (v:= .nil) (fn:=Tryz.f111) ahO kN
def af0:Cx:=cX [K3,Ly] [] []
def ahL:OKC Tryz.prog af0 AI:=okc mixed<|gC L7<|gC N7<|AL
def WU(x:Y1×A2):Option ((Y1×A2)×A2):=(I7 x).bind λb=>if !b.1.1 then I (((0,A3,noB,0,([]:List AJ),()),()),()) else(I9 x).bind λa=>I (((a.1.1.1,U,a.1.1.2.2),()),())
def yl:Ent:=(112,A0,⟨[Z12],[Z1],WU⟩)
def acr:SQ Tryz.prog yl:=sk (v:= .nil) (fn:=Tryz.f112) ahL kN
def agr:Cx:=cX [IA,K3,M9,Ly,gF,jQ] [] [(29,30)]
def aiN:OKC Tryz.prog agr AI:=okc mixed<|gC Ic<|gC L7<|gC NC<|gC N7<|gC tW<|gC uf<|AL
def Wf(x:Y1×Int×Int×A2):Option ((Y1×Y4×Bool×A2)×A2):=(I7 (x.1,())).bind λd=>if !d.1.1 then I (((0,A3,noB,0,([]:List AJ),()),(0,0,0,0,noB,()),A3,()),()) else(FF (x.1,())).bind λa=>(HJ (a.1.1.2.2.2.2.2.1,x.2)).bind λb=>if(!x.1.2.1)||(A1<|b.1.1<0) then(I9 (x.1,())).bind λe=>I ((e.1.1,(0,0,0,0,noB,()),A3,()),()) else if inb b.1.1 a.1.1.2.2.2.2.2.1.length then(QP ((B [101,97,116]),x.2.1,x.2.2.1,(rd (dfl .note) a.1.1.2.2.2.2.2.1 b.1.1).un,())).bind λf=>(OX (x.1,f.1)).bind λc=>if !c.1.2.1 then I ((c.1.1,(0,0,0,0,noB,()),A3,()),()) else if inb b.1.1 a.1.1.2.2.2.2.2.1.length then let g:=(rd (dfl .note) a.1.1.2.2.2.2.2.1 b.1.1).fr;let h:=(rd (dfl .note) a.1.1.2.2.2.2.2.1 b.1.1).nu;let i:=(rd (dfl .note) a.1.1.2.2.2.2.2.1 b.1.1).to;let j:=(rd (dfl .note) a.1.1.2.2.2.2.2.1 b.1.1).un;let k:=(rd (dfl .note) a.1.1.2.2.2.2.2.1 b.1.1).tx;I ((c.1.1,(g,h,i,j,k,()),U,()),()) else A0 else A0
def zV:Ent:=(113,A0,⟨[Z12,.int .i64,.int .i64],[Z1,Z6,.bool],Wf⟩)
def adM:SQ Tryz.prog zV:=sk (v:= .nil) (fn:=Tryz.f113) aiN kN
def af1:Cx:=cX [IA,K3,Ly,wE,jy] [] []
def ahM:OKC Tryz.prog af1 AI:=okc mixed<|gC Ic<|gC L7<|gC N7<|gC ac1<|gC wa<|AL
def WV(x:Y1×A2):Option ((Y1×Bool×A2)×A2):=(I7 x).bind λc=>if !c.1.1 then I (((0,A3,noB,0,([]:List AJ),()),A3,()),()) else(I9 x).bind λa=>if !x.1.2.1 then I ((a.1.1,A3,()),()) else(FF x).bind λd=>(Wu d.1).bind λe=>(Sq ((x.1.2.2.1,x.1.2.2.2.1,()),e.1)).bind λb=>I (((a.1.1.1,a.1.1.2.1,b.1.1.1,b.1.1.2.1,a.1.1.2.2.2.2),b.1.2),())
def ym:Ent:=(114,A0,⟨[Z12],[Z1,.bool],WV⟩)
def acs:SQ Tryz.prog ym:=sk (v:= .nil) (fn:=Tryz.f114) ahM kN
def adZ:Cx:=cX [K3,Ly,jo] [] [(15,22)]
def afD:OKC Tryz.prog adZ AI:=okc mixed<|gC L7<|gC N7<|gC va<|AL
def WM(x:Y1×A2):Option ((Y1×Bool×A2)×A2):=(I7 x).bind λb=>if !b.1.1 then I (((0,A3,noB,0,([]:List AJ),()),A3,()),()) else(I9 x).bind λa=>if(!x.1.2.1)||(A1<|x.1.2.2.2.1=(x.1.2.2.1.size:Int)) then I ((a.1.1,A3,()),()) else(Of a.1).bind λc=>I ((c.1.1,U,()),())
def xU:Ent:=(115,A0,⟨[Z12],[Z12,.bool],WM⟩)
def acX:SQ Tryz.prog xU:=sk (v:= .nil) (fn:=Tryz.f115) afD kN
def aod:Cx:=cX [JG,mc,zz,yk,aA0,yo,yl,zV,ym,xU] [] []
def apm:OKC Tryz.prog aod AI:=okc mixed<|gC Jz<|gC aAq<|gC adK<|gC acq<|gC adL<|gC acv<|gC acr<|gC adM<|gC acs<|gC acX<|AL
def TL(x:Y2×Y6×A2):Option ((Bool×A2)×(Y2×A2)):=(Fu (x.2.1.2.1,())).bind λj=>if !j.1.1 then I ((A3,()),(x.1,())) else if inb x.2.1.2.1 x.1.2.1.length then let e:=(rd (dfl .AN) x.1.2.1 x.2.1.2.1).id;let a:=(rd (dfl .AN) x.1.2.1 x.2.1.2.1).up;let f:=(rd (dfl .AN) x.1.2.1 x.2.1.2.1).log;let g:=(rd (dfl .AN) x.1.2.1 x.2.1.2.1).fo;let h:=(rd (dfl .AN) x.1.2.1 x.2.1.2.1).AM;(BW (X:=Y2×Y6×Y1×Bool×A2) (λc=>if inb c.2.1.2.1 c.1.2.1.length then I (c.2.2.2,((c.1.1,(Bw c.1.2.1 (AR c.2.1.2.1)<|AA.mk c.2.2.1.1 c.2.2.1.2.1 c.2.2.1.2.2.1 c.2.2.1.2.2.2.1 c.2.2.1.2.2.2.2.1),c.1.2.2),())) else A0)<|(if A1 (x.2.1.1=1) then if A1 (6<=(x.1.2.2.2.2.1.length:Int)) then I (.inl ((A3,()),(x.1,()))) else(Wd ((e,a,f,g,h,()),x.2.1.2.2.2.2.2.2.2)).bind λi=>if A1 (i.1.2.1=0) then I (.inl ((A3,()),(x.1,()))) else if Af (x.1.2.2.2.2.1.length+([(A6.mk x.2.1.2.1 i.1.2.1 x.2.1.2.2.2.2.2.2.2.1 x.2.1.2.2.2.2.2.2.2.2.1 x.2.1.2.2.2.2.2.2.2.2.2.1)]:List A6).length) then I (.inr ((x.1.1,x.1.2.1,x.1.2.2.1,x.1.2.2.2.1,(x.1.2.2.2.2.1++([(A6.mk x.2.1.2.1 i.1.2.1 x.2.1.2.2.2.2.2.2.2.1 x.2.1.2.2.2.2.2.2.2.2.1 x.2.1.2.2.2.2.2.2.2.2.2.1)]:List A6)),x.1.2.2.2.2.2),x.2.1,i.1.1,U,())) else A0 else if A1 (x.2.1.1=2) then(WT ((e,a,f,g,h,()),())).bind λk=>I (.inr (x.1,x.2.1,k.1)) else if A1 (x.2.1.1=3) then(We ((e,a,f,g,h,()),x.2.1.2.2.1,x.2.1.2.2.2.1,x.2.1.2.2.2.2.2.1,())).bind λb=>if b.1.2.1 then(Oi (x.1,([(Frame.mk b.1.1.1 b.1.1.2.1 b.1.1.2.2.1 b.1.1.2.2.2.1 b.1.1.2.2.2.2.1 b.1.1.2.2.2.2.2.1 b.1.1.2.2.2.2.2.2.1 b.1.1.2.2.2.2.2.2.2.1 b.1.1.2.2.2.2.2.2.2.2.1 b.1.1.2.2.2.2.2.2.2.2.2.1)]:List Frame),())).bind λl=>I (.inr (l.2.1,x.2.1,(e,a,f,g,h,()),b.1.2)) else I (.inr (x.1,x.2.1,(e,a,f,g,h,()),b.1.2)) else if A1 (x.2.1.1=7) then(WW ((e,a,f,g,h,()),x.2.1.2.2.2.2.2.2.1,())).bind λm=>I (.inr (x.1,x.2.1,m.1.1,a,())) else if A1 (x.2.1.1=8) then(WU ((e,a,f,g,h,()),())).bind λn=>I (.inr (x.1,x.2.1,n.1.1,(!a),())) else if A1 (x.2.1.1=11) then if A1 (6<=(x.1.2.2.2.2.2.1.length:Int)) then I (.inl ((A3,()),(x.1,()))) else(Wf ((e,a,f,g,h,()),x.2.1.2.2.1,x.2.1.2.2.2.1,())).bind λd=>if !d.1.2.2.1 then I (.inl ((A3,()),(x.1,()))) else if Af (x.1.2.2.2.2.2.1.length+([(A6.mk d.1.2.1.1 d.1.2.1.2.1 d.1.2.1.2.2.1 d.1.2.1.2.2.2.1 d.1.2.1.2.2.2.2.1)]:List A6).length) then I (.inr ((x.1.1,x.1.2.1,x.1.2.2.1,x.1.2.2.2.1,x.1.2.2.2.2.1,(x.1.2.2.2.2.2.1++([(A6.mk d.1.2.1.1 d.1.2.1.2.1 d.1.2.1.2.2.1 d.1.2.1.2.2.2.1 d.1.2.1.2.2.2.2.1)]:List A6)),()),x.2.1,d.1.1,U,())) else A0 else if A1 (x.2.1.1=12) then(WV ((e,a,f,g,h,()),())).bind λo=>I (.inr (x.1,x.2.1,o.1)) else if A1 (x.2.1.1=13) then(WM ((e,a,f,g,h,()),())).bind λp=>I (.inr (x.1,x.2.1,p.1)) else I (.inr (x.1,x.2.1,(e,a,f,g,h,()),A3,())))) else A0
def aCt:Ent:=(69,A0,⟨[Z2,Z13],[.bool],TL⟩)
def afy:SQ Tryz.prog aCt:=sk (v:=t1<|t1<|t1<|t1<|.join [(0,Z2),(3,Z25),(5,Z34),(6,.bool)] .nil .nil) (fn:=Tryz.f69) apm kN
def akL:Cx:=cX [gE,aCu,aBM,aCt] [] [(28,30)]
def aoJ:OKC Tryz.prog akL AI:=okc mixed<|gC tV<|gC afz<|gC adg<|gC afy<|AL
def I8(x:Y2×Y6×A2):Option ((Y2×Bool×A2)×A2):=(K6 (x.1,())).bind λc=>(BW (X:=Y2×Y2×Y2×Bool×A2) (λb=>if(!b.2.2.2.1)||(A1<|b.1.1=99999) then(K6 (b.1,())).bind λm=>I ((m.1.1,A3,()),()) else(K6 (((w64<|b.2.2.1.1+1),b.2.2.1.2),())).bind λn=>I ((n.1.1,U,()),()))<|(BW (X:=Y2×Y6×Y2×Y2×Int×Bool×A2) (λa=>if a.2.2.2.2.2.1 then(jh (a.2.2.2.1,a.2.1,())).bind λd=>I (.inr (a.1,a.2.2.1,d.2.1,d.1)) else let e:=(A1<|a.2.2.2.2.1=4);(if e then if e then(Su (a.2.2.2.1,a.2.1,())).bind λf=>I (.inr (a.1,a.2.2.1,f.2.1,f.1)) else(TL (a.2.2.2.1,a.2.1,())).bind λg=>I (.inr (a.1,a.2.2.1,g.2.1,g.1)) else let h:=(A1<|a.2.2.2.2.1=5);(if h then if h then(Su (a.2.2.2.1,a.2.1,())).bind λi=>I (.inr (a.1,a.2.2.1,i.2.1,i.1)) else(TL (a.2.2.2.1,a.2.1,())).bind λj=>I (.inr (a.1,a.2.2.1,j.2.1,j.1)) else let o:=(A1<|a.2.2.2.2.1=6);(if o then(Su (a.2.2.2.1,a.2.1,())).bind λk=>I (.inr (a.1,a.2.2.1,k.2.1,k.1)) else(TL (a.2.2.2.1,a.2.1,())).bind λl=>I<|.inr (a.1,a.2.2.1,l.2.1,l.1)))))<|(if A1 (x.2.1.1=9) then I (.inr (x.1,x.2.1,(0,([]:List AA),([]:List Bool),([]:List AO),([]:List A6),([]:List A6),()),c.1.1,x.2.1.1,(A1<|x.2.1.1=9),())) else I (.inr (x.1,x.2.1,(0,([]:List AA),([]:List Bool),([]:List AO),([]:List A6),([]:List A6),()),c.1.1,x.2.1.1,(A1<|x.2.1.1=10),())))))
def XB:Ent:=(38,A0,⟨[Z30,Z13],[Z3,.bool],I8⟩)
def eR:SQ Tryz.prog XB:=sk (v:=t1<|t1<|t1<|.join [(2,Z29),(4,Z2),(6,Z2),(7,.bool)] (t1<|.one<|.join [(2,Z29),(3,Z25),(4,Z2),(6,Z2),(11,.int .i64),(14,.bool)] .nil .nil) .nil) (fn:=Tryz.f38) aoJ kN
def agk:Cx:=cX [yj,XB] [] []
def aAL:OKC Tryz.prog agk AI:=okc mixed<|gC acp<|gC eR<|AL
def fV(x:Y2×Y2×List Event×Int×Int×A2):Rnd (Y2×Y2×List Event×Int×Int×A2) (A2) (Y2×Y2×A2):=if A1 (x.2.2.2.2.1<x.2.2.2.1) then if inb x.2.2.2.2.1 x.2.2.1.length then let a:=(rd (dfl .CO) x.2.2.1 x.2.2.2.2.1).ki;let b:=(rd (dfl .CO) x.2.2.1 x.2.2.2.2.1).at_;let c:=(rd (dfl .CO) x.2.2.1 x.2.2.2.2.1).fr;let d:=(rd (dfl .CO) x.2.2.1 x.2.2.2.2.1).nu;let e:=(rd (dfl .CO) x.2.2.1 x.2.2.2.2.1).wo;let f:=(rd (dfl .CO) x.2.2.1 x.2.2.2.2.1).mix;let g:=(rd (dfl .CO) x.2.2.1 x.2.2.2.2.1).kp;let h:=(rd (dfl .CO) x.2.2.1 x.2.2.2.2.1).to;let i:=(rd (dfl .CO) x.2.2.1 x.2.2.2.2.1).un;let j:=(rd (dfl .CO) x.2.2.1 x.2.2.2.2.1).tx;(I8 (x.2.1,(a,b,c,d,e,f,g,h,i,j,()),())).bind λk=>I (.inl (x.1,k.1.1,x.2.2.1,x.2.2.2.1,(w64<|x.2.2.2.2.1+1),())) else A0 else I (.inr<|.inr (x.1,x.2.1,()))
def dy:=AW fV
def xa:Loop:=⟨[(2,Z2),(3,Z2),(11,.sl .CO),(12,.int .i64),(13,.int .i64)],[(2,Z2),(3,Z2)],0,[],dy⟩
def agT:LF Tryz.f15 [] [1,1,1,0,1,0,0] xa:=sq (v:= .nil) aAL (b:=fV) kN
def M0(x:List Event×A2):Option ((Y2×A2)×A2):=(fP ()).bind λa=>if A1 (2000<(x.1.length:Int)) then I (a.1,()) else(AP (dy ((0,([]:List AA),([]:List Bool),([]:List AO),([]:List A6),([]:List A6),()),a.1.1,x.1,(x.1.length:Int),0,())) (λ_=>A0) λb=>I (b.2,()))
def QK:Ent:=(15,A0,⟨[.fz .CO],[Z3],M0⟩)
def SZ:SQ Tryz.prog QK:=sk (v:=t1<|t1<|t1<|.two (t1<|.one<|.loop xa) .nil) (fn:=Tryz.f15) aAL<|kC agT kN
def aqA:Cx:=cX [TN] [] []
def aDy:OKC Tryz.prog aqA AI:=okc mixed<|gC WR<|AL
def jl(x:List A6×List A6×Int×Int×A2):Rnd (List A6×List A6×Int×Int×A2) (Bool×A2) (List A6×A2):=if A1 (x.2.2.2.1<x.2.2.1) then if inb x.2.2.2.1 x.2.1.length then let a:=(rd (dfl .note) x.2.1 x.2.2.2.1).fr;let b:=(rd (dfl .note) x.2.1 x.2.2.2.1).nu;let c:=(rd (dfl .note) x.2.1 x.2.2.2.1).to;let d:=(rd (dfl .note) x.2.1 x.2.2.2.1).un;let e:=(rd (dfl .note) x.2.1 x.2.2.2.1).tx;(Og ((a,b,c,d,e,()),())).bind λf=>if !f.1.1 then I (.inr<|.inl (A3,())) else I (.inl (x.1,x.2.1,x.2.2.1,(w64<|x.2.2.2.1+1),())) else A0 else I (.inr<|.inr (x.1,()))
def wR:=AW jl
def aBX:Loop:=⟨[(0,.sl .note),(5,.sl .note),(6,.int .i64),(7,.int .i64)],[(0,.sl .note)],0,[(2,.bool)],wR⟩
def apC:LF Tryz.f61 [] [1,0,1,0,0] aBX:=sq (v:= .nil) aDy (b:=jl) kN
def Xs(x:List A6×A2):Option ((Bool×A2)×A2):=(AP (wR (x.1,x.1,(x.1.length:Int),0,())) (λa=>I (a,())) (λa=>let b:=(A1<|(a.1.length:Int)<=6);I ((b,()),())))
def aDs:Ent:=(61,A0,⟨[.fz .note],[.bool],Xs⟩)
def ahd:SQ Tryz.prog aDs:=sk (v:=t1<|.two (t1<|.one<|.loop aBX) .nil) (fn:=Tryz.f61) aDy<|kC apC kN
def akO:Cx:=cX [K3,FZ,aDs,JG] [] [(54,56)]
def l6:OKC Tryz.prog akO AI:=okc mixed<|gC L7<|gC Fv<|gC ahd<|gC Jz<|AL
def hY(x:List AO×Int×Int×A2):Rnd (List AO×Int×Int×A2) (Bool×A2) (A2):=if A1 (x.2.2.1<x.2.1) then if inb x.2.2.1 x.1.length then let a:=(rd (dfl .Ak) x.1 x.2.2.1).src;let b:=(rd (dfl .Ak) x.1 x.2.2.1).dst;let c:=(rd (dfl .Ak) x.1 x.2.2.1).data;let f:=(rd (dfl .Ak) x.1 x.2.2.1).sp;(Fu (a,())).bind λd=>if !d.1.1 then I (.inr<|.inl (A3,())) else(Fu (b,())).bind λe=>if !e.1.1 then I (.inr<|.inl (A3,())) else if !decide ((w64<|a - b)=1) then if !decide ((w64<|b - a)=1) then I (.inr<|.inl (A3,())) else if A1 (40<(c.size:Int)) then I (.inr<|.inl (A3,())) else I (.inl (x.1,x.2.1,(w64<|x.2.2.1+1),())) else if A1 (40<(c.size:Int)) then I (.inr<|.inl (A3,())) else I (.inl (x.1,x.2.1,(w64<|x.2.2.1+1),())) else A0 else I (.inr<|.inr ())
def vB:=AW hY
def aAG:Loop:=⟨[(60,.sl .Ak),(61,.int .i64),(62,.int .i64)],[],2,[(2,.bool)],vB⟩
def ajE:LF Tryz.f31 [] [1,1,1,0,1,0,0] aAG:=sq (v:= .nil) l6 (b:=hY) kN
def iA(x:Y2×List AA×Int×Int×A2):Rnd (Y2×List AA×Int×Int×A2) (Bool×A2) (Y2×A2):=if A1 (x.2.2.2.1<x.2.2.1) then if inb x.2.2.2.1 x.2.1.length then let a:=(rd (dfl .AN) x.2.1 x.2.2.2.1).id;let b:=(rd (dfl .AN) x.2.1 x.2.2.2.1).up;let c:=(rd (dfl .AN) x.2.1 x.2.2.2.1).log;let d:=(rd (dfl .AN) x.2.1 x.2.2.2.1).fo;let e:=(rd (dfl .AN) x.2.1 x.2.2.2.1).AM;if Ah (!(!decide (a=x.2.2.2.1))) ((I7 ((a,b,c,d,e,()),())).isSome) then if(!decide (a=x.2.2.2.1))||(!(((I7 ((a,b,c,d,e,()),())).getD ((A3,()),())).1.1)) then I (.inr<|.inl (A3,())) else I (.inl (x.1,x.2.1,x.2.2.1,(w64<|x.2.2.2.1+1),())) else A0 else A0 else I (.inr<|.inr (x.1,()))
def vC:=AW iA
def aAH:Loop:=⟨[(1,Z29),(42,.sl .AN),(43,.int .i64),(44,.int .i64)],[(1,Z29)],0,[(2,.bool)],vC⟩
def ajs:LF Tryz.f31 [] [1,1,0,1,0,0] aAH:=sq (v:= .nil) l6 (b:=iA) kN
def NH(x:Y2×A2):Option ((Bool×A2)×A2):=(CD (x.1.1,0,99999,())).bind λc=>if !c.1.1 then I ((A3,()),()) else if !decide ((x.1.2.1.length:Int)=4) then I ((A3,()),()) else if !decide ((x.1.2.2.1.length:Int)=3) then I ((A3,()),()) else if A1 (30<(x.1.2.2.2.1.length:Int)) then I ((A3,()),()) else(Xs (x.1.2.2.2.2.1,())).bind λd=>if !d.1.1 then I ((A3,()),()) else(Xs x.1.2.2.2.2.2).bind λe=>if !e.1.1 then I ((A3,()),()) else(AP (vC (x.1,x.1.2.1,(x.1.2.1.length:Int),0,())) (λa=>I (a,())) λa=>(AP (vB (a.1.2.2.2.1,(a.1.2.2.2.1.length:Int),0,())) (λb=>I (b,())) λb=>I ((U,()),())))
def XC:Ent:=(31,A0,⟨[Z30],[.bool],NH⟩)
def eZ:SQ Tryz.prog XC:=sk (v:=t1<|t1<|.two (t1<|.one<|.loop aAH)<|.two (t1<|.one<|.loop aAG) .nil) (fn:=Tryz.f31) l6<|kC ajs<|kC ajE kN
def age:Cx:=cX [XB] [] [(9,12)]
def zc:OKC Tryz.prog age AI:=okc mixed<|gC eR<|AL
def Sj(x:Y2×Y2×Int×A2):Rnd (Y2×Y2×Int×A2) (A2) (Y2×Y2×A2):=if(A1<|x.2.2.1<400)&&(A1<|0<(x.1.2.2.2.1.length:Int)) then(I8 (x.1,(4,0,0,0,0,0,0,0,0,noB,()),())).bind λa=>if !a.1.2.1 then I (.inr<|.inr (x.1,x.2.1,())) else I (.inl (a.1.1,x.2.1,(w64<|x.2.2.1+1),())) else I (.inr<|.inr (x.1,x.2.1,()))
def Vn:=AW Sj
def xp:Loop:=⟨[(1,Z35),(2,Z2),(3,.int .i64)],[(1,Z29),(2,Z2)],0,[],Vn⟩
def agP:LF Tryz.f75 [] [1,0,1,0,0] xp:=sq (v:= .nil) zc (b:=Sj) kN
def Sp(x:Y2×A2):Option ((Y2×A2)×A2):=(AP (Vn (x.1,(0,([]:List AA),([]:List Bool),([]:List AO),([]:List A6),([]:List A6),()),0,())) (λ_=>A0) λa=>I ((a.1,()),()))
def zw:Ent:=(75,A0,⟨[Z30],[Z30],Sp⟩)
def adB:SQ Tryz.prog zw:=sk (v:=t1<|.two (t1<|.one<|.loop xp) .nil) (fn:=Tryz.f75) zc<|kC agP kN
def aq4:Cx:=cX [IA,XB,zw,lq] [] []
def Xx:OKC Tryz.prog aq4 AI:=okc mixed<|gC Ic<|gC eR<|gC adB<|gC yA<|AL
def je(x:Y2×Y2×Int×Y4×List A6×Int×Int×Int×Int×A2):Rnd (Y2×Y2×Int×Y4×List A6×Int×Int×Int×Int×A2) (A2) (Y2×Y2×Int×List A6×Int×Int×A2):=if A1 (x.2.2.2.2.2.2.2.2.1<x.2.2.2.2.2.2.2.1) then(I8 (x.1,(3,x.2.2.1,x.2.2.2.1.1,x.2.2.2.1.2.1,0,x.2.2.2.2.2.2.2.2.1,0,0,0,noB,()),())).bind λamP=>(Sp (amP.1.1,())).bind λamO=>I (.inl (amO.1.1,x.2.1,x.2.2.1,x.2.2.2.1,x.2.2.2.2.1,x.2.2.2.2.2.1,x.2.2.2.2.2.2.1,x.2.2.2.2.2.2.2.1,(w64<|x.2.2.2.2.2.2.2.2.1+1),())) else I (.inr<|.inr (x.1,x.2.1,x.2.2.1,x.2.2.2.2.1,x.2.2.2.2.2.1,x.2.2.2.2.2.2.1,()))
def gY:=AW je
def aBf:Loop:=⟨[(1,Z29),(2,Z2),(4,.int .i64),(6,Z5),(38,.row 36 .note),(39,.int .i64),(40,.int .i64),(47,.int .i64),(48,.int .i64)],[(1,Z29),(2,Z2),(4,.int .i64),(38,.row 36 .note),(39,.int .i64),(40,.int .i64)],6,[],gY⟩
def aox:LF Tryz.f40 [] [1,1,1,0,1,0,0,1,0,0,1,0,0,1,1,0,0,1,1,0,0] aBf:=sq (v:= .nil) Xx (b:=je) kN
def XY(x:Y2×Y2×Int×List A6×Int×Int×A2):Rnd (Y2×Y2×Int×List A6×Int×Int×A2) (A2) (Y2×Y2×Int×A2):=if A1 (x.2.2.2.2.2.1<x.2.2.2.2.1) then if inb x.2.2.2.2.2.1 x.2.2.2.1.length then let alh:=(rd (dfl .note) x.2.2.2.1 x.2.2.2.2.2.1).fr;let alg:=(rd (dfl .note) x.2.2.2.1 x.2.2.2.2.2.1).nu;let alf:=(rd (dfl .note) x.2.2.2.1 x.2.2.2.2.2.1).to;let b:=(rd (dfl .note) x.2.2.2.1 x.2.2.2.2.2.1).un;let a:=(rd (dfl .note) x.2.2.2.1 x.2.2.2.2.2.1).tx;(Xg (a,())).bind λamQ=>(AP (gY (x.1,x.2.1,x.2.2.1,(alh,alg,alf,b,a,()),x.2.2.2.1,x.2.2.2.2.1,x.2.2.2.2.2.1,(amQ.1.1.length:Int),0,())) (λ_=>I<|.inr<|.inl ()) λRV=>I<|.inl (RV.1,RV.2.1,RV.2.2.1,RV.2.2.2.1,RV.2.2.2.2.1,(w64<|RV.2.2.2.2.2.1+1),())) else A0 else I (.inr<|.inr (x.1,x.2.1,x.2.2.1,()))
def ff:=AW XY
def aBg:Loop:=⟨[(1,Z29),(2,Z2),(4,.int .i64),(38,.row 36 .note),(39,.int .i64),(40,.int .i64)],[(1,Z29),(2,Z2),(4,.int .i64)],4,[],ff⟩
def aoz:LF Tryz.f40 [] [1,1,1,0,1,0,0,1,0,0,1,0,0] aBg:=sq (v:=t1<|t1<|.two (.one<|t1<|t1<|.one<|.loop aBf) .nil) Xx (b:=XY)<|kC aox kN
def XZ(x:Y2×Y2×Int×A2):Rnd (Y2×Y2×Int×A2) (A2) (Y2×Y2×A2):=if A1 (x.2.2.1<4) then if inb x.2.2.1 x.1.2.1.length then(FF (((rd (dfl .AN) x.1.2.1 x.2.2.1).id,(rd (dfl .AN) x.1.2.1 x.2.2.1).up,(rd (dfl .AN) x.1.2.1 x.2.2.1).log,(rd (dfl .AN) x.1.2.1 x.2.2.1).fo,(rd (dfl .AN) x.1.2.1 x.2.2.1).AM,()),())).bind λae=>(AP (ff (x.1,x.2.1,x.2.2.1,ae.1.1.2.2.2.1,(ae.1.1.2.2.2.1.length:Int),0,())) (λ_=>I<|.inr<|.inl ()) λoX=>I<|.inl (oX.1,oX.2.1,(w64<|oX.2.2.1+1),())) else A0 else I (.inr<|.inr (x.1,x.2.1,()))
def fg:=AW XZ
def aBh:Loop:=⟨[(1,Z29),(2,Z2),(4,.int .i64)],[(1,Z29),(2,Z2)],2,[],fg⟩
def ap2:LF Tryz.f40 [] [1,1,1,0,1,0,0] aBh:=sq (v:=t1<|.two (.one<|t1<|.one<|.loop aBg) .nil) Xx (b:=XZ)<|kC aoz kN
def Xa(x:Y2×Y2×Int×A2):Rnd (Y2×Y2×Int×A2) (A2) (Y2×Y2×A2):=if A1 (x.2.2.1<4) then(I8 (x.1,(8,x.2.2.1,0,0,0,0,0,0,0,noB,()),())).bind λa=>(I8 (a.1.1,(9,x.2.2.1,0,0,0,0,0,0,0,noB,()),())).bind λb=>I (.inl (b.1.1,x.2.1,(w64<|x.2.2.1+1),())) else I (.inr<|.inr (x.1,x.2.1,()))
def fh:=AW Xa
def aBi:Loop:=⟨[(1,Z35),(2,Z2),(3,.int .i64)],[(1,Z29),(2,Z2)],0,[],fh⟩
def apA:LF Tryz.f40 [] [1,0,1,0,0] aBi:=sq (v:= .nil) Xx (b:=Xa) kN
def Xv(x:Y2×A2):Option ((Y2×A2)×A2):=(AP (fh (x.1,(0,([]:List AA),([]:List Bool),([]:List AO),([]:List A6),([]:List A6),()),0,())) (λ_=>A0) λa=>(Sp (a.1,())).bind λb=>(AP (fg (b.1.1,a.2.1,0,())) (λ_=>A0) λalO=>I ((alO.1,()),())))
def aDn:Ent:=(40,A0,⟨[Z30],[Z30],Xv⟩)
def ai5:SQ Tryz.prog aDn:=sk (v:=t1<|.two (t1<|.one<|.loop aBi)<|t1<|.two (t1<|.one<|.loop aBh) .nil) (fn:=Tryz.f40) Xx<|kC apA<|kC ap2 kN
def agl:Cx:=cX [XC,gE,aDn] [] [(18,20)]
def aAM:OKC Tryz.prog agl AI:=okc mixed<|gC eZ<|gC tV<|gC ai5<|AL
def WQ(x:Int×Y2×Y2×Int×A2):Rnd (Int×Y2×Y2×Int×A2) (A2) (Y2×Y2×A2):=if(A1<|x.2.2.2.1<(if 20<x.1 then 20 else x.1))&&(A1<|x.2.2.1.1<79999) then(Xv (x.2.2.1,())).bind λa=>I (.inl (x.1,x.2.1,a.1.1,(w64<|x.2.2.2.1+1),())) else I (.inr<|.inr (x.2.1,x.2.2.1,()))
def Vo:=AW WQ
def xb:Loop:=⟨[(1,.int .i64),(4,Z2),(5,Z35),(6,.int .i64)],[(4,Z2),(5,Z29)],0,[],Vo⟩
def agU:LF Tryz.f16 [] [1,1,1,0,1,0,0] xb:=sq (v:= .nil) aAM (b:=WQ) kN
def L8(x:Y2×Int×A2):Option ((Y2×A2)×A2):=(NH (x.1,())).bind λa=>if !a.1.1 then I (((0,([]:List AA),([]:List Bool),([]:List AO),([]:List A6),([]:List A6),()),()),()) else(K6 (x.1,())).bind λb=>(AP (Vo (x.2.1,(0,([]:List AA),([]:List Bool),([]:List AO),([]:List A6),([]:List A6),()),b.1.1,0,())) (λ_=>A0) λc=>I (c.2,()))
def QL:Ent:=(16,A0,⟨[Z30,.int .i64],[Z30],L8⟩)
def Sa:SQ Tryz.prog QL:=sk (v:=t1<|t1<|t1<|.two (t1<|.one<|.loop xb) .nil) (fn:=Tryz.f16) aAM<|kC agU kN
def ajc:Cx:=cX [] [] []
def aBx:OKC Tryz.prog ajc AI:=okc mixed<|AL
def X8(x:List A6×List A6×Int×A2):Rnd (List A6×List A6×Int×A2) (Bool×A2) (A2):=if A1 (x.2.2.1<(x.1.length:Int)) then if inb x.2.2.1 x.1.length then if inb x.2.2.1 x.2.1.length then if !(Mz ((rd (dfl .note) x.1 x.2.2.1).fr) ((rd (dfl .note) x.1 x.2.2.1).nu) ((rd (dfl .note) x.1 x.2.2.1).to) ((rd (dfl .note) x.1 x.2.2.1).un) ((rd (dfl .note) x.1 x.2.2.1).tx) ((rd (dfl .note) x.2.1 x.2.2.1).fr) ((rd (dfl .note) x.2.1 x.2.2.1).nu) ((rd (dfl .note) x.2.1 x.2.2.1).to) ((rd (dfl .note) x.2.1 x.2.2.1).un)<|(rd (dfl .note) x.2.1 x.2.2.1).tx) then I (.inr<|.inl (A3,())) else I (.inl (x.1,x.2.1,(w64<|x.2.2.1+1),())) else A0 else A0 else I (.inr<|.inr ())
def uX:=AW X8
def aA1:Loop:=⟨[(0,.sl .note),(1,.sl .note),(5,.int .i64)],[],0,[(4,.bool)],uX⟩
def ajl:LF Tryz.f27 [] [1,1,0,1,0,0] aA1:=sq (v:= .nil) aBx (b:=X8) kN
def GP(x:List A6×List A6×A2):Option ((Bool×A2)×A2):=if !decide ((x.1.length:Int)=(x.2.1.length:Int)) then I ((A3,()),()) else(AP (uX (x.1,x.2.1,0,())) (λa=>I (a,())) λa=>I ((U,()),()))
def jO:Ent:=(27,A0,⟨[.fz .note,.fz .note],[.bool],GP⟩)
def uW:SQ Tryz.prog jO:=sk (v:=t1<|t1<|.two (t1<|.one<|.loop aA1) .nil) (fn:=Tryz.f27) aBx<|kC ajl kN
def aiW:Cx:=cX [] [] []
def k8:OKC Tryz.prog aiW AI:=okc mixed<|AL
def WX(x:List AJ×List AJ×Int×Int×A2):Rnd (List AJ×List AJ×Int×Int×A2) (Bool×A2) (List AJ×List AJ×Int×A2):=if inb x.2.2.1 x.1.length then if A1 (x.2.2.2.1<(((rd (dfl .half) x.1 x.2.2.1).got).length:Int)) then if inb x.2.2.1 x.1.length then if inb x.2.2.2.1 (((rd (dfl .half) x.1 x.2.2.1).got).length) then if inb x.2.2.1 x.2.1.length then if inb x.2.2.2.1 (((rd (dfl .half) x.2.1 x.2.2.1).got).length) then if !(A1 ((rd (dfl .mixed) ((rd (dfl .half) x.1 x.2.2.1).got) x.2.2.2.1).nu=(rd (dfl .mixed) ((rd (dfl .half) x.2.1 x.2.2.1).got) x.2.2.2.1).nu)&&(A1 ((rd (dfl .mixed) ((rd (dfl .half) x.1 x.2.2.1).got) x.2.2.2.1).da=(rd (dfl .mixed) ((rd (dfl .half) x.2.1 x.2.2.1).got) x.2.2.2.1).da)&&U)) then I (.inr<|.inl (A3,())) else I (.inl (x.1,x.2.1,x.2.2.1,(w64<|x.2.2.2.1+1),())) else A0 else A0 else A0 else A0 else I (.inr<|.inr (x.1,x.2.1,x.2.2.1,())) else A0
def uI:=AW WX
def yT:Loop:=⟨[(0,.sl .half),(1,.sl .half),(5,.int .i64),(6,.int .i64)],[(0,.sl .half),(1,.sl .half),(5,.int .i64)],2,[(4,.bool)],uI⟩
def ahs:LF Tryz.f77 [] [1,1,0,1,0,0,1,0,0,1,1,0,0] yT:=sq (v:= .nil) k8 (b:=WX) kN
def WZ(x:List AJ×List AJ×Int×A2):Rnd (List AJ×List AJ×Int×A2) (Bool×A2) (A2):=if A1 (x.2.2.1<(x.1.length:Int)) then if inb x.2.2.1 x.1.length then if inb x.2.2.1 x.2.1.length then if !decide ((rd (dfl .half) x.1 x.2.2.1).fr=(rd (dfl .half) x.2.1 x.2.2.1).fr) then I (.inr<|.inl (A3,())) else if inb x.2.2.1 x.1.length then if inb x.2.2.1 x.2.1.length then if !decide ((rd (dfl .half) x.1 x.2.2.1).nu=(rd (dfl .half) x.2.1 x.2.2.1).nu) then I (.inr<|.inl (A3,())) else if inb x.2.2.1 x.1.length then if inb x.2.2.1 x.2.1.length then if !decide ((rd (dfl .half) x.1 x.2.2.1).to=(rd (dfl .half) x.2.1 x.2.2.1).to) then I (.inr<|.inl (A3,())) else if inb x.2.2.1 x.1.length then if inb x.2.2.1 x.2.1.length then if !decide ((rd (dfl .half) x.1 x.2.2.1).un=(rd (dfl .half) x.2.1 x.2.2.1).un) then I (.inr<|.inl (A3,())) else if inb x.2.2.1 x.1.length then if inb x.2.2.1 x.2.1.length then if !decide ((rd (dfl .half) x.1 x.2.2.1).sz=(rd (dfl .half) x.2.1 x.2.2.1).sz) then I (.inr<|.inl (A3,())) else if inb x.2.2.1 x.1.length then if inb x.2.2.1 x.2.1.length then if !decide ((((rd (dfl .half) x.1 x.2.2.1).got).length:Int)=(((rd (dfl .half) x.2.1 x.2.2.1).got).length:Int)) then I (.inr<|.inl (A3,())) else(AP (uI (x.1,x.2.1,x.2.2.1,0,())) (λa=>I<|.inr<|.inl a) λa=>I<|.inl (a.1,a.2.1,(w64<|a.2.2.1+1),())) else A0 else A0 else A0 else A0 else A0 else A0 else A0 else A0 else A0 else A0 else A0 else A0 else I (.inr<|.inr ())
def uJ:=AW WZ
def yU:Loop:=⟨[(0,.sl .half),(1,.sl .half),(5,.int .i64)],[],0,[(4,.bool)],uJ⟩
def ahz:LF Tryz.f77 [] [1,1,0,1,0,0] yU:=sq (v:=t1<|.two (.one<|t1<|t1<|.one<|.loop yT) .nil) k8 (b:=WZ)<|kC ahs kN
def QT(x:List AJ×List AJ×A2):Option ((Bool×A2)×A2):=if !decide ((x.1.length:Int)=(x.2.1.length:Int)) then I ((A3,()),()) else(AP (uJ (x.1,x.2.1,0,())) (λa=>I (a,())) λa=>I ((U,()),()))
def aBK:Ent:=(77,A0,⟨[.fz .half,.fz .half],[.bool],QT⟩)
def ae5:SQ Tryz.prog aBK:=sk (v:=t1<|t1<|.two (t1<|.one<|.loop yU) .nil) (fn:=Tryz.f77) k8<|kC ahz kN
def aiV:Cx:=cX [aBK] [] [(25,29)]
def ak7:OKC Tryz.prog aiV AI:=okc mixed<|gC ae5<|AL
def gn(x:Y1×Y1×A2):Option ((Bool×A2)×A2):=if A1 (x.1.1=x.2.1.1) then if A1 (x.1.2.1=x.2.1.2.1) then if Ah (A1 (x.1.2.2.1=x.2.1.2.2.1)&&(A1 (x.1.2.2.2.1=x.2.1.2.2.2.1)&&U)) ((QT (x.1.2.2.2.2.1,x.2.1.2.2.2.2)).isSome) then let a:=((A1 (x.1.2.2.1=x.2.1.2.2.1)&&(A1 (x.1.2.2.2.1=x.2.1.2.2.2.1)&&U))&&(((QT (x.1.2.2.2.2.1,x.2.1.2.2.2.2)).getD ((A3,()),())).1.1));I ((a,()),()) else A0 else if Ah A3 ((QT (x.1.2.2.2.2.1,x.2.1.2.2.2.2)).isSome) then I ((A3,()),()) else A0 else if Ah A3 ((QT (x.1.2.2.2.2.1,x.2.1.2.2.2.2)).isSome) then I ((A3,()),()) else A0
def aBJ:Ent:=(41,A0,⟨[Z12,Z12],[.bool],gn⟩)
def ae4:SQ Tryz.prog aBJ:=sk (v:= .nil) (fn:=Tryz.f41) ak7 kN
def ajb:Cx:=cX [jO,aBJ] [] []
def jI:OKC Tryz.prog ajb AI:=okc mixed<|gC uW<|gC ae4<|AL
def X5(x:Y2×Y2×Int×A2):Rnd (Y2×Y2×Int×A2) (Bool×A2) (A2):=if A1 (x.2.2.1<(x.1.2.2.2.1.length:Int)) then if inb x.2.2.1 x.1.2.2.2.1.length then if inb x.2.2.1 x.2.1.2.2.2.1.length then if !(A1 ((rd (dfl .Ak) x.1.2.2.2.1 x.2.2.1).src=(rd (dfl .Ak) x.2.1.2.2.2.1 x.2.2.1).src)&&(A1 ((rd (dfl .Ak) x.1.2.2.2.1 x.2.2.1).dst=(rd (dfl .Ak) x.2.1.2.2.2.1 x.2.2.1).dst)&&(A1 ((rd (dfl .Ak) x.1.2.2.2.1 x.2.2.1).data=(rd (dfl .Ak) x.2.1.2.2.2.1 x.2.2.1).data)&&(A1 ((rd (dfl .Ak) x.1.2.2.2.1 x.2.2.1).sp=(rd (dfl .Ak) x.2.1.2.2.2.1 x.2.2.1).sp)&&U)))) then I (.inr<|.inl (A3,())) else I (.inl (x.1,x.2.1,(w64<|x.2.2.1+1),())) else A0 else A0 else I (.inr<|.inr ())
def uT:=AW X5
def yu:Loop:=⟨[(2,Z29),(3,Z29),(7,.int .i64)],[],4,[(4,.bool)],uT⟩
def aj6:LF Tryz.f17 [] [1,1,1,1,0,1,0,0] yu:=sq (v:= .nil) jI (b:=X5) kN
def X6(x:Y2×Y2×Int×A2):Rnd (Y2×Y2×Int×A2) (Bool×A2) (Y2×Y2×A2):=if A1 (x.2.2.1<(x.1.2.2.1.length:Int)) then if inb x.2.2.1 x.1.2.2.1.length then if inb x.2.2.1 x.2.1.2.2.1.length then if !decide ((rd (dfl .bool) x.1.2.2.1 x.2.2.1)=(rd (dfl .bool) x.2.1.2.2.1 x.2.2.1)) then I (.inr<|.inl (A3,())) else I (.inl (x.1,x.2.1,(w64<|x.2.2.1+1),())) else A0 else A0 else I (.inr<|.inr (x.1,x.2.1,()))
def uU:=AW X6
def yv:Loop:=⟨[(2,Z29),(3,Z29),(6,.int .i64)],[(2,Z29),(3,Z29)],2,[(4,.bool)],uU⟩
def ajC:LF Tryz.f17 [] [1,1,1,0,1,0,0] yv:=sq (v:= .nil) jI (b:=X6) kN
def X7(x:Y2×Y2×Int×A2):Rnd (Y2×Y2×Int×A2) (Bool×A2) (Y2×Y2×A2):=if A1 (x.2.2.1<(x.1.2.1.length:Int)) then if inb x.2.2.1 x.1.2.1.length then if inb x.2.2.1 x.2.1.2.1.length then(gn (((rd (dfl .AN) x.1.2.1 x.2.2.1).id,(rd (dfl .AN) x.1.2.1 x.2.2.1).up,(rd (dfl .AN) x.1.2.1 x.2.2.1).log,(rd (dfl .AN) x.1.2.1 x.2.2.1).fo,(rd (dfl .AN) x.1.2.1 x.2.2.1).AM,()),((rd (dfl .AN) x.2.1.2.1 x.2.2.1).id,(rd (dfl .AN) x.2.1.2.1 x.2.2.1).up,(rd (dfl .AN) x.2.1.2.1 x.2.2.1).log,(rd (dfl .AN) x.2.1.2.1 x.2.2.1).fo,(rd (dfl .AN) x.2.1.2.1 x.2.2.1).AM,()),())).bind λa=>if !a.1.1 then I (.inr<|.inl (A3,())) else I (.inl (x.1,x.2.1,(w64<|x.2.2.1+1),())) else A0 else A0 else I (.inr<|.inr (x.1,x.2.1,()))
def uV:=AW X7
def yw:Loop:=⟨[(2,Z29),(3,Z29),(5,.int .i64)],[(2,Z29),(3,Z29)],0,[(4,.bool)],uV⟩
def ajk:LF Tryz.f17 [] [1,1,0,1,0,0] yw:=sq (v:= .nil) jI (b:=X7) kN
def M5(x:Y2×Y2×A2):Option ((Bool×A2)×A2):=if !decide (x.1.1=x.2.1.1) then I ((A3,()),()) else if !decide ((x.1.2.1.length:Int)=(x.2.1.2.1.length:Int)) then I ((A3,()),()) else if !decide ((x.1.2.2.1.length:Int)=(x.2.1.2.2.1.length:Int)) then I ((A3,()),()) else if !decide ((x.1.2.2.2.1.length:Int)=(x.2.1.2.2.2.1.length:Int)) then I ((A3,()),()) else(GP (x.1.2.2.2.2.1,x.2.1.2.2.2.2.1,())).bind λd=>if !d.1.1 then I ((A3,()),()) else(GP (x.1.2.2.2.2.2.1,x.2.1.2.2.2.2.2)).bind λe=>if !e.1.1 then I ((A3,()),()) else(AP (uV (x.1,x.2.1,0,())) (λa=>I (a,())) λa=>(AP (uU (a.1,a.2.1,0,())) (λb=>I (b,())) λb=>(AP (uT (b.1,b.2.1,0,())) (λc=>I (c,())) λc=>I ((U,()),()))))
def Qa:Ent:=(17,A0,⟨[Z30,Z30],[.bool],M5⟩)
def Sb:SQ Tryz.prog Qa:=sk (v:=t1<|t1<|.two (t1<|.one<|.loop yw)<|.two (t1<|.one<|.loop yv)<|.two (t1<|.one<|.loop yu) .nil) (fn:=Tryz.f17) jI<|kC ajk<|kC ajC<|kC aj6 kN
end Go.VS
end
