/- Part 11. -/
import Derived.Test.YtcdeafiabojglaaGreatDoorQAU
set_option linter.unusedVariables false
set_option linter.unusedSimpArgs false
set_option linter.defProp false
open Bool renaming and_eq_true->AE,and_self->EY,false->A0,not_false->AH,not_true->AB,true->Y
open ByteArray renaming size->aB,size_extract->Tx
open Decidable renaming decide->U
open Int renaming tdiv->Ay,tdiv_eq_ediv_of_nonneg->Fh,tmod->BJ,toNat->AJ
open List renaming drop->Bp,getElem_mem->Ci,length->j8,length_append->Am,length_cons->Bm,length_drop->E4,length_nil->CL,length_set->G2,mem_cons->Bj,mem_of_mem_drop->Iz,mem_or_eq_of_mem_set->ML,mem_singleton->C1,not_mem_nil->Zn,set->Bq
open Nat renaming le_of_ble_eq_true->DL,le_trans->C6,lt_or_ge->GM,pow_le_pow_right->aDB,pow_succ->Qv,zero_add->DM,zero_le->Ch
open Option renaming bind_some->A6,none->G,some->I
section
set_option linter.all false
noncomputable section
namespace Go.VS
open Go Go.Proofs Tryz
set_option maxRecDepth 100000
def anA:Cx:=cX [] [] []
def aBU:y9 anA:=aG5<|AI
def iE(x:A1×Int×A1×D):Rnd (A1×Int×A1×D) D (A1×D):=if U (0<x.2.1) then(BU (X:=A1×Int×A1×D) (λa=>if U (a.1.size+a.1.size<=4611686018427387904) then let b:=(w64<|Ay a.2.1 2);I (.inl ((a.1++a.1),b,a.2.2)) else G)<|(if U ((BJ x.2.1 2)=1) then if U (x.2.2.1.size+x.1.size<=4611686018427387904) then I (.inr (x.1,x.2.1,(x.2.2.1++x.1),())) else G else I (.inr x))) else I (.inr<|.inr x.2.2)
def vc:=AT iE
def yt:Loop:=⟨[(0,.str),(1,j6),(5,.str)],[(5,.str)],0,[],vc⟩
def anQ:LF f63 [] [1,1,0,0,0] yt:=sq (v:=t1<|.one<|.join [(0,.str),(1,j6),(5,.str)] .nil .nil) aBU (b:=iE) kN
def Mt(x:A1×v7):Option ((A1×D)×D):=(AP (vc (x.1,x.2.1,noB,())) (λ_=>G) λa=>I (a,()))
def Wm:Ent:=(63,G,⟨[.str,j6],[.str],Mt⟩)
def dB:y7 Wm:=sk (v:=t1<|t1<|.two (.one<|.loop yt) .nil) (fn:=f63) aBU<|kC anQ kN
def akC:Cx:=cX [GP,Wm,SE] [] []
def aAF:y9 akC:=aG5<|gC Gm<|gC dB<|gC VE<|AI
def u9(x:Y9×List Int×v7):Rnd (Y9×List Int×v7) D (Y9×List Int×D):=if U (0<x.2.2.1) then(B0 (x.1,256,())).bind λa=>if Ab (x.2.1.length+([(w8 a.1.1)]:List Int).length) then I (.inl (a.2.1,(x.2.1++([(w8 a.1.1)]:List Int)),(w64<|x.2.2.1 - 1),())) else G else I (.inr<|.inr (x.1,x.2.1,()))
def uf:=AT u9
def xO:Loop:=⟨[(0,Z25),(3,.row 5 .u8),(4,j6)],[(0,Z25),(3,.row 5 .u8)],1,[],uf⟩
def akP:LF f92 [0] [1,0,1,0,1,1,1,0,1,0,1,0,0] xO:=sq (v:= .nil) aAF (b:=u9) kN
def fV(x:Y9×D):Option ((A1×D)×Y9×D):=(B0 (x.1,8,())).bind λa=>if U (a.1.1=0) then(Mt ((B [120]),24,())).bind λf=>(Mt ((B [121]),25,())).bind λg=>(Kl (a.2.1,([noB,f.1.1,g.1.1,(B [0,1]),(B [97,10])]:List A1),())).bind λb=>I (b.1,b.2) else if U (a.1.1=1) then(B0 (a.2.1,20,())).bind λc=>(AP (uf (c.2.1,([]:List Int),(w64<|1+c.1.1),())) (λ_=>G) λd=>I (((BF d.2.1),()),(d.1,()))) else(Kl (a.2.1,([(B [97]),(B [97,98,99,100]),(B [104,101,108,108,111]),(B [49,50,51,52,53,54,55,56]),(B [97,32,108,111,110,103,101,114,32,109,101,115,115,97,103,101]),(B [106,117,115,116,32,116,119,101,110,116,121,45,102,111,117,114,32,98,121,116,101,115,32,33]),(B [109,105,120,101,100,32,98,108,111,99,107,115]),(B [102,111,117,114,32,119,111,114,100,115,32,111,102,32,97,32,116,101,120,116])]:List A1),())).bind λe=>I (e.1,e.2)
def aAU:Ent:=(92,G,⟨[Z23],[.str],fV⟩)
def afG:y7 aAU:=sk (v:=t1<|.two (t1<|.one<|t1<|t1<|t1<|.two (t1<|.two (t1<|.one<|.loop xO) .nil) .nil) .nil) (fn:=f92) aAF<|kC akP kN
def akD:Cx:=cX [GP,SE,aAU] [] []
def ao9:y9 akD:=aG5<|gC Gm<|gC VE<|gC afG<|AI
def SJ(x:Y9×D):Option ((Y1×D)×Y9×D):=(B0 (x.1,4,())).bind λb=>(B0 (b.2.1,5,())).bind λc=>(B0 (c.2.1,4,())).bind λd=>(B0 (d.2.1,30,())).bind λe=>(Kl (e.2.1,([(B [97]),(B [104,101,108,108,111]),(B [97,32,108,111,110,103,101,114,32,109,101,115,115,97,103,101]),(B [32,120,32]),(B [106,117,115,116,32,116,119,101,110,116,121,45,102,111,117,114,32,98,121,116,101,115,32,33])]:List A1),())).bind λf=>(B0 (f.2.1,16,())).bind λa=>if U (a.1.1=0) then(B0 (a.2.1,2,())).bind λg=>if inb g.1.1 (([(-1),4]:List Int).length) then let l:=(rd aHb ([(-1),4]:List Int) g.1.1);I (((l,(w64<|1+c.1.1),d.1.1,(w64<|1+e.1.1),f.1),()),g.2) else G else if U (a.1.1=1) then(B0 (a.2.1,3,())).bind λh=>if inb h.1.1 (([0,99,100]:List Int).length) then let m:=(rd aHb ([0,99,100]:List Int) h.1.1);I (((b.1.1,m,d.1.1,(w64<|1+e.1.1),f.1),()),h.2) else G else if U (a.1.1=2) then(B0 (a.2.1,3,())).bind λi=>if inb i.1.1 (([0,999,1000]:List Int).length) then let n:=(rd aHb ([0,999,1000]:List Int) i.1.1);I (((b.1.1,(w64<|1+c.1.1),d.1.1,n,f.1),()),i.2) else G else if U (a.1.1=3) then(fV a.2).bind λk=>I (((b.1.1,(w64<|1+c.1.1),d.1.1,(w64<|1+e.1.1),k.1),()),k.2) else if U (a.1.1=4) then(B0 (a.2.1,2,())).bind λj=>if inb j.1.1 (([(-1),4]:List Int).length) then let o:=(rd aHb ([(-1),4]:List Int) j.1.1);I (((b.1.1,(w64<|1+c.1.1),o,(w64<|1+e.1.1),f.1),()),j.2) else G else I (((b.1.1,(w64<|1+c.1.1),d.1.1,(w64<|1+e.1.1),f.1),()),a.2)
def iI:Ent:=(64,G,⟨[Z23],[Z2],SJ⟩)
def ug:y7 iI:=sk (v:= .nil) (fn:=f64) ao9 kN
def an8:Cx:=cX [GP,Wm,iI,SE,Mu,fF,S2] [] []
def apb:y9 an8:=aG5<|gC Gm<|gC dB<|gC ug<|gC VE<|gC Nv<|gC qp<|gC Uy<|AI
def Ws(x:Y9×D):Option ((A1×D)×Y9×D):=(B0 (x.1,8,())).bind λa=>if U (a.1.1=0) then(B0 (a.2.1,30,())).bind λc=>(DK c.1).bind λd=>if U ((B [116,105,109,101,32]).size+d.1.1.size<=4611686018427387904) then let p:=((B [116,105,109,101,32])++d.1.1);I ((p,()),c.2) else G else if U (a.1.1=1) then(B0 (a.2.1,4,())).bind λe=>(B0 (e.2.1,3,())).bind λf=>(B0 (f.2.1,30,())).bind λg=>(Nz (e.1.1,(w64<|1+f.1.1),(w64<|1+g.1.1),())).bind λh=>if U ((B [108,101,116,32]).size+h.1.1.size<=4611686018427387904) then let q:=((B [108,101,116,32])++h.1.1);I ((q,()),g.2) else G else if U (a.1.1=2) then(B0 (a.2.1,4,())).bind λi=>(B0 (i.2.1,3,())).bind λj=>(B0 (j.2.1,30,())).bind λk=>(Nz (i.1.1,(w64<|1+j.1.1),(w64<|1+k.1.1),())).bind λl=>if U ((B [101,97,116,32]).size+l.1.1.size<=4611686018427387904) then let r:=((B [101,97,116,32])++l.1.1);I ((r,()),k.2) else G else if U (a.1.1=3) then(Mt ((B [122]),60,())).bind λs=>(Mt ((B [122]),61,())).bind λt=>(Kl (a.2.1,([noB,(B [119,104,97,116]),(B [116,105,109,101]),(B [116,105,109,101,32,48]),(B [116,105,109,101,32,48,49]),(B [110,101,120,116,32,51]),(B [110,101,120,116,32,49]),(B [109,97,114,107,32,48,32,49,32,53]),(B [109,97,114,107,32,48,32,49]),(B [109,97,114,107,32,48,32,49,32,53,32]),(B [104,101,108,100,32,48,32,49,32,50,32,57,32,120]),(B [105,110,98,111,120,32,48,32,49,32,50,32,57,32,120]),s.1.1,t.1.1]:List A1),())).bind λm=>I (m.1,m.2) else(Kl (a.2.1,([(B [111,119,110,32]),(B [116,97,107,101,32]),(B [116,97,107,101,32]),(B [104,101,108,100,32]),(B [105,110,98,111,120,32])]:List A1),())).bind λb=>(SJ b.2).bind λn=>(KZ n.1).bind λo=>if U (b.1.1.size+o.1.1.size<=4611686018427387904) then I (((b.1.1++o.1.1),()),n.2) else G
def jO:Ent:=(91,G,⟨[Z23],[.str],Ws⟩)
def wG:y7 jO:=sk (v:= .nil) (fn:=f91) apb kN
def akE:Cx:=cX [GP,SE] [] []
def aoA:y9 akE:=aG5<|gC Gm<|gC VE<|AI
def fW(x:Y9×A1×D):Option ((A1×D)×Y9×D):=if U ((x.2.1.size:Int)=0) then I (x.2,(x.1,())) else(B0 (x.1,2,())).bind λe=>if U (e.1.1=0) then I (x.2,e.2) else(B0 (e.2.1,(x.2.1.size:Int),())).bind λa=>(B0 (a.2.1,5,())).bind λb=>if U (b.1.1=0) then if U (0<=a.1.1)&&U (a.1.1<=(x.2.1.size:Int)) then if U (0<=(w64<|a.1.1+1))&&U ((w64<|a.1.1+1)<=(x.2.1.size:Int)) then if U ((x.2.1.extract (0)<|AJ a.1.1).size+(x.2.1.extract (AJ<|w64<|a.1.1+1)<|x.2.1.size).size<=4611686018427387904) then let f:=((x.2.1.extract (0)<|AJ a.1.1)++(x.2.1.extract (AJ<|w64<|a.1.1+1)<|x.2.1.size));I ((f,()),b.2) else G else G else G else if U (b.1.1=1) then if U (0<=a.1.1)&&U (a.1.1<=(x.2.1.size:Int)) then(Kl (b.2.1,([(B [32]),(B [48]),(B [45]),(B [49]),(B [120]),(B [58]),(B [59])]:List A1),())).bind λc=>if U ((x.2.1.extract (0)<|AJ a.1.1).size+c.1.1.size<=4611686018427387904) then if U (0<=a.1.1)&&U (a.1.1<=(x.2.1.size:Int)) then if U (((x.2.1.extract (0)<|AJ a.1.1)++c.1.1).size+(x.2.1.extract (AJ a.1.1)<|x.2.1.size).size<=4611686018427387904) then let g:=(((x.2.1.extract (0)<|AJ a.1.1)++c.1.1)++(x.2.1.extract (AJ a.1.1)<|x.2.1.size));I ((g,()),c.2) else G else G else G else G else if U (b.1.1=2) then if U (0<=a.1.1)&&U (a.1.1<=(x.2.1.size:Int)) then(Kl (b.2.1,([(B [57]),(B [45]),(B [59]),(B [32]),(B [10])]:List A1),())).bind λd=>if U ((x.2.1.extract (0)<|AJ a.1.1).size+d.1.1.size<=4611686018427387904) then if U (0<=(w64<|a.1.1+1))&&U ((w64<|a.1.1+1)<=(x.2.1.size:Int)) then if U (((x.2.1.extract (0)<|AJ a.1.1)++d.1.1).size+(x.2.1.extract (AJ<|w64<|a.1.1+1)<|x.2.1.size).size<=4611686018427387904) then let h:=(((x.2.1.extract (0)<|AJ a.1.1)++d.1.1)++(x.2.1.extract (AJ<|w64<|a.1.1+1)<|x.2.1.size));I ((h,()),d.2) else G else G else G else G else if U (b.1.1=3) then if U (x.2.1.size+x.2.1.size<=4611686018427387904) then I (((x.2.1++x.2.1),()),b.2) else G else if U (0<=a.1.1)&&U (a.1.1<=(x.2.1.size:Int)) then let i:=(x.2.1.extract (0)<|AJ a.1.1);I ((i,()),b.2) else G
def aAV:Ent:=(119,G,⟨[Z23,.str],[.str],fW⟩)
def afH:y7 aAV:=sk (v:= .nil) (fn:=f119) aoA kN
def aj7:Cx:=cX [GP,Wm,Wn,jO,uL,VP,aAV] [] []
def uR:y9 aj7:=aG5<|gC Gm<|gC dB<|gC dH<|gC wG<|gC adO<|gC bh<|gC afH<|AI
def tC(x:Y9×Y4×Y4×v7):Rnd (Y9×Y4×Y4×v7) D (Y9×Y4×Y4×D):=(B0 (x.1,3,())).bind λa=>if U (x.2.2.2.1<(w64<|38+a.1.1)) then(B0 (a.2.1,3,())).bind λb=>(Mt ((B [102]),(w64<|58+b.1.1),())).bind λd=>(Kh d.1).bind λc=>if U (x.2.2.1.1.size+c.1.1.size<=4611686018427387904) then I (.inl (b.2.1,x.2.1,((x.2.2.1.1++c.1.1),x.2.2.1.2),(w64<|x.2.2.2.1+1),())) else G else I (.inr<|.inr (a.2.1,x.2.1,x.2.2.1,()))
def adI:=AT tC
def wE:Loop:=⟨[(0,Z25),(2,Z22),(3,Z22),(5,j6)],[(0,Z25),(2,Z22),(3,Z22)],3,[],adI⟩
def aiM:LF f89 [0] [1,1,1,0,1,0,1,1,1,1,1,0,1,0,0] wE:=sq (v:= .nil) uR (b:=tC) kN
def tD(x:Y9×Y4×Y4×v7):Rnd (Y9×Y4×Y4×v7) D (Y9×Y4×Y4×D):=if U (0<x.2.2.2.1) then(Ws (x.1,())).bind λb=>(O0 (x.2.2.1,b.1)).bind λc=>(B0 (b.2.1,3,())).bind λa=>if U (a.1.1=0) then(Nu (c.1.1,())).bind λd=>I (.inl (a.2.1,x.2.1,d.1.1,(w64<|x.2.2.2.1 - 1),())) else I (.inl (a.2.1,x.2.1,c.1.1,(w64<|x.2.2.2.1 - 1),())) else I (.inr<|.inr (x.1,x.2.1,x.2.2.1,()))
def adJ:=AT tD
def wF:Loop:=⟨[(0,Z25),(2,Z22),(3,Z22),(4,j6)],[(0,Z25),(2,Z22),(3,Z22)],0,[],adJ⟩
def aiU:LF f89 [0] [1,1,0,1,0,0] wF:=sq (v:= .nil) uR (b:=tD) kN
def eV(x:Y9×D):Option ((Y4×D)×Y9×D):=(B0 (x.1,9,())).bind λe=>(AP (adJ (e.2.1,(noB,0,()),(noB,0,()),e.1)) (λ_=>G) (λa=>(B0 (a.1,14,())).bind λb=>if U (b.1.1=0) then(fW (b.2.1,a.2.2.1.1,())).bind λf=>I (((f.1.1,a.2.2.1.2),()),f.2) else if U (b.1.1=1) then(B0 (b.2.1,(w64<|(a.2.2.1.1.size:Int)+1),())).bind λc=>(B0 (c.2.1,3,())).bind λd=>if inb d.1.1 (([(-1),(w64<|(a.2.2.1.1.size:Int)+1),c.1.1]:List Int).length) then let h:=(rd aHb ([(-1),(w64<|(a.2.2.1.1.size:Int)+1),c.1.1]:List Int) d.1.1);I (((a.2.2.1.1,h,()),()),d.2) else G else if U (b.1.1=2) then(AP (adI (b.2.1,a.2.1,a.2.2.1,0,())) (λ_=>G) λg=>I (g.2.2,(g.1,()))) else I (a.2.2,b.2)))
def yP:Ent:=(89,G,⟨[Z23],[Z9],eV⟩)
def aeh:y7 yP:=sk (v:=t1<|t1<|.two (t1<|.one<|.loop wF)<|.two (t1<|.one<|t1<|t1<|t1<|t1<|t1<|.two (t1<|.one<|.loop wE) .nil) .nil) (fn:=f89) uR<|kC aiU<|kC aiM kN
def ahZ:Cx:=cX [gH,GP,cO,Ll,yP,Wn,jO] [] []
def aiu:y9 ahZ:=aG5<|gC rF<|gC Gm<|gC qN<|gC Mk<|gC aeh<|gC dH<|gC wG<|AI
def dU(x:Y9×D):Option ((Y7×Y3×D)×Y9×D):=(Pq (x.1,12,())).bind λe=>(BU (X:=Y9×Y7×Y3×Y11×D) (λa=>(B0 (a.1,4,())).bind λd=>if inb d.1.1 a.2.2.2.1.2.2.1.length then(G4 (((rd aG8 a.2.2.2.1.2.2.1 d.1.1).id,(rd aG8 a.2.2.2.1.2.2.1 d.1.1).up,(rd aG8 a.2.2.2.1.2.2.1 d.1.1).log,(rd aG8 a.2.2.2.1.2.2.1 d.1.1).fo,(rd aG8 a.2.2.2.1.2.2.1 d.1.1).AG,()),())).bind λb=>(B0 (d.2.1,20,())).bind λc=>if U (c.1.1=0) then(B0 (c.2.1,3,())).bind λf=>if inb f.1.1 (([(-1),4,(BJ (w64<|b.1.1.1+1) 4)]:List Int).length) then let r:=(rd aHb ([(-1),4,(BJ (w64<|b.1.1.1+1) 4)]:List Int) f.1.1);I (((a.2.2.2.1.2.1,a.2.2.2.1.2.2.1,a.2.2.2.1.2.2.2.1,a.2.2.2.1.2.2.2.2.1,a.2.2.2.1.2.2.2.2.2.1,a.2.2.2.1.2.2.2.2.2.2.1,()),(r,b.1.1.2),()),f.2) else G else if U (c.1.1=1) then(eV c.2).bind λg=>I (((a.2.2.2.1.2.1,a.2.2.2.1.2.2.1,a.2.2.2.1.2.2.2.1,a.2.2.2.1.2.2.2.2.1,a.2.2.2.1.2.2.2.2.2.1,a.2.2.2.1.2.2.2.2.2.2.1,()),(b.1.1.1,b.1.1.2.1,g.1.1.1,g.1.1.2.1,b.1.1.2.2.2.2),()),g.2) else if U (c.1.1=2) then(B0 (c.2.1,4,())).bind λh=>if inb h.1.1 (([(-1),0,(b.1.1.2.2.1.size:Int),(w64<|(b.1.1.2.2.1.size:Int)+1)]:List Int).length) then let s:=(rd aHb ([(-1),0,(b.1.1.2.2.1.size:Int),(w64<|(b.1.1.2.2.1.size:Int)+1)]:List Int) h.1.1);I (((a.2.2.2.1.2.1,a.2.2.2.1.2.2.1,a.2.2.2.1.2.2.2.1,a.2.2.2.1.2.2.2.2.1,a.2.2.2.1.2.2.2.2.2.1,a.2.2.2.1.2.2.2.2.2.2.1,()),(b.1.1.1,b.1.1.2.1,b.1.1.2.2.1,s,b.1.1.2.2.2.2),()),h.2) else G else if U (c.1.1=3) then(B0 (c.2.1,5,())).bind λi=>(B0 (i.2.1,3,())).bind λj=>(B0 (j.2.1,4,())).bind λk=>(B0 (k.2.1,26,())).bind λl=>(B0 (l.2.1,9,())).bind λm=>if Ab (b.1.1.2.2.2.2.1.length+([(AD.mk i.1.1 (w64<|1+j.1.1) k.1.1 9 l.1.1 ([(AQ.mk m.1.1<|B [97,98,99,100])]:List AQ))]:List AD).length) then I (((a.2.2.2.1.2.1,a.2.2.2.1.2.2.1,a.2.2.2.1.2.2.2.1,a.2.2.2.1.2.2.2.2.1,a.2.2.2.1.2.2.2.2.2.1,a.2.2.2.1.2.2.2.2.2.2.1,()),(b.1.1.1,b.1.1.2.1,b.1.1.2.2.1,b.1.1.2.2.2.1,(b.1.1.2.2.2.2.1++([(AD.mk i.1.1 (w64<|1+j.1.1) k.1.1 9 l.1.1 ([(AQ.mk m.1.1<|B [97,98,99,100])]:List AQ))]:List AD)),()),()),m.2) else G else if U (c.1.1=4) then I (((a.2.2.2.1.2.1,a.2.2.2.1.2.2.1,a.2.2.2.1.2.2.2.1,a.2.2.2.1.2.2.2.2.1,a.2.2.2.1.2.2.2.2.2.1,a.2.2.2.1.2.2.2.2.2.2.1,()),(b.1.1.1,(!b.1.1.2.1),b.1.1.2.2),()),c.2) else if U (c.1.1=5) then(Ws c.2).bind λo=>(Kh o.1).bind λp=>if U (b.1.1.2.2.1.size+p.1.1.size<=4611686018427387904) then let t:=(b.1.1.2.2.1++p.1.1);I (((a.2.2.2.1.2.1,a.2.2.2.1.2.2.1,a.2.2.2.1.2.2.2.1,a.2.2.2.1.2.2.2.2.1,a.2.2.2.1.2.2.2.2.2.1,a.2.2.2.1.2.2.2.2.2.2.1,()),(b.1.1.1,b.1.1.2.1,t,b.1.1.2.2.2),()),o.2) else G else I (((a.2.2.2.1.2.1,a.2.2.2.1.2.2.1,a.2.2.2.1.2.2.2.1,a.2.2.2.1.2.2.2.2.1,a.2.2.2.1.2.2.2.2.2.1,a.2.2.2.1.2.2.2.2.2.2.1,()),b.1),c.2) else G)<|(B0 (e.2.1,2,())).bind λn=>if U (n.1.1=0) then(Ns ((n.2.1,e.1.1.2),7,0,())).bind λq=>I (.inr (q.2.1.1,(0,([]:List A7),([]:List Bool),([]:List AK),([]:List A3),([]:List A3),()),(0,A0,noB,0,([]:List AD),()),((),q.2.1.2),())) else I (.inr (n.2.1,(0,([]:List A7),([]:List Bool),([]:List AK),([]:List A3),([]:List A3),()),(0,A0,noB,0,([]:List AD),()),((),e.1.1.2),())))
def xh:Ent:=(62,G,⟨[Z23],[Z19,Z17],dU⟩)
def adq:y7 xh:=sk (v:=t1<|t1<|.join [(0,Z25),(2,Z18),(3,Z16),(4,Z30)] .nil .nil) (fn:=f62) aiu kN
def ai1:Cx:=cX [GP,iL,xh,Wm,iI] [] []
def zZ:y9 ai1:=aG5<|gC Gm<|gC uk<|gC adq<|gC dB<|gC ug<|AI
def tB(x:Y9×Y7×Y7×D):Rnd (Y9×Y7×Y7×D) D (Y9×Y7×Y7×D):=(B0 (x.1,2,())).bind λa=>if U ((j8 x.2.1.2.2.2.1:Int)<(w64<|30+a.1.1)) then if Ab (x.2.1.2.2.2.1.length+([(AK.mk 0 1 noB A0)]:List AK).length) then I (.inl (a.2.1,(x.2.1.1,x.2.1.2.1,x.2.1.2.2.1,(x.2.1.2.2.2.1++([(AK.mk 0 1 noB A0)]:List AK)),x.2.1.2.2.2.2),x.2.2)) else G else I (.inr<|.inr (a.2.1,x.2))
def adH:=AT tB
def wD:Loop:=⟨[(0,Z25),(3,Z18),(4,Z18)],[(0,Z25),(3,Z18),(4,Z18)],1,[],adH⟩
def aiT:LF f29 [0] [1,1,0,1,0,1,1,1,1,1,1,1,1,1,1,1,1,1,1,0,0] wD:=sq (v:= .nil) zZ (b:=tB) kN
def eU(x:Y9×Y7×D):Option ((Y7×D)×Y9×D):=(Kn x.2).bind λa=>(B0 (x.1,8,())).bind λb=>if U (b.1.1=0) then(B0 (b.2.1,(j8 a.1.1.2.1:Int),())).bind λf=>(dU f.2).bind λe=>if inb f.1.1 a.1.1.2.1.length then I (((a.1.1.1,(Bq a.1.1.2.1 (AJ f.1.1)<|A7.mk e.1.2.1.1 e.1.2.1.2.1 e.1.2.1.2.2.1 e.1.2.1.2.2.2.1 e.1.2.1.2.2.2.2.1),a.1.1.2.2),()),e.2) else G else if U (b.1.1=1) then(B0 (b.2.1,4,())).bind λg=>if inb g.1.1 (([(-1),0,99999,100000]:List Int).length) then let m:=(rd aHb ([(-1),0,99999,100000]:List Int) g.1.1);I (((m,a.1.1.2),()),g.2) else G else if U (b.1.1=2) then if U (0<=1)&&U (1<=(j8 a.1.1.2.1:Int)) then let n:=(Bp (AJ 1) a.1.1.2.1);I (((a.1.1.1,n,a.1.1.2.2),()),b.2) else G else if U (b.1.1=3) then if Ab (a.1.1.2.2.1.length+([Y]:List Bool).length) then I (((a.1.1.1,a.1.1.2.1,(a.1.1.2.2.1++([Y]:List Bool)),a.1.1.2.2.2),()),b.2) else G else if U (b.1.1=4) then(B0 (b.2.1,5,())).bind λh=>(B0 (h.2.1,5,())).bind λi=>(B0 (i.2.1,3,())).bind λj=>if inb j.1.1 (([0,40,41]:List Int).length) then(Mt ((B [120]),(rd aHb ([0,40,41]:List Int) j.1.1),())).bind λk=>if Ab (a.1.1.2.2.2.1.length+([(AK.mk (w64<|h.1.1 - 1) (w64<|i.1.1 - 1) k.1.1 A0)]:List AK).length) then I (((a.1.1.1,a.1.1.2.1,a.1.1.2.2.1,(a.1.1.2.2.2.1++([(AK.mk (w64<|h.1.1 - 1) (w64<|i.1.1 - 1) k.1.1 A0)]:List AK)),a.1.1.2.2.2.2),()),j.2) else G else G else if U (b.1.1=5) then(SJ b.2).bind λc=>if Ab (a.1.1.2.2.2.2.1.length+([(A3.mk c.1.1.1 c.1.1.2.1 c.1.1.2.2.1 c.1.1.2.2.2.1 c.1.1.2.2.2.2.1)]:List A3).length) then I (((a.1.1.1,a.1.1.2.1,a.1.1.2.2.1,a.1.1.2.2.2.1,(a.1.1.2.2.2.2.1++([(A3.mk c.1.1.1 c.1.1.2.1 c.1.1.2.2.1 c.1.1.2.2.2.1 c.1.1.2.2.2.2.1)]:List A3)),a.1.1.2.2.2.2.2),()),c.2) else G else if U (b.1.1=6) then(SJ b.2).bind λd=>if Ab (a.1.1.2.2.2.2.2.1.length+([(A3.mk d.1.1.1 d.1.1.2.1 d.1.1.2.2.1 d.1.1.2.2.2.1 d.1.1.2.2.2.2.1)]:List A3).length) then I (((a.1.1.1,a.1.1.2.1,a.1.1.2.2.1,a.1.1.2.2.2.1,a.1.1.2.2.2.2.1,(a.1.1.2.2.2.2.2.1++([(A3.mk d.1.1.1 d.1.1.2.1 d.1.1.2.2.1 d.1.1.2.2.2.1 d.1.1.2.2.2.2.1)]:List A3)),()),()),d.2) else G else(AP (adH (b.2.1,a.1.1,(0,([]:List A7),([]:List Bool),([]:List AK),([]:List A3),([]:List A3),()),())) (λ_=>G) λl=>I ((l.2.1,()),(l.1,())))
def yO:Ent:=(29,G,⟨[Z23,Z15],[Z15],eU⟩)
def aeg:y7 yO:=sk (v:=t1<|t1<|.two (t1<|.one<|t1<|t1<|t1<|t1<|t1<|t1<|t1<|t1<|t1<|t1<|t1<|t1<|t1<|t1<|.one<|.loop wD) .nil) (fn:=f29) zZ<|kC aiT kN
def ae5:Cx:=cX [jP,gH,GP,yO] [] []
def aeV:y9 ae5:=aG5<|gC vb<|gC rF<|gC Gm<|gC aeg<|AI
def Uz(x:List Int×D):Option ((Y7×v7)×D):=(Wt x).bind λd=>(Pq (d.1.1,14,())).bind λa=>(B0 (a.2.1,16,())).bind λb=>if U (b.1.1=0) then(eU (b.2.1,(a.1.1.2.1,a.1.1.2.2.1,a.1.1.2.2.2.1,a.1.1.2.2.2.2.1,a.1.1.2.2.2.2.2.1,a.1.1.2.2.2.2.2.2.1,()),())).bind λe=>I ((e.1.1,1,()),()) else(B0 (b.2.1,5,())).bind λc=>if inb c.1.1 (([1,2,0,(-1),1]:List Int).length) then let f:=(rd aHb ([1,2,0,(-1),1]:List Int) c.1.1);I (((a.1.1.2.1,a.1.1.2.2.1,a.1.1.2.2.2.1,a.1.1.2.2.2.2.1,a.1.1.2.2.2.2.2.1,a.1.1.2.2.2.2.2.2.1,()),f,()),()) else G
def acz:Ent:=(11,G,⟨[.fz .u8],[Z15,j6],Uz⟩)
def ada:y7 acz:=sk (v:= .nil) (fn:=f11) aeV kN
def ajT:Cx:=cX [] [] []
def uB:y9 ajT:=aG5<|AI
def Ve(x:List AD×List AD×aG7):Rnd (List AD×List AD×aG7) (Bool×D) (List AD×List AD×v7):=if inb x.2.2.1 x.1.length then if U (x.2.2.2.1<(((rd aHa x.1 x.2.2.1).got).length:Int)) then if inb x.2.2.1 x.1.length then if inb x.2.2.2.1 (((rd aHa x.1 x.2.2.1).got).length) then if inb x.2.2.1 x.2.1.length then if inb x.2.2.2.1 (((rd aHa x.2.1 x.2.2.1).got).length) then if !(U ((rd aHl ((rd aHa x.1 x.2.2.1).got) x.2.2.2.1).nu=(rd aHl ((rd aHa x.2.1 x.2.2.1).got) x.2.2.2.1).nu)&&(U ((rd aHl ((rd aHa x.1 x.2.2.1).got) x.2.2.2.1).da=(rd aHl ((rd aHa x.2.1 x.2.2.1).got) x.2.2.2.1).da)&&Y)) then I (.inr<|.inl (A0,())) else I (.inl (x.1,x.2.1,x.2.2.1,(w64<|x.2.2.2.1+1),())) else G else G else G else G else I (.inr<|.inr (x.1,x.2.1,x.2.2.1,())) else G
def rA:=AT Ve
def vU:Loop:=⟨[(0,.sl .half),(1,.sl .half),(5,j6),(6,j6)],[(0,.sl .half),(1,.sl .half),(5,j6)],2,[(4,.bool)],rA⟩
def aiR:LF f71 [] [1,1,0,1,0,0,1,0,0,1,1,0,0] vU:=sq (v:= .nil) uB (b:=Ve) kN
def Vf(x:List AD×List AD×v7):Rnd (List AD×List AD×v7) (Bool×D) D:=if U (x.2.2.1<(j8 x.1:Int)) then if inb x.2.2.1 x.1.length then if inb x.2.2.1 x.2.1.length then if !decide ((rd aHa x.1 x.2.2.1).fr=(rd aHa x.2.1 x.2.2.1).fr) then I (.inr<|.inl (A0,())) else if inb x.2.2.1 x.1.length then if inb x.2.2.1 x.2.1.length then if !decide ((rd aHa x.1 x.2.2.1).nu=(rd aHa x.2.1 x.2.2.1).nu) then I (.inr<|.inl (A0,())) else if inb x.2.2.1 x.1.length then if inb x.2.2.1 x.2.1.length then if !decide ((rd aHa x.1 x.2.2.1).to=(rd aHa x.2.1 x.2.2.1).to) then I (.inr<|.inl (A0,())) else if inb x.2.2.1 x.1.length then if inb x.2.2.1 x.2.1.length then if !decide ((rd aHa x.1 x.2.2.1).un=(rd aHa x.2.1 x.2.2.1).un) then I (.inr<|.inl (A0,())) else if inb x.2.2.1 x.1.length then if inb x.2.2.1 x.2.1.length then if !decide ((rd aHa x.1 x.2.2.1).sz=(rd aHa x.2.1 x.2.2.1).sz) then I (.inr<|.inl (A0,())) else if inb x.2.2.1 x.1.length then if inb x.2.2.1 x.2.1.length then if !decide ((((rd aHa x.1 x.2.2.1).got).length:Int)=(((rd aHa x.2.1 x.2.2.1).got).length:Int)) then I (.inr<|.inl (A0,())) else(AP (rA (x.1,x.2.1,x.2.2.1,0,())) (λa=>I<|.inr<|.inl a) λa=>I<|.inl (a.1,a.2.1,(w64<|a.2.2.1+1),())) else G else G else G else G else G else G else G else G else G else G else G else G else I (.inr<|.inr ())
def rB:=AT Vf
def vV:Loop:=⟨[(0,.sl .half),(1,.sl .half),(5,j6)],[],0,[(4,.bool)],rB⟩
def ai2:LF f71 [] [1,1,0,1,0,0] vV:=sq (v:=t1<|.two (.one<|t1<|t1<|.one<|.loop vU) .nil) uB (b:=Vf)<|kC aiR kN
def Po(x:List AD×List AD×D):Option ((Bool×D)×D):=if !decide ((j8 x.1:Int)=(j8 x.2.1:Int)) then I ((A0,()),()) else(AP (rB (x.1,x.2.1,0,())) (λa=>I (a,())) λa=>I ((Y,()),()))
def zT:Ent:=(71,G,⟨[.fz .half,.fz .half],[.bool],Po⟩)
def aeY:y7 zT:=sk (v:=t1<|t1<|.two (t1<|.one<|.loop vV) .nil) (fn:=f71) uB<|kC ai2 kN
def ajS:Cx:=cX [zT] [] [(25,29)]
def aks:y9 ajS:=aG5<|gC aeY<|AI
def ee(x:Y3×Y3×D):Option ((Bool×D)×D):=if U (x.1.1=x.2.1.1) then if U (x.1.2.1=x.2.1.2.1) then if Ak (U (x.1.2.2.1=x.2.1.2.2.1)&&(U (x.1.2.2.2.1=x.2.1.2.2.2.1)&&Y)) ((Po (x.1.2.2.2.2.1,x.2.1.2.2.2.2)).isSome) then let a:=((U (x.1.2.2.1=x.2.1.2.2.1)&&(U (x.1.2.2.2.1=x.2.1.2.2.2.1)&&Y))&&(((Po (x.1.2.2.2.2.1,x.2.1.2.2.2.2)).getD ((A0,()),())).1.1));I ((a,()),()) else G else if Ak A0 ((Po (x.1.2.2.2.2.1,x.2.1.2.2.2.2)).isSome) then I ((A0,()),()) else G else if Ak A0 ((Po (x.1.2.2.2.2.1,x.2.1.2.2.2.2)).isSome) then I ((A0,()),()) else G
def zQ:Ent:=(36,G,⟨[Z8,Z8],[.bool],ee⟩)
def aeX:y7 zQ:=sk (v:= .nil) (fn:=f36) aks kN
def al8:Cx:=cX [iP,zQ] [] []
def gW:y9 al8:=aG5<|gC vO<|gC aeX<|AI
def WB(x:Y7×Y7×v7):Rnd (Y7×Y7×v7) (Bool×D) D:=if U (x.2.2.1<(j8 x.1.2.2.2.1:Int)) then if inb x.2.2.1 x.1.2.2.2.1.length then if inb x.2.2.1 x.2.1.2.2.2.1.length then if !(U ((rd aHe x.1.2.2.2.1 x.2.2.1).src=(rd aHe x.2.1.2.2.2.1 x.2.2.1).src)&&(U ((rd aHe x.1.2.2.2.1 x.2.2.1).dst=(rd aHe x.2.1.2.2.2.1 x.2.2.1).dst)&&(U ((rd aHe x.1.2.2.2.1 x.2.2.1).data=(rd aHe x.2.1.2.2.2.1 x.2.2.1).data)&&(U ((rd aHe x.1.2.2.2.1 x.2.2.1).sp=(rd aHe x.2.1.2.2.2.1 x.2.2.1).sp)&&Y)))) then I (.inr<|.inl (A0,())) else I (.inl (x.1,x.2.1,(w64<|x.2.2.1+1),())) else G else G else I (.inr<|.inr ())
def sB:=AT WB
def wj:Loop:=⟨[(2,Z14),(3,Z14),(7,j6)],[],4,[(4,.bool)],sB⟩
def ajZ:LF f14 [] [1,1,1,1,0,1,0,0] wj:=sq (v:= .nil) gW (b:=WB) kN
def WC(x:Y7×Y7×v7):Rnd (Y7×Y7×v7) (Bool×D) (Y7×Y7×D):=if U (x.2.2.1<(j8 x.1.2.2.1:Int)) then if inb x.2.2.1 x.1.2.2.1.length then if inb x.2.2.1 x.2.1.2.2.1.length then if !decide ((rd aHm x.1.2.2.1 x.2.2.1)=(rd aHm x.2.1.2.2.1 x.2.2.1)) then I (.inr<|.inl (A0,())) else I (.inl (x.1,x.2.1,(w64<|x.2.2.1+1),())) else G else G else I (.inr<|.inr (x.1,x.2.1,()))
def rP:=AT WC
def wm:Loop:=⟨[(2,Z14),(3,Z14),(6,j6)],[(2,Z14),(3,Z14)],2,[(4,.bool)],rP⟩
def ajf:LF f14 [] [1,1,1,0,1,0,0] wm:=sq (v:= .nil) gW (b:=WC) kN
def WD(x:Y7×Y7×v7):Rnd (Y7×Y7×v7) (Bool×D) (Y7×Y7×D):=if U (x.2.2.1<(j8 x.1.2.1:Int)) then if inb x.2.2.1 x.1.2.1.length then if inb x.2.2.1 x.2.1.2.1.length then(ee (((rd aG8 x.1.2.1 x.2.2.1).id,(rd aG8 x.1.2.1 x.2.2.1).up,(rd aG8 x.1.2.1 x.2.2.1).log,(rd aG8 x.1.2.1 x.2.2.1).fo,(rd aG8 x.1.2.1 x.2.2.1).AG,()),((rd aG8 x.2.1.2.1 x.2.2.1).id,(rd aG8 x.2.1.2.1 x.2.2.1).up,(rd aG8 x.2.1.2.1 x.2.2.1).log,(rd aG8 x.2.1.2.1 x.2.2.1).fo,(rd aG8 x.2.1.2.1 x.2.2.1).AG,()),())).bind λa=>if !a.1.1 then I (.inr<|.inl (A0,())) else I (.inl (x.1,x.2.1,(w64<|x.2.2.1+1),())) else G else G else I (.inr<|.inr (x.1,x.2.1,()))
def rQ:=AT WD
def wq:Loop:=⟨[(2,Z14),(3,Z14),(5,j6)],[(2,Z14),(3,Z14)],0,[(4,.bool)],rQ⟩
def akc:LF f14 [] [1,1,0,1,0,0] wq:=sq (v:= .nil) gW (b:=WD) kN
def Pu(x:Y7×Y7×D):Option ((Bool×D)×D):=if !decide (x.1.1=x.2.1.1) then I ((A0,()),()) else if !decide ((j8 x.1.2.1:Int)=(j8 x.2.1.2.1:Int)) then I ((A0,()),()) else if !decide ((j8 x.1.2.2.1:Int)=(j8 x.2.1.2.2.1:Int)) then I ((A0,()),()) else if !decide ((j8 x.1.2.2.2.1:Int)=(j8 x.2.1.2.2.2.1:Int)) then I ((A0,()),()) else(Hw (x.1.2.2.2.2.1,x.2.1.2.2.2.2.1,())).bind λd=>if !d.1.1 then I ((A0,()),()) else(Hw (x.1.2.2.2.2.2.1,x.2.1.2.2.2.2.2)).bind λe=>if !e.1.1 then I ((A0,()),()) else(AP (rQ (x.1,x.2.1,0,())) (λa=>I (a,())) λa=>(AP (rP (a.1,a.2.1,0,())) (λb=>I (b,())) λb=>(AP (sB (b.1,b.2.1,0,())) (λc=>I (c,())) λc=>I ((Y,()),()))))
def aAe:Ent:=(14,G,⟨[Z15,Z15],[.bool],Pu⟩)
def afy:y7 aAe:=sk (v:=t1<|t1<|.two (t1<|.one<|.loop wq)<|.two (t1<|.one<|.loop wm)<|.two (t1<|.one<|.loop wj) .nil) (fn:=f14) gW<|kC akc<|kC ajf<|kC ajZ kN
def af5:Cx:=cX [tV,acz,tn,gI,aAe,gV] [] []
def agV:y9 af5:=aG5<|gC acx<|gC ada<|gC ad9<|gC ry<|gC afy<|gC rj<|AI
def VL(x:List Int×D):Option ((Bool×D)×D):=if U (1048576<(j8 x.1:Int)) then I ((Y,()),()) else(Uz x).bind λa=>(Lh a.1).bind λc=>(Ms (a.1.1,())).bind λd=>(IU a.1).bind λb=>(Pu (b.1.1,c.1)).bind λe=>if !e.1.1 then I ((A0,()),()) else if !d.1.1 then let f:=(U<|(j8 b.1.1.2.1:Int)=0);I ((f,()),()) else if U (a.1.2.1<0) then(Pu (b.1.1,a.1.1,())).bind λg=>I (g.1,()) else(Mp b.1).bind λh=>if h.1.1 then(IU (b.1.1,1,())).bind λi=>(IU (a.1.1,(w64<|a.1.2.1+1),())).bind λj=>(Pu (i.1.1,j.1)).bind λk=>I (k.1,()) else I ((A0,()),())
def afl:Ent:=(4,G,⟨[.fz .u8],[.bool],VL⟩)
def adg:y7 afl:=sk (v:= .nil) (fn:=f4) agV kN
end Go.VS
end
end
section
set_option linter.all false
noncomputable section
namespace Go.VS
open Go
variable {E:List Event}
def ayR{N:Nat}{r:List Int×Int×D}(h:CH N r){DN:Int}(hm0:1<=DN)(hm:DN<=12)(hN:N<=400000):
  Tot (Pq (r,DN,())) λa=>CH (N+310000) a.2.1/\WOk [] (N+310000) a.1.1.2:=
 (oI (M:=12) h hm0 hm J).mono λ_ ha=>⟨ha.1.up J,ha.2.up J⟩
end Go.VS
namespace Go.VS
open Go
def Qf{s:A1}{n:Int}(hs:s.size<=1)(h0:0<=n)(hn:n<128):Tot (Mt (s,n,())) λa=>a.1.1.size<=1000:=by
 unfold Mt;refine Tot.sum (P:=λ_=>False) (Q:=λy=>y.1.size<=1000) ?_ (λ_ h=>h.elim) (λy hy=>Tot.ret hy);refine Tot.loop (λi x=>x.1.size<=2 ^ i/\0<=x.2.1/\x.2.1<((2 ^ (7 - i):Nat):Int)/\x.2.2.1.size<=128 * i) _ 7 (λi x hi hx=> ?_) ⟨by simpa using hs,h0,by simpa using hn,Ch _⟩;obtain⟨h1,h2,h3,h4⟩:=hx;unfold iE;refine Tot.ite (λhc=> ?_) (λhc=>Tot.ret (J:x.2.2.1.size<=1000));have hc:=BW hc;have hi7:i<7:=by
  obtain h|h:=GM i 7
  .exact h
  .have:i=7:=J
   subst this;simp at h3;omega
 have hp:2 ^ i<=128:=aDB aHd (by omega:i<=7);have hp2:(2:Nat) ^ (i+1)=2 * 2 ^ i:=by rw[Qv];omega
 have hp3:(2:Nat) ^ (7 - i)=2 * 2 ^ (7 - (i+1)):=by
  rw[show 7 - i=(7 - (i+1))+1 by omega,Qv];omega
 have hp4:(2:Nat) ^ (7 - i)<=128:=aDB aHd (by omega:7 - i<=7);refine Tot.join (A:=λj=>j.1=x.1/\j.2.1=x.2.1/\j.2.2.1.size<=128 * (i+1)) ?_ (λj hj=> ?_)
 .refine Tot.ite (λhc=>Tot.pos y8<|Tot.ret ⟨rfl,rfl, ?_⟩) (λhc=>Tot.ret ⟨rfl,rfl,J⟩);show(x.2.2.1++x.1).size<=128 * (i+1);rw[Bf];omega
 .obtain⟨j1,j2,j3⟩:=hj;refine Tot.pos (by rw[j1];simp;omega) (Tot.ret ⟨J, ?_, ?_, ?_,j3⟩)
  .show(j.1++j.1).size<=2 ^ (i+1);rw[Bf,j1];omega
  .show 0<=w64 (Ay j.2.1 2);rw[j2,Fh h2,AU J J];omega
  .show w64 (Ay j.2.1 2)<((2 ^ (7 - (i+1)):Nat):Int);rw[j2,Fh h2,AU J J];omega
def ayG{N:Nat}{r:List Int×Int×D}(h:CH N r)(hN:N<=900000):Tot (fV (r,())) λa=>CH (N+30) a.2.1/\a.1.1.size<=1000:=by
 unfold fV;refine Tot.bind (B4 h J) λr1 h1=>Tot.ite (λ_=> ?_) (λ_=>Tot.ite (λ_=> ?_) λ_=> ?_)
 .refine Tot.bind (Qf aHd aHd aHd) λr14 h14=>Tot.bind (Qf aHd aHd aHd) λr15 h15=>Tot.bind (NZ h1.1 J aG9) λr16 h16=>Tot.ret ⟨h16.1.up J, ?_⟩;have hx:=h16.2;simp only[Bj,Zn,or_false]at hx;obtain hx|hx|hx|hx|hx:=hx<;>rw[hx]
  .decide
  .exact h14
  .exact h15
  .decide
  .decide
 .refine Tot.bind (B4 h1.1 J) λr2 h2=>Tot.sum (P:=λ_=>False) (Q:=λy=>CH (N+30) y.1/\y.2.1.length<=30) ?_ (λ_ h=>h.elim) (λy hy=>Tot.ret ⟨hy.1, ?_⟩)
  .have hv:r2.1.1<20:=h2.2.2 (show(1:Int)<=20 by decide);have hv0:=h2.2.1;have hw:w64 (1+r2.1.1)=1+r2.1.1:=AU J J;refine Tot.loop (λi x=>CH (N+2+i) x.1/\x.2.1.length<=i/\x.2.2.1=1+r2.1.1 - (i:Int)) _ (1+r2.1.1).toNat (λi x hi hx=> ?_) ⟨h2.1,Ch _,by show w64 (1+r2.1.1)=1+r2.1.1 - 0;omega⟩;obtain⟨x1,x2,x3⟩:=hx;unfold u9;refine Tot.ite (λhc=> ?_) (λhc=>Tot.ret ⟨x1.up J,by show x.2.1.length<=30;omega⟩);have hc:=BW hc;refine Tot.bind (B4 x1 J) λr3 h3=>Tot.pos (BD y8) (Tot.ret ⟨J,h3.1.up J,by simp;omega, ?_⟩);show w64 (x.2.2.1 - 1)=1+r2.1.1 - ((i+1:Nat):Int);rw[AU J J];omega
  .show(BF y.2.1).size<=1000;rw[Sx];omega
 .exact Tot.bind (NZ h1.1 J aHd) λr16 h16=>Tot.ret ⟨h16.1.up J,QX h16.2 aHd⟩
def oL{N:Nat}{r:List Int×Int×D}(h:CH N r)(hN:N<=800000):Tot (SJ (r,())) λa=>CH (N+60) a.2.1/\a.1.1.2.2.2.2.1.size<=1000:=by
 unfold SJ;refine Tot.bind (B4 h J) λr1 h1=>Tot.bind (B4 h1.1 J) λr2 h2=>Tot.bind (B4 h2.1 J) λr3 h3=>Tot.bind (B4 h3.1 J) λr4 h4=>Tot.bind (NZ h4.1 J aHd) λr5 h5=>Tot.bind (B4 h5.1 J) λr6 h6=> ?_;have hz:=QX h5.2 aHd;refine Tot.ite (λ_=> ?_) (λ_=> ?_)
 .exact Tot.bind (B4 h6.1 J) λr7 h7=>Tot.pos (Da h7.2.1<|h7.2.2<|show(1:Int)<=2 by decide)<|Tot.ret ⟨h7.1.up J,hz⟩
 refine Tot.ite (λ_=> ?_) (λ_=> ?_)
 .exact Tot.bind (B4 h6.1 J) λr7 h7=>Tot.pos (Da h7.2.1<|h7.2.2<|show(1:Int)<=3 by decide)<|Tot.ret ⟨h7.1.up J,hz⟩
 refine Tot.ite (λ_=> ?_) (λ_=> ?_)
 .exact Tot.bind (B4 h6.1 J) λr7 h7=>Tot.pos (Da h7.2.1<|h7.2.2<|show(1:Int)<=3 by decide)<|Tot.ret ⟨h7.1.up J,hz⟩
 refine Tot.ite (λ_=> ?_) (λ_=> ?_)
 .exact Tot.bind (ayG h6.1 J) λr7 h7=>Tot.ret ⟨h7.1.up J,h7.2⟩
 refine Tot.ite (λ_=> ?_) (λ_=> ?_)
 .exact Tot.bind (B4 h6.1 J) λr7 h7=>Tot.pos (Da h7.2.1<|h7.2.2<|show(1:Int)<=2 by decide) (Tot.ret ⟨h7.1.up J,hz⟩)
 .exact Tot.ret ⟨h6.1.up J,hz⟩
def ate{n:A3}(h:Aw n=Y):(wr n).size<=100:=by
 obtain⟨⟨a,b⟩,⟨c,d⟩,⟨e,f⟩,_,t,_,_,z,_⟩:=Q5 h;have t:=Em t;have h1:(BM n.fr).size<=3:=Gw a J aHd;have h2:(BM n.nu).size<=3:=Gw c J aHd;have h3:(BM n.to).size<=3:=Gw t.1 J aHd;have h4:(BM n.un).size<=3:=Gw e J aHd;unfold wr;simp only[Bf,BP,Bm,CL];omega
def arV{a b c:Int}(ha:0<=a/\a<=999)(hb:0<=b/\b<=999)(hc:0<=c/\c<=999):(((((BM a++B [32])++BM b)++B [32])++BM c)).size<=100:=by
 have h1:(BM a).size<=3:=Gw ha.1 J aHd;have h2:(BM b).size<=3:=Gw hb.1 J aHd;have h3:(BM c).size<=3:=Gw hc.1 J aHd;simp only[Bf,BP,Bm,CL];omega
def aGh{a b c:Int}(ha:0<=a/\a<=999)(hb:0<=b/\b<=999)(hc:0<=c/\c<=999):Tot (Nz (a,b,c,())) λr=>r.1.1.size<=100:=
 ⟨_,js ha hb hc,arV ha hb hc⟩
def oo{N S:Nat}{w:List UInt8}{s:A1}{r:(List Int×Int×D)×D}(hw:w.length<=10)(hs:s.size<=S)(hS:S<=100000)(hr:CH N r.1):
  Tot (if U ((B w).size+s.size<=4611686018427387904)=Y then(let v:=B w++s;I ((v,()),r)) else G) λa=>CH N a.2.1/\a.1.1.size<=S+10:=by
 have hw:(B w).size<=10:=by rw[BP];exact hw
 refine Tot.pos (AR J)<|Tot.ret ⟨hr, ?_⟩;show(B w++s).size<=S+10;rw[Bf];omega
def abQ{N:Nat}{r:List Int×Int×D}(h:CH N r)(hN:N<=700000):Tot (Ws (r,())) λa=>CH (N+80) a.2.1/\a.1.1.size<=2000:=by
 unfold Ws;refine Tot.bind (B4 h J) λr1 h1=> ?_;refine Tot.ite (λ_=> ?_) (λ_=> ?_)
 .refine Tot.bind (B4 h1.1 J) λr2 h2=> ?_;have hv:r2.1.1<30:=h2.2.2 (show(1:Int)<=30 by decide);have hv0:=h2.2.1;refine Tot.bind (Tot.eq<|FV (n:=r2.1.1) J J) λr3 h3=> ?_;subst h3;have hz:(BM r2.1.1).size<=2:=Gw hv0 J aHd;exact(oo (N:=N+2) (S:=2) aHd hz aHd<|show CH (N+2) _ from h2.1).mono λa ha=>⟨ha.1.up J,J⟩
 refine Tot.ite (λ_=> ?_) (λ_=> ?_)
 .refine Tot.bind (B4 h1.1 J) λr2 h2=>Tot.bind (B4 h2.1 J) λr3 h3=>Tot.bind (B4 h3.1 J) λr4 h4=> ?_;have u1:r2.1.1<4:=h2.2.2 (show(1:Int)<=4 by decide);have u2:r3.1.1<3:=h3.2.2 (show(1:Int)<=3 by decide);have u3:r4.1.1<30:=h4.2.2 (show(1:Int)<=30 by decide);have v1:=h2.2.1;have v2:=h3.2.1;have v3:=h4.2.1;rw[AU (n:=1+r3.1.1) J J,AU (n:=1+r4.1.1) J J];refine Tot.bind (aGh J J J) λr5 h5=> ?_;exact(oo (N:=N+4) (S:=100) aHd h5 aHd<|show CH (N+4) _ from h4.1).mono λa ha=>⟨ha.1.up J,J⟩
 refine Tot.ite (λ_=> ?_) (λ_=> ?_)
 .refine Tot.bind (B4 h1.1 J) λr2 h2=>Tot.bind (B4 h2.1 J) λr3 h3=>Tot.bind (B4 h3.1 J) λr4 h4=> ?_;have u1:r2.1.1<4:=h2.2.2 (show(1:Int)<=4 by decide);have u2:r3.1.1<3:=h3.2.2 (show(1:Int)<=3 by decide);have u3:r4.1.1<30:=h4.2.2 (show(1:Int)<=30 by decide);have v1:=h2.2.1;have v2:=h3.2.1;have v3:=h4.2.1;rw[AU (n:=1+r3.1.1) J J,AU (n:=1+r4.1.1) J J];refine Tot.bind (aGh J J J) λr5 h5=> ?_;exact(oo (N:=N+4) (S:=100) aHd h5 aHd<|show CH (N+4) _ from h4.1).mono λa ha=>⟨ha.1.up J,J⟩
 refine Tot.ite (λ_=> ?_) (λ_=> ?_)
 .refine Tot.bind (Qf aHd aHd aHd) λr14 h14=>Tot.bind (Qf aHd aHd aHd) λr15 h15=>Tot.bind (NZ h1.1 J aG9) λr16 h16=>Tot.ret ⟨h16.1.up J, ?_⟩;have hx:=h16.2;simp only[Bj,Zn,or_false]at hx;show r16.1.1.size<=2000;obtain hx|hx|hx|hx|hx|hx|hx|hx|hx|hx|hx|hx|hx|hx:=hx<;>rw[hx]
  all_goals first|decide|(exact C6 h14 aHd)|(exact C6 h15 aHd)
 .refine Tot.bind (NZ h1.1 J aHd) λr2 h2=>Tot.bind (oL h2.1 J) λr3 h3=> ?_;have hz:=QX h2.2 aHd;have hn:=h3.2;have hw:Tot (KZ r3.1) λa=>a.1.1.size<=100:=by
   obtain⟨⟨⟨fr,nu,tt,un,tx,_⟩,_⟩,q⟩:=r3;refine⟨_,Rx (show tx.size<=1048576 by have:tx.size<=1000:=hn;omega), ?_⟩;show aB (if Aw ⟨fr,nu,tt,un,tx⟩=Y then _ else _)<=100;split
   .exact ate (by assumption)
   .decide
  refine Tot.bind hw λr4 h4=>Tot.pos (AR J)<|Tot.ret ⟨h3.1.up J, ?_⟩;show(r2.1.1++r4.1.1).size<=2000;rw[Bf];omega
def oP(s:A1)(a b:Nat):(s.extract a b).size<=s.size:=by
 rw[Tx];omega
def axp{N S:Nat}{r:List Int×Int×D}{s:A1}(h:CH N r)(hN:N<=900000)(hs:s.size<=S)(hS:S<=100000):Tot (fW (r,s,())) λa=>CH (N+10) a.2.1/\a.1.1.size<=2 * S+1000:=by
 unfold fW;refine Tot.ite (λ_=>Tot.ret ⟨h.up J,show s.size<=2 * S+1000 by omega⟩) (λhc=> ?_);have hc:¬((s.size:Int)=0):=JV hc;refine Tot.bind (B4 h J) λr1 h1=>Tot.ite (λ_=>Tot.ret ⟨h1.1.up J,show s.size<=2 * S+1000 by omega⟩) (λ_=> ?_);refine Tot.bind (B4 h1.1 J) λr4 h4=>Tot.bind (B4 h4.1 J) λr5 h5=> ?_;have v0:=h4.2.1;have v1:r4.1.1<(s.size:Int):=h4.2.2 (show(1:Int)<=(s.size:Int) by omega);have hw:w64 (r4.1.1+1)=r4.1.1+1:=AU J J;have c1:(U (0<=r4.1.1)&&U (r4.1.1<=(s.size:Int)))=Y:=by simp;omega
 have c2:(U (0<=r4.1.1+1)&&U (r4.1.1+1<=(s.size:Int)))=Y:=by simp;omega
 simp only[hw];have e1:=oP s 0 r4.1.1.toNat;have e2:=oP s (r4.1.1+1).toNat s.size;have e3:=oP s r4.1.1.toNat s.size;have app:∀a b:A1,(a++b).size=a.size+b.size:=Bf;refine Tot.ite (λ_=>Tot.pos c1<|Tot.pos c2<|Tot.pos (AR J)<|Tot.ret ⟨h5.1.up J, ?_⟩) (λ_=> ?_)
 .show(s.extract 0 r4.1.1.toNat++s.extract (r4.1.1+1).toNat s.size).size<=2 * S+1000;rw[app];omega
 refine Tot.ite (λ_=>Tot.pos c1<|Tot.bind (NZ h5.1 J aHd) λr6 h6=> ?_) (λ_=> ?_)
 .have hz:=QX h6.2 aHd;refine Tot.pos (AR J) (Tot.pos c1<|Tot.pos (AR (by rw[app];omega))<|Tot.ret ⟨h6.1.up J, ?_⟩);show((s.extract 0 r4.1.1.toNat++r6.1.1)++s.extract r4.1.1.toNat s.size).size<=2 * S+1000;rw[app,app];rw[Tx,Tx]at *;omega
 refine Tot.ite (λ_=>Tot.pos c1<|Tot.bind (NZ h5.1 J aHd) λr6 h6=> ?_) (λ_=> ?_)
 .have hz:=QX h6.2 aHd;refine Tot.pos (AR J) (Tot.pos c2<|Tot.pos (AR (by rw[app];omega))<|Tot.ret ⟨h6.1.up J, ?_⟩);show((s.extract 0 r4.1.1.toNat++r6.1.1)++s.extract (r4.1.1+1).toNat s.size).size<=2 * S+1000;rw[app,app];omega
 refine Tot.ite (λ_=>Tot.pos (AR (J:s.size+s.size<=4611686018427387904))<|Tot.ret ⟨h5.1.up J, ?_⟩) (λ_=>Tot.pos c1<|Tot.ret ⟨h5.1.up J, ?_⟩)
 .show(s++s).size<=2 * S+1000;rw[app];omega
 .show(s.extract 0 r4.1.1.toNat).size<=2 * S+1000;omega
def axU{lg r:A1}{fo:Int}(h:lg.size<=2400):(IE lg fo r).1.1.size<=2400:=by
 unfold IE;split
 .split
  .rename_i h1;simp only[AE,decide_eq_true_eq]at h1;show(lg++CY r).size<=2400;rw[Bf];omega
  .exact h
 .exact Ch _
def awX{lg:A1}{fo:Int}(h:lg.size<=2400):(Iu lg fo).1.size<=2400:=by
 unfold Iu;split
 .exact h
 .exact Ch _
def ax9{N:Nat}{r:List Int×Int×D}(h:CH N r)(hN:N<=690000):Tot (eV (r,())) λa=>CH (N+2000) a.2.1/\a.1.1.1.size<=100000:=by
 unfold eV;refine Tot.bind (B4 h J) λr1 h1=> ?_;have v0:=h1.2.1;have v1:r1.1.1<9:=h1.2.2 (show(1:Int)<=9 by decide);refine Tot.sum (P:=λ_=>False) (Q:=λy=>CH (N+1000) y.1/\y.2.2.1.1.size<=2400) ?_ (λ_ h=>h.elim) (λy hy=> ?_)
 .refine Tot.loop (λi x=>CH (N+1+81 * i) x.1/\x.2.2.1.1.size<=2400/\x.2.2.2.1=r1.1.1 - (i:Int)) _ r1.1.1.toNat (λi x hi hx=> ?_) ⟨h1.1,show noB.size<=2400 by decide,by show r1.1.1=r1.1.1 - 0;omega⟩;obtain⟨x1,x2,x3⟩:=hx;unfold tD;refine Tot.ite (λhc=> ?_) (λhc=>Tot.ret ⟨x1.up J,x2⟩);have hc:=BW hc;have hw:w64 (x.2.2.2.1 - 1)=r1.1.1 - ((i+1:Nat):Int):=by
   rw[AU J J];omega
  refine Tot.bind (abQ x1 J) λr2 h2=> ?_;have ha:=tz (lg:=x.2.2.1.1) (r:=r2.1.1) (fo:=x.2.2.1.2.1) J J;refine Tot.bind (Tot.eq<|show O0 (x.2.2.1,r2.1)=_ from ha) λr3 h3=> ?_;subst h3;have hz:=axU (r:=r2.1.1) (fo:=x.2.2.1.2.1) x2;refine Tot.bind (B4 h2.1 J) λr4 h4=>Tot.ite (λ_=> ?_) (λ_=>Tot.ret ⟨J,h4.1.up J,hz,hw⟩);refine Tot.bind (Tot.eq<|dI J) λr5 h5=> ?_;subst h5;exact Tot.ret ⟨J,h4.1.up J,awX hz,hw⟩
 .obtain⟨y1,y2⟩:=hy;refine Tot.bind (B4 y1 J) λr2 h2=> ?_;refine Tot.ite (λ_=>Tot.bind (axp h2.1 J y2 aHd) λr3 h3=>Tot.ret ⟨h3.1.up J,C6 h3.2 aHd⟩) (λ_=> ?_);refine Tot.ite (λ_=> ?_) (λ_=> ?_)
  .exact Tot.bind (B4 h2.1 J) λr3 h3=>Tot.bind (B4 h3.1 J) λr4 h4=>Tot.pos (Da h4.2.1<|h4.2.2<|show(1:Int)<=3 by decide)<|Tot.ret ⟨h4.1.up J,C6 y2 aHd⟩
  refine Tot.ite (λ_=> ?_) (λ_=>Tot.ret ⟨h2.1.up J,C6 y2 aHd⟩);refine Tot.sum (P:=λ_=>False) (Q:=λy=>CH (N+2000) y.1/\y.2.2.1.1.size<=100000) ?_ (λ_ h=>h.elim) (λy hy=>Tot.ret hy);refine Tot.loop (λi x=>CH (N+1001+2 * i) x.1/\x.2.2.1.1.size<=2400+1100 * i/\x.2.2.2.1=(i:Int)) _ 40 (λi x hi hx=> ?_) ⟨h2.1,y2,rfl⟩;obtain⟨x1,x2,x3⟩:=hx;unfold tC;refine Tot.bind (B4 x1 J) λr3 h3=>Tot.ite (λhc=> ?_) (λhc=>Tot.ret ⟨h3.1.up J,by show x.2.2.1.1.size<=100000;omega⟩);have hc:=BW hc;have v0:=h3.2.1;have v1:r3.1.1<3:=h3.2.2 (show(1:Int)<=3 by decide);rw[AU J J]at hc;refine Tot.bind (B4 h3.1 J) λr4 h4=> ?_;have u0:=h4.2.1;have u1:r4.1.1<3:=h4.2.2 (show(1:Int)<=3 by decide);have hw:w64 (58+r4.1.1)=58+r4.1.1:=AU J J;refine Tot.bind (Qf aHd (by rw[hw];omega) (by rw[hw];omega)) λr5 h5=> ?_;refine Tot.bind (Tot.eq<|show Kh r5.1=_ from gk (r:=r5.1.1) J) λr6 h6=> ?_;subst h6;have hz:=QA (r:=r5.1.1) J;refine Tot.pos (AR (by show x.2.2.1.1.size+(CY r5.1.1).size<=4611686018427387904;omega))<|Tot.ret ⟨J,h4.1.up J, ?_,QY x3 J⟩;show(x.2.2.1.1++CY r5.1.1).size<=2400+1100 * (i+1);rw[Bf];omega
variable {E:List Event}
def KOk(y:Int×Bool×A1×Int×List AD×D):Prop:=∃k,y=tKp k/\F5 k/\RP k.AG
def YOk(t:Int×List A7×List Bool×List AK×List A3×List A3×D):Prop:=∃(w:AA) (ev:List Event),t=(w.ti,w.A8,w.An,w.AM,w.AX,w.got,())/\Reach ev w
def avo{N:Nat}{r:List Int×Int×D}(h:CH N r)(hN:N<=370000):Tot (dU (r,())) λa=>CH (N+320000) a.2.1/\YOk a.1.1/\KOk a.1.2.1:=by
 unfold dU;refine Tot.bind (ayR h aHd aHd J) λr1 h1=>Tot.join (A:=λj=>CH (N+312000) j.1/\WOk [] (N+312000) j.2.2.2.1.2) ?_ (λj hj=> ?_)
 .refine Tot.bind (B4 h1.1 J) λr2 h2=>Tot.ite (λ_=> ?_) (λ_=>Tot.ret ⟨h2.1.up J,h1.2.up J⟩);exact Tot.bind (TW (s:=(r2.2.1,r1.1.1.2)) ⟨h2.1,h1.2.up J⟩ aHd aHd J) λr3 h3=>Tot.ret ⟨h3.r.up J,h3.w.up J⟩
 .obtain⟨hr,hw⟩:=hj;have hy:YOk (j.2.2.2.1.2.1,j.2.2.2.1.2.2.1,j.2.2.2.1.2.2.2.1,j.2.2.2.1.2.2.2.2.1,j.2.2.2.1.2.2.2.2.2.1,j.2.2.2.1.2.2.2.2.2.2.1,()):=by
   obtain⟨w,ev,e,hw,_⟩:=hw;rw[e];exact⟨w,ev,rfl,hw.reach⟩
  refine Tot.bind (B4 hr J) λr7 h7=> ?_;have hk:=hw.has h7.2.1 (h7.2.2<|show(1:Int)<=4 by decide);have hsm:=D0 hk.1;have Um:=hw.big h7.2.1 (h7.2.2<|show(1:Int)<=4 by decide);refine Tot.pos hk.2.2 (Tot.bind (Tot.eq<|show G4 ((_,_,_,_,_,()),())=_ from Lj hsm) λr8 h8=>Tot.bind (B4 h7.1 J) λr9 h9=> ?_);have h8':∃K,r8=((tKp K,()),())/\F5 K/\RP K.AG/\K.log.size<=2400/\K.AG.length<=3:=⟨_,h8,hsm,Um.odd,(Q2 (E7 hk.1).sh).1,(E7 hk.1).hl⟩;obtain⟨K,rfl,hsm,PW,hlg,hhl⟩:=h8';refine Tot.ite (λ_=> ?_) (λ_=> ?_)
  .exact Tot.bind (B4 h9.1 J) λr10 h10=>Tot.pos (Da h10.2.1<|h10.2.2<|show(1:Int)<=3 by decide)<|Tot.ret ⟨h10.1.up J,hy,⟨_,K.up,K.log,K.fo,K.AG⟩,rfl,hsm,PW⟩
  refine Tot.ite (λ_=> ?_) (λ_=> ?_)
  .exact Tot.bind (ax9 h9.1 J) λr10 h10=>Tot.ret ⟨h10.1.up J,hy,⟨K.id,K.up,_,_,K.AG⟩,rfl,⟨C6 h10.2 aHd,hsm.2⟩,PW⟩
  refine Tot.ite (λ_=> ?_) (λ_=> ?_)
  .exact Tot.bind (B4 h9.1 J) λr10 h10=>Tot.pos (Da h10.2.1<|h10.2.2<|show(1:Int)<=4 by decide)<|Tot.ret ⟨h10.1.up J,hy,⟨K.id,K.up,K.log,_,K.AG⟩,rfl,hsm,PW⟩
  refine Tot.ite (λ_=> ?_) (λ_=> ?_)
  .refine Tot.bind (B4 h9.1 J) λr10 h10=>Tot.bind (B4 h10.1 J) λr11 h11=>Tot.bind (B4 h11.1 J) λr12 h12=>Tot.bind (B4 h12.1 J) λr13 h13=>Tot.bind (B4 h13.1 J) λr14 h14=> ?_;refine Tot.pos (BD (by show K.AG.length+1<=4294967296;have:=hsm.2.1;omega)) (Tot.ret ⟨h14.1.up J,hy,⟨K.id,K.up,K.log,K.fo,K.AG++[⟨r10.1.1,w64<|1+r11.1.1,r12.1.1,9,r13.1.1,[⟨r14.1.1,B [97,98,99,100]⟩]⟩]⟩,rfl,⟨hsm.1, ?_,OR hsm.2.2 ?_⟩, ?_⟩)
   .show(K.AG++[_]).length<=1048576;simp;omega
   .refine⟨DL rfl,λm hm=> ?_⟩;rw[C1.1 hm];show(B [97,98,99,100]).size<=1048576;decide
   .exact OR PW<|.inr ⟨_,rfl⟩
  refine Tot.ite (λ_=> ?_) (λ_=> ?_)
  .exact Tot.ret ⟨h9.1.up J,hy,⟨K.id,!K.up,K.log,K.fo,K.AG⟩,rfl,hsm,PW⟩
  refine Tot.ite (λ_=> ?_) (λ_=> ?_)
  .refine Tot.bind (abQ h9.1 J) λr10 h10=> ?_;refine Tot.bind (Tot.eq<|show Kh r10.1=_ from gk (r:=r10.1.1) J) λr11 h11=> ?_;subst h11;have hz:=QA (r:=r10.1.1) J;refine Tot.pos (AR (by show K.log.size+(CY r10.1.1).size<=4611686018427387904;omega))<|Tot.ret ⟨h10.1.up J,hy,⟨K.id,K.up,K.log++CY r10.1.1,K.fo,K.AG⟩,rfl,⟨?_,hsm.2⟩,PW⟩;show(K.log++CY r10.1.1).size<=1048576;rw[Bf];omega
  .exact Tot.ret ⟨h9.1.up J,hy,K,rfl,hsm,PW⟩
end Go.VS
namespace Go.VS
open Go
def aCi{α:Type}{l:List α}{P:α->Prop}{i:Nat}{a:α}(h:∀x∈l,P x)(ha:P a):∀x∈l.set i a,P x:=by
 intro x hx;obtain h1|h1:=ML hx
 .exact h x h1
 .exact h1▸ha
def ax3{N:Nat}{r:List Int×Int×D}{w:AA}(h:CH N r)(hN:N<=360000)(hw:B8 w)(ho:∀k∈w.A8,RP k.AG):Tot (eU (r,tR w,())) λa=>WY a.1.1:=by
 have sm:=hw.sm;have kl:=hw.kl;have ll:=hw.ll;have rl:=hw.rl;have sl:=hw.sl;have gl:=hw.gl;unfold eU;refine Tot.bind (Tot.eq<|show Kn ((r,tR w,()).2)=_ from WV sm) λr1 h1=> ?_;subst h1;refine Tot.bind (B4 (x:=(r,8,())) h J) λr17 h17=>Tot.ite (λ_=> ?_) (λ_=> ?_)
 .refine Tot.bind (B4 h17.1 J) λr18 h18=>Tot.bind (avo h18.1 J) λr19 h19=> ?_;obtain⟨K,eK,smK,amL⟩:=h19.2.2;refine Tot.pos (Da h18.2.1<|h18.2.2<|show(1:Int)<=(w.A8.length:Int) by omega) (Tot.ret ⟨⟨w.ti,w.A8.set r18.1.1.toNat K,w.An,w.AM,w.AX,w.got⟩, ?_, ?_, ?_⟩)
  .rw[eK]
  .exact⟨by rw[G2];exact sm.kl,aCi sm.k smK,sm.l,sm.rl,sm.r,sm.sl,sm.s,sm.gl,sm.g⟩
  .exact aCi ho amL
 refine Tot.ite (λ_=> ?_) (λ_=> ?_)
 .exact Tot.bind (B4 h17.1 J) λr20 h20=>Tot.pos (Da h20.2.1<|h20.2.2<|show(1:Int)<=4 by decide)<|Tot.ret ⟨⟨_,w.A8,w.An,w.AM,w.AX,w.got⟩,rfl,⟨sm.kl,sm.k,sm.l,sm.rl,sm.r,sm.sl,sm.s,sm.gl,sm.g⟩,ho⟩
 refine Tot.ite (λ_=> ?_) (λ_=> ?_)
 .refine Tot.pos (by
   show(U ((0:Int)<=1)&&U ((1:Int)<=(w.A8.length:Int)))=Y;rw[AE];exact⟨AR J,AR J⟩) (Tot.ret ⟨⟨w.ti,w.A8.drop 1,w.An,w.AM,w.AX,w.got⟩,rfl,⟨?_,λx hx=>sm.k x<|Iz hx,sm.l,sm.rl,sm.r,sm.sl,sm.s,sm.gl,sm.g⟩,λx hx=>ho x<|Iz hx⟩)
  rw[E4];omega
 refine Tot.ite (λ_=> ?_) (λ_=> ?_)
 .refine Tot.pos (BD (by show w.An.length+1<=4294967296;omega))<|Tot.ret ⟨⟨w.ti,w.A8,w.An++[Y],w.AM,w.AX,w.got⟩,rfl,⟨sm.kl,sm.k, ?_,sm.rl,sm.r,sm.sl,sm.s,sm.gl,sm.g⟩,ho⟩;rw[Am];show w.An.length+1<=1048576;omega
 refine Tot.ite (λ_=> ?_) (λ_=> ?_)
 .refine Tot.bind (B4 h17.1 J) λr23 h23=>Tot.bind (B4 h23.1 J) λr24 h24=>Tot.bind (B4 h24.1 J) λr25 h25=> ?_;have i1:r25.1.1<3:=h25.2.2 (show(1:Int)<=3 by decide);refine Tot.pos (Da h25.2.1 i1) ?_;have hv:0<= @rd Int aHb [0,40,41] r25.1.1/\ @rd Int aHb [0,40,41] r25.1.1<128:=by
   have i0:=h25.2.1;have:r25.1.1=0\/r25.1.1=1\/r25.1.1=2:=J
   obtain e|e|e:=this<;>rw[e]<;>exact⟨by decide,by decide⟩
  refine Tot.bind (Qf (s:=B [120]) aHd hv.1 hv.2) λr26 h26=> ?_;refine Tot.pos (BD (by show w.AM.length+1<=4294967296;omega)) (Tot.ret ⟨⟨w.ti,w.A8,w.An,w.AM++[_],w.AX,w.got⟩,rfl,⟨sm.kl,sm.k,sm.l, ?_,OR sm.r ?_,sm.sl,sm.s,sm.gl,sm.g⟩,ho⟩)
  .rw[Am];show w.AM.length+1<=1048576;omega
  .show r26.1.1.size<=1048576;omega
 refine Tot.ite (λ_=> ?_) (λ_=> ?_)
 .refine Tot.bind (oL h17.1 J) λr27 h27=>Tot.pos (BD (by show w.AX.length+1<=4294967296;omega)) (Tot.ret ⟨⟨w.ti,w.A8,w.An,w.AM,w.AX++[_],w.got⟩,rfl,⟨sm.kl,sm.k,sm.l,sm.rl,sm.r, ?_,OR sm.s ?_,sm.gl,sm.g⟩,ho⟩)
  .rw[Am];show w.AX.length+1<=1048576;omega
  .show r27.1.1.2.2.2.2.1.size<=1048576;have:=h27.2;omega
 refine Tot.ite (λ_=> ?_) (λ_=> ?_)
 .refine Tot.bind (oL h17.1 J) λr27 h27=>Tot.pos (BD (by show w.got.length+1<=4294967296;omega)) (Tot.ret ⟨⟨w.ti,w.A8,w.An,w.AM,w.AX,w.got++[_]⟩,rfl,⟨sm.kl,sm.k,sm.l,sm.rl,sm.r,sm.sl,sm.s, ?_,OR sm.g ?_⟩,ho⟩)
  .rw[Am];show w.got.length+1<=1048576;omega
  .show r27.1.1.2.2.2.2.1.size<=1048576;have:=h27.2;omega
 .refine Tot.sum (P:=λ_=>False) (Q:=λy=>WY y.2.1) ?_ (λ_ h=>h.elim) (λy hy=>Tot.ret hy);refine Tot.loop (λi x=>CH (N+1+i) x.1/\ ∃l:List AK,x.2.1=(w.ti,w.A8,w.An,l,w.AX,w.got,())/\(∀p∈l,lb p)/\l.length<=40/\(i:Int)<=l.length) _ 42 (λi x hi hx=> ?_) ⟨h17.1,w.AM,rfl,sm.r,J,J⟩;obtain⟨x1,l,x2,x3,x4,x5⟩:=hx;unfold tB;refine Tot.bind (B4 x1 J) λr32 h32=> ?_;have v0:=h32.2.1;have v1:=h32.2.2 (show(1:Int)<=2 by decide);have v1':r32.1.1<2:=v1;have hwy:WY x.2.1:=by
   rw[x2];exact⟨⟨w.ti,w.A8,w.An,l,w.AX,w.got⟩,rfl,⟨sm.kl,sm.k,sm.l,by show l.length<=1048576;omega,x3,sm.sl,sm.s,sm.gl,sm.g⟩,ho⟩
  rw[x2];refine Tot.ite (λhc=> ?_) (λ_=>Tot.ret hwy);have hc:=BW hc;have hc:(j8 l:Int)<w64 (30+r32.1.1):=hc;rw[AU J J]at hc;refine Tot.pos (BD (by show l.length+1<=4294967296;omega)) (Tot.ret ⟨J,h32.1,l++[_],rfl,OR x3 (by show noB.size<=1048576;decide), ?_, ?_⟩)
  .rw[Am];show l.length+1<=40;omega
  .rw[Am];show((i+1:Nat):Int)<=((l.length+1:Nat):Int);omega
def aqq{l:List AD}{i:Nat}(hi:i<l.length)(hl:(hA l i).got.length<=1048576):rA (l,l,(i:Int),0,())=I (.inr (l,l,(i:Int),())):=
 CX (b:=Ve) (λk=>(l,l,(i:Int),(k:Int),())) (hA l i).got.length (λk hk=>by
  unfold Ve;simp only[AY hi,MH,AY hk,A2,AW,EY,AB,A4,BA hk (by omega:(hA l i).got.length<=9223372036854775807)];rw[A5<|by simpa using hk]) (by
  unfold Ve;simp only[AY hi,MH,A2];rw[A9 aG9])
def ap9{l:List AD}(hl:l.length<=1048576)(hs:∀h∈l,Oh h):Po (l,l,())=I ((Y,()),()):=by
 have h0:rB (l,l,0,())=I (.inr ()):=
  CX (b:=Vf) (λk=>(l,l,(k:Int),())) l.length (λk hk=>by
   have hg:(hA l k).got.length<=1048576:=by rw[Hc hk];exact(hs _<|Ci hk).1
   unfold Vf;simp only[AY hk,MH,BK hk,A2,AW,AB,A4,aqq hk hg,CU,BA hk (by omega:l.length<=9223372036854775807)]) (by
   unfold Vf;rw[A9 aG9])
 unfold Po;simp only[AW,AB,A4,h0,CU]
def ap8{k:A7}(sm:F5 k):ee (tKp k,tKp k,())=I ((Y,()),()):=by
 unfold ee;simp only[AW,A2,ap9 sm.2.1 sm.2.2];rfl
def Wy{w:AA}(sm:SmR w):Pu (tR w,tR w,())=I ((Y,()),()):=by
 obtain⟨ti,ks,ls,ra,se,go⟩:=w;have k1:ks.length<=1048576:=sm.kl;have k2:ls.length<=1048576:=sm.l;have k3:ra.length<=1048576:=sm.rl;have h0:rQ (tR ⟨ti,ks,ls,ra,se,go⟩,tR ⟨ti,ks,ls,ra,se,go⟩,0,())=I (.inr (tR ⟨ti,ks,ls,ra,se,go⟩,tR ⟨ti,ks,ls,ra,se,go⟩,())):=
  CX (b:=WD) (λk=>(tR ⟨ti,ks,ls,ra,se,go⟩,tR ⟨ti,ks,ls,ra,se,go⟩,(k:Int),())) ks.length (λk hk=>by
   unfold WD;have hc:=ap8<|MF sm.k k;simp only[AY hk,BK hk,A2,N2,hc,A6,AB,A4,BA hk (by omega:ks.length<=9223372036854775807)]) (by
   unfold WD;simp only[Gy,A4])
 have h1:rP (tR ⟨ti,ks,ls,ra,se,go⟩,tR ⟨ti,ks,ls,ra,se,go⟩,0,())=I (.inr (tR ⟨ti,ks,ls,ra,se,go⟩,tR ⟨ti,ks,ls,ra,se,go⟩,())):=
  CX (b:=WC) (λk=>(tR ⟨ti,ks,ls,ra,se,go⟩,tR ⟨ti,ks,ls,ra,se,go⟩,(k:Int),())) ls.length (λk hk=>by
   unfold WC;simp only[AY hk,BK hk,A2,AW,AB,A4,BA hk (by omega:ls.length<=9223372036854775807)]) (by
   unfold WC;simp only[Gy,A4])
 have h2:sB (tR ⟨ti,ks,ls,ra,se,go⟩,tR ⟨ti,ks,ls,ra,se,go⟩,0,())=I (.inr ()):=
  CX (b:=WB) (λk=>(tR ⟨ti,ks,ls,ra,se,go⟩,tR ⟨ti,ks,ls,ra,se,go⟩,(k:Int),())) ra.length (λk hk=>by
   unfold WB;simp only[AY hk,BK hk,A2,AW,EY,AB,A4,BA hk (by omega:ra.length<=9223372036854775807)]) (by
   unfold WB;simp only[Gy,A4])
 unfold Pu;rw[show Hw ((tR ⟨ti,ks,ls,ra,se,go⟩,tR ⟨ti,ks,ls,ra,se,go⟩,()).1.2.2.2.2.2.1,(tR ⟨ti,ks,ls,ra,se,go⟩,tR ⟨ti,ks,ls,ra,se,go⟩,()).2.1.2.2.2.2.2)=_ from XM sm.gl];simp only[AW,AB,A4,XM sm.sl,A6,h0,h1,h2,CU]
end Go.VS
end
end
section
set_option linter.all false
noncomputable section
namespace Go.VS
open Go
def lX{w:AA}(ht:¬w.ti<79999):∀k,D1 k w=w
 | 0=>rfl
 | k+1=>by
  show(if w.ti<79999 then D1 k (Eu w) else w)=w;rw[A9 ht]
def aEk:∀(m n:Nat) (w:AA),D1 (m+n) w=D1 n (D1 m w)
 | 0,n,w=>by
  rw[DM];rfl
 | m+1,n,w=>by
  by_cases ht:w.ti<79999
  .rw[show m+1+n=(m+n)+1 by omega,So ht,So ht];exact aEk m n (Eu w)
  .rw[lX ht,lX ht,lX ht]
def aq1{w:AA}(sm:SmR w)(h:As w=A0)(r:Int):IU (tR w,r,())=I ((tR zR,()),()):=by
 unfold IU;rw[show Mp (tR w,())=_ from WQ sm];simp only[A6,show FW w.ti w.A8 w.An w.AM w.AX w.got=A0 from h,AH,A2]
def apM{w:AA}(sm:SmR w)(h:As w=A0)(r:Int):Lh (tR w,r,())=I ((tR zR,()),()):=by
 unfold Lh;rw[show Ms (tR w,())=_ from Pt sm];simp only[A6,show FW w.ti w.A8 w.An w.AM w.AX w.got=A0 from h,AH,A2]
def aq0{w:AA}(h:As w=Y):IU (tR w,-1,())=I ((tR w,()),()):=by
 have sm:=(FY h).1.sm;have g:Pc (-1,tR zR,tR w,0,())=I (.inr (tR zR,tR w,())):=BC (by unfold Rv;rfl);unfold IU;rw[show Mp (tR w,())=_ from WQ sm];simp only[A6,show FW w.ti w.A8 w.An w.AM w.AX w.got=Y from h,AB,A4];rw[show Jn (tR w,())=_ from Ry sm];simp only[A6];rw[show Pc _=_ from g];rfl
def apL{w:AA}(h:As w=Y):Lh (tR w,-1,())=I ((tR w,()),()):=by
 have sm:=(FY h).1.sm;have g:Pb (-1,tR zR,tR w,0,())=I (.inr (tR zR,tR w,())):=BC (by unfold Rq;rfl);unfold Lh;rw[show Ms (tR w,())=_ from Pt sm];simp only[A6,show FW w.ti w.A8 w.An w.AM w.AX w.got=Y from h,AB,A4];rw[show Kn (tR w,())=_ from WV sm];simp only[A6];rw[show Pb _=_ from g];simp only[CU];rw[show Kn _=_ from WV sm];rfl
def as6{l:List Int}(hb:BOk l):∃(w:AA) (r:Int),Uz (l,())=I ((tR w,r,()),())/\SmR w/\(r= -1\/ ∃n:Nat,n<=2/\r=(n:Int)):=by
 have key:Tot (Uz (l,())) λa=>WY a.1.1/\(a.1.2.1= -1\/ ∃n:Nat,n<=2/\a.1.2.1=(n:Int)):=by
  unfold Uz;refine Tot.bind (aaf hb) λr1 h1=>Tot.bind (oI (M:=14) h1 aHd aHd aHd) λr2 h2=>Tot.bind (B4 h2.1 J) λr5 h5=>Tot.ite (λ_=> ?_) (λ_=> ?_)
  .obtain⟨w,ew,hwk,ho⟩:=h2.2.g;refine Tot.bind (P:=λa=>WY a.1.1) ?_ λr6 h6=>Tot.ret ⟨h6,.inr ⟨1,by decide,rfl⟩⟩;rw[ew];exact ax3 h5.1 J hwk ho
  .refine Tot.bind (B4 h5.1 J) λr7 h7=> ?_;have i0:=h7.2.1;have i1:r7.1.1<5:=h7.2.2 (show(1:Int)<=5 by decide);refine Tot.pos (Da i0 i1)<|Tot.ret ⟨h2.2.g.y, ?_⟩;show @rd Int aHb [1,2,0,(-1),1] r7.1.1= -1\/ ∃n:Nat,n<=2/\ @rd Int aHb [1,2,0,(-1),1] r7.1.1=(n:Int);have:r7.1.1=0\/r7.1.1=1\/r7.1.1=2\/r7.1.1=3\/r7.1.1=4:=J
   obtain e|e|e|e|e:=this<;>rw[e]
   .exact .inr ⟨1,by decide,rfl⟩
   .exact .inr ⟨2,by decide,rfl⟩
   .exact .inr ⟨0,by decide,rfl⟩
   .exact .inl rfl
   .exact .inr ⟨1,by decide,rfl⟩
 obtain⟨⟨⟨y,r,_⟩,_⟩,e1,⟨w,e2,h1,_⟩,h3⟩:=key;simp only at e2;subst e2;exact⟨w,r,e1,h1,h3⟩
def axt:SmR zR:=⟨by decide,λ_ h=>(by cases h),by decide,by decide,λ_ h=>(by cases h),by decide,λ_ h=>(by cases h),by decide,λ_ h=>(by cases h)⟩
def ato{l:List Int}(hb:BOk l):VL (l,())=I ((Y,()),()):=by
 obtain⟨w,r,hd,sm,hr⟩:=as6 hb;unfold VL;apply Tot.val;refine Tot.ite (λ_=>Tot.ret rfl) (λ_=>Tot.bind (Tot.eq hd) λr1 h1=> ?_);subst h1;rcases(tf<|As w).symm with c|c
 .refine Tot.bind (Tot.eq<|apM sm c r) λr2 h2=>Tot.bind (Tot.eq<|Pt sm) λr3 h3=>Tot.bind (Tot.eq<|aq1 sm c r) λr4 h4=> ?_;subst h2 h3 h4;refine Tot.bind (Tot.eq<|Wy axt) λr6 h6=> ?_;subst h6;exact Tot.neg rfl (Tot.pos (by rw[show FW w.ti w.A8 w.An w.AM w.AX w.got=A0 from c];rfl)<|Tot.ret rfl)
 .have ok:FW w.ti w.A8 w.An w.AM w.AX w.got=Y:=c;obtain rfl|⟨n,hn,rfl⟩:=hr
  .refine Tot.bind (Tot.eq<|apL c) λr2 h2=>Tot.bind (Tot.eq<|Pt sm) λr3 h3=>Tot.bind (Tot.eq<|aq0 c) λr4 h4=> ?_;subst h2 h3 h4;refine Tot.bind (Tot.eq<|Wy sm) λr6 h6=> ?_;subst h6;refine Tot.neg rfl (Tot.neg (by rw[ok];rfl)<|Tot.pos rfl (Tot.bind (Tot.eq<|Wy sm) λr10 h10=> ?_));subst h10;exact Tot.ret rfl
  .have c1:=lW c n;have sx:=(FY c1).1.sm;refine Tot.bind (Tot.eq<|xG c (r:=n) J) λr2 h2=>Tot.bind (Tot.eq<|Pt sm) λr3 h3=>Tot.bind (Tot.eq<|df c (r:=n) J) λr4 h4=> ?_;subst h2 h3 h4;refine Tot.bind (Tot.eq<|Wy sx) λr6 h6=> ?_;subst h6;refine Tot.neg rfl (Tot.neg (by rw[ok];rfl)<|Tot.neg (BH (by show ¬(n:Int)<0;omega))<|Tot.bind (Tot.eq<|WQ sx) λr15 h15=> ?_);subst h15;refine Tot.pos (show FW _ _ _ _ _ _=Y from c1) (Tot.bind (Tot.eq<|show IU (tR<|D1 n w,1,())=_ from df c1 (r:=1) J) λr16 h16=> ?_);subst h16;have e17:IU (tR w,w64<|(n:Int)+1,())=I ((tR<|D1 (n+1) w,()),()):=by
    rw[AU J J];exact df c (r:=n+1) J
   refine Tot.bind (Tot.eq e17) λr17 h17=> ?_;subst h17;have e18:Pu (tR<|D1 1<|D1 n w,(tR<|D1 (n+1) w,()))=I ((Y,()),()):=by
    rw[aEk n 1 w];exact Wy (FY<|lW c1 1).1.sm
   refine Tot.bind (Tot.eq e18) λr18 h18=> ?_;subst h18;exact Tot.ret rfl
end Go.VS
end
end
