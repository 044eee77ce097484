/- Part 11. -/
import Derived.Test.YtnbfoldcjgdomaaGreatDoorQAU
set_option linter.all false
open Bool renaming and_eq_true->AD,false->A0,not_true->AB,true->Y
open Decidable renaming decide->U
open List renaming length->j8,mem_singleton->C9
open Option renaming bind_some->A6,none->G,some->I
noncomputable section
namespace Go.VS
open Go Go.Proofs Tryz
set_option maxRecDepth 100000
abbrev Z36:Sh:= .box 30 [j6,.fz .AP,.fz .bool,.row 52 .Af,.fz .note,.fz .note]
abbrev Z37:Sh:= .box 30 [j6,.sl .AP,.sl .bool,.row 52 .Af,.sl .note,.sl .note]
abbrev Z38:Sh:= .box 30 [j6,.sl .AP,.sl .bool,.fz .Af,.sl .note,.sl .note]
def akI:Cx:=cX [Wf,Wg] [] []
def aoU:y9 akI:=aIe<|gC dO<|gC dV<|AI
def Q4(x:Y2×Y6×D):Option ((Y2×Bool×D)×D):=(Ml (x.1,())).bind λa=>if !a.1.1 then I (((0,([]:List A7),([]:List Bool),([]:List AK),([]:List A3),([]:List A3),()),A0,()),()) else(I1 x).bind λb=>I (b.1,())
def jJ:Ent:=(12,G,⟨[Z30,Z13],[Z3,.bool],Q4⟩)
def wO:y7 jJ:=sk (v:= .nil) (fn:=f12) aoU kN
def apK:Cx:=cX [] [] []
def aCr:y9 apK:=aIe<|AI
def jX(x:List A3×Y4×v7):Rnd (List A3×Y4×v7) (Bool×D) D:=if U (x.2.2.1<(j8 x.1:Int)) then if inb x.2.2.1 x.1.length then if MU ((rd y5 x.1 x.2.2.1).fr) ((rd y5 x.1 x.2.2.1).nu) ((rd y5 x.1 x.2.2.1).to) ((rd y5 x.1 x.2.2.1).un) ((rd y5 x.1 x.2.2.1).tx) x.2.1.1 x.2.1.2.1 x.2.1.2.2.1 x.2.1.2.2.2.1 x.2.1.2.2.2.2.1 then I (.inr<|.inl (Y,())) else I (.inl (x.1,x.2.1,(w64<|x.2.2.1+1),())) else G else I (.inr<|.inr ())
def yq:=AT jX
def aAv:Loop:=⟨[(0,.sl .note),(3,Z5),(5,j6)],[],0,[(4,.bool)],yq⟩
def api:LF f16 [] [1,0,1,0,0] aAv:=sq (v:= .nil) aCr (b:=jX) kN
def XU(x:List A3×Y4×D):Option ((Bool×D)×D):=(AN (yq (x.1,x.2.1,0,())) (λa=>I (a,())) λa=>I ((A0,()),()))
def aCa:Ent:=(16,G,⟨[.fz .note,Z6],[.bool],XU⟩)
def ahl:y7 aCa:=sk (v:=t1<|.two (t1<|.one<|.loop aAv) .nil) (fn:=f16) aCr<|kC api kN
def aeI:Cx:=cX [cN,fH,fM,gy,fN,jJ,Ka,aCa,fL] [] [(112,124)]
def Pg:y9 aeI:=aIe<|gC rI<|gC rq<|gC sC<|gC sr<|gC sE<|gC wO<|gC LW<|gC ahl<|gC s8<|AI
def ch(x:Y2×Y2×Int×Y3×Y3×aIf):Rnd (Y2×Y2×Int×Y3×Y3×aIf) (Bool×D) (Y2×Y2×Int×Y3×Y3×v7):=if U (x.2.2.2.2.2.2.1<(j8 x.2.2.2.2.1.2.2.2.1:Int)) then if inb x.2.2.2.2.2.2.1 x.2.2.2.2.1.2.2.2.1.length then if inb x.2.2.2.2.2.1 x.2.2.2.1.2.2.2.2.1.length then if Ag (U<|(rd y5 x.2.2.2.2.1.2.2.2.1 x.2.2.2.2.2.2.1).fr=(rd aIo x.2.2.2.1.2.2.2.2.1 x.2.2.2.2.2.1).mf) (inb x.2.2.2.2.2.2.1 x.2.2.2.2.1.2.2.2.1.length) then if Ag (U<|(rd y5 x.2.2.2.2.1.2.2.2.1 x.2.2.2.2.2.2.1).fr=(rd aIo x.2.2.2.1.2.2.2.2.1 x.2.2.2.2.2.1).mf) (inb x.2.2.2.2.2.1 x.2.2.2.1.2.2.2.2.1.length) then if(U<|(rd y5 x.2.2.2.2.1.2.2.2.1 x.2.2.2.2.2.2.1).fr=(rd aIo x.2.2.2.1.2.2.2.2.1 x.2.2.2.2.2.1).mf)&&(U<|(rd y5 x.2.2.2.2.1.2.2.2.1 x.2.2.2.2.2.2.1).nu=(rd aIo x.2.2.2.1.2.2.2.2.1 x.2.2.2.2.2.1).mn) then I (.inr<|.inl (A0,())) else let V3:=(w64<|x.2.2.2.2.2.2.1+1);I (.inl (x.1,x.2.1,x.2.2.1,x.2.2.2.1,x.2.2.2.2.1,x.2.2.2.2.2.1,V3,())) else G else G else G else G else I (.inr<|.inr (x.1,x.2.1,x.2.2.1,x.2.2.2.1,x.2.2.2.2.1,x.2.2.2.2.2.1,()))
def cG:=AT ch
def acm:Loop:=⟨[(6,Z29),(7,Z29),(10,j6),(11,Z9),(12,Z9),(13,j6),(14,j6)],[(6,Z29),(7,Z29),(10,j6),(11,Z9),(12,Z9),(13,j6)],8,[(2,.bool)],cG⟩
def aeB:LF f4 [] [1,1,1,1,1,1,1,1,1,0,1,0,0,1,0,0,1,1,0,1,0,0,1,0,0,1,0,0] acm:=sq (v:= .nil) Pg (b:=ch) kN
def cj(x:Y2×Y2×Int×Y3×Y3×v7):Rnd (Y2×Y2×Int×Y3×Y3×v7) (Bool×D) (Y2×Y2×Int×Y3×Y3×D):=if U (x.2.2.2.2.2.1<(j8 x.2.2.2.1.2.2.2.2.1:Int)) then(AN (cG (x.1,x.2.1,x.2.2.1,x.2.2.2.1,x.2.2.2.2.1,x.2.2.2.2.2.1,0,())) (λNl=>I<|.inr<|.inl Nl) (λNl=>let a:=(w64<|Nl.2.2.2.2.2.1+1);I (.inl (Nl.1,Nl.2.1,Nl.2.2.1,Nl.2.2.2.1,Nl.2.2.2.2.1,a,())))) else I (.inr<|.inr (x.1,x.2.1,x.2.2.1,x.2.2.2.1,x.2.2.2.2.1,()))
def cE:=AT cj
def acn:Loop:=⟨[(6,Z29),(7,Z29),(10,j6),(11,Z9),(12,Z9),(13,j6)],[(6,Z29),(7,Z29),(10,j6),(11,Z9),(12,Z9)],6,[(2,.bool)],cE⟩
def aeU:LF f4 [] [1,1,1,1,1,1,1,1,1,0,1,0,0,1,0,0,1,1,0,1,0,0] acn:=sq (v:=t1<|.two (.one<|t1<|.one<|.loop acm) .nil) Pg (b:=cj)<|kC aeB kN
def cg(x:Y2×Y2×Int×Y3×Y3×v7):Rnd (Y2×Y2×Int×Y3×Y3×v7) (Bool×D) (Y2×Y2×v7):=if U (x.2.2.2.2.2.1<(j8 x.2.2.2.1.2.2.2.2.2.1:Int)) then if inb x.2.2.2.2.2.1 x.2.2.2.1.2.2.2.2.2.1.length then(XU (x.2.2.2.2.1.2.2.2.2.2.1,((rd y5 x.2.2.2.1.2.2.2.2.2.1 x.2.2.2.2.2.1).fr,(rd y5 x.2.2.2.1.2.2.2.2.2.1 x.2.2.2.2.2.1).nu,(rd y5 x.2.2.2.1.2.2.2.2.2.1 x.2.2.2.2.2.1).to,(rd y5 x.2.2.2.1.2.2.2.2.2.1 x.2.2.2.2.2.1).un,(rd y5 x.2.2.2.1.2.2.2.2.2.1 x.2.2.2.2.2.1).tx,()),())).bind λaln=>if !aln.1.1 then I (.inr<|.inl (A0,())) else let a:=(w64<|x.2.2.2.2.2.1+1);I (.inl (x.1,x.2.1,x.2.2.1,x.2.2.2.1,x.2.2.2.2.1,a,())) else G else I (.inr<|.inr (x.1,x.2.1,x.2.2.1,()))
def cF:=AT cg
def ack:Loop:=⟨[(6,Z29),(7,Z29),(10,j6),(11,Z9),(12,Z9),(15,j6)],[(6,Z29),(7,Z29),(10,j6)],10,[(2,.bool)],cF⟩
def aeA:LF f4 [] [1,1,1,1,1,1,1,1,1,0,1,0,0,1,0,0,1,1,1,1,0,0] ack:=sq (v:= .nil) Pg (b:=cg) kN
def VJ(x:Y2×Y2×Y2×aIf):Rnd (Y2×Y2×Y2×aIf) D (Y2×Y2×Y2×v7):=if U (x.2.2.2.2.1<3) then(Q4 (x.2.2.1,(4,0,0,0,0,0,0,0,0,noB,()),())).bind λa=>I (.inl (x.1,x.2.1,a.1.1,x.2.2.2.1,(w64<|x.2.2.2.2.1+1),())) else I (.inr<|.inr (x.1,x.2.1,x.2.2.1,x.2.2.2.1,()))
def rN:=AT VJ
def acp:Loop:=⟨[(5,Z29),(6,Z29),(7,Z36),(8,j6),(9,j6)],[(5,Z29),(6,Z29),(7,Z37),(8,j6)],2,[],rN⟩
def aeY:LF f4 [] [1,1,1,1,1,1,1,1,0,1,0,0,1,0,0,1,1,1,0,0] acp:=sq (v:= .nil) Pg (b:=VJ) kN
def VI(x:Y2×Y2×v7):Rnd (Y2×Y2×v7) (Bool×D) (Y2×D):=if U (x.2.2.1<(j8 x.1.2.1:Int)) then if inb x.2.2.1 x.1.2.1.length then(Gw (((rd aIh x.1.2.1 x.2.2.1).id,(rd aIh x.1.2.1 x.2.2.1).up,(rd aIh x.1.2.1 x.2.2.1).log,(rd aIh x.1.2.1 x.2.2.1).fo,(rd aIh x.1.2.1 x.2.2.1).AJ,()),())).bind λalv=>if inb x.2.2.1 x.2.1.2.1.length then(Gw (((rd aIh x.2.1.2.1 x.2.2.1).id,(rd aIh x.2.1.2.1 x.2.2.1).up,(rd aIh x.2.1.2.1 x.2.2.1).log,(rd aIh x.2.1.2.1 x.2.2.1).fo,(rd aIh x.2.1.2.1 x.2.2.1).AJ,()),())).bind λalu=>(AN (cE (x.1,x.2.1,x.2.2.1,alv.1.1,alu.1.1,0,())) (λLQ=>I<|.inr<|.inl LQ) λLQ=>(AN (cF (LQ.1,LQ.2.1,LQ.2.2.1,LQ.2.2.2.1,LQ.2.2.2.2.1,0,())) (λV0=>I<|.inr<|.inl V0) λV0=>I<|.inl (V0.1,V0.2.1,(w64<|V0.2.2.1+1),()))) else G else G else I (.inr<|.inr (x.2.1,()))
def rM:=AT VI
def aco:Loop:=⟨[(6,Z29),(7,Z29),(10,j6)],[(7,Z29)],4,[(2,.bool)],rM⟩
def aeW:LF f4 [] [1,1,1,1,1,1,1,1,1,0,1,0,0] aco:=sq (v:=t1<|.two (.one<|t1<|t1<|.two (t1<|.one<|.loop acn)<|t1<|.one<|.loop ack) .nil) Pg (b:=VI)<|kC aeU<|kC aeA kN
def sO(x:Y2×Y2×Y2×v7):Rnd (Y2×Y2×Y2×v7) (Bool×D) (Y2×Y2×D):=if U (x.2.2.2.1<(j8 x.1.2.2.2.1:Int)) then if Ab (([]:List AK).length+x.2.2.1.2.2.2.1.length) then if inb x.2.2.2.1 x.1.2.2.2.1.length then if Ab ((([]:List AK)++x.2.2.1.2.2.2.1).length+([(rd aIl x.1.2.2.2.1 x.2.2.2.1)]:List AK).length) then if U (30<(((([]:List AK)++x.2.2.1.2.2.2.1)++([(rd aIl x.1.2.2.2.1 x.2.2.2.1)]:List AK)).length:Int)) then I (.inr<|.inl (A0,())) else(AN (rN (x.1,x.2.1,(x.2.2.1.1,x.2.2.1.2.1,x.2.2.1.2.2.1,((([]:List AK)++x.2.2.1.2.2.2.1)++([(rd aIl x.1.2.2.2.1 x.2.2.2.1)]:List AK)),x.2.2.1.2.2.2.2),x.2.2.2.1,0,())) (λ_=>G) λa=>I<|.inl (a.1,a.2.1,a.2.2.1,(w64<|a.2.2.2.1+1),())) else G else G else G else I (.inr<|.inr (x.2.1,x.2.2.1,()))
def acJ:=AT sO
def acX:Loop:=⟨[(5,Z29),(6,Z29),(7,Z38),(8,j6)],[(6,Z29),(7,Z29)],0,[(2,.bool)],acJ⟩
def aec:LF f4 [] [1,1,1,1,1,1,1,1,0,1,0,0] acX:=sq (v:=t1<|.two (.one<|t1<|t1<|t1<|.one<|.loop acp) .nil) Pg (b:=sO)<|kC aeY kN
def VV(x:List Int×D):Option ((Bool×D)×D):=if U (1048576<(j8 x.1:Int)) then I ((Y,()),()) else(Pj x).bind λc=>(SA c.1).bind λe=>(SE c.1).bind λb=>(SV (b.1.1,e.1)).bind λf=>if !f.1.1 then I ((A0,()),()) else(Pq (b.1.1,4,())).bind λd=>(AN (acJ (b.1.1,d.1.1,d.1.1,0,())) (λa=>I (a,())) λa=>(AN (rM (a.1,a.2.1,0,())) (λqy=>I (qy,())) λqy=>(Nv qy).bind λaDu=>I (aDu.1,())))
def aex:Ent:=(4,G,⟨[.fz .u8],[.bool],VV⟩)
def adC:y7 aex:=sk (v:=t1<|t1<|t1<|t1<|t1<|t1<|t1<|t1<|.two (t1<|.one<|.loop acX)<|.two (t1<|.one<|.loop aco) .nil) (fn:=f4) Pg<|kC aec<|kC aeW kN
end Go.VS
namespace Go.VS
open Go
def aAj{w:AA}(sm:SmR w){e:Event}(ht:e.tx.size<=1048576):Q4 (tR w,tE e,())=I ((tR (El w e).1,(El w e).2,()),()):=by
 unfold Q4 El;rw[show Ml ((tR w,tE e,()).1,())=_ from gr sm];simp only[A6];obtain c|c:=tf (At w)
 .have hw:=DY c;rw[j9 hw.1 hw.2.1 hw.2.2 ht];simp only[show GH w.ti w.A8 w.Al w.AO w.AX w.got=Y from c,AB,A4,A2,A6]
 .simp only[show GH w.ti w.A8 w.Al w.AO w.AX w.got=A0 from c,Bool.not_false,A4,A2]
def axY{l:List A3}{n:A3}(hl:l.length<=1000):Tot (XU (l,(n.fr,n.nu,n.to,n.un,n.tx,()),())) λr=>r.1.1=Y↔n∈l:=by
 unfold XU;refine Tot.sum (P:=λy=>y.1=Y/\n∈l) (Q:=λ_=>n ∉ l) ?_ (λy hy=>Tot.ret ⟨λ_=>hy.2,λ_=>hy.1⟩) (λy hy=>Tot.ret ⟨(λh=>by cases h),λh=>absurd h hy⟩);refine Tot.loop (λi s=>s=(l,(n.fr,n.nu,n.to,n.un,n.tx,()),(i:Int),())/\ ∀j,j<i->nA l j≠n) _ l.length (λi s hi hs=> ?_) ⟨rfl,λj hj=>absurd hj<|Nat.not_lt_zero _⟩;obtain⟨rfl,hs⟩:=hs;unfold jX;refine Tot.ite (λhc=> ?_) (λhc=> ?_)
 .have hc:(i:Int)<(j8 l:Int):=BZ hc;have hi':i<l.length:=J
  refine Tot.pos (AR hi') (Tot.ite (λhe=>Tot.ret ⟨rfl, ?_⟩) λhe=>Tot.ret ⟨hi',by rw[show w64 ((i:Int)+1)=_ from On rfl J],λj hj=> ?_⟩)
  .have he:MU (nA l i).fr (nA l i).nu (nA l i).to (nA l i).un (nA l i).tx n.fr n.nu n.to n.un n.tx=Y:=he;unfold MU at he;simp only[AD,decide_eq_true_eq]at he;have:nA l i=n:=by
    cases hN:nA l i;cases n;rw[hN]at he;simp only at he;obtain⟨rfl,rfl,rfl,rfl,rfl,_⟩:=he;rfl
   rw[← this];exact Ev hi'
  .rcases Nat.lt_or_ge j i with h|h
   .exact hs j h
   .have:j=i:=J
    subst this;intro e;have he:MU (nA l j).fr (nA l j).nu (nA l j).to (nA l j).un (nA l j).tx n.fr n.nu n.to n.un n.tx=A0:=he;rw[e]at he;unfold MU at he;simp at he
 .have hc:¬(i:Int)<(j8 l:Int):=KD hc;refine Tot.ret λhn=> ?_;obtain⟨j,hj,e⟩:=List.getElem_of_mem hn;refine hs j J ?_;rw[← e,nA,List.getD_eq_getElem?_getD,List.getElem?_eq_getElem hj];rfl
def Bu.calm:∀(m:Nat) (w:AA),Bu w<|Gm m w
 | 0,w=>Bu.rfl w
 | m+1,w=>by
  unfold Gm;split
  .exact(Bu.rnd w).trans (Bu.calm m _)
  .exact Bu.rfl w
def aaV{w w':AA}(r:Bu w w')(h:At w=Y)(v:Inv w){n:A3}(hn:n∈w.AX){i:Int}(hb:Bey w i n):n∈w'.AX/\Bey w' i n:=
 r.ind (P:=λx=>n∈x.AX/\Bey x i n) h v ⟨hn,hb⟩ (λx e hx vx p hd=>by
  obtain⟨j,k',a,s,_⟩:=aHT vx (DY hx).1 e;rw[aV hd];refine⟨?_,s.bey vx (DY hx).1 p.1 p.2⟩;show n∈(doM x e).1.AX;obtain⟨e,_⟩|⟨_,_,e,_⟩:=s.se<;>rw[e]
  .exact p.1
  .exact List.mem_append_left _ p.1)
def avv{k:A7}(h:Ae k=Y)(f:Frame):Kps (stT k) (stT (CC k f).1):=by
 unfold CC HK;rw[A5 h];split
 .rename_i hc;simp only[AD]at hc;split
  .rename_i h1;unfold E6;split
   .exact Kps.rfl _
   split
   .rw[(ZU h).2.2.2];exact Kps.rfl _
   split
   .exact Kps.rfl _
   unfold JO;split
   .split
    .unfold Jz;have hd:=(aQ h hc.1 hc.2.1<|BZ h1).ok;split
     .rename_i hw;rw[AD]at hw;obtain⟨o,ho⟩:=me (C0 hd) hw.2;have hs:=mg (C0 hd) ho;rw[hs.1.is.stT];have tk:=abg (C0 hd).kok hw.1 ho;obtain⟨_,_,a,b⟩|⟨_,_,a,b⟩:=tk.at_
      .exact⟨λm hm=>by rw[a];exact Ii _<|.inr hm,λn hn=>by rw[b];exact Ii _<|.inr hn⟩
      .exact⟨λm hm=>by rw[a];exact hm,λn hn=>by rw[b];exact hn⟩
     .exact Kps.rfl _
    .exact Kps.rfl _
   .exact Kps.rfl _
  .split
   .rename_i h2;obtain⟨r1,r2,r3⟩:=YK hc.2.1;have hk:=C0 h;show Kps (stT k) (stT (wrR k (CX Bx f.fr f.nu f.un) A0).1);unfold wrR;split
    .exact Kps.rfl _
    .rename_i o ho;obtain⟨_,eo⟩:=ZR hk.kok r1 r2 r3 ho;show Kps (stT k) (stT<|wrM k _);rw[(Om hk ho).stT,eo];exact⟨λm hm=>Ii _<|.inr hm,λn hn=>hn⟩
   .exact Kps.rfl _
 .exact Kps.rfl _
def ay6{w:AA}(h:At w=Y)(hr:w.AO=[]):Ay w eBr=w:=by
 refine Qc h ?_;unfold doM;rw[A5<|.inl rfl];unfold ES;rw[A9 (by rw[hr];decide)]
def aua{w:AA}(ok:B9 w){p:AK}{ps:List AK}(hp:Ds p=Y):∀k,k<4->Kps (sT w k) (sT (E7 w p ps) k):=by
 have hr:=Lm hp;have kl:=ok.kl;unfold E7;split
 .intro k hk;show Kps (stT<|kA w.A8 k) (stT<|kA (w.A8.set p.dst.toNat _) k);rw[GI J];split
  .rename_i e;rw[e];exact avv (ok.k _ J).1 _
  .exact Kps.rfl _
 .exact λk _=>Kps.rfl _
def aHj:∀(m:Nat) {w:AA},At w=Y->(∀i,i<3->bA w.Al i=Y)->w.ti+(m:Int)<99999->∀k,k<4->Kps (sT w k) (sT (dlv m w) k)
 | 0,w,_,_,_=>λk _=>Kps.rfl _
 | m+1,w,h,hl,ht=>λk hk=>by
  cases hr:w.AO with
  | nil=>
   rw[Lu hr];exact Kps.rfl _
  | cons p ps=>
   have ok:=(DY h).1;rw[Td hr];have hd:=qC ok hr hl;have es:=Qd h J (e:=eBr) (by rw[hd]);rw[hd]at es;have hp:=ok.p p (by rw[hr];exact .head _);have b2:=(aFa ok (p:=p) (ps:=ps) hp);refine Kps.trans (b:=sT (Ay w eBr) k) ?_ (aHj m (J7 h eBr) (λi hi=>by rw[es];show bA (E7 w p ps).Al i=Y;rw[b2.2.1];exact hl i hi) (by rw[es];show w.ti+1+(m:Int)<99999;omega) k hk);rw[es];exact aua ok hp k hk
def Fj(y:AA)(p:AK):AA:=⟨y.ti,y.A8,y.Al,y.AO++[p],y.AX,y.got⟩
def br3(y:AA):AA:=Ay (Ay (Ay y eBr) eBr) eBr
def ay7{y:AA}(h:At y=Y):br3 y=dlv 3 y:=by
 have one:∀(m:Nat) {y:AA},At y=Y->dlv (m+1) y=dlv m (Ay y eBr):=λm y h=>by
  cases hr:y.AO with
  | nil=>rw[Lu hr,ay6 h hr,Lu hr]
  | cons p ps=>exact Td hr m
 have h1:=J7 h eBr;have h2:=J7 h1 eBr;rw[one 2 h,one 1 h1,one 0 h2];rfl
def aun{w x y:AA}(hw:At w=Y)(vw:Inv w)(k:Kpt x y)(hse:x.AX=w.AX)(hbw:∀n∈w.AX,∀i,Bey w i n->Bey x i n){p:AK}(hp:p∈w.AO)(ht:y.ti+3<99999):
  Kpt x (br3<|Fj y p)/\(Fj y p).AO.length=1/\(br3<|Fj y p).ti<=y.ti+3/\At (Fj y p)=Y/\At (Ay (Fj y p) eBr)=Y/\At (Ay (Ay (Fj y p) eBr) eBr)=Y:=by
 have c:=k.cm;have ok:=c.rv;have okw:=(DY hw).1;have pok:=okw.p p hp;have t:=DY c.ok;have hr:(Fj y p).AO=[p]:=by unfold Fj;rw[k.ra];rfl
 have h1:At (Fj y p)=Y:=pM ⟨ok.kl,ok.ll,by rw[hr];show 1<=30;omega,ok.sl,ok.gl,ok.k,λq hq=>by rw[hr]at hq;rw[C9.1 hq];exact pok,ok.s,ok.g⟩ t.2.1 t.2.2;have v1:Inv (Fj y p):=by
  obtain⟨_,_,_,s,_⟩:=OJ (e:=eBr) (w:=y) (w':=Fj y p) c.inv ok rfl rfl rfl (λq hq=>by
   rw[hr]at hq;rw[C9.1 hq];refine .inr ⟨(vw.ra p hp).mono (λn hn=>by show n∈y.AX;rw[k.se,hse];exact hn),λf hu=> ?_⟩;exact(vw.hv p hp f hu).up (w':=Fj y p) (λn hn=>by show n∈y.AX;rw[k.se,hse];exact hn) λn hn i hb=>k.bey n (by rw[hse];exact hn) i<|hbw n hn i hb)
  exact c.inv.step ok s
 rw[ay7 h1];obtain⟨d,e⟩:=q8 3 h1 v1 (w:=Fj y p) c.li (by show y.ti+3<99999;exact ht);have hp3:pot (Fj y p).AO<=3:=by
  rw[hr];have:=pj [p];have e:[p].length=1:=rfl;omega
 refine⟨⟨⟨d.ok,d.inv,λi hi=>by rw[d.li];exact c.li i hi,λj hj=>by rw[d.up];exact c.up j hj⟩,e hp3,d.se.trans k.se,d.go.trans k.go,Int.le_trans k.t0 d.t0,λn hn i hb=> ?_,λj hj=>(k.kp j hj).trans ?_⟩,by rw[hr];rfl,d.t1,h1,J7 h1 _,J7 (J7 h1 _) _⟩
 .exact(aaV (Bu.dlv 3<|Fj y p) h1 v1 (by show n∈y.AX;rw[k.se];exact hn)<|show Bey (Fj y p) i n from k.bey n hn i hb).2
 .exact aHj 3 h1 c.li (by show y.ti+3<99999;exact ht) j hj
def aFX(ev:List Event):Cal 3360 (De ev) (Gm 4<|De ev)/\Stl (Gm 4<|De ev):=by
 have:=mv ev;exact abd (OY ev) (Ye ev).2 J
def as7{w:AA}(sm:SmR w):Q4 (tR w,(4,0,0,0,0,0,0,0,0,noB,()),())=I ((tR<|Ay w eBr,(El w eBr).2,()),()):=aAj sm (e:=eBr) L3
def axd{a b y:AA}{i:Int}(h0:At y=Y)(h1:At (Ay y eBr)=Y)(h2:At (Ay (Ay y eBr) eBr)=Y):rN (tR a,tR b,tR y,i,0,())=I (.inr (tR a,tR b,tR<|br3 y,i,())):=by
 have st:∀(y:AA) (j:Nat),At y=Y->j<3->VJ (tR a,tR b,tR y,i,(j:Int),())=I (.inl (tR a,tR b,tR<|Ay y eBr,i,((j+1:Nat):Int),())):=λy j h hj=>by
  unfold VJ;simp only[AU<|show(j:Int)<3 by omega,A2,as7 (DY h).1.sm,A6,AZ (n:=(j:Int)+1) J J];rfl
 exact As (st _ 0 h0 J)<|As (st _ 1 h1 J)<|As (st _ 2 h2 J)<|BF (by unfold VJ;rfl)
def axa{x y:AA}{i:Int}{a b:AE}{k:Nat}(hk:k<a.marks.length)(hb:b.held.length<=6)(h:∀n∈b.held,¬((mA a.marks k).mf=n.fr/\(mA a.marks k).mn=n.nu)):
  cG (tR x,tR y,i,tK a,tK b,(k:Int),0,())=I (.inr (tR x,tR y,i,tK a,tK b,(k:Int),())):=
 CG (λj=>(tR x,tR y,i,tK a,tK b,(k:Int),(j:Int),())) b.held.length (λj hj=>by
  have hn:=h _<|Ev hj;unfold ch;simp only[B5 hj,AR hj,AR hk,A2,Co,FA,Ft,B2 hj (by omega:b.held.length<=9223372036854775807)];by_cases c:(nA b.held j).fr=(mA a.marks k).mf
  .have d:¬(nA b.held j).nu=(mA a.marks k).mn:=λd=>hn ⟨c.symm,d.symm⟩;simp only[eq_true c,eq_false d,AW,Ac,Bool.and_false,A4]
  .simp only[eq_false c,Ac,Bool.false_and,A4]) (by
  unfold ch;simp only[QP,A4])
def axb{x y:AA}{i:Int}{a b:AE}(ha:a.marks.length<=12)(hb:b.held.length<=6)(h:∀m∈a.marks,∀n∈b.held,¬(m.mf=n.fr/\m.mn=n.nu)):
  cE (tR x,tR y,i,tK a,tK b,0,())=I (.inr (tR x,tR y,i,tK a,tK b,())):=
 CG (λk=>(tR x,tR y,i,tK a,tK b,(k:Int),())) a.marks.length (λk hk=>by
  unfold cj;simp only[B5 hk,A2];rw[show cG _=_ from axa hk hb λn hn=>h _ (UO hk) n hn];simp only[CD,B2 hk (by omega:a.marks.length<=9223372036854775807)]) (by
  unfold cj;simp only[QP,A4])
def axZ{x y:AA}{i:Int}{a b:AE}(ha:a.inbox.length<=6)(hb:b.inbox.length<=6)(h:∀n∈a.inbox,n∈b.inbox):
  cF (tR x,tR y,i,tK a,tK b,0,())=I (.inr (tR x,tR y,i,())):=
 CG (λk=>(tR x,tR y,i,tK a,tK b,(k:Int),())) a.inbox.length (λk hk=>by
  obtain⟨r,er,hr⟩:=axY (l:=b.inbox) (n:=nA a.inbox k) J;unfold cg;simp only[B5 hk,AR hk,A2,Co,er,A6,hr.2<|h _<|Ev hk,AB,A4,B2 hk (by omega:a.inbox.length<=9223372036854775807)]) (by
  unfold cg;simp only[QP,A4])
def axc{x y:AA}(c:Cm x)(k:Kpt x y):rM (tR x,tR y,0,())=I (.inr (tR y,())):=by
 have okx:=c.rv;have oky:=k.cm.rv;have kx:=okx.kl;have ky:=oky.kl;refine CG (b:=VI) (λi=>(tR x,tR y,(i:Int),())) x.A8.length (λi hi=> ?_) (by
  unfold VI;simp only[QP,A4])
 have hi4:i<4:=J
 have hkx:=C0 (okx.k i hi4).1;have hky:=C0 (oky.k i hi4).1;have fx:=Bz hkx.kok;have fy:=Bz hky.kok;obtain⟨p1,p2⟩:=k.kp i hi4;have l3:=axb (x:=x) (y:=y) (i:=(i:Int)) (a:=stT<|kA x.A8 i) (b:=stT<|kA y.A8 i) fx.ml fy.hl (λm hm n hn=>(Sm hky.kok hn).2.2.2 m<|p1 m hm);have l5:=axZ (x:=x) (y:=y) (i:=(i:Int)) (a:=stT<|kA x.A8 i) (b:=stT<|kA y.A8 i) fx.il fy.il p2;unfold VI;simp only[B5 hi,AR hi,AR (J:i<y.A8.length),aDQ,A2,La (okx.k i hi4).1,La (oky.k i hi4).1,A6];rw[show cE _=_ from l3];simp only[CD];rw[show cF _=_ from l5];simp only[CD,B2 hi (by omega:x.A8.length<=9223372036854775807)]
def ayn{l:List Int}(hb:BOk l):VV (l,())=I ((Y,()),()):=by
 obtain⟨ev,hd,hl,ht⟩:=lL hb;have hti:=mv ev;obtain⟨ca,st⟩:=aFX ev;unfold VV;apply Tot.val;refine Tot.ite (λ_=>Tot.ret rfl) (λ_=>Tot.bind (Tot.eq hd) λr1 h1=> ?_);subst h1;refine Tot.bind (Tot.eq<|vB J ht) λr2 h2=>Tot.bind (Tot.eq<|ue J ht) λr3 h3=> ?_;subst h2 h3;refine Tot.bind (Tot.eq<|kP<|mw ev) λr5 h5=> ?_;subst h5;refine Tot.neg rfl (Tot.bind (Tot.eq<|pW<|OY ev) λr6 h6=> ?_);subst h6;have t1:=ca.t1;have c:=ca.cm;have hr:=ca.ra;have se:=ca.se;have hw:=OY ev;have vw:=(Ye ev).2;have hbw:∀n∈(De ev).AX,∀i,Bey (De ev) i n->Bey (Gm 4<|De ev) i n:=λn hn i hb=>(aaV (Bu.calm 4 _) hw vw hn hb).2;generalize Gm 4 (De ev)=x at *;generalize De ev=w at *;have rl:=(DY hw).1.rl;refine Tot.sum (P:=λ_=>False) (Q:=λs=>∃y,s=(tR x,tR y,())/\Kpt x y) ?_ (λ_ h=>h.elim) (λs hs=> ?_)
 .refine Tot.loop (λi s=>∃y:AA,s=(tR w,tR x,tR y,(i:Int),())/\Kpt x y/\y.ti<=x.ti+3 * i) _ w.AO.length (λi s hi hs=> ?_) ⟨x,rfl,Kpt.rfl c hr,J⟩;obtain⟨y,rfl,ky,ty⟩:=hs;unfold sO;refine Tot.ite (λhc=> ?_) (λhc=>Tot.ret ⟨y,rfl,ky⟩);have hc:(i:Int)<(w.AO.length:Int):=BZ hc;have hi':i<w.AO.length:=J
  obtain⟨k1,k2,k3,k4,k5,k6⟩:=aun hw vw ky se hbw (po hi') J;have era:([]++y.AO)++[pA w.AO i]=(Fj y<|pA w.AO i).AO:=rfl;have ra0:=ky.ra;refine Tot.pos (BD (by show 0+y.AO.length<=_;rw[ra0];decide)) (Tot.pos (AR hi')<|Tot.pos (BD (by show([]++y.AO).length+1<=_;rw[ra0];decide)) ?_);refine Tot.neg ?_ ?_
  .show U ((30:Int)<((([]++y.AO)++[pA w.AO i]).length:Int))=A0;rw[era,k2];rfl
  .have l1:=axd (a:=w) (b:=x) (y:=Fj y<|pA w.AO i) (i:=(i:Int)) k4 k5 k6;refine Tot.sum (P:=λ_=>False) (Q:=λz=>z=(tR w,tR x,tR<|br3<|Fj y<|pA w.AO i,(i:Int),())) ⟨_,l1,rfl⟩ (λ_ h=>h.elim) (λz hz=>Tot.ret ?_);subst hz;exact⟨hi',br3<|Fj y<|pA w.AO i,by rw[show w64 ((i:Int)+1)=_ from On rfl J],k1,J⟩
 .obtain⟨y,rfl,ky⟩:=hs;refine Tot.sum (P:=λ_=>False) (Q:=λz=>z=(tR y,())) ⟨_,axc c ky,rfl⟩ (λ_ h=>h.elim) (λz hz=> ?_);subst hz;refine Tot.bind (Tot.eq<|pC ky.cm.ok ky.cm.inv) λaDu amV=> ?_;subst amV;exact Tot.ret rfl
end Go.VS
end
