/- Part 11. -/
import Derived.Test.YtnbfoldcjgdomaaGreatDoorQAU
set_option linter.unusedVariables false
set_option linter.unusedSimpArgs false
set_option linter.defProp false
open Bool renaming and_eq_true->AD,and_self->EB,false->A0,false_and->AL,false_or->Bk,not_false->AH,not_true->AB,true->Y,true_and->AS,true_or->Bs
open Decidable renaming decide->U
open Int renaming toNat_natCast->BV
open List renaming length->j8
open Option renaming bind_some->A6,getD_some->D4,isSome_some->DC,none->G,some->I
section
set_option linter.all false
noncomputable section
namespace Go.VS
open Go Go.Proofs Tryz
set_option maxRecDepth 100000
def akI:Cx:=cX [Wf,Wg] [] []
def aoU:y9 akI:=aIe<|gC dO<|gC dV<|AI
def Q4(x:Y2×Y6×D):Option ((Y2×Bool×D)×D):=(Ml (x.1,())).bind λa=>if !a.1.1 then I (((0,([]:List A7),([]:List Bool),([]:List AK),([]:List A3),([]:List A3),()),A0,()),()) else(I1 x).bind λb=>I (b.1,())
def jJ:Ent:=(12,G,⟨[Z30,Z13],[Z3,.bool],Q4⟩)
def wO:y7 jJ:=sk (v:= .nil) (fn:=f12) aoU kN
def afw:Cx:=cX [Ka,Wg,WL] [] [(13,16)]
def eC:y9 afw:=aIe<|gC LW<|gC dV<|gC ck<|AI
def dS(x:Y2×Y1×List A7×Int×Int×List A3×aIf):Rnd (Y2×Y1×List A7×Int×Int×List A3×aIf) (Bool×D) (Y2×List A7×aIf):=if U (x.2.2.2.2.2.2.2.1<x.2.2.2.2.2.2.1) then if inb x.2.2.2.2.2.2.2.1 x.2.2.2.2.2.1.length then let b:=(rd y5 x.2.2.2.2.2.1 x.2.2.2.2.2.2.2.1).fr;let c:=(rd y5 x.2.2.2.2.2.1 x.2.2.2.2.2.2.2.1).nu;let amM:=(rd y5 x.2.2.2.2.2.1 x.2.2.2.2.2.2.2.1).to;let a:=(rd y5 x.2.2.2.2.2.1 x.2.2.2.2.2.2.2.1).un;let bw:=(rd y5 x.2.2.2.2.2.1 x.2.2.2.2.2.2.2.1).tx;(IZ (x.2.1.1,amM,())).bind λRp=>if inb Rp.1.1 x.1.2.1.length then(Gw (((rd aIh x.1.2.1 Rp.1.1).id,(rd aIh x.1.2.1 Rp.1.1).up,(rd aIh x.1.2.1 Rp.1.1).log,(rd aIh x.1.2.1 Rp.1.1).fo,(rd aIh x.1.2.1 Rp.1.1).AJ,()),())).bind λalr=>if U (alr.1.1.2.1<a) then I (.inr<|.inl (A0,())) else I (.inl (x.1,x.2.1,x.2.2.1,x.2.2.2.1,x.2.2.2.2.1,x.2.2.2.2.2.1,x.2.2.2.2.2.2.1,(w64<|x.2.2.2.2.2.2.2.1+1),())) else G else G else I (.inr<|.inr (x.1,x.2.2.1,x.2.2.2.1,x.2.2.2.2.1,()))
def rV:=AT dS
def vk:Loop:=⟨[(1,Z29),(6,Z19),(29,.sl .AP),(30,j6),(31,j6),(40,.row 54 .note),(41,j6),(42,j6)],[(1,Z29),(29,.sl .AP),(30,j6),(31,j6)],4,[(2,.bool)],rV⟩
def aez:LF f15 [] [1,1,1,0,1,0,0,1,1,0,0,1,1,1,0,0] vk:=sq (v:= .nil) eC (b:=dS) kN
def dT(x:Y2×List A7×aIf):Rnd (Y2×List A7×aIf) (Bool×D) D:=if U (x.2.2.2.1<x.2.2.1) then if inb x.2.2.2.1 x.2.1.length then let aDr:=(rd aIh x.2.1 x.2.2.2.1).id;let rE:=(rd aIh x.2.1 x.2.2.2.1).up;let aDq:=(rd aIh x.2.1 x.2.2.2.1).log;let aDp:=(rd aIh x.2.1 x.2.2.2.1).fo;let aDo:=(rd aIh x.2.1 x.2.2.2.1).AJ;(if !rE then I (.inr<|.inl (A0,())) else(Gw ((aDr,rE,aDq,aDp,aDo,()),())).bind λaDw=>(AN (rV (x.1,(aDr,rE,aDq,aDp,aDo,()),x.2.1,x.2.2.1,x.2.2.2.1,aDw.1.1.2.2.2.1,(j8 aDw.1.1.2.2.2.1:Int),0,())) (λRl=>I<|.inr<|.inl Rl) λRl=>I<|.inl (Rl.1,Rl.2.1,Rl.2.2.1,(w64<|Rl.2.2.2.1+1),()))) else G else I (.inr<|.inr ())
def rW:=AT dT
def vl:Loop:=⟨[(1,Z29),(29,.sl .AP),(30,j6),(31,j6)],[],2,[(2,.bool)],rW⟩
def af1:LF f15 [] [1,1,1,0,1,0,0] vl:=sq (v:=t1<|t1<|.two (.one<|t1<|t1<|t1<|.one<|.loop vk) .nil) eC (b:=dT)<|kC aez kN
def dU(x:Y2×List Bool×aIf):Rnd (Y2×List Bool×aIf) (Bool×D) (Y2×D):=if U (x.2.2.2.1<x.2.2.1) then if inb x.2.2.2.1 x.2.1.length then let a:=(rd aIw x.2.1 x.2.2.2.1);(if !a then I (.inr<|.inl (A0,())) else I (.inl (x.1,x.2.1,x.2.2.1,(w64<|x.2.2.2.1+1),()))) else G else I (.inr<|.inr (x.1,()))
def rX:=AT dU
def vm:Loop:=⟨[(1,Z29),(19,.sl .bool),(20,j6),(21,j6)],[(1,Z29)],0,[(2,.bool)],rX⟩
def af6:LF f15 [] [1,1,0,1,0,0] vm:=sq (v:= .nil) eC (b:=dU) kN
def S6(x:Y2×D):Option ((Bool×D)×D):=(Ml x).bind λb=>if(!b.1.1)||(U<|0<(j8 x.1.2.2.2.1:Int)) then I ((A0,()),()) else(AN (rX (x.1,x.1.2.2.1,(j8 x.1.2.2.1:Int),0,())) (λa=>I (a,())) λa=>(AN (rW (a.1,a.1.2.1,(j8 a.1.2.1:Int),0,())) (λLQ=>I (LQ,())) λLQ=>I ((Y,()),())))
def uN:Ent:=(15,G,⟨[Z30],[.bool],S6⟩)
def acW:y7 uN:=sk (v:=t1<|t1<|.two (t1<|.one<|.loop vm)<|.two (t1<|.one<|.loop vl) .nil) (fn:=f15) eC<|kC af6<|kC af1 kN
def ae1:Cx:=cX [cN,fH,fM,gy,fN,jJ,uN,fL,iy] [] [(48,52)]
def sS:y9 ae1:=aIe<|gC rI<|gC rq<|gC sC<|gC sr<|gC sE<|gC wO<|gC acW<|gC s8<|gC wa<|AI
def VC(x:Y2×Y2×aIf):Rnd (Y2×Y2×aIf) D (Y2×Y2×v7):=if U (x.2.2.2.1<4) then(Q4 (x.2.1,((w64<|7+x.2.2.1),x.2.2.2.1,0,0,0,0,0,0,0,noB,()),())).bind λa=>I (.inl (x.1,a.1.1,x.2.2.1,(w64<|x.2.2.2.1+1),())) else I (.inr<|.inr (x.1,x.2.1,x.2.2.1,()))
def cD:=AT VC
def acU:Loop:=⟨[(5,Z29),(6,Z35),(7,j6),(8,j6)],[(5,Z29),(6,Z29),(7,j6)],2,[],cD⟩
def adj:LF f6 [] [1,1,1,1,1,1,1,0,1,0,0,1,0,0,1,0,0] acU:=sq (v:= .nil) sS (b:=VC) kN
def VD(x:Y2×Y2×v7):Rnd (Y2×Y2×v7) D (Y2×Y2×D):=if U (x.2.2.1<2) then(AN (cD (x.1,x.2.1,x.2.2.1,0,())) (λ_=>I<|.inr<|.inl ()) λa=>I<|.inl (a.1,a.2.1,(w64<|a.2.2.1+1),())) else I (.inr<|.inr (x.1,x.2.1,()))
def rL:=AT VD
def acV:Loop:=⟨[(5,Z35),(6,Z35),(7,j6)],[(5,Z29),(6,Z29)],0,[],rL⟩
def adm:LF f6 [] [1,1,1,1,1,1,1,0,1,0,0] acV:=sq (v:=t1<|.two (.one<|t1<|.one<|.loop acU) .nil) sS (b:=VD)<|kC adj kN
def VK(x:List Int×D):Option ((Bool×D)×D):=if U (1048576<(j8 x.1:Int)) then I ((Y,()),()) else(Pj x).bind λc=>(SA c.1).bind λe=>(SE c.1).bind λb=>(SV (b.1.1,e.1)).bind λf=>if !f.1.1 then I ((A0,()),()) else(AN (rL (b.1.1,b.1.1,0,())) (λ_=>G) (λa=>(Nv a.2).bind λg=>if g.1.1 then(Pq (a.2.1,4,())).bind λh=>(S6 h.1).bind λd=>if Ag d.1.1 ((Le (a.2.1.2.2.2.2.2.1,a.1.2.2.2.2.2)).isSome) then let i:=(d.1.1&&(((Le (a.2.1.2.2.2.2.2.1,a.1.2.2.2.2.2)).getD ((A0,()),())).1.1));I ((i,()),()) else G else if Ag A0 ((Le (a.2.1.2.2.2.2.2.1,a.1.2.2.2.2.2)).isSome) then I ((A0,()),()) else G))
def aek:Ent:=(6,G,⟨[.fz .u8],[.bool],VK⟩)
def ad7:y7 aek:=sk (v:=t1<|t1<|t1<|t1<|t1<|t1<|t1<|.two (t1<|.one<|.loop acV) .nil) (fn:=f6) sS<|kC adm kN
end Go.VS
end
end
section
set_option linter.all false
noncomputable section
namespace Go.VS
open Go
def awd(l:List Bool)(i:Nat): @rd Bool aIw l (i:Int)=bA l i:=rfl
section
variable {ti:Int} {ks:List A7} {ls:List Bool} {ra:List AK} {se go:List A3}
def atv(hf:Nj ti ks ls ra se go){i:Nat}(hi:i<4){j:Nat}(hj:j<(stT<|kA ks i).held.length):
  ∃m:Nat,m<4/\BW (kA ks i).id (nA (stT<|kA ks i).held j).to=(m:Int):=by
 have h1:=Dk (hf.k i hi).2;have h2:=mU h1.ok<|Ev hj;rw[h1.sid]at h2;have:=ER h2;exact⟨(BW (kA ks i).id (nA (stT<|kA ks i).held j).to).toNat,J,J⟩
end
end Go.VS
namespace Go.VS
open Go
def ya{k:A7}(sm:FK k)(h:Ae k=Y):Gw (tKp k,())=I ((tK<|stT k,()),()):=by
 unfold Gw;rw[Jn sm];simp only[A6,h,AB,A4];rw[Q2 sm.1];rfl
def Qk(ks:List A7)(id:Int)(l:List A3)(j:Nat):Bool:=U<|(nA l j).un<=(stT<|kA ks (BW id (nA l j).to).toNat).ti
def Qj(ks:List A7)(i:Nat):Bool:=(kA ks i).up&&An (stT<|kA ks i).held.length (Qk ks (kA ks i).id (stT<|kA ks i).held)
def YA(ti:Int)(ks:List A7)(ls:List Bool)(ra:List AK)(se go:List A3):Bool:=
 GH ti ks ls ra se go&&(U (ra.length=0)&&(An ls.length (bA ls)&&An ks.length (Qj ks)))
section
variable {ti:Int} {ks:List A7} {ls:List Bool} {ra:List AK} {se go:List A3}
def apB(sm:Gx ks ls ra se go)(hf:Nj ti ks ls ra se go){w:YR}(hw:w=(ti,ks,ls,ra,se,go,())){i:Nat}(hi:i<4){len:Int}{ii:Int}:
  rV (w,tKp<|kA ks i,ks,len,ii,(stT<|kA ks i).held,((stT<|kA ks i).held.length:Int),0,())=
   I (if An (stT<|kA ks i).held.length (Qk ks (kA ks i).id (stT<|kA ks i).held) then .inr (w,ks,len,ii,()) else .inl (A0,())):=by
 subst hw;exact Ck (λj=>((ti,ks,ls,ra,se,go,()),tKp<|kA ks i,ks,len,ii,(stT<|kA ks i).held,((stT<|kA ks i).held.length:Int),(j:Int),())) (stT<|kA ks i).held.length (Qk ks (kA ks i).id (stT<|kA ks i).held) (A0,()) _ (λj hj=>by
  obtain⟨m,hm,e⟩:=atv hf hi hj;have hl:=(Bz (Dk (hf.k i hi).2).ok).hl;unfold dS Qk;simp only[B5 hj,AR hj,A2,Co,fv,A6,e,AR (show m<ks.length by rw[hf.kl];exact hm),OK,BV];rw[ya (N6 sm.k m) (hf.k m hm).2];simp only[A6,B2 hj (by omega:(stT<|kA ks i).held.length<=9223372036854775807)];obtain⟨e5,e6⟩|⟨e5,e6⟩:=EV (nA (stT<|kA ks i).held j).un (stT<|kA ks m).ti<;>simp only[e5,e6,AW,Ac]<;>rfl) (by simp[dS])
def apC(sm:Gx ks ls ra se go)(hf:Nj ti ks ls ra se go):
  rW ((ti,ks,ls,ra,se,go,()),ks,(j8 ks:Int),0,())=I (if An ks.length (Qj ks) then .inr () else .inl (A0,())):=
 Ck (λi=>((ti,ks,ls,ra,se,go,()),ks,(j8 ks:Int),(i:Int),())) ks.length (Qj ks) (A0,()) () (λi hi=>by
  have hi4:i<4:=by rw[← hf.kl];exact hi
  have h2:=apB (i:=i) (len:=(j8 ks:Int)) (ii:=(i:Int)) sm hf rfl hi4;have h3:=ya (N6 sm.k i) (hf.k i hi4).2;unfold dT Qj;simp only[B5 hi,AR hi,A2,OK,h3,A6];obtain e|e:=tf (kA ks i).up
  .simp only[tKp,e]at h2;simp only[e,AB,A4,AS,h2];obtain e2|e2:=tf (An (stT<|kA ks i).held.length<|Qk ks (kA ks i).id (stT<|kA ks i).held)
   .simp only[e2,A2,CD,B2 hi (by rw[hf.kl];decide:ks.length<=9223372036854775807)]
   .simp only[e2,A4,Fu]
  .simp only[e,AH,A2,AL,A4]) (by simp[dT])
def apD{w:YR}(hl:ls.length<=1048576):
  rX (w,ls,(j8 ls:Int),0,())=I (if An ls.length (bA ls) then .inr (w,()) else .inl (A0,())):=
 Ck (λi=>(w,ls,(j8 ls:Int),(i:Int),())) ls.length (bA ls) (A0,()) _ (λi hi=>by
  unfold dU;simp only[B5 hi,AR hi,A2,awd,B2 hi (by omega:ls.length<=9223372036854775807)];obtain e|e:=tf (bA ls i)<;>simp only[e]<;>rfl) (by simp[dU])
def ags(sm:Gx ks ls ra se go):S6 ((ti,ks,ls,ra,se,go,()),())=I ((YA ti ks ls ra se go,()),()):=by
 unfold S6 YA;rw[gr sm];simp only[A6];obtain e|e:=tf (GH ti ks ls ra se go)
 .have hf:=aG8 e;simp only[e,AB,Bk,AS];by_cases e2:ra.length=0
  .have e3:U (0<(j8 ra:Int))=A0:=by rw[e2];rfl
   have e2':U (ra.length=0)=Y:=by rw[e2];rfl
   simp only[e3,e2',A4,AS,apD sm.l];obtain e4|e4:=tf (An ls.length<|bA ls)<;>simp only[e4,A2,A4,CD,Fu,AS,AL];rw[apC sm hf];obtain e5|e5:=tf (An ks.length<|Qj ks)<;>simp only[e5,A2,A4,CD,Fu]
  .have e3:U (0<(j8 ra:Int))=Y:=by simp;omega
   simp only[e3,e2,Ac,A2,AL]
 .simp only[e,AH,Bs,A2,AL]
end
end Go.VS
end
end
section
set_option linter.all false
noncomputable section
namespace Go.VS
open Go
def aAj{w:AA}(sm:SmR w){e:Event}(ht:e.tx.size<=1048576):Q4 (tR w,tE e,())=I ((tR (El w e).1,(El w e).2,()),()):=by
 unfold Q4 El;rw[show Ml ((tR w,tE e,()).1,())=_ from gr sm];simp only[A6];obtain c|c:=tf (At w)
 .have hw:=DY c;rw[j9 hw.1 hw.2.1 hw.2.2 ht];simp only[show GH w.ti w.A8 w.Al w.AO w.AX w.got=Y from c,AB,A4,A2,A6]
 .simp only[show GH w.ti w.A8 w.Al w.AO w.AX w.got=A0 from c,AH,A4,A2]
end Go.VS
end
end
section
set_option linter.all false
noncomputable section
namespace Go.VS
open Go
def auK{w:AA}(c:Cm w)(hr:w.AO=[])(hs:Stl w):YA w.ti w.A8 w.Al w.AO w.AX w.got=Y:=by
 have ok:=c.rv;have kl:=ok.kl;have ll:=ok.ll;unfold YA;simp only[AD,decide_eq_true_eq,CA];refine⟨c.ok,by rw[hr];rfl,λi hi=>c.li i J,λi hi=> ?_⟩;have hi4:i<4:=J
 unfold Qj;rw[AD,CA];refine⟨c.up i hi4,λj hj=> ?_⟩;unfold Qk;rw[decide_eq_true_eq,(ok.k i hi4).2];exact hs i hi4 _<|Ev hj
def eKi(k i:Int):Event:=⟨k,i,0,0,0,0,0,0,0,noB⟩
def ayJ{w:AA}{k i:Int}(hk:k=13\/k=7\/k=8)(hi:isN i=Y):doM w (eKi k i)=I7 w (eKi k i) (kA w.A8 i.toNat):=by
 unfold doM;rw[A9 (by show ¬(k=4\/k=5\/k=6);omega),A9 (by show ¬(k=9\/k=10);omega),A5<|show isN (eKi k i).at_=Y from hi];rfl
def JK(k:Int)(w:AA):AA:=[0,1,2,3].foldl (λw (i:Nat)=>Ay w<|eKi k i) w
def aGp{w:AA}(c:Cm w)(hr:w.AO=[])(hs:Stl w):S6 (tR w,())=I ((Y,()),()):=by
 have:=ags (ti:=w.ti) c.rv.sm;rw[auK c hr hs]at this;exact this
def Oi{w:AA}(h:At w=Y)(v:Inv w){k:Int}(hk:k=13\/k=7\/k=8){i:Nat}(hi:i<4):At (Ay w<|eKi k i)=Y/\Inv (Ay w<|eKi k i)/\(Ay w<|eKi k i).got=w.got/\(Ay w<|eKi k i).ti<=w.ti+1:=by
 obtain⟨a,b⟩:=Mv h v<|eKi k i;have t:=aGN h<|eKi k i;refine⟨a,b, ?_,t.2⟩;unfold Ay;obtain⟨h0,_⟩|⟨_,h0⟩|⟨_,h1,h2,h0⟩:=T4 w (eKi k i)
 .rw[h]at h0;cases h0
 .rw[h0]
 .rw[h0];show(Cl w<|eKi k i).got=_;rw[aV h2,ayJ hk<|HA hi];unfold I7;rw[A9 (by show ¬k=1;omega),A9 (by show ¬k=2;omega),A9 (by show ¬k=3;omega)];split
  .rfl
  .split
   .rfl
   .rw[A9 (by show ¬k=11;omega),A9 (by show ¬k=12;omega)];split<;>rfl
def abG{w:AA}(h:At w=Y)(v:Inv w){k:Int}(hk:k=13\/k=7\/k=8):At (JK k w)=Y/\Inv (JK k w)/\(JK k w).got=w.got/\(JK k w).ti<=w.ti+4:=by
 obtain⟨a0,b0,c0,d0⟩:=Oi h v hk (i:=0) J;obtain⟨a1,b1,c1,d1⟩:=Oi a0 b0 hk (i:=1) J;obtain⟨a2,b2,c2,d2⟩:=Oi a1 b1 hk (i:=2) J;obtain⟨a3,b3,c3,d3⟩:=Oi a2 b2 hk (i:=3) J;exact⟨a3,b3,c3.trans<|c2.trans<|c1.trans c0,by show(Ay (Ay (Ay (Ay w<|eKi k (0:Nat))<|eKi k (1:Nat))<|eKi k (2:Nat))<|eKi k (3:Nat)).ti<=_;omega⟩
def as6{w:AA}(h:At w=Y)(k i:Int):Q4 (tR w,(k,i,0,0,0,0,0,0,0,noB,()),())=I ((tR<|Ay w<|eKi k i,(El w<|eKi k i).2,()),()):=aAj (DY h).1.sm (e:=eKi k i) L3
def avh{w0 w:AA}(h:At w=Y)(v:Inv w){k:Nat}(hk:k<2):cD (tR w0,tR w,(k:Int),0,())=I (.inr (tR w0,tR<|JK (7+(k:Int)) w,(k:Int),())):=by
 have hkk:7+(k:Int)=13\/7+(k:Int)=7\/7+(k:Int)=8:=J
 have st:∀(w:AA) (i:Nat),At w=Y->i<4->VC (tR w0,tR w,(k:Int),(i:Int),())=I (.inl (tR w0,tR<|Ay w<|eKi (7+(k:Int)) i,(k:Int),((i+1:Nat):Int),())):=λw i h hi=>by
  unfold VC;simp only[AU<|show(i:Int)<4 by omega,A2,AZ (n:=7+(k:Int)) J J,as6 h,A6,AZ (n:=(i:Int)+1) J J];rfl
 obtain⟨a0,b0,_⟩:=Oi h v hkk (i:=0) J;obtain⟨a1,b1,_⟩:=Oi a0 b0 hkk (i:=1) J;obtain⟨a2,b2,_⟩:=Oi a1 b1 hkk (i:=2) J;exact As (st _ 0 h J)<|As (st _ 1 a0 J)<|As (st _ 2 a1 J)<|As (st _ 3 a2 J)<|BF (by unfold VC;rfl)
def ax8{l:List Int}(hb:BOk l):VK (l,())=I ((Y,()),()):=by
 obtain⟨ev,hd,hl,ht⟩:=lL hb;have hti:=mv ev;have h0:=OY ev;have v0:=(Ye ev).2;obtain⟨a1,b1,c1,d1⟩:=abG h0 v0 (k:=7) J;obtain⟨a2,b2,c2,d2⟩:=abG a1 b1 (k:=8) J;unfold VK;apply Tot.val;refine Tot.ite (λ_=>Tot.ret rfl) (λ_=>Tot.bind (Tot.eq hd) λr1 h1=> ?_);subst h1;refine Tot.bind (Tot.eq<|vB J ht) λr2 h2=>Tot.bind (Tot.eq<|ue J ht) λr3 h3=> ?_;subst h2 h3;refine Tot.bind (Tot.eq<|kP<|mw ev) λr5 h5=> ?_;subst h5;have loop:rL (tR<|De ev,tR<|De ev,0,())=I (.inr (tR<|De ev,tR<|JK 8<|JK 7<|De ev,())):=by
  have st:∀(w:AA) (k:Nat),At w=Y->Inv w->k<2->VD (tR<|De ev,tR w,(k:Int),())=I (.inl (tR<|De ev,tR<|JK (7+(k:Int)) w,((k+1:Nat):Int),())):=λw k h v hk=>by
   unfold VD;simp only[AU<|show(k:Int)<2 by omega,A2];rw[show cD _=_ from avh h v hk];simp only[CD,AZ (n:=(k:Int)+1) J J];rfl
  exact As (st _ 0 h0 v0 J)<|As (st _ 1 a1 b1 J)<|BF (by unfold VD;rfl)
 refine Tot.neg rfl (Tot.sum (P:=λ_=>False) (Q:=λy=>y=(tR<|De ev,tR<|JK 8<|JK 7<|De ev,())) ⟨_,loop,rfl⟩ (λ_ h=>h.elim) λy hy=> ?_);subst hy;refine Tot.bind (Tot.eq<|pC a2 b2) λr44 h44=> ?_;subst h44;refine Tot.pos rfl (Tot.bind (Tot.eq<|pW a2) λr45 h45=> ?_);subst h45;obtain⟨ca,st⟩:=abd a2 b2 J;refine Tot.bind (Tot.eq<|aGp ca.cm ca.ra st) λr46 h46=> ?_;subst h46;have gl:=(DY h0).1.gl;have hn:Le ((JK 8<|JK 7<|De ev).got,(De ev).got,())=I ((Y,()),()):=by
  rw[c2,c1];exact kQ J
 simp only[hn,DC,Ft,A2,D4,EB];exact Tot.ret rfl
end Go.VS
end
end
