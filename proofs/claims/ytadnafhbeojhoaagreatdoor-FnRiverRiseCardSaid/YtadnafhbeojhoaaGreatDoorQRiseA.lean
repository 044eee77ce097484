/- Part 22. -/
import Derived.Test.YtadnafhbeojhoaaGreatDoorQAU
set_option linter.unusedVariables false
set_option linter.unusedSimpArgs false
set_option linter.defProp false
open Bool renaming and_eq_true->AI,and_self->CZ,false->A3,false_ne_true->D0,false_or->BY,not_false->AG,not_true->AD,true->A1,true_and->AX,true_or->Bh
open Decidable renaming decide->A0
open Int renaming tmod->BC,toNat_natCast->Bu
open List renaming append_nil->CH,getD_eq_getElem?_getD->BD,getElem?_append_right->EC,length_append->Ar,length_drop->Dd,length_set->Es,length_singleton->Jg,length_take->DX,map_nil->IJ,take_of_length_le->J8
open Nat renaming lt_or_ge->GN,not_lt_zero->SF,sub_self->Mj
open Option renaming bind_some->A9,filter_eq_some_iff->Po,getD_some->C8,isSome_some->CG,none->U,some->I
section
set_option linter.all false
noncomputable section
namespace Go.VS
open Go Go.Proofs
set_option maxRecDepth 100000
def aw7:Cx:=cX [SD,VE,UE,Tq,JC,ic] [] [(23,25),(72,74),(93,95),(138,157),(168,187)]
def q5:OKC Tryz.prog aw7 AF:=okc mixed<|gC WV<|gC cK<|gC bd<|gC fB<|gC KQ<|gC vi<|AL
def gJ(x:Y3×Y4×Bool×Int×A2):Rnd (Y3×Y4×Bool×Int×A2) (A2) (Bool×A2):=if A0 (x.2.2.2.1<(x.2.1.2.2.2.2.1.length:Int)) then if Ad (!x.2.2.1) (inb x.2.2.2.1 x.2.1.2.2.2.2.1.length) then if Ad ((!x.2.2.1)&&(A0<|(rd (dfl .mark) x.2.1.2.2.2.2.1 x.2.2.2.1).mf=x.1.2.2.2.1)) (inb x.2.2.2.1 x.2.1.2.2.2.2.1.length) then let a:=(x.2.2.1||((A0<|(rd (dfl .mark) x.2.1.2.2.2.2.1 x.2.2.2.1).mf=x.1.2.2.2.1)&&(A0<|(rd (dfl .mark) x.2.1.2.2.2.2.1 x.2.2.2.1).mn=x.1.2.2.2.2.1)));I (.inl (x.1,x.2.1,a,(w64<|x.2.2.2.1+1),())) else U else U else I (.inr<|.inr (x.2.2.1,()))
def sE:=AW gJ
def xL:Loop:=⟨[(11,Z5),(15,Z11),(16,.bool),(18,.int .i64)],[(16,.bool)],2,[],sE⟩
def arT:LF Tryz.f4 [] [1,1,1,1,1,1,1,1,1,1,1,1,1,1,1,0,1,0,0] xL:=sq (v:= .nil) q5 (b:=gJ) kN
def pR(x:Y3×Y4×Bool×Int×A2):Rnd (Y3×Y4×Bool×Int×A2) (A2) (Y3×Y4×Bool×A2):=if A0 (x.2.2.2.1<(x.2.1.2.2.2.1.length:Int)) then if Ad (!x.2.2.1) (inb x.2.2.2.1 x.2.1.2.2.2.1.length) then if Ad ((!x.2.2.1)&&(A0<|(rd (dfl .note) x.2.1.2.2.2.1 x.2.2.2.1).fr=x.1.2.2.2.1)) (inb x.2.2.2.1 x.2.1.2.2.2.1.length) then let a:=(x.2.2.1||((A0<|(rd (dfl .note) x.2.1.2.2.2.1 x.2.2.2.1).fr=x.1.2.2.2.1)&&(A0<|(rd (dfl .note) x.2.1.2.2.2.1 x.2.2.2.1).nu=x.1.2.2.2.2.1)));I (.inl (x.1,x.2.1,a,(w64<|x.2.2.2.1+1),())) else U else U else I (.inr<|.inr (x.1,x.2.1,x.2.2.1,()))
def im:=AW pR
def acS:Loop:=⟨[(11,Z5),(15,Z11),(16,.bool),(17,.int .i64)],[(11,Z5),(15,Z11),(16,.bool)],0,[],im⟩
def ahe:LF Tryz.f4 [] [1,1,1,1,1,1,1,1,1,1,1,1,1,1,0,1,0,0] acS:=sq (v:= .nil) q5 (b:=pR) kN
def Uc(x:List Int×List Int×A2):Option ((Bool×A2)×A2):=if(A0<|1048576<(x.1.length:Int))||(A0<|1048576<(x.2.1.length:Int)) then I ((A1,()),()) else(O8 (x.1,())).bind λb=>(IB (b.1.1,(4,b.1.2.1.2.1,b.1.2.1.2.2.1,b.1.2.1.2.2.2.1,b.1.2.1.2.2.2.2.1,b.1.2.1.2.2.2.2.2.1,0,b.1.2.1.2.2.2.2.2.2.2),())).bind λe=>(HN (b.1.1,(4,b.1.2.1.2.1,b.1.2.1.2.2.1,b.1.2.1.2.2.2.1,b.1.2.1.2.2.2.2.1,b.1.2.1.2.2.2.2.2.1,0,b.1.2.1.2.2.2.2.2.2.2),())).bind λd=>(BF (X:=List Int×Y2×Bool×Y2×Bool×Bool×A2) (λa=>if a.2.2.2.2.2.1 then if Ad (A0<|a.2.2.2.2.1=a.2.2.1) ((Hl (a.2.2.2.1,a.2.1,())).isSome) then let i:=((A0<|a.2.2.2.2.1=a.2.2.1)&&(((Hl (a.2.2.2.1,a.2.1,())).getD ((A3,()),())).1.1));I ((i,()),()) else U else if inb (w64<|(a.2.2.2.1.2.2.2.1.length:Int) - 1) a.2.2.2.1.2.2.2.1.length then if Ac ((rd (dfl .Ai) a.2.2.2.1.2.2.2.1<|w64<|(a.2.2.2.1.2.2.2.1.length:Int) - 1).data).size then(Uv ((BA<|(rd (dfl .Ai) a.2.2.2.1.2.2.2.1<|w64<|(a.2.2.2.1.2.2.2.1.length:Int) - 1).data),())).bind λc=>if(!c.1.2.1)||(!decide (c.1.1.1=2)) then I (c.1.2,()) else(HN (a.2.2.2.1,(7,c.1.1.2.1,0,0,0,0,(BC (a.1.length:Int) 30),0,0,noB,()),())).bind λj=>(HN (j.1.1,(8,c.1.1.2.1,0,0,0,0,0,0,0,noB,()),())).bind λf=>if inb c.1.1.2.1 f.1.1.2.1.length then(Gq (((rd (dfl .AN) f.1.1.2.1 c.1.1.2.1).id,(rd (dfl .AN) f.1.1.2.1 c.1.1.2.1).up,(rd (dfl .AN) f.1.1.2.1 c.1.1.2.1).log,(rd (dfl .AN) f.1.1.2.1 c.1.1.2.1).fo,(rd (dfl .AN) f.1.1.2.1 c.1.1.2.1).AE,()),())).bind λh=>let k:=(A0<|c.1.1.2.2.2.2.2.2.1<=h.1.1.2.1);(AO (im (c.1.1,h.1.1,k,0,())) (λ_=>U) λg=>(AO (sE (g.1,g.2.1,g.2.2.1,0,())) (λ_=>U) λl=>I (l,()))) else U else U else U)<|(if !decide (d.1.2.1=e.1.2.1) then I (.inr (x.2.1,e.1.1,e.1.2.1,d.1.1,d.1.2.1,A1,())) else(Hl (d.1.1,e.1.1,())).bind λm=>if !m.1.1 then I (.inr (x.2.1,e.1.1,e.1.2.1,d.1.1,d.1.2.1,A1,())) else if !d.1.2.1 then I (.inr (x.2.1,e.1.1,e.1.2.1,d.1.1,d.1.2.1,A1,())) else I (.inr (x.2.1,e.1.1,e.1.2.1,d.1.1,d.1.2.1,(A0<|(d.1.1.2.2.2.1.length:Int)<(b.1.1.2.2.2.1.length:Int)),()))))
def aob:Ent:=(4,U,⟨[.fz .u8,.fz .u8],[.bool],Uc⟩)
def ayK:SQ Tryz.prog aob:=sk (v:=t1<|t1<|t1<|t1<|t1<|t1<|t1<|.two (.join [(1,.sl .u8),(7,Z2),(8,.bool),(9,Z2),(10,.bool),(67,.bool)] .nil .nil)<|t1<|t1<|t1<|t1<|t1<|t1<|.two (t1<|.one<|.loop acS)<|.two (t1<|.one<|.loop xL) .nil) (fn:=Tryz.f4) q5<|kC ahe<|kC arT kN
end Go.VS
end
end
section
set_option linter.all false
noncomputable section
namespace Go.VS
open Go
def awM{l:List Mark}{f n:Int}(h:0<=Bo l f n):(Bo l f n).toNat<l.length/\((Bo l f n).toNat:Int)=Bo l f n/\(mA l (Bo l f n).toNat).mf=f/\(mA l (Bo l f n).toNat).mn=n:=by
 rcases FO l.length (λi=>A0 ((mA l i).mf=f)&&A0 ((mA l i).mn=n)) with⟨h1,_⟩|⟨i,h1,h2,h3,_⟩
 .unfold Bo at h;omega
 .have e:Bo l f n=(i:Int):=h1;rw[e];simp at h3;exact⟨h2,rfl,h3.1,h3.2⟩
end Go.VS
end
end
section
set_option linter.all false
noncomputable section
namespace Go.VS
open Go
def RZ{k:AA}(h:Av k=A1)(f:Frame):BI k f=G9 k f:=A8 h
def ajz(n:A7):L (GP n)=[116,97,107,101]++32::L (wr n):=by unfold GP;simp only[GL,L_B];rfl
def ac1{k:AJ}{r:A4}(hk:Aw k=A1):Bd k r=(G8 k r).filter Aw:=by
 unfold Bd FC;rw[A8 hk];cases (G8 k r).filter Aw<;>rfl
def akG{k:AJ}{n:A7}(hn:B3 n=A1):Bx k EO (wr n)=if n.fr=k.id then U else Fj k n:=by
 unfold Bx Gx;by_cases h:n.fr=k.id
 .simp[nW,lC,mw,pr,rW,RE hn,h]
 .simp[nW,lC,mw,pr,rW,RE hn,h]
def pG{k:AJ}{n:A7}(hk:Aw k=A1)(hn:B3 n=A1):Bd k (GP n)=(if n.fr=k.id then U else Fj k n).filter Aw:=by
 rw[ac1 hk,Ko yi<|ajz n,B_L];rw[show Bx k (B [116,97,107,101]) (wr n)=_ from akG hn]
def aqJ{k o:AJ}{n:A7}(hk:Aw k=A1)(hn:B3 n=A1)(h:Bd k (GP n)=I o):kZ k o n:=by
 rw[pG hk hn]at h;have h:=(Po.1 h).1;split at h
 .cases h
 unfold Fj at h;split at h
 .cases h
 split at h
 .cases h
 split at h
 .cases h
 split at h
 .cases h
 split at h
 .cases h
 split at h
 .cases h
 split at h
 .rename_i h1;cases h;exact⟨rfl,rfl,rfl,.inl ⟨BT h1,rfl,rfl,rfl⟩⟩
 .rename_i h1;cases h;exact⟨rfl,rfl,rfl,.inr ⟨by simpa using h1,rfl,rfl,rfl⟩⟩
def apH{k:AA}{st o:AJ}{r:A4}(h:Cj k st)(hr:Bd st r=I o):Safe (wrR k r A1).1 o/\(wrR k r A1).2=A1:=by
 unfold wrR;rw[h.stT,hr];exact⟨⟨Rs<|X4 h hr,rfl⟩,rfl⟩
def afb{k:AA}{st:AJ}{r:A4}{f:Bool}(h:Cj k st)(hr:(wrR k r f).2=A1):∃o,Bd st r=I o:=by
 unfold wrR at hr;rw[h.stT]at hr;cases hc:Bd st r with
 | none=>rw[hc]at hr;cases hr
 | some o=>exact⟨o,rfl⟩
def asD{k:AA}(h:Av k=A1)(hu:k.up=A1){f:Frame}(hf:CP f=A1)(h1:f.ki=1):Cj (GY k<|Db (By (Ab k.AE f).1 (Ab k.AE f).2 f) (Ab k.AE f).2) (stT k):=by
 have kf:=Df h;have hv:=ZN.1 kf.hv;have hp:=Qn hf h1;have Dg:=OK (hv:=k.AE) (f:=f);have Ld:=Ul (hv:=k.AE) (f:=f) kf.hl;have hpf:=fy hv hf h1;have haf:=qo hpf Dg hp.2.1;have hal:(By (Ab k.AE f).1 (Ab k.AE f).2 f).length=(Ab k.AE f).1.length:=by unfold By;rw[Es]
 exact cJ (Co h) hu (by unfold Db;simp;omega)<|aaz haf _
def aDe{k:AA}{f:Frame}(h:Av k=A1){g:Frame}(hg:(BI k f).2=[g])(h2:g.ki=2):∃o,Safe (BI k f).1 o/\(0<=AY o.held f.fr f.nu\/0<=Bo o.marks f.fr f.nu):=by
 have hk:=Co h;rw[RZ h]at hg ⊢;unfold G9 at hg ⊢;split at hg
 .rename_i hc;rw[A8 hc];simp only[AI]at hc;split at hg
  .rename_i h1;rw[A8 h1];unfold G4 at hg ⊢;split at hg
   .cases hg;exact absurd h2 (by show ¬(3:Int)=2;decide)
   .rename_i c1;rw[AB c1];split at hg
    .rename_i c2;rw[A8 c2];exact⟨stT k,⟨Rs hk,rfl⟩,c2⟩
    .rename_i c2;rw[AB c2];split at hg
     .cases hg
     .rename_i c3;rw[AB c3];unfold GG at hg ⊢;split at hg
      .rename_i c4;rw[A8 c4];split at hg
       .rename_i c5;rw[A8 c5];unfold HG at hg ⊢;split at hg
        .rename_i c6;rw[A8 c6];simp only[AI]at c6;have hi:=asD h hc.1 hc.2.1<|BT h1;obtain⟨o,ho⟩:=afb hi c6.2;refine⟨o,(apH hi ho).1, ?_⟩;exact(aqJ hi.kok c6.1 ho).has
        .cases hg
       .cases hg
      .cases hg
  .split at hg<;>cases hg
 .cases hg
end Go.VS
end
end
section
set_option linter.all false
noncomputable section
namespace Go.VS
open Go
def aEz{w:Am}{e:Event}(h1:e.ki=4\/e.ki=5\/e.ki=6)(h:(doM w e).2=A1):inB e.wo 0 ((w.AU.length:Int) - 1)=A1:=by
 unfold doM EJ at h;rw[A8 h1]at h;rcases tf (inB e.wo 0<|(w.AU.length:Int) - 1) with c|c
 .exact c
 .rw[AB (by rw[c];exact D0)]at h;cases h
def ayD{ra:List AT}{i:Nat}(h:i<ra.length):(F7 ra i).length=ra.length - 1:=by
 unfold F7;rw[Ar,DX,Dd];omega
def ln{w:Am}{e:Event}(h1:e.ki=4)(hc:inB e.wo 0 ((w.AU.length:Int) - 1)=A1):
  doM w e=if bA w.B1 (lnk<|pA w.AU e.wo.toNat).toNat then(D2 w (pA w.AU e.wo.toNat)<|if e.kp=0 then F7 w.AU e.wo.toNat else w.AU,A1) else(w,A3):=by
 unfold doM EJ;rw[A8<|.inl h1,A8 hc,AB J,AB J]
def aDz{w:Am}(hr:FU w=A1)(e:Event):FU (Bt w e).1=A1:=by
 rcases OV w e with⟨c,_⟩|⟨_,h⟩|⟨_,c1,c2,h⟩
 .rw[hr]at c;cases c
 .rw[h];exact hr
 .rw[h];exact Ru hr c1 c2
def atT(k:AA)(f:Frame):(BI k f).2=[]\/(CP f=A1/\f.ki=1/\Av k=A1/\ ∃n,(n=2\/n=3)/\(BI k f).2=[Ez n f]):=by
 unfold BI;split
 .rename_i hok;unfold G9;split
  .rename_i hc;simp only[AI]at hc;split
   .rename_i h1;have h1:=BT h1;unfold G4;split
    .exact .inr ⟨hc.2.1,h1,hok,3,.inr rfl,rfl⟩
    .split
     .exact .inr ⟨hc.2.1,h1,hok,2,.inl rfl,rfl⟩
     .split
      .exact .inl rfl
      .unfold GG;split
       .split
        .unfold HG;split
         .exact .inr ⟨hc.2.1,h1,hok,2,.inl rfl,rfl⟩
         .exact .inl rfl
        .exact .inl rfl
       .exact .inl rfl
   .split<;>exact .inl rfl
  .exact .inl rfl
 .exact .inl rfl
def amY{f:Frame}(h:CP f=A1)(h1:f.ki=1){n:Int}(hn:n=2\/n=3):CP (Ez n f)=A1:=by
 obtain⟨a,b,c,d,e,g,t⟩:=Oa h;have h3:=(Qn h h1).2.2;unfold CP LX Ez;simp only[a,b,c,d,e,g,AX];rw[AB (by
  obtain rfl|rfl:=hn
  .show ¬(A0 ((2:Int)=1)=A1);decide
  .show ¬(A0 ((3:Int)=1)=A1);decide)]
 rw[← h3];obtain rfl|rfl:=hn<;>simp
def auu{g:Frame}{o:AJ}{b0:Bool}(hl:o.held.length<=6):
  Tot (im (tF g,tK o,b0,0,())) (Rn (λ_=>False) (λz=>∃b,z=(tF g,tK o,b,())/\(0<=AY o.held g.fr g.nu->b=A1))):=by
 refine Tot.loop (λi s=>∃b,s=(tF g,tK o,b,(i:Int),())/\ ∀j,j<i->(nA o.held j).fr=g.fr->(nA o.held j).nu=g.nu->b=A1) _ o.held.length (λi s hi hs=> ?_) ⟨b0,rfl,λj hj=>absurd hj<|SF _⟩;obtain⟨b,rfl,hg⟩:=hs;unfold pR;refine Tot.ite (λhc=> ?_) (λhc=> ?_)
 .have hc:(i:Int)<(o.held.length:Int):=BT hc;have hi':i<o.held.length:=J
  have hb:=AR hi';refine Tot.pos (by rw[hb];exact Cp _) (Tot.pos (by rw[hb];exact Cp _)<|Tot.ret ⟨hi',_,by rw[show w64 ((i:Int)+1)=_ from NC rfl J],λj hj e1 e2=> ?_⟩);rcases GN j i with h|h
  .rw[hg j h e1 e2];rfl
  .have:j=i:=J
   subst this;show(b||(A0 ((nA o.held j).fr=g.fr)&&A0 ((nA o.held j).nu=g.nu)))=A1;rw[e1,e2];simp
 .have hc:¬(i:Int)<(o.held.length:Int):=IP hc;refine Tot.ret ⟨b,rfl,λh=> ?_⟩;obtain⟨a,_,c,d⟩:=HM h;exact hg _ J c d
def ag9{g:Frame}{o:AJ}{b0:Bool}(hl:o.marks.length<=12):
  Tot (sE (tF g,tK o,b0,0,())) (Rn (λ_=>False) (λz=>∃b,z=(b,())/\(b0=A1->b=A1)/\(0<=Bo o.marks g.fr g.nu->b=A1))):=by
 refine Tot.loop (λi s=>∃b,s=(tF g,tK o,b,(i:Int),())/\(b0=A1->b=A1)/\ ∀j,j<i->(mA o.marks j).mf=g.fr->(mA o.marks j).mn=g.nu->b=A1) _ o.marks.length (λi s hi hs=> ?_) ⟨b0,rfl,id,λj hj=>absurd hj<|SF _⟩;obtain⟨b,rfl,hg0,hg⟩:=hs;unfold gJ;refine Tot.ite (λhc=> ?_) (λhc=> ?_)
 .have hc:(i:Int)<(o.marks.length:Int):=BT hc;have hi':i<o.marks.length:=J
  have hb:=AR hi';refine Tot.pos (by rw[hb];exact Cp _) (Tot.pos (by rw[hb];exact Cp _)<|Tot.ret ⟨hi',_,by rw[show w64 ((i:Int)+1)=_ from NC rfl J],λh=> ?_,λj hj e1 e2=> ?_⟩)
  .rw[hg0 h];rfl
  rcases GN j i with h|h
  .rw[hg j h e1 e2];rfl
  .have:j=i:=J
   subst this;show(b||(A0 ((mA o.marks j).mf=g.fr)&&A0 ((mA o.marks j).mn=g.nu)))=A1;rw[e1,e2];simp
 .have hc:¬(i:Int)<(o.marks.length:Int):=IP hc;refine Tot.ret ⟨b,rfl,hg0,λh=> ?_⟩;obtain⟨a,_,c,d⟩:=awM h;exact hg _ J c d
def aCb{w:Am}(hr:FU w=A1){e:Event}{i:Nat}{k':AA}(hi:i<4)(hd:(doM w e).1=FL w i k'):kA (Bt w e).1.AK i=kA w.AK i\/kA (Bt w e).1.AK i=k':=by
 have kl:=(I4 hr).1.kl;rcases OV w e with⟨c,_⟩|⟨_,h⟩|⟨_,_,c2,h⟩
 .rw[hr]at c;cases c
 .rw[h];exact .inl rfl
 .rw[h];refine .inr ?_;show kA (B8 w e).AK i=k';rw[Pf c2,hd];show kA (w.AK.set i k') i=k';rw[Ks J,A8 rfl]
def ap7{w:Am}(hr:FU w=A1){e:Event}{o:AJ}(h7:e.ki=7)(ha:0<=e.at_/\e.at_<=3)(hs:Safe (kA w.AK e.at_.toNat) o):Cj (kA (Bt w e).1.AK e.at_.toNat) o:=by
 have hd:(doM w e).1=FL w e.at_.toNat (faM (kA w.AK e.at_.toNat) e.kp):=by
  unfold doM Iw;rw[AB J,AB J,A8<|Af.2 ⟨ha.1,ha.2⟩,AB J,AB J,AB J,A8 h7]
 rcases aCb hr J hd with h|h<;>rw[h]
 .exact hs.is
 .exact(xu hs.is hs.fo e.kp).1
def ahS{w:Am}(hr:FU w=A1){e:Event}{o:AJ}(h8:e.ki=8)(ha:0<=e.at_/\e.at_<=3)(hs:Cj (kA w.AK e.at_.toNat) o):Cj (kA (Bt w e).1.AK e.at_.toNat) o:=by
 have hd:(doM w e).1=FL w e.at_.toNat (riM<|kA w.AK e.at_.toNat):=by
  unfold doM Iw;rw[AB J,AB J,A8<|Af.2 ⟨ha.1,ha.2⟩,AB J,AB J,AB J,AB J,A8 h8]
 rcases aCb hr J hd with h|h<;>rw[h]
 .exact hs
 .exact uZ hs
def atk{l m:List Int}(hb:BOk l)(_:BOk m):Uc (l,m,())=I ((A1,()),()):=by
 obtain⟨w,e,hd,sm,_,ht⟩:=eR hb;have ez:noB.size<=1048576:=by decide
 obtain⟨E,hE⟩:∃E:Event,E=⟨4,e.at_,e.fr,e.nu,e.wo,e.mix,0,e.to,e.un,e.tx⟩:=⟨_,rfl⟩;have hk:E.ki=4:=by rw[hE]
 have hkp:E.kp=0:=by rw[hE]
 have ht':E.tx.size<=1048576:=by rw[hE];exact ht
 have eE:((4:Int),e.at_,e.fr,e.nu,e.wo,e.mix,(0:Int),(tE e).2.2.2.2.2.2.2)=tE E:=by rw[hE]
 have sx:=Sv sm E;unfold Uc;apply Tot.val;refine Tot.ite (λ_=>Tot.ret rfl) (λ_=> ?_);refine Tot.bind (Tot.eq hd) λr1 h1=> ?_;subst h1;refine Tot.bind (Tot.eq (show IB (tR w,((4:Int),e.at_,e.fr,e.nu,e.wo,e.mix,(0:Int),(tE e).2.2.2.2.2.2.2),())=_ by rw[eE];exact ZI sm ht')) λr2 h2=>Tot.bind (Tot.eq (show HN (tR w,((4:Int),e.at_,e.fr,e.nu,e.wo,e.mix,(0:Int),(tE e).2.2.2.2.2.2.2),())=_ by rw[eE];exact P0 sm ht')) λr3 h3=> ?_;subst h2 h3;refine Tot.join (A:=λj=>j=(m,tR (Bt w E).1,(Bt w E).2,tR (Bt w E).1,(Bt w E).2,!(Bt w E).2||decide (((Bt w E).1.AU.length:Int)<(w.AU.length:Int)),())) ?_ (λj hj=> ?_)
 .simp only[Iy sx,A9,AS,AD,A6];refine Tot.ite (λhq=>Tot.ret ?_) (λhq=>Tot.ret ?_)
  .rw[hq];rfl
  .rw[hq];rfl
 .subst hj;rcases OV w E with⟨c,h⟩|⟨c,h⟩|⟨c,c1,c2,h⟩
  .rw[h]at sx ⊢;simp only[AG,Bh,A5,Iy sx,CG,Cp,AS,C8,CZ];exact Tot.ret rfl
  .rw[h]at sx ⊢;simp only[AG,Bh,A5,Iy sx,CG,Cp,AS,C8,CZ];exact Tot.ret rfl
  .rw[h]at sx ⊢;simp only[AD,BY];refine Tot.ite (λ_=> ?_) (λhlen=> ?_)
   .simp only[Iy sx,CG,Cp,A5,AS,C8,CZ];exact Tot.ret rfl
   have hlen:¬((B8 w E).AU.length:Int)<(w.AU.length:Int):=IP hlen;have hw:=(I4 c).1;have hi:=aEz (.inl hk) c2;have hi':=Af.1 hi;have hlt:E.wo.toNat<w.AU.length:=J
   have hdw:=ln hk hi;have hp:=MH hw hlt;obtain⟨_,⟨d0,d1⟩,_⟩:=KV hp;have hl:bA w.B1 (lnk<|pA w.AU E.wo.toNat).toNat=A1:=by
    rcases tf (bA w.B1 (lnk<|pA w.AU E.wo.toNat).toNat) with d|d
    .exact d
    .rw[hdw,d]at c2;cases c2
   rw[hl,A8 rfl,A8 hkp]at hdw;have hxr:=Ru c c1 c2;have hx:=(I4 hxr).1;have ex:=Pf c2;rw[hdw]at ex;have ll:=ayD hlt;have rl:=hw.rl;have kl:=hw.kl;obtain⟨p,ep⟩:∃p,p=pA w.AU E.wo.toNat:=⟨_,rfl⟩;rw[← ep]at ex hp d0 d1;obtain⟨f,ef⟩:∃f,f=(CW<|BA p.data).1:=⟨_,rfl⟩;obtain⟨k,ek⟩:∃k,k=kA w.AK p.dst.toNat:=⟨_,rfl⟩;have ahq:Av k=A1:=by rw[ek];exact(hw.k _ J).1
   by_cases hc:((CW<|BA p.data).2&&(A0 ((CW<|BA p.data).1.src=p.src)&&A0 ((CW<|BA p.data).1.dst=p.dst)))=A1
   .have hb1:D2 w p (F7 w.AU E.wo.toNat)=⟨w.ti,w.AK.set p.dst.toNat (BI k f).1,w.B1,CR (F7 w.AU E.wo.toNat) (BI k f).2,w.BJ,w.got⟩:=by
     unfold D2;rw[A8 hc,ef,ek]
    rw[hb1]at ex;simp only[AI,decide_eq_true_eq]at hc;rw[← ef]at hc;rcases atT k f with ha|⟨hf,f1,_,n,hn,ha⟩
    .exfalso;apply hlen;rw[ex];show((CR (F7 w.AU E.wo.toNat) (BI k f).2).length:Int)<_;rw[ha];unfold CR;simp only[List.take_nil,IJ,CH,ll];omega
    .have hgo:=amY hf f1 hn;have xr:(B8 w E).AU=F7 w.AU E.wo.toNat++[pcF (Ez n f)]:=by
      rw[ex];show CR (F7 w.AU E.wo.toNat) (BI k f).2=_;rw[ha];unfold CR;rw[J8 (by simp only[Jg];omega)];rfl
     have xl:(B8 w E).AU.length=w.AU.length:=by
      rw[xr,Ar,ll];show w.AU.length - 1+1=_;omega
     have e1:w64 (((B8 w E).AU.length:Int) - 1)=((w.AU.length - 1:Nat):Int):=by
      rw[xl,Oe sm.rl];omega
     have e2:pA (B8 w E).AU (w.AU.length - 1)=pcF (Ez n f):=by
      rw[xr,pA,BD,EC (by rw[ll];omega),ll,Mj];rfl
     have hsz:(pcF<|Ez n f).data.size<=40:=by
      have:=MH hx (i:=w.AU.length - 1) J;rw[e2]at this;exact(KV this).2.2.1
     have eu:CW (BA (pcF<|Ez n f).data)=(Ez n f,A1):=by
      show CW (BA<|BH<|Cq<|Ez n f)=_;rw[Qq<|Rr _,abU hgo]
     have i1:inb (w64<|((B8 w E).AU.length:Int) - 1) (B8 w E).AU.length=A1:=by
      rw[e1];exact AR J
     have er: @rd AT (dfl .Ai) (B8 w E).AU (w64<|((B8 w E).AU.length:Int) - 1)=pcF (Ez n f):=by
      rw[e1,ku,Bu,e2]
     refine Tot.pos i1 ?_;simp only[er];refine Tot.pos (B9 J) ?_;refine Tot.bind (Tot.eq<|jB<|BOk.str _) λr4 h4=> ?_;subst h4;rw[eu];refine Tot.ite (λ_=>Tot.ret rfl) (λh2=> ?_);have h2:(Ez n f).ki=2:=by
      have h2:(!true|| !decide ((Ez n f).ki=2))=A3:=h2;simpa using h2
     obtain⟨o,hs,ho⟩:=aDe ahq ha h2;have hof:=Cl hs.is.kok;have J7:(Ez n f).src=p.dst:=hc.2.2;have xk:kA (B8 w E).AK p.dst.toNat=(BI k f).1:=by
      rw[ex];show kA (w.AK.set _ _) _=_;rw[Ks J,A8 rfl]
     obtain⟨F,hF⟩:∃F:Event,F=⟨7,p.dst,0,0,0,0,BC (m.length:Int) 30,0,0,noB⟩:=⟨_,rfl⟩;obtain⟨G,hG⟩:∃G:Event,G=⟨8,p.dst,0,0,0,0,0,0,0,noB⟩:=⟨_,rfl⟩;have fat:F.at_=p.dst:=by rw[hF]
     have gat:G.at_=p.dst:=by rw[hG]
     have s1:Cj (kA (Bt (B8 w E) F).1.AK p.dst.toNat) o:=by
      have:=ap7 hxr (e:=F) (o:=o) (by rw[hF]) (by rw[fat];omega) (by rw[fat,xk];exact hs);rw[fat]at this;exact this
     have ry:=aDz hxr F;have s2:Cj (kA (Bt (Bt (B8 w E) F).1 G).1.AK p.dst.toNat) o:=by
      have:=ahS ry (e:=G) (o:=o) (by rw[hG]) (by rw[gat];omega) (by rw[gat];exact s1);rw[gat]at this;exact this
     have kz:=(I4<|aDz ry G).1.kl;have sy:=Sv sx F;rw[show(tF<|Ez n f).2.1=p.dst from J7];refine Tot.bind (Tot.eq (show HN (tR<|B8 w E,((7:Int),p.dst,(0:Int),(0:Int),(0:Int),(0:Int),BC (m.length:Int) 30,(0:Int),(0:Int),noB,()),())=I ((tR (Bt (B8 w E) F).1,(Bt (B8 w E) F).2,()),()) by
      have:=P0 (w:=B8 w E) sx (e:=F) (by rw[hF];exact ez);rw[hF]at this ⊢;exact this)) λr5 h5=> ?_
     subst h5;refine Tot.bind (Tot.eq (show HN (tR (Bt (B8 w E) F).1,((8:Int),p.dst,(0:Int),(0:Int),(0:Int),(0:Int),(0:Int),(0:Int),(0:Int),noB,()),())=I ((tR (Bt (Bt (B8 w E) F).1 G).1,(Bt (Bt (B8 w E) F).1 G).2,()),()) by
      have:=P0 (w:=(Bt (B8 w E) F).1) sy (e:=G) (by rw[hG];exact ez);rw[hG]at this ⊢;exact this)) λr6 h6=> ?_
     subst h6;refine Tot.pos (DC d0 (by rw[kz];omega)) ?_;have E3:=Ie s2.ok;rw[s2.stT]at E3;refine Tot.bind (Tot.eq E3) λr7 h7=> ?_;subst h7;refine Tot.sum (auu hof.hl) (λ_ h=>h.elim) (λz hz=> ?_);obtain⟨b,rfl,hb0⟩:=hz;refine Tot.sum (ag9 hof.ml) (λ_ h=>h.elim) (λz hz=> ?_);obtain⟨b',rfl,hb1,hb2⟩:=hz;have:b'=A1:=by
      obtain ho|ho:=ho
      .exact hb1 (hb0 ho)
      .exact hb2 ho
     subst this;exact Tot.ret rfl
   .exfalso;apply hlen;rw[ex];show((D2 w p<|F7 w.AU E.wo.toNat).AU.length:Int)<_;unfold D2;rw[AB hc];show((F7 w.AU E.wo.toNat).length:Int)<_;rw[ll];omega
end Go.VS
end
end
