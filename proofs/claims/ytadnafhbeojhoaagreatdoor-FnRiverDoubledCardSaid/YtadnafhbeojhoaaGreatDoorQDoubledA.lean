/- Part 22. -/
import Derived.Test.YtadnafhbeojhoaaGreatDoorQAU
set_option linter.unusedVariables false
set_option linter.unusedSimpArgs false
set_option linter.defProp false
open Bool renaming and_eq_true->AI,and_self->CZ,eq_iff_iff->Iz,false->A3,false_ne_true->D0,not_eq_true'->DR,not_false->AG,not_true->AD,true->A1,true_and->AX
open Classical renaming byContradiction->fc
open Decidable renaming decide->A0
open Go.Lib renaming itoa->BB
open Int renaming not_lt->Sc,toNat->AM
open List renaming filter_cons->J6,filter_eq_self->yc,filter_nil->Ti,foldl_cons->Dx,getD_eq_getElem?_getD->BD,getElem?_append_left->G0,getElem?_eq_getElem->Ax,getElem?_replicate->UP,getElem_mem->CQ,length_append->Ar,length_drop->Dd,length_filter_le->IG,length_set->Es,length_take->DX,mem_append->Br,mem_filter->Gy,mem_iff_getElem->Ua,mem_of_mem_drop->Io,mem_singleton_self->LN,replicate->BW
open Nat renaming le_refl->As,lt_trichotomy->I8,not_lt_zero->SF
open Option renaming bind_some->A9,filter_eq_some_iff->Po,getD_some->C8,isSome_some->CG,none->U,some->I
section
set_option linter.all false
noncomputable section
namespace Go.VS
open Go Go.Proofs
set_option maxRecDepth 100000
def afg:Cx:=cX [] [] []
def aDP:OKC Tryz.prog afg AF:=okc mixed<|AL
def SL(x:List Mark×List Mark×Int×A2):Rnd (List Mark×List Mark×Int×A2) (Bool×A2) (A2):=if A0 (x.2.2.1<(x.1.length:Int)) then if inb x.2.2.1 x.1.length then if inb x.2.2.1 x.2.1.length then if !(A0 ((rd (dfl .mark) x.1 x.2.2.1).mf=(rd (dfl .mark) x.2.1 x.2.2.1).mf)&&(A0 ((rd (dfl .mark) x.1 x.2.2.1).mn=(rd (dfl .mark) x.2.1 x.2.2.1).mn)&&(A0 ((rd (dfl .mark) x.1 x.2.2.1).mu=(rd (dfl .mark) x.2.1 x.2.2.1).mu)&&A1))) then I (.inr<|.inl (A3,())) else I (.inl (x.1,x.2.1,(w64<|x.2.2.1+1),())) else U else U else I (.inr<|.inr ())
def pf:=AW SL
def ug:Loop:=⟨[(0,.sl .mark),(1,.sl .mark),(5,.int .i64)],[],0,[(4,.bool)],pf⟩
def am4:LF Tryz.f29 [] [1,1,0,1,0,0] ug:=sq (v:= .nil) aDP (b:=SL) kN
def VA(x:List Mark×List Mark×A2):Option ((Bool×A2)×A2):=if !decide ((x.1.length:Int)=(x.2.1.length:Int)) then I ((A3,()),()) else(AO (pf (x.1,x.2.1,0,())) (λa=>I (a,())) λa=>I ((A1,()),()))
def wq:Ent:=(29,U,⟨[.fz .mark,.fz .mark],[.bool],VA⟩)
def aqN:SQ Tryz.prog wq:=sk (v:=t1<|t1<|.two (t1<|.one<|.loop ug) .nil) (fn:=Tryz.f29) aDP<|kC am4 kN
def ajt:Cx:=cX [mT,wq] [] [(39,43)]
def arj:OKC Tryz.prog ajt AF:=okc mixed<|gC aA1<|gC aqN<|AL
def Px(x:Y4×Y4×A2):Option ((Bool×A2)×A2):=if A0 (x.1.1=x.2.1.1) then if A0 (x.1.2.1=x.2.1.2.1) then if A0 (x.1.2.2.1=x.2.1.2.2.1) then(Hz (x.1.2.2.2.1,x.2.1.2.2.2.1,())).bind λb=>if b.1.1 then(VA (x.1.2.2.2.2.1,x.2.1.2.2.2.2.1,())).bind λa=>if Ad a.1.1 ((Hz (x.1.2.2.2.2.2.1,x.2.1.2.2.2.2.2)).isSome) then let c:=(a.1.1&&(((Hz (x.1.2.2.2.2.2.1,x.2.1.2.2.2.2.2)).getD ((A3,()),())).1.1));I ((c,()),()) else U else if Ad A3 ((Hz (x.1.2.2.2.2.2.1,x.2.1.2.2.2.2.2)).isSome) then I ((A3,()),()) else U else if Ad A3 ((Hz (x.1.2.2.2.2.2.1,x.2.1.2.2.2.2.2)).isSome) then I ((A3,()),()) else U else if Ad A3 ((Hz (x.1.2.2.2.2.2.1,x.2.1.2.2.2.2.2)).isSome) then I ((A3,()),()) else U else if Ad A3 ((Hz (x.1.2.2.2.2.2.1,x.2.1.2.2.2.2.2)).isSome) then I ((A3,()),()) else U
def ZQ:Ent:=(11,U,⟨[Z10,Z10],[.bool],Px⟩)
def oY:SQ Tryz.prog ZQ:=sk (v:= .nil) (fn:=Tryz.f11) arj kN
def akk:Cx:=cX [SD,VE,UE,Tq,ZQ,JC] [] [(51,53)]
def aCr:OKC Tryz.prog akk AF:=okc mixed<|gC WV<|gC cK<|gC bd<|gC fB<|gC oY<|gC KQ<|AL
def T3(x:Y2×Y2×Int×A2):Rnd (Y2×Y2×Int×A2) (Bool×A2) (A2):=if A0 (x.2.2.1<(x.1.2.1.length:Int)) then if inb x.2.2.1 x.2.1.2.1.length then(Gq (((rd (dfl .AN) x.2.1.2.1 x.2.2.1).id,(rd (dfl .AN) x.2.1.2.1 x.2.2.1).up,(rd (dfl .AN) x.2.1.2.1 x.2.2.1).log,(rd (dfl .AN) x.2.1.2.1 x.2.2.1).fo,(rd (dfl .AN) x.2.1.2.1 x.2.2.1).AE,()),())).bind λa=>if inb x.2.2.1 x.1.2.1.length then(Gq (((rd (dfl .AN) x.1.2.1 x.2.2.1).id,(rd (dfl .AN) x.1.2.1 x.2.2.1).up,(rd (dfl .AN) x.1.2.1 x.2.2.1).log,(rd (dfl .AN) x.1.2.1 x.2.2.1).fo,(rd (dfl .AN) x.1.2.1 x.2.2.1).AE,()),())).bind λb=>(Px (a.1.1,b.1)).bind λc=>if !c.1.1 then I (.inr<|.inl (A3,())) else I (.inl (x.1,x.2.1,(w64<|x.2.2.1+1),())) else U else U else I (.inr<|.inr ())
def eH:=AW T3
def aD7:Loop:=⟨[(7,Z29),(9,Z2),(11,.int .i64)],[],0,[(2,.bool)],eH⟩
def aeA:LF Tryz.f5 [] [1,1,1,1,1,1,1,1,1,1,0,1,0,0] aD7:=sq (v:= .nil) aCr (b:=T3) kN
def SS(x:List Int×A2):Option ((Bool×A2)×A2):=if A0 (1048576<(x.1.length:Int)) then I ((A1,()),()) else(O8 x).bind λa=>(IB (a.1.1,(4,a.1.2.1.2.1,a.1.2.1.2.2.1,a.1.2.1.2.2.2.1,a.1.2.1.2.2.2.2.1,a.1.2.1.2.2.2.2.2.1,1,a.1.2.1.2.2.2.2.2.2.2),())).bind λd=>(HN (a.1.1,(4,a.1.2.1.2.1,a.1.2.1.2.2.1,a.1.2.1.2.2.2.1,a.1.2.1.2.2.2.2.1,a.1.2.1.2.2.2.2.2.1,1,a.1.2.1.2.2.2.2.2.2.2),())).bind λc=>(BF (X:=Y2×Y3×Y2×Bool×Y2×Bool×Bool×A2) (λb=>if b.2.2.2.2.2.2.1 then if Ad (A0<|b.2.2.2.2.2.1=b.2.2.2.1) ((Hl (b.2.2.2.2.1,b.2.2.1,())).isSome) then let g:=((A0<|b.2.2.2.2.2.1=b.2.2.2.1)&&(((Hl (b.2.2.2.2.1,b.2.2.1,())).getD ((A3,()),())).1.1));I ((g,()),()) else U else(HN (b.2.2.2.2.1,b.2.1,())).bind λe=>if !e.1.2.1 then let h:=(A0<|99999<=(w64<|b.1.1+1));I ((h,()),()) else(AO (eH (b.2.2.2.2.1,e.1.1,0,())) (λf=>I (f,())) λf=>I ((A1,()),())))<|(if !decide (c.1.2.1=d.1.2.1) then I (.inr (a.1.1,(4,a.1.2.1.2.1,a.1.2.1.2.2.1,a.1.2.1.2.2.2.1,a.1.2.1.2.2.2.2.1,a.1.2.1.2.2.2.2.2.1,1,a.1.2.1.2.2.2.2.2.2.2),d.1.1,d.1.2.1,c.1.1,c.1.2.1,A1,())) else(Hl (c.1.1,d.1.1,())).bind λi=>if !i.1.1 then I (.inr (a.1.1,(4,a.1.2.1.2.1,a.1.2.1.2.2.1,a.1.2.1.2.2.2.1,a.1.2.1.2.2.2.2.1,a.1.2.1.2.2.2.2.2.1,1,a.1.2.1.2.2.2.2.2.2.2),d.1.1,d.1.2.1,c.1.1,c.1.2.1,A1,())) else I (.inr (a.1.1,(4,a.1.2.1.2.1,a.1.2.1.2.2.1,a.1.2.1.2.2.2.1,a.1.2.1.2.2.2.2.1,a.1.2.1.2.2.2.2.2.1,1,a.1.2.1.2.2.2.2.2.2.2),d.1.1,d.1.2.1,c.1.1,c.1.2.1,(!c.1.2.1),()))))
def ahu:Ent:=(5,U,⟨[.fz .u8],[.bool],SS⟩)
def amg:SQ Tryz.prog ahu:=sk (v:=t1<|t1<|t1<|t1<|t1<|t1<|t1<|.two (.join [(3,Z29),(4,Z27),(5,Z2),(6,.bool),(7,Z2),(8,.bool),(46,.bool)] .nil .nil)<|t1<|t1<|.two (t1<|.one<|.loop aD7) .nil) (fn:=Tryz.f5) aCr<|kC aeA kN
end Go.VS
end
end
section
set_option linter.all false
noncomputable section
namespace Go.VS
open Go
def aiH{b:Nat}{u:Nat}{kn kn':List A4}{m:AQ}(h:CN b kn)(hu:u ∉ BV (b:Int) m.nu)(hk:unk kn u=A1)(e:Dl b kn m=I kn'):unk kn' u=A1:=by
 unfold Dl at e;split at e
 .split at e
  .rename_i v hv;injection e with e;subst e;have Eu:v∈Cm kn (BV (b:Int) m.nu):=by rw[hv];exact LN v
   obtain⟨h1,h2⟩:=Gy.1 Eu;have h3:=KA h1;unfold unk;rw[RD _ (by rw[h.1];omega),AB (λe2:u=v=>hu (by rw[e2];exact h1))];exact hk
  .cases e
 .cases e
def abO{u:Nat}:∀ {l:List A4} {a:A4},u<l.length->bsA l u=noB->FA l a=U
 | [],_,h,_=>absurd h (SF _)
 | x::l,a,h,e=>by
  unfold FA;split
  .rfl
  .rename_i hx;cases u with
   | zero=>exact absurd e hx
   | succ u=>exact abO (u:=u) (by simpa using h)<|by simpa[bsA] using e
def wH{b:Nat}{m:AQ}{u:Nat}(hb:2<=b):∀(n:Nat) (kn:List A4),CN b kn->(∀k,k≠u->unk kn k=A1)->(BV (b:Int) m.nu=[u]\/((∀k,unk kn k=A1)/\ ∀v,BV (b:Int) m.nu≠[v]))->∀k,k≠u->unk (F2 b [m] n kn) k=A1
 | 0,_,_,h,_=>h
 | n+1,kn,hk,h,hm=>by
  have hr:FR b [m] kn=C5 b (kn,A3) m:=rfl;have key:CN b (FR b [m] kn).1/\(∀k,k≠u->unk (FR b [m] kn).1 k=A1)/\(BV (b:Int) m.nu=[u]\/((∀k,unk (FR b [m] kn).1 k=A1)/\ ∀v,BV (b:Int) m.nu≠[v])):=by
   rw[hr];unfold C5;split
   .rename_i kn' e;refine⟨(QT hk e).1, ?_⟩;obtain hm|⟨ha,hm⟩:=hm
    .refine⟨λk hne=> ?_,.inl hm⟩;exact aiH hk (by rw[hm];simpa using hne) (h k hne) e
    .exfalso;unfold Dl at e;split at e
     .split at e
      .rename_i v hv;unfold Cm at hv;rw[yc.2 λk _=>ha k]at hv;exact hm v hv
      .cases e
     .cases e
   .exact⟨hk,h,hm⟩
  unfold F2;split
  .exact wH hb n _ key.1 key.2.1 key.2.2
  .exact key.2.1
def vL(b:Nat)(k:Nat):unk (BW b noB) k=A1:=by
 unfold unk;rw[bsA,BD,UP];split<;>rfl
def awK{s:Int}(hs:5<=s)(m:AQ):(Ch s [m]).2=A3:=by
 rcases tf (inB s 1 24) with h|h
 .have h':=Af.1 h;have hb:2<=(s.toNat+3) / 4:=J
  rw[iI h];have hk:=CN.new<|(s.toNat+3) / 4;have PI:∃u,BV (((s.toNat+3) / 4:Nat):Int) m.nu=[u]\/((∀k,unk (BW ((s.toNat+3) / 4) noB) k=A1)/\ ∀v,BV (((s.toNat+3) / 4:Nat):Int) m.nu≠[v]):=by
   by_cases hv:∃v,BV (((s.toNat+3) / 4:Nat):Int) m.nu=[v]
   .obtain⟨v,hv⟩:=hv;exact⟨v,.inl hv⟩
   .exact⟨0,.inr ⟨vL _,λv e=>hv ⟨v,e⟩⟩⟩
  obtain⟨u,hu⟩:=PI;have h1:=wH hb 7 _ hk (λk _=>vL _ k) hu;have h2:=Zr [m] 7 _ hk;have hj:∃j,j<(s.toNat+3) / 4/\j≠u:=by
   by_cases e:u=0
   .exact⟨1,J,J⟩
   .exact⟨0,J,λe'=>e e'.symm⟩
  obtain⟨j,hj,hne⟩:=hj;rw[abO (u:=j) (by rw[h2.1];exact hj)<|BT<|h1 j hne]
 .unfold Ch;rw[h,A6]
def RZ{k:AA}(h:Av k=A1)(f:Frame):BI k f=G9 k f:=A8 h
def apK:Cs [108,101,116]:=by unfold Cs;decide
def ajz(n:A7):L (GP n)=[116,97,107,101]++32::L (wr n):=by unfold GP;simp only[GL,L_B];rfl
def ac1{k:AJ}{r:A4}(hk:Aw k=A1):Bd k r=(G8 k r).filter Aw:=by
 unfold Bd FC;rw[A8 hk];cases (G8 k r).filter Aw<;>rfl
def akG{k:AJ}{n:A7}(hn:B3 n=A1):Bx k EO (wr n)=if n.fr=k.id then U else Fj k n:=by
 unfold Bx Gx;by_cases h:n.fr=k.id
 .simp[nW,lC,mw,pr,rW,RE hn,h]
 .simp[nW,lC,mw,pr,rW,RE hn,h]
def pG{k:AJ}{n:A7}(hk:Aw k=A1)(hn:B3 n=A1):Bd k (GP n)=(if n.fr=k.id then U else Fj k n).filter Aw:=by
 rw[ac1 hk,Ko yi<|ajz n,B_L];rw[show Bx k (B [116,97,107,101]) (wr n)=_ from akG hn]
def aqJ{k o:AJ}{n:A7}(hk:Aw k=A1)(hn:B3 n=A1)(h:Bd k (GP n)=I o):kZ k o n:=by
 rw[pG hk hn]at h;have h:=(Po.1 h).1;split at h
 .cases h
 unfold Fj at h;split at h
 .cases h
 split at h
 .cases h
 split at h
 .cases h
 split at h
 .cases h
 split at h
 .cases h
 split at h
 .cases h
 split at h
 .rename_i h1;cases h;exact⟨rfl,rfl,rfl,.inl ⟨BT h1,rfl,rfl,rfl⟩⟩
 .rename_i h1;cases h;exact⟨rfl,rfl,rfl,.inr ⟨by simpa using h1,rfl,rfl,rfl⟩⟩
def apH{k:AA}{st o:AJ}{r:A4}(h:Cj k st)(hr:Bd st r=I o):Safe (wrR k r A1).1 o/\(wrR k r A1).2=A1:=by
 unfold wrR;rw[h.stT,hr];exact⟨⟨Rs<|X4 h hr,rfl⟩,rfl⟩
def afb{k:AA}{st:AJ}{r:A4}{f:Bool}(h:Cj k st)(hr:(wrR k r f).2=A1):∃o,Bd st r=I o:=by
 unfold wrR at hr;rw[h.stT]at hr;cases hc:Bd st r with
 | none=>rw[hc]at hr;cases hr
 | some o=>exact⟨o,rfl⟩
def asD{k:AA}(h:Av k=A1)(hu:k.up=A1){f:Frame}(hf:CP f=A1)(h1:f.ki=1):Cj (GY k<|Db (By (Ab k.AE f).1 (Ab k.AE f).2 f) (Ab k.AE f).2) (stT k):=by
 have kf:=Df h;have hv:=ZN.1 kf.hv;have hp:=Qn hf h1;have Dg:=OK (hv:=k.AE) (f:=f);have Ld:=Ul (hv:=k.AE) (f:=f) kf.hl;have hpf:=fy hv hf h1;have haf:=qo hpf Dg hp.2.1;have hal:(By (Ab k.AE f).1 (Ab k.AE f).2 f).length=(Ab k.AE f).1.length:=by unfold By;rw[Es]
 exact cJ (Co h) hu (by unfold Db;simp;omega)<|aaz haf _
def aDe{k:AA}{f:Frame}(h:Av k=A1){g:Frame}(hg:(BI k f).2=[g])(h2:g.ki=2):∃o,Safe (BI k f).1 o/\(0<=AY o.held f.fr f.nu\/0<=Bo o.marks f.fr f.nu):=by
 have hk:=Co h;rw[RZ h]at hg ⊢;unfold G9 at hg ⊢;split at hg
 .rename_i hc;rw[A8 hc];simp only[AI]at hc;split at hg
  .rename_i h1;rw[A8 h1];unfold G4 at hg ⊢;split at hg
   .cases hg;exact absurd h2 (by show ¬(3:Int)=2;decide)
   .rename_i c1;rw[AB c1];split at hg
    .rename_i c2;rw[A8 c2];exact⟨stT k,⟨Rs hk,rfl⟩,c2⟩
    .rename_i c2;rw[AB c2];split at hg
     .cases hg
     .rename_i c3;rw[AB c3];unfold GG at hg ⊢;split at hg
      .rename_i c4;rw[A8 c4];split at hg
       .rename_i c5;rw[A8 c5];unfold HG at hg ⊢;split at hg
        .rename_i c6;rw[A8 c6];simp only[AI]at c6;have hi:=asD h hc.1 hc.2.1<|BT h1;obtain⟨o,ho⟩:=afb hi c6.2;refine⟨o,(apH hi ho).1, ?_⟩;exact(aqJ hi.kok c6.1 ho).has
        .cases hg
       .cases hg
      .cases hg
  .split at hg<;>cases hg
 .cases hg
def aoB{k:AJ}{m:Mark}{r:A4}(ht:HD r=I m):Bx k CY r=if FQ k.held m then I ⟨k.id,k.ti,k.nx,H8 k.held (AY k.held m.mf m.mn).toNat,ET k.marks m,k.inbox⟩ else U:=by
 unfold Bx FM;cases h:FQ k.held m<;>simp[jM,rJ,sL,iq,gO,iJ,gV,lY,ht,h]
def asT{k:AJ}{a b c:Int}(hk:Aw k=A1)(ha:0<=a/\a<=999)(hb:0<=b/\b<=999)(hc:0<=c/\c<=999):
  Bd k (Dh CY a b c)=(if FQ k.held ⟨a,b,c⟩ then I ⟨k.id,k.ti,k.nx,H8 k.held (AY k.held a b).toNat,ET k.marks ⟨a,b,c⟩,k.inbox⟩ else U).filter Aw:=by
 have h3:=rO (r:=B<|BB a++32::(BB b++32::BB c)) (a:=a) (b:=b) (c:=c) J J J J J J<|L_B _;rw[ac1 hk,Ko apK<|ji CY a b c];rw[show Bx k (B [108,101,116]) _=_ from aoB h3]
def qi{n:Nat}{p q:Nat->Bool}(h:∀i,i<n->p i=q i):Ae n p=Ae n q:=by
 rw[Iz,CO,CO];exact⟨λa i hi=>by rw[← h i hi];exact a i hi,λa i hi=>by rw[h i hi];exact a i hi⟩
def abj{l m:List A7}(h:OJ l m):EL l=EL m:=by
 unfold EL;rw[h.len];refine qi λi _=> ?_;rw[(h.nA i).ok,(h.nA i).fr,(h.nA i).nu,(h.nA<|i - 1).fr,(h.nA<|i - 1).nu]
def vR{id ti nx:Int}{held UI inbox WC:List A7}{marks:List Mark}(h:OJ held UI)(g:OJ inbox WC):Aw ⟨id,ti,nx,held,marks,inbox⟩=Aw ⟨id,ti,nx,UI,marks,WC⟩:=by
 unfold Aw;simp only;rw[abj h,abj g,h.len,g.len];have e1:Ae UI.length (Gj id ti nx held marks)=Ae UI.length (Gj id ti nx UI marks):=qi λi _=>by
  unfold Gj;rw[(h.nA i).fr,(h.nA i).nu,(h.nA i).to',(h.nA i).un]
 have e2:Ae WC.length (IM id ti nx marks inbox)=Ae WC.length (IM id ti nx marks WC):=qi λi _=>by
  unfold IM;rw[(g.nA i).fr,(g.nA i).nu,(g.nA i).to',(g.nA i).un]
 rw[e1,e2]
def azD{k:AJ}{a b:A7}(h:RG a b):(Fj k a).filter Aw=U->(Fj k b).filter Aw=U:=by
 have k1:Aw ⟨k.id,k.ti,k.nx,k.held,ET k.marks ⟨b.fr,b.nu,b.un⟩,Cu k.inbox a⟩=Aw ⟨k.id,k.ti,k.nx,k.held,ET k.marks ⟨b.fr,b.nu,b.un⟩,Cu k.inbox b⟩:=vR (.refl _)<|.ins h _;have k2:Aw ⟨k.id,k.ti,k.nx,Cu k.held a,k.marks,k.inbox⟩=Aw ⟨k.id,k.ti,k.nx,Cu k.held b,k.marks,k.inbox⟩:=vR (.ins h _)<|.refl _;unfold Fj;rw[h.ok,h.fr,h.nu,h.to',h.un];generalize (⟨k.id,k.ti,k.nx,k.held,ET k.marks ⟨b.fr,b.nu,b.un⟩,Cu k.inbox a⟩:AJ)=x1 at *;generalize (⟨k.id,k.ti,k.nx,k.held,ET k.marks ⟨b.fr,b.nu,b.un⟩,Cu k.inbox b⟩:AJ)=x2 at *;generalize (⟨k.id,k.ti,k.nx,Cu k.held a,k.marks,k.inbox⟩:AJ)=y1 at *;generalize (⟨k.id,k.ti,k.nx,Cu k.held b,k.marks,k.inbox⟩:AJ)=y2 at *;generalize (!B3 b)=c1;generalize A0 (b.un<=k.ti)=c2;generalize A0 (0<=AY k.held b.fr b.nu)=c3;generalize A0 (0<=AY k.inbox b.fr b.nu)=c4;generalize A0 (0<=Bo k.marks b.fr b.nu)=c5;generalize A0 (12<(k.held.length:Int)+k.marks.length+1)=c6;generalize A0 (b.to=k.id)=c7;cases c1<;>cases c2<;>cases c3<;>cases c4<;>cases c5<;>cases c6<;>cases c7<;>simp[Option.filter,k1,k2]
def axa{k:AJ}{a b:A7}(hk:Aw k=A1)(h:RG a b)(ha:B3 a=A1)(e:Bd k (GP a)=U):Bd k (GP b)=U:=by
 rw[pG hk ha]at e;rw[pG hk (by rw[← h.ok];exact ha),← h.fr];split
 .rfl
 .rename_i h1;rw[AB h1]at e;exact azD h e
def alJ{o:AJ}(h:Aw o=A1){a b:Int}(hm:0<=Bo o.marks a b):AY o.held a b<0:=by
 rcases Vc o.held a b with h1|h1
 .omega
 .exfalso;obtain⟨h2,_,h3,h4⟩:=HM h1;have:=(Cl h).ho _ h2;unfold Gj at this;simp only[AI,decide_eq_true_eq]at this;have h5:=this.2.2.2;rw[h3,h4]at h5;omega
def yB{x y:AA}(h1:x.id=y.id)(h2:x.log=y.log):stT x=stT y:=by
 unfold stT;rw[h1,h2]
def aeT{v:A4}(hv:v≠noB)(m:AQ):Dl 1 [v] m=U:=by
 unfold Dl;split
 .rename_i hc;rw[AI]at hc;rw[show((1:Nat):Int)=1 from rfl,o3 hc.1];have:Cm [v] [0]=[]:=by
   unfold Cm unk;rw[J6,Ti,AB<|by simpa[bsA] using hv]
  rw[this]
 .rfl
def qG{v:A4}(hv:v≠noB)(b:Bool):∀list:List AQ,list.foldl (C5 1) ([v],b)=([v],b)
 | []=>rfl
 | m::list=>by
  rw[Dx,Re b<|aeT hv m];exact qG hv b list
def afW{m:AQ}(hf:HZ m)(r:List AQ):F2 1 (m::r) 7 (BW 1 noB)=[m.da]:=by
 have hd:m.da≠noB:=λe=>by
  have:=hf.2;rw[e]at this;exact absurd this<|by decide
 have h1:Dl 1 [noB] m=I [m.da]:=by
  unfold Dl;rw[A8 (by rw[AI];exact⟨hf.1,AZ hf.2⟩),show((1:Nat):Int)=1 from rfl,o3 hf.1];have e1:Cm [noB] [0]=[0]:=rfl;have e2:E8 [noB] [0] (L m.da)=L m.da:=rfl;rw[e1];simp only[e2,B_L];rfl
 have h2:FR 1 (m::r) [noB]=([m.da],A1):=by
  unfold FR;rw[Dx,qh A3 h1];exact qG hd A1 r
 have h3:FR 1 (m::r) [m.da]=([m.da],A3):=qG hd A3<|m::r;show F2 1 (m::r) 7 [noB]=_;rw[F2,h2,A8 rfl,F2,h3,A6]
def apy{s:Int}(h:inB s 1 24=A1)(h4:s<=4){m:AQ}(hf:HZ m)(r:List AQ):Ch s (m::r)=if JV m.da s.toNat then(m.da.extract 0 s.toNat,A1) else(noB,A3):=by
 have h':=Af.1 h;rw[iI h,show(s.toNat+3) / 4=1 by omega,afW hf];have hd:m.da≠noB:=λe=>by
  have:=hf.2;rw[e]at this;exact absurd this<|by decide
 have:FA [m.da] noB=I m.da:=by
  unfold FA;rw[AB hd];unfold FA;congr 1
 rw[this]
abbrev HH:A4:=B [97,98,99,100]
def aoL{s:Int}(h:inB s 1 24=A1)(h4:s<=4){n:Int}(hn:inB n 0 999=A1){r:List AQ}(ht:(Ch s<|⟨n,HH⟩::r).2=A1):(Ch s<|⟨n,HH⟩::r).1=HH:=by
 have h':=Af.1 h;have Jc:HZ ⟨n,HH⟩:=⟨hn,show(HH.size:Int)=4 by decide⟩;rw[apy h h4 Jc r]at ht ⊢;have hs:s=1\/s=2\/s=3\/s=4:=J
 obtain rfl|rfl|rfl|rfl:=hs
 .have ht':(if JV HH (AM 1) then(HH.extract 0<|AM 1,A1) else(noB,A3)).2=A1:=ht;exact absurd ht' (by decide)
 .have ht':(if JV HH (AM 2) then(HH.extract 0<|AM 2,A1) else(noB,A3)).2=A1:=ht;exact absurd ht' (by decide)
 .have ht':(if JV HH (AM 3) then(HH.extract 0<|AM 3,A1) else(noB,A3)).2=A1:=ht;exact absurd ht' (by decide)
 .rfl
def aBE{x:AA}{f:Frame}(h:Mk (hA (Ab x.AE f).1 (Ab x.AE f).2) f=A3\/(Ch f.sz<|CC (hA (Ab x.AE f).1 (Ab x.AE f).2).got f.mix f.da).2=A3):(GG x f).1.log=x.log/\(GG x f).1.fo=x.fo:=by
 unfold GG;obtain h|h:=h
 .rw[h,A6];exact⟨rfl,rfl⟩
 .split
  .rw[h,A6];exact⟨rfl,rfl⟩
  .exact⟨rfl,rfl⟩
def aql{l:List AH}(nd:(l.map G6).Nodup){i:Nat}(hi:i<l.length){a b:Int}(h1:(hA l i).fr=a)(h2:(hA l i).nu=b):Du l a b=(i:Int):=by
 rcases NV l a b with h|⟨j,h3,h4,h5,h6⟩
 .exfalso;rcases FO l.length (λi=>A0 ((hA l i).fr=a)&&A0 ((hA l i).nu=b)) with⟨_,g⟩|⟨c,g,_⟩
  .have:=g i hi;rw[h1,h2]at this;simp at this
  .have:Du l a b=(c:Int):=g;omega
 .rw[h3];have key:∀(p q:Nat) (hp:p<l.length) (hq:q<l.length),G6 l[p]=G6 l[q]->p=q:=by
   intro p q hp hq e;rcases I8 p q with h|h|h
   .exact absurd e (Nf.1 nd q p hq hp h)
   .exact h
   .exact absurd e.symm (Nf.1 nd p q hp hq h)
  rw[FZ hi]at h1 h2;rw[FZ h4]at h5 h6;rw[key j i h4 hi (by unfold G6;rw[h1,h2,h5,h6])]
def aok{l:List AH}{a b:Int}(h:∀x∈l,G6 x≠(a,b)):Du l a b<0:=by
 rcases NV l a b with h1|⟨j,h3,h4,h5,h6⟩
 .exact h1
 .refine absurd ?_<|h _<|CQ h4;rw[FZ h4]at h5 h6;unfold G6;rw[h5,h6]
def as0{l:List AH}(nd:(l.map G6).Nodup){i:Nat}(hi:i<l.length){f:Frame}(h1:(hA l i).fr=f.fr)(h2:(hA l i).nu=f.nu):Ab l f=(l,i):=by
 unfold Ab;rw[aql nd hi h1 h2,AB J];rfl
def aqS(hv:List AH)(f:Frame):(hA (Ab hv f).1 (Ab hv f).2).fr=f.fr/\(hA (Ab hv f).1 (Ab hv f).2).nu=f.nu:=by
 rcases Vp hv f with⟨i,e,_,h1,h2,_⟩|⟨_,l,_,e⟩
 .rw[e];exact⟨h1,h2⟩
 .rw[e,S2];exact⟨rfl,rfl⟩
def xT{l:List AH}{i:Nat}(hi:i<l.length)(f:Frame):hA (By l i f) i=⟨(hA l i).fr,(hA l i).nu,(hA l i).to,(hA l i).un,(hA l i).sz,CC (hA l i).got f.mix f.da⟩:=by
 unfold By;exact nq hi _
def awH{mix:Int}{da:A4}{l:List AQ}(h:∀m∈l,m.nu≠mix):(l++[(⟨mix,da⟩:AQ)]).filter (Ct mix)=l:=by
 have e:Ct mix ⟨mix,da⟩=A3:=by unfold Ct;simp
 rw[jq,yc.2 (λm hm=>by unfold Ct;simp[h m hm]),e];simp
def aeF(got:List AQ)(mix:Int)(da:A4)(_:got.length<=14):CC (CC got mix da) mix da=CC got mix da:=by
 unfold CC;have hf:∀m∈got.filter (Ct mix),m.nu≠mix:=λm hm=>by
  have:=(Gy.1 hm).2;unfold Ct at this;simpa using this
 have hlen:=IG (Ct mix) got;have Jd:∃A:List AQ,A=(if 14<=(got.filter<|Ct mix).length then(got.filter<|Ct mix).drop 1 else got.filter (Ct mix))/\(∀m∈A,m.nu≠mix)/\A.length<14:=by
  refine⟨_,rfl, ?_, ?_⟩
  .split
   .exact λm hm=>hf m (Io hm)
   .exact hf
  .split
   .rw[Dd];omega
   .omega
 obtain⟨A,e,h1,h2⟩:=Jd;rw[← e,awH h1,AB J]
def an1{f:Frame}(h:CP f=A1){tx:A4}(ht:LC tx=A1):B3 ⟨f.fr,f.nu,f.to,f.un,tx⟩=A1:=by
 have hr:=Oa h;unfold B3;simp only[hr.2.2.1,hr.2.2.2.1,hr.2.2.2.2.1,hr.2.2.2.2.2.1,ht,CZ]
def adU{x:AA}{n:A7}{f:Frame}(h:B3 n=A1->Bd (stT x) (GP n)=U):(HG x n f).1=x/\(HG x n f).2=[]:=by
 unfold HG;split
 .rename_i hc;simp only[AI]at hc;have h1:=hc.2;unfold wrR at h1;rw[h hc.1]at h1;cases h1
 .exact⟨rfl,rfl⟩
def aEE{x:AA}(ok:Av x=A1){f:Frame}(hu:x.up=A1)(hf:CP f=A1)(hd:f.dst=x.id)(h1:f.ki=1)(c1:¬f.un<=(stT x).ti)(c2:¬(0<=AY (stT x).held f.fr f.nu\/0<=Bo (stT x).marks f.fr f.nu))(c3:¬f.fr=x.id):BI x f=GG x f:=by
 rw[RZ ok];unfold G9;rw[A8 (by rw[hu,hf,AZ hd];rfl),A8<|AZ h1];unfold G4;rw[AB c1,AB c2,AB c3]
def ala{k:AA}{f:Frame}(ok:Av k=A1)(ho:LZ k.AE):(BI (BI k f).1 f).1.log=(BI k f).1.log/\(BI (BI k f).1 f).1.fo=(BI k f).1.fo:=by
 have okx:=jX ok f;have hid:=nQ ok f;have same:(BI k f).1=k->(BI (BI k f).1 f).1.log=(BI k f).1.log/\(BI (BI k f).1 f).1.fo=(BI k f).1.fo:=λe=>by
  rw[e,e];exact⟨rfl,rfl⟩
 have aFs:(BI k f).2=[Ez 2 f]->(BI (BI k f).1 f).1.log=(BI k f).1.log/\(BI (BI k f).1 f).1.fo=(BI k f).1.fo:=λe=>by
  obtain⟨o,hs,hh⟩:=aDe ok e rfl;generalize (BI k f).1=x at *;rw[RZ okx];unfold G9;split
  .split
   .unfold G4;rw[hs.is.stT];split
    .exact⟨rfl,rfl⟩
    .exact⟨rfl,hs.fo.symm⟩
   .rw[hs.is.stT];split
    .rename_i h1 h2;simp only[AI,DR,decide_eq_false_iff_not,decide_eq_true_eq]at h1 h2;exfalso;have hki:=tX (k:=k) (f:=f) (g:=Ez 2 f) (by rw[e];exact LN _);have:(BI k f).2=[]:=by
      rw[RZ ok];unfold G9;split
      .rw[AB (by rw[h2.1];decide)];split<;>rfl
      .rfl
     rw[this]at e;cases e
    .exact⟨rfl,rfl⟩
  .exact⟨rfl,rfl⟩
 have hM:BI k f=G9 k f:=RZ ok f;unfold G9 at hM;split at hM
 .rename_i hc;simp only[AI,decide_eq_true_eq]at hc;obtain⟨hu,hf,hd⟩:=hc;split at hM
  .rename_i h1;have h1:=BT h1;unfold G4 at hM;split at hM
   .exact same (by rw[hM])
   .rename_i c1;split at hM
    .exact aFs (by rw[hM])
    .rename_i c2;split at hM
     .exact same (by rw[hM])
     .rename_i c3;have hp:=Qn hf h1;have kf:=Df ok;have hvf:=ZN.1 kf.hv;have Dg:=OK (hv:=k.AE) (f:=f);have hpf:=fy hvf hf h1;have haf:=qo hpf Dg hp.2.1;have hky:=aqS k.AE f;unfold GG at hM;split at hM
      .rename_i c4;split at hM
       .rename_i c5;by_cases hw:B3 ⟨f.fr,f.nu,f.to,f.un,(Ch f.sz<|CC (hA (Ab k.AE f).1 (Ab k.AE f).2).got f.mix f.da).1⟩=A1/\Bd (stT k) (GP ⟨f.fr,f.nu,f.to,f.un,(Ch f.sz<|CC (hA (Ab k.AE f).1 (Ab k.AE f).2).got f.mix f.da).1⟩)≠U
        .refine aFs ?_;rw[hM];unfold HG;rw[A8];rw[hw.1,AX];unfold wrR;rw[show stT (GY k<|Db (By (Ab k.AE f).1 (Ab k.AE f).2 f) (Ab k.AE f).2)=stT k from rfl];cases hc:Bd (stT k) (GP ⟨f.fr,f.nu,f.to,f.un,(Ch f.sz<|CC (hA (Ab k.AE f).1 (Ab k.AE f).2).got f.mix f.da).1⟩) with
         | none=>exact absurd hc hw.2
         | some o=>rfl
        .have TQ:B3 ⟨f.fr,f.nu,f.to,f.un,(Ch f.sz<|CC (hA (Ab k.AE f).1 (Ab k.AE f).2).got f.mix f.da).1⟩=A1->Bd (stT k) (GP ⟨f.fr,f.nu,f.to,f.un,(Ch f.sz<|CC (hA (Ab k.AE f).1 (Ab k.AE f).2).got f.mix f.da).1⟩)=U:=λe=>fc λe2=>hw ⟨e,e2⟩;have hx:(BI k f).1=GY k (Db (By (Ab k.AE f).1 (Ab k.AE f).2 f) (Ab k.AE f).2):=by
          rw[hM];exact(adU (x:=GY k<|Db (By (Ab k.AE f).1 (Ab k.AE f).2 f) (Ab k.AE f).2) (n:=⟨f.fr,f.nu,f.to,f.un,(Ch f.sz<|CC (hA (Ab k.AE f).1 (Ab k.AE f).2).got f.mix f.da).1⟩) TQ).1
         rw[hx]at okx ⊢;have hst:stT (GY k<|Db (By (Ab k.AE f).1 (Ab k.AE f).2 f) (Ab k.AE f).2)=stT k:=rfl;generalize hX:GY k (Db (By (Ab k.AE f).1 (Ab k.AE f).2 f) (Ab k.AE f).2)=x at *;have hxh:x.AE=Db (By (Ab k.AE f).1 (Ab k.AE f).2 f) (Ab k.AE f).2:=by rw[← hX]
         have hxu:x.up=A1:=by rw[← hX];exact hu
         have hxi:x.id=k.id:=by rw[← hX]
         rw[aEE okx hxu hf (by rw[hxi];exact hd) h1 (by rw[hst];exact c1) (by rw[hst];exact c2) (by rw[hxi];exact c3)];have hal:(Ab k.AE f).2<(By (Ab k.AE f).1 (Ab k.AE f).2 f).length:=by unfold By;rw[Es];exact Dg
         have hno:∀h∈x.AE,G6 h≠(f.fr,f.nu):=by
          rw[hxh];intro h hh e;have hat:=xT Dg f;rw[FZ hal]at hat;generalize (By (Ab k.AE f).1 (Ab k.AE f).2 f)=l at *;generalize (Ab k.AE f).2=i at *;have hki:G6 l[i]=(f.fr,f.nu):=by rw[hat];unfold Go.VS.G6;simp only;rw[hky.1,hky.2]
          unfold Db at hh;have key:∀(j:Nat) (hj:j<l.length),j≠i->G6 l[j]≠(f.fr,f.nu):=by
           intro j hj hne ej;rcases I8 j i with g|g|g
           .exact Nf.1 haf.nd i j hal hj g (by rw[ej,hki])
           .exact hne g
           .exact Nf.1 haf.nd j i hj hal g<|by rw[ej,hki]
          rcases Br.1 hh with g|g
          .obtain⟨j,hj,ej⟩:=Ua.1 g;rw[DX]at hj;rw[List.getElem_take]at ej;exact key j J J (by rw[ej];exact e)
          .obtain⟨j,hj,ej⟩:=Ua.1 g;rw[Dd]at hj;rw[List.getElem_drop]at ej;exact key (i+1+j) J J (by rw[ej];exact e)
         have aE8:=aok hno;rcases Vp x.AE f with⟨i,_,hi',_,_,hI⟩|⟨_,l2,_,e2⟩
         .omega
         .rcases tf (Ch f.sz [⟨f.mix,f.da⟩]).2 with ct|ct
          .have h4:f.sz<=4:=by
            refine Sc.1 λh=> ?_;rw[awK J]at ct;cases ct
           have hT:((Ch f.sz<|CC (hA (Ab k.AE f).1 (Ab k.AE f).2).got f.mix f.da).1=(Ch f.sz [⟨f.mix,f.da⟩]).1)\/((Ch f.sz<|CC (hA (Ab k.AE f).1 (Ab k.AE f).2).got f.mix f.da).1=HH):=by
            rcases Vp k.AE f with⟨i,e,hi,_,_,_⟩|⟨_,l,_,e⟩
            .rw[e]at c4 c5 ⊢;simp only at c4 c5 ⊢;have hs:(hA k.AE i).sz=f.sz:=by
              unfold Mk at c4;simp only[AI,decide_eq_true_eq]at c4;exact c4.2.2
             rcases ho (hA k.AE i) (by rw[FZ hi];exact CQ hi) with g|⟨n,g⟩
             .omega
             .rw[g]at c5 ⊢;have hn:inB n 0 999=A1:=by
               have:=(aCi<|hvf.el (hA k.AE i) (by rw[FZ hi];exact CQ hi)).1.el ⟨n,HH⟩ (by rw[g];exact LN _);exact this.1
              by_cases hnm:n=f.mix
              .left;have:CC [⟨n,B [97,98,99,100]⟩] f.mix f.da=[⟨f.mix,f.da⟩]:=by
                unfold CC Ct;simp[hnm]
               rw[this]
              .right;have:CC [⟨n,B [97,98,99,100]⟩] f.mix f.da=[⟨n,HH⟩,⟨f.mix,f.da⟩]:=by
                unfold CC Ct;simp[hnm]
               rw[this]at c5 ⊢;exact aoL hp.1 h4 hn c5
            .left;rw[e];simp only[S2,aR]
           unfold GG;rw[e2];simp only[S2,lp,aR,ct,A5];have aj2:B3 ⟨f.fr,f.nu,f.to,f.un,(Ch f.sz [⟨f.mix,f.da⟩]).1⟩=A1->Bd (stT k) (GP ⟨f.fr,f.nu,f.to,f.un,(Ch f.sz [⟨f.mix,f.da⟩]).1⟩)=U:=by
            intro hn2;obtain e|e:=hT
            .rw[e]at TQ;exact TQ hn2
            .rw[e]at TQ;have hn1:=an1 hf (tx:=HH) (by rfl);exact axa (Co ok).kok (a:=⟨f.fr,f.nu,f.to,f.un,HH⟩) ⟨rfl,rfl,rfl,rfl,by rw[hn1,hn2]⟩ hn1<|TQ hn1
           have l8:∀hv,stT (GY x hv)=stT k:=λhv=>by
            rw[← hst];exact yB rfl rfl
           rw[(adU (by rw[l8];exact aj2)).1];exact⟨rfl,rfl⟩
          .refine aBE<|.inr ?_;rw[e2];simp only[S2,aR];exact ct
       .rename_i c5;have c5:(Ch f.sz<|CC (hA (Ab k.AE f).1 (Ab k.AE f).2).got f.mix f.da).2=A3:=by simpa using c5
        have hx:(BI k f).1=GY k (By (Ab k.AE f).1 (Ab k.AE f).2 f):=by rw[hM]
        rw[hx]at okx ⊢;have h14:=re (f:=f) (λh hh=>hvf.el h hh);have hat:=xT Dg f;have hal:(Ab k.AE f).2<(By (Ab k.AE f).1 (Ab k.AE f).2 f).length:=by unfold By;rw[Es];exact Dg
        have axx:=as0 haf.nd hal (f:=f) (by rw[hat];exact hky.1) (by rw[hat];exact hky.2);rw[aEE okx hu hf hd h1 c1 c2 c3];refine aBE<|.inr ?_;rw[show(GY k<|By (Ab k.AE f).1 (Ab k.AE f).2 f).AE=By (Ab k.AE f).1 (Ab k.AE f).2 f from rfl,axx];simp only;rw[hat];simp only;rw[aeF _ _ _ h14];exact c5
      .rename_i c4;refine same ?_;rw[hM];rcases Vp k.AE f with⟨i,e,_⟩|⟨_,l,_,e⟩
       .rw[e]
       .rw[e]at c4;simp only[S2,lp]at c4;exact absurd trivial c4
  .rename_i h1;split at hM
   .rename_i h2;simp only[AI,DR,decide_eq_false_iff_not,decide_eq_true_eq]at h2;have hx:(BI k f).1=(wrR k (Dh CY f.fr f.nu f.un) A3).1:=by rw[hM]
    rcases tf (wrR k (Dh CY f.fr f.nu f.un) A3).2 with e|e
    .obtain⟨o,hi,h3,_⟩:=RJ (Co ok) (Dh CY f.fr f.nu f.un) A3;have hs:=h3 e;rw[← hx]at hi;have Lh:AY o.held f.fr f.nu<0:=by
      refine alJ hi.kok ?_;obtain⟨r1,r2,r3⟩:=px hf;rw[asT (Co ok).kok r1 r2 r3]at hs;have hs:=(Po.1 hs).1;split at hs
      .cases hs;exact vO (x:=⟨f.fr,f.nu,f.un⟩) (Xp _<|.inl rfl) rfl rfl
      .cases hs
     generalize (BI k f).1=x at *;rw[RZ okx];unfold G9;split
     .rw[hi.stT,AB]
      .exact⟨rfl,rfl⟩
      .rw[AZ Lh];simp
     .exact⟨rfl,rfl⟩
    .exact same (by rw[hx];exact Tx e)
   .exact same (by rw[hM])
 .exact same<|by rw[hM]
end Go.VS
end
end
section
set_option linter.all false
noncomputable section
namespace Go.VS
open Go
def aEz{w:Am}{e:Event}(h1:e.ki=4\/e.ki=5\/e.ki=6)(h:(doM w e).2=A1):inB e.wo 0 ((w.AU.length:Int) - 1)=A1:=by
 unfold doM EJ at h;rw[A8 h1]at h;rcases tf (inB e.wo 0<|(w.AU.length:Int) - 1) with c|c
 .exact c
 .rw[AB (by rw[c];exact D0)]at h;cases h
def ln{w:Am}{e:Event}(h1:e.ki=4)(hc:inB e.wo 0 ((w.AU.length:Int) - 1)=A1):
  doM w e=if bA w.B1 (lnk<|pA w.AU e.wo.toNat).toNat then(D2 w (pA w.AU e.wo.toNat)<|if e.kp=0 then F7 w.AU e.wo.toNat else w.AU,A1) else(w,A3):=by
 unfold doM EJ;rw[A8<|.inl h1,A8 hc,AB J,AB J]
def auD{w:Am}{e:Event}(c:FU w=A1)(c1:w.ti<99999):Bt w e=if(doM w e).2 then(B8 w e,A1) else(w,A3):=by
 unfold Bt;rw[A8 c,AB<|nd J]
def azA{l:List Mark}(hl:l.length<=1000):VA (l,l,())=I ((A1,()),()):=by
 have h0:pf (l,l,0,())=I (.inr ()):=
  CS (b:=SL) (λk=>(l,l,(k:Int),())) l.length (λk hk=>by
   unfold SL;simp only[AR hk,B7 hk,A5,AS,CZ,AD,A6,B2 hk (by omega:l.length<=9223372036854775807)]) (by
   unfold SL;rw[AB<|by simp])
 unfold VA;simp only[AS,AD,A6,h0,C9]
def lB{k:AJ}(h:Aw k=A1):Px (tK k,tK k,())=I ((A1,()),()):=by
 have hf:=Cl h;have h1:=hf.hl;have h2:=hf.ml;have h3:=hf.il;unfold Px;rw[show Hz ((tK k).2.2.2.1,(tK k).2.2.2.1,())=_ from Wj (l:=k.held) J,show VA ((tK k).2.2.2.2.1,(tK k).2.2.2.2.1,())=_ from azA (l:=k.marks) J,
  show Hz ((tK k).2.2.2.2.2.1,(tK k).2.2.2.2.2)=_ from Wj (l:=k.inbox) J]
 simp only[AS,A5,A9,CG,Cp,C8,CZ]
def ak2{w W:Am}{p:AT}{ra ra':List AT}(h:BS w)(hp:Dy p=A1)(ho:LZ (kA w.AK p.dst.toNat).AE)(hW:W.AK=(D2 w p ra).AK){i:Nat}:
  stT (kA (D2 W p ra').AK i)=stT (kA (D2 w p ra).AK i):=by
 obtain⟨_,⟨d0,d1⟩,_⟩:=KV hp;have kl:=h.kl;have hd:p.dst.toNat<w.AK.length:=J
 by_cases hc:((CW<|BA p.data).2&&(A0 ((CW<|BA p.data).1.src=p.src)&&A0 ((CW<|BA p.data).1.dst=p.dst)))=A1
 .have e1:(D2 w p ra).AK=w.AK.set p.dst.toNat (BI (kA w.AK p.dst.toNat) (CW<|BA p.data).1).1:=by
   unfold D2;rw[A8 hc]
  have e2:(D2 W p ra').AK=W.AK.set p.dst.toNat (BI (kA W.AK p.dst.toNat) (CW<|BA p.data).1).1:=by
   unfold D2;rw[A8 hc]
  rw[e2,hW,e1,Ks hd,A8 rfl,Ks (by rw[Es];exact hd),Ks hd];split
  .have ok:=(h.k p.dst.toNat J).1;exact yB (nQ (jX ok _) _) (ala ok ho).1
  .rfl
 .have e2:(D2 W p ra').AK=W.AK:=by
   unfold D2;rw[AB hc]
  rw[e2,hW]
def aiW{ra:List AT}{fs:List Frame}{i:Nat}(h:i<ra.length):pA (CR ra fs) i=pA ra i:=by
 unfold CR pA;rw[BD,G0 h,BD]
def adt(w:Am)(p:AT)(ra:List AT):ra.length<=(D2 w p ra).AU.length/\ ∀i,i<ra.length->pA (D2 w p ra).AU i=pA ra i:=by
 unfold D2;split
 .refine⟨?_,λi hi=>aiW hi⟩;show ra.length<=(CR ra _).length;unfold CR;rw[Ar];omega
 .exact⟨As _,λ_ _=>rfl⟩
def amC(w:Am)(p:AT)(ra:List AT):(D2 w p ra).B1=w.B1:=by
 unfold D2;split<;>rfl
def adq{x y:Am}(hx:BS x)(hy:BS y)(hs:∀i,i<4->stT (kA y.AK i)=stT (kA x.AK i)):eH (tR x,tR y,0,())=I (.inr ()):=by
 have kx:=hx.kl;have ky:=hy.kl;refine CS (b:=T3) (λi=>(tR x,tR y,(i:Int),())) x.AK.length (λi hi=> ?_) ?_
 .unfold T3;have h1:=Ie (hx.k i J).1;have h2:=Ie (hy.k i J).1;have h3:=lB (Co (hx.k i J).1).kok;have iy:inb (i:Int) y.AK.length=A1:=AR J;rw[hs i J]at h2;simp only[B7 hi,A5,iy,AR hi,JL,h1,h2,A9,h3,AD,A6,B2 hi (by omega:x.AK.length<=9223372036854775807)]
 .unfold T3;simp only[Fe,A6]
def aoi{l:List Int}(hb:BOk l):SS (l,())=I ((A1,()),()):=by
 obtain⟨w,e,hd,sm,ho,ht⟩:=eR hb;obtain⟨E,hE⟩:∃E:Event,E=⟨4,e.at_,e.fr,e.nu,e.wo,e.mix,1,e.to,e.un,e.tx⟩:=⟨_,rfl⟩;have hk:E.ki=4:=by rw[hE]
 have hkp:¬E.kp=0:=by rw[hE];show ¬(1:Int)=0;decide
 have ht':E.tx.size<=1048576:=by rw[hE];exact ht
 have eE:((4:Int),e.at_,e.fr,e.nu,e.wo,e.mix,(1:Int),(tE e).2.2.2.2.2.2.2)=tE E:=by rw[hE]
 have sx:=Sv sm E;unfold SS;apply Tot.val;refine Tot.ite (λ_=>Tot.ret rfl) (λ_=> ?_);refine Tot.bind (Tot.eq hd) λr1 h1=> ?_;subst h1;refine Tot.bind (Tot.eq (show IB (tR w,((4:Int),e.at_,e.fr,e.nu,e.wo,e.mix,(1:Int),(tE e).2.2.2.2.2.2.2),())=_ by rw[eE];exact ZI sm ht')) λr2 h2=>Tot.bind (Tot.eq (show HN (tR w,((4:Int),e.at_,e.fr,e.nu,e.wo,e.mix,(1:Int),(tE e).2.2.2.2.2.2.2),())=_ by rw[eE];exact P0 sm ht')) λr3 h3=> ?_;subst h2 h3;refine Tot.join (A:=λj=>j=(tR w,tE E,tR (Bt w E).1,(Bt w E).2,tR (Bt w E).1,(Bt w E).2,!(Bt w E).2,())) ?_ (λj hj=> ?_)
 .simp only[Iy sx,A9,AS,AD,A6];rw[← eE];exact Tot.ret rfl
 .subst hj;rcases OV w E with⟨c,h⟩|⟨c,h⟩|⟨c,c1,c2,h⟩
  .rw[h]at sx ⊢;simp only[AG,A5,Iy sx,CG,Cp,AS,C8,CZ];exact Tot.ret rfl
  .rw[h]at sx ⊢;simp only[AG,A5,Iy sx,CG,Cp,AS,C8,CZ];exact Tot.ret rfl
  .have hw:=(I4 c).1;have hi:=aEz (.inl hk) c2;have hi':=Af.1 hi;have hdw:=ln hk hi;have hp:=MH hw (i:=E.wo.toNat) J;have hl:bA w.B1 (lnk<|pA w.AU E.wo.toNat).toNat=A1:=by
    rcases tf (bA w.B1 (lnk<|pA w.AU E.wo.toNat).toNat) with d|d
    .exact d
    .rw[hdw,d]at c2;cases c2
   rw[hl,A8 rfl,AB hkp]at hdw;have hxr:=Ru c c1 c2;have hx:=(I4 hxr).1;have ex:=Pf c2;rw[hdw]at ex;have br:=adt w (pA w.AU E.wo.toNat) w.AU;have xr:(B8 w E).AU=(D2 w (pA w.AU E.wo.toNat) w.AU).AU:=by rw[ex]
   have xk:(B8 w E).AK=(D2 w (pA w.AU E.wo.toNat) w.AU).AK:=by rw[ex]
   have xl:(B8 w E).B1=w.B1:=by rw[ex];exact amC _ _ _
   have hi2:inB E.wo 0 (((B8 w E).AU.length:Int) - 1)=A1:=Af.2 ⟨hi'.1,by rw[xr];have:=br.1;omega⟩;have hp2:pA (B8 w E).AU E.wo.toNat=pA w.AU E.wo.toNat:=by rw[xr];exact br.2 _ J
   have hdx:=ln hk hi2;rw[hp2,xl,hl,A8 rfl,AB hkp]at hdx;have od:LZ (kA w.AK (pA w.AU E.wo.toNat).dst.toNat).AE:=by
    obtain⟨_,⟨d0,d1⟩,_⟩:=KV hp;have kl:=hw.kl;have hlt:(pA w.AU E.wo.toNat).dst.toNat<w.AK.length:=J
    have e1:kA w.AK (pA w.AU E.wo.toNat).dst.toNat=w.AK[(pA w.AU E.wo.toNat).dst.toNat]:=by rw[kA,BD,Ax hlt];rfl
    rw[e1];exact ho _<|CQ hlt
   rw[h]at sx ⊢;refine Tot.neg rfl ?_;refine Tot.bind (Tot.eq<|P0 (w:=B8 w E) sx ht') λr4 h4=> ?_;subst h4;by_cases hti:99999<=(B8 w E).ti
   .have hq:Bt (B8 w E) E=(B8 w E,A3):=by
     unfold Bt;rw[A8 hxr,A8<|AZ hti]
    rw[hq];refine Tot.pos rfl (Tot.ret ?_);rw[sP c2]at hti;rw[AZ hti]
   .have hq:Bt (B8 w E) E=(B8 (B8 w E) E,A1):=by
     rw[auD hxr J,A8<|by rw[hdx]]
    have hy:=(I4<|Ru hxr J<|by rw[hdx]).1;have ey:=Pf (w:=B8 w E) (e:=E) (by rw[hdx]);rw[hdx]at ey;have yk:(B8 (B8 w E) E).AK=(D2 (B8 w E) (pA w.AU E.wo.toNat) (B8 w E).AU).AK:=by rw[ey]
    rw[hq];refine Tot.neg rfl ?_;have hlp:=adq hx hy λi _=>by rw[yk,ak2 hw hp od xk,xk]
    rw[show eH (tR<|B8 w E,tR<|B8 (B8 w E) E,0,())=_ from hlp];exact Tot.ret rfl
end Go.VS
end
end
