/- Part 21. -/
import Derived.Test.YtplahhbealfpcaaGreatDoorQAT
open Bool renaming and_eq_true->AE,false->A3,not_eq_true'->CL,not_true->AB,true->A0
open Decidable renaming decide->A1
open Int renaming le_refl->E7,le_trans->P7,not_lt->NM,toNat_natCast->Bb
open List renaming foldl_append->HW,getD_eq_getElem?_getD->B9,getElem?_eq_getElem->Av,getElem?_set->NB,getElem_mem->CJ,length_singleton->JK,mem_append->BM,mem_append_left->Bq,mem_append_right->CK,mem_singleton->C9,mem_singleton_self->N9,replicate->BT,take_add_one->JI,take_length->Dw
open Option renaming bind_some->A9,some->I
set_option linter.all false
noncomputable section
namespace Go.VS
open Go
def GQ(w:AX)(e:Event):AX:=(I6 w e).1
def Ci(w:AX)(l:List Event):AX:=l.foldl GQ w
def Ch(l:List Event):AX:=if 2000<l.length then rv0 else Ci rv0 l
def OZ:DW rv0=A0:=aaK Zl (by decide)<|by decide
def SW{P:AX->Prop}{Q:Event->Prop}(hs:∀w e,DW w=A0->P w->Q e->(doM w e).2=A0->P (CC w e)):∀(l:List Event) {w:AX},DW w=A0->P w->(∀e∈l,Q e)->DW (Ci w l)=A0/\P (Ci w l)
 | [],w,h,p,_=>⟨h,p⟩
 | e::l,w,h,p,q=>by
  have hq:=q e<|.head _;refine SW hs l (w:=GQ w e) ?_ ?_ λx hx=>q x<|.tail _ hx
  all_goals
   unfold GQ;rcases aAy w e with⟨h0,_⟩|⟨_,h0⟩|⟨_,h1,h2,h0⟩
   .rw[h]at h0;cases h0
   .rw[h0];assumption
   .rw[h0]
    first|exact aCt h h1 h2|exact hs w e h p hq h2
def jl(w:AX)(l m:List Event):Ci w (l++m)=Ci (Ci w l) m:=HW
def XP{l:List Event}{w:AX}(h:DW w=A0)(v:Inv w):DW (Ci w l)=A0/\Inv (Ci w l):=
 SW (Q:=λ_=>True) (λw e h v _ _=>v.sim (Fe h).1 e) l h v (λ_ _=>trivial)
def XO(l:List Event):DW (Ch l)=A0/\Inv (Ch l):=by
 unfold Ch;split
 .exact⟨OZ,R3⟩
 .exact XP OZ R3
def Ik(w w':AX):Prop:=∀i,(sT w i).ti<=(sT w' i).ti/\(sT w i).nx<=(sT w' i).nx
def Ik.rfl(w:AX):Ik w w:=λ_=>⟨E7 _,E7 _⟩
def Ik.trans{a b c:AX}(h:Ik a b)(g:Ik b c):Ik a c:=λi=>⟨P7 (h i).1 (g i).1,P7 (h i).2 (g i).2⟩
def RJ.later{e:Event}{w w':AX}(ok:BA w)(s:RJ e w w'):Ik w w':=by
 obtain⟨i,k',a,s,_⟩:=s;have kl:=ok.kl;have hi:=s.hi;intro j;unfold sT;rw[s.ek,Hu J];split
 .rename_i e;subst e;refine⟨s.m.ti, ?_⟩;obtain⟨h,_⟩|⟨_,_,_,_,h⟩:=s.m.nx<;>omega
 .exact⟨E7 _,E7 _⟩
def Empty(w:AX):Prop:=Inv w/\w.Ab=[]/\w.Ai=[]/\ ∀i,i<4->(sT w i).nx=1
def Wp{α:Type}{l:List α}(h:∀x∈l,False):l=[]:=by
 cases l with
 | nil=>rfl
 | cons a l=>exact(h a<|.head _).elim
def Empty.none{w:AX}(h:Empty w)(ok:BA w){i:Nat}(hi:i<4):(sT w i).held=[]/\(sT w i).marks=[]/\(sT w i).inbox=[]/\w.got=[]:=by
 obtain⟨v,hs,_⟩:=h;refine⟨Wp λn hn=> ?_,Wp λm hm=> ?_,Wp λn hn=> ?_,Wp λn hn=> ?_⟩
 .have:=v.hs i hi n<|((v.lo i hi).lf (ok.k i hi).1).held n hn;rw[hs]at this;cases this
 .obtain⟨n,hn,_⟩:=v.mrk i hi m hm;rw[hs]at hn;cases hn
 .have:=(v.bx i hi n hn).1;rw[hs]at this;cases this
 .have:=(v.gs n hn).1;rw[hs]at this;cases this
def av3{w:AX}{e:Event}(h4:w.Ai=[])(hm:∀i,i<4->(sT w i).held=[]):(doM w e).1.Ai=[]:=by
 unfold doM;split
 .unfold Dy;rw[AD (by rw[h4];intro c;have:=Af.1 c;simp at this;omega)];exact h4
 split
 .unfold ER;split<;>exact h4
 split
 .rename_i ha;have ha:=Ff ha;unfold KY;split
  .unfold L4;split
   .exact h4
   .split<;>exact h4
  .split
   .exact h4
   .split
    .have:(Em (kA w.AK e.at_.toNat) e.fr e.nu e.mix).2=A3:=by
      unfold Em;split
      .rename_i hc;simp only[AE,CL,decide_eq_false_iff_not]at hc;have h0:=GM<|NM.1 hc.2.1;have:=hm e.at_.toNat J;unfold sT at this;rw[this]at h0;exact absurd h0.1 (by simp)
      .rfl
     rw[this,A7];exact h4
    .split
     .exact h4
     .split
      .exact h4
      .split
       .unfold L0;split<;>exact h4
       .split
        .exact h4
        .split<;>exact h4
 .exact h4
def Empty.sim{w:AX}(h:Empty w)(ok:BA w){e:Event}(h1:e.ki≠1)(hd:(doM w e).2=A0):Empty (CC w e):=by
 have hn:=λi hi=>h.none ok (i:=i) hi;obtain⟨v,hs,hr,hx⟩:=h;have e0:CC w e=⟨w64<|w.ti+1,(doM w e).1.AK,(doM w e).1.B2,(doM w e).1.Ai,(doM w e).1.Ab,(doM w e).1.got⟩:=TB hd;refine⟨v.sim ok e, ?_, ?_,λi hi=> ?_⟩
 .rw[e0];obtain⟨_,_,a,s,_,s2⟩:=Sm v ok e;obtain⟨e,_⟩|⟨n,e,_⟩:=s.se
  .exact e.trans hs
  .exact absurd (s2 ⟨n,e⟩) h1
 .rw[e0];exact av3 hr (λi hi=>(hn i hi).1)
 .rw[e0];obtain⟨j,k',a,s,_,s2⟩:=Sm v ok e;have kl:=ok.kl;have hj:=s.hi;unfold sT;simp only;rw[s.ek,Hu J];split
  .rename_i c;obtain⟨h,_⟩|⟨n,e,_⟩:=s.m.nx
   .rw[h];exact hx j hj
   .exact absurd (s2 ⟨n,e⟩) h1
  .exact hx i hi
def PC(w:AX)(n:A6):Prop:=(n∈(sT w n.fr.toNat).held/\n∈(sD w n.fr.toNat).held)\/n∈(sT w n.fr.toNat).inbox\/n∈w.got\/n.un<=(sT w n.fr.toNat).ti
def Nd(w:AX):Prop:=Inv w/\(∀i,i<3->bA w.B2 i=A3)/\ ∀n∈w.Ab,PC w n
def aq8{w:AX}{e:Event}(ok:BA w)(hl:∀i,i<3->bA w.B2 i=A3)(h9:e.ki≠9):(∀i,i<3->bA (doM w e).1.B2 i=A3)/\((doM w e).2=A0->e.ki≠4):=by
 have ll:=ok.ll;refine⟨λi hi=> ?_,λhd h4=> ?_⟩
 .have h0:=hl i hi;unfold doM;split
  .unfold Dy
   (repeat' split)<;>first|exact h0|(unfold IU;split<;>exact h0)
  split
  .rename_i h2;unfold ER;split
   .show bA (w.B2.set e.at_.toNat _) i=A3;rw[show A1 (e.ki=9)=A3 from BR h9];unfold bA;rw[B9,NB];unfold bA at h0;rw[B9]at h0;split
    .split<;>rfl
    .exact h0
   .exact h0
  split
  .unfold KY;split
   .unfold L4
    (repeat' split)<;>exact h0
   .split
    .exact h0
    .split
     .split<;>exact h0
     .split
      .exact h0
      .split
       .exact h0
       .split
        .unfold L0;split<;>exact h0
        .split
         .exact h0
         .split<;>exact h0
  .exact h0
 .unfold doM at hd;rw[A8<|.inl h4]at hd;unfold Dy at hd;split at hd
  .rename_i h2;have h2:=Af.1 h2;rw[AD J,AD J]at hd;have hr:=OP<|OV ok (i:=e.wo.toNat) J;rw[hl _ J,A7]at hd;cases hd
  .cases hd
def Nd.sim{w:AX}(h:Nd w)(ok:BA w){e:Event}(h9:e.ki≠9)(hd:(doM w e).2=A0):Nd (CC w e):=by
 obtain⟨v,hl,hh⟩:=h;obtain⟨l1,l2⟩:=aq8 ok hl h9;have h4:=l2 hd;have e0:CC w e=⟨w64<|w.ti+1,(doM w e).1.AK,(doM w e).1.B2,(doM w e).1.Ai,(doM w e).1.Ab,(doM w e).1.got⟩:=TB hd;refine⟨v.sim ok e,by rw[e0];exact l1,λn hn=> ?_⟩;rw[e0]at hn;have key:PC (doM w e).1 n:=by
  obtain⟨j,k',a,s,s1,_⟩:=Sm v ok e;have kl:=ok.kl;have hj:=s.hi;have na:∀m,a≠ .lets m:=λm c=>h4<|s1 ⟨m,c⟩;have gos:∀x∈w.got,x∈(doM w e).1.got:=λx hx=>by
   obtain⟨e,_⟩|⟨y,_,e⟩:=s.go<;>rw[e]
   .exact hx
   .exact Bq _ hx
  have goe:∀x,a= .eat x->x∈(doM w e).1.got:=λx hx=>by
   obtain⟨_,e⟩|⟨y,e1,e⟩:=s.go
   .exact absurd hx (e x)
   .rw[e1]at hx;cases hx;rw[e];exact CK _<|N9 _
  have old:n∈w.Ab->PC (doM w e).1 n:=λhn=>by
   have h0:=hh n hn;unfold PC sT sD at h0 ⊢;rw[s.ek,Hu J];split
   .rename_i c;rw[c]at h0;obtain⟨h1,h2⟩|h1|h1|h1:=h0
    .rcases s.m.hold n h1 h2 with c|c|c
     .exact .inl c
     .exact .inr (.inr<|.inr c)
     .exact absurd c (na _)
    .rcases s.m.box n h1 with c|c
     .exact .inr (.inl c)
     .exact .inr (.inr<|.inl<|goe n c)
    .exact .inr (.inr<|.inl<|gos n h1)
    .exact .inr (.inr<|.inr<|P7 h1 s.m.ti)
   .rcases h0 with h1|h1|h1|h1
    .exact .inl h1
    .exact .inr (.inl h1)
    .exact .inr (.inr<|.inl<|gos n h1)
    .exact .inr<|.inr<|.inr h1
  obtain⟨e,_⟩|⟨x,e1,e,_⟩:=s.se<;>rw[e]at hn
  .exact old hn
  .rcases BM.1 hn with hn|hn
   .exact old hn
   .rw[C9.1 hn];obtain⟨_,_,h⟩:=s.m.new x<|.inl e1;have id':(stT<|kA w.AK j).id=(j:Int):=Lq ok hj;have hf:x.fr=(j:Int):=by
     obtain⟨_,c⟩|⟨y,c1,_,c3,_⟩:=s.m.nx
     .exact absurd e1 (c x)
     .rw[c1]at e1;cases e1;rw[c3,id']
    unfold PC sT sD;rw[s.ek,hf,Bb,Hu J,A8 rfl];split at h
    .exact .inr (.inl h)
    .exact .inl h
 rw[e0];exact key
def aho:c9 ()=I ((tR rv0,()),()):=by
 have h0:aW (tR zR,tR zR,0,())=I (.inr (tR zR,tR rv0,())):=by
  have st:∀(n:Nat) (l:List AA) (m:List Bool),n<4->l.length<=4->m.length<=4->Ue (tR zR,tR ⟨0,l,m,[],[],[]⟩,(n:Int),())=I (.inl (tR zR,tR ⟨0,l++[kp0 n],if n=0 then m else m++[A0],[],[],[]⟩,((n+1:Nat):Int),())):=by
   intro n l m hn hl hm;unfold Ue qB;have e1:Ac (l.length+1)=A0:=B8 J;have e2:Ac (m.length+1)=A0:=B8 J;have e3:w64 ((n:Int)+1)=((n+1:Nat):Int):=AZ J J;simp only[Aa<|show(n:Int)<4 by omega,A5,Jb,A9,ly hn,AB,A7,JK,e1,e2,e3];by_cases c:n=0
   .subst c;rfl
   .rw[Aa<|show(0:Int)<(n:Int) by omega,A8 rfl,AD c];rfl
  have fin:Ue (tR zR,tR rv0,4,())=I (.inr<|.inr (tR zR,tR rv0,())):=rfl;exact B0 (st 0 [] [] (by decide) (by decide)<|by decide)<|B0 (st 1 _ _ (by decide) (by decide)<|by decide)<|B0 (st 2 _ _ (by decide) (by decide)<|by decide)<|B0 (st 3 _ _ (by decide) (by decide)<|by decide)<|BP fin
 unfold c9;rw[show aW _=_ from h0];simp only[AM,V0 Zl.sm,A9]
def agM:RW ()=I ((tR rv0,()),()):=aaF
def evA(l:List Event)(i:Nat):Event:=l.getD i<|dfl .BK
def aDc(l:List Event)(i:Nat): @rd Event (dfl .BK) l (i:Int)=evA l i:=rfl
def mY{l:List Event}{i:Nat}(h:i<l.length):evA l i=l[i]:=by
 unfold evA;rw[B9,Av h];rfl
def jR{w:AX}{l:List Event}{i:Nat}(h:i<l.length):Ci w (l.take<|i+1)=GQ (Ci w<|l.take i) (evA l i):=by
 rw[mY h,JI,Av h,jl];rfl
def aDj(l:List Event):DW (Ci rv0 l)=A0:=(XP OZ R3 (l:=l)).1
def aaN(l:List Event):SmR (Ci rv0 l):=(Fe<|aDj l).1.sm
def mX{l:List Event}(h:∀e∈l,e.tx.size<=1048576){i:Nat}(hi:i<l.length):(evA l i).tx.size<=1048576:=by
 rw[mY hi];exact h _<|CJ hi
def Nu{l:List Event}(hl:l.length<=4294967296)(h:∀e∈l,e.tx.size<=1048576):KJ (l,())=I ((tR<|Ch l,()),()):=by
 unfold KJ Ch;rw[agM];simp only[A9];by_cases c:2000<l.length
 .rw[A8 c,Aa<|show(2000:Int)<(l.length:Int) by omega,A8 rfl]
 .rw[AD c,BR<|show ¬(2000:Int)<(l.length:Int) by omega,A7];have h0:aP (l,tR zR,tR rv0,0,())=I (.inr (tR zR,tR<|Ci rv0<|l.take l.length,())):=
   C2 (λi=>(l,tR zR,tR<|Ci rv0<|l.take i,(i:Int),())) l.length (λi hi=>by
    unfold bp;have hd:=alk (aaN<|l.take i) (e:=evA l i)<|mX h hi;simp only[B7 hi,AP hi,A5,aDc];rw[show O2 (tR<|Ci rv0<|l.take i,tE<|evA l i,())=_ from hd];simp only[A9,B5 hi (by omega:l.length<=9223372036854775807),jR hi];rfl) (by simp[bp])
  rw[show aP _=_ from h0,Dw];rfl
def KK{l:List Event}(hl:l.length<=4294967296)(h:∀e∈l,e.tx.size<=1048576):II (l,())=I ((tR<|Ch l,()),()):=by
 unfold II Ch;rw[aho];simp only[A9];by_cases c:2000<l.length
 .rw[A8 c,Aa<|show(2000:Int)<(l.length:Int) by omega,A8 rfl]
 .rw[AD c,BR<|show ¬(2000:Int)<(l.length:Int) by omega,A7];have h0:ax (tR zR,tR rv0,l,(l.length:Int),0,())=I (.inr (tR zR,tR<|Ci rv0<|l.take l.length,())):=
   C2 (λi=>(tR zR,tR<|Ci rv0<|l.take i,l,(l.length:Int),(i:Int),())) l.length (λi hi=>by
    unfold bh;have hr:=aDj<|l.take i;have hw:=Fe hr;have hd:=xl hw.1 hw.2.1 hw.2.2 (e:=evA l i)<|mX h hi;simp only[B7 hi,AP hi,A5,aDc];rw[show Rm (tR<|Ci rv0<|l.take i,tE<|evA l i,())=_ from hd];have e:GQ (Ci rv0<|l.take i) (evA l i)=(if A1 (99999<=(Ci rv0<|l.take i).ti) then(Ci rv0<|l.take i,A3) else if(doM (Ci rv0<|l.take i)<|evA l i).2 then(CC (Ci rv0<|l.take i)<|evA l i,A0) else(Ci rv0<|l.take i,A3)).1:=by
     unfold GQ I6;rw[A8 hr]
    simp only[A9,B5 hi (by omega:l.length<=9223372036854775807),jR hi,e]) (by simp[bh])
  rw[show ax _=_ from h0,Dw];rfl
def Mn(l:List Event):DW (Ch l)=A0:=(XO l).1
def Ml(l:List Event):SmR (Ch l):=(Fe<|Mn l).1.sm
def Reach.tx{ev:List Event}{w:AX}(h:Reach ev w):∀e∈ev,e.tx.size<=1048576:=by
 induction h with
 | nil=>exact λe he=>by cases he
 | snoc _ _ ht ih=>exact Sl ih ht
def OJ{l:List Int}(hb:BOk l):∃ev:List Event,JU (l,())=I ((ev,()),())/\ev.length<=1048576/\ ∀e∈ev,e.tx.size<=1048576:=by
 have key:Tot (JU (l,())) λa=>a.1.1.length<=1048576/\ ∀e∈a.1.1,e.tx.size<=1048576:=by
  unfold JU;refine Tot.bind (axC hb) λr1 h1=>Tot.bind (Cn h1<|by decide) λr4 h4=>Tot.ite (λ_=> ?_) (λ_=> ?_)
  .refine Tot.bind (Cn h4.1<|by decide) λr5 h5=> ?_;have h50:=h5.2.1;have h51:r5.1.1<2:=h5.2.2 (show(1:Int)<=2 by decide);rw[AZ J J];refine Tot.pos (by rw[AE,decide_eq_true_eq,decide_eq_true_eq];omega) (Tot.ret ⟨?_,λe he=> ?_⟩)
   .show(BT _ _).length<=_;rw[List.length_replicate];omega
   .rw[(List.mem_replicate.1 he).2];show noB.size<=_;decide
  .exact Tot.bind (ax7 (M:=26) h4.1 (by decide) (by decide)<|by decide) λr6 h6=>Tot.ret (by
    obtain⟨w,ev,e1,e2,e3⟩:=h6.2;have e4:r6.1.1.2.2.2.2.2.2.2=(ev,()):=by rw[e1]
    rw[e4];exact⟨by show ev.length<=1048576;omega,e2.tx⟩)
 obtain⟨⟨⟨ev,_⟩,_⟩,e,h1,h2⟩:=key;exact⟨ev,e,h1,h2⟩
end Go.VS
end
