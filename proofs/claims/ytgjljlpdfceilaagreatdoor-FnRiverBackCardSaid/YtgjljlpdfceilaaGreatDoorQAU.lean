/- Part 10. -/
import Derived.Test.YtgjljlpdfceilaaGreatDoorQAT
open Bool renaming and_eq_false_iff->Lx,and_eq_true->AD,and_false->BZ,false->A0,false_and->AM,false_ne_true->CQ,not_eq_true'->CE,not_true->AB,or_eq_false_iff->Mx,or_eq_true->C1,true->Y,true_and->AP
open Decidable renaming decide->U
open Eq renaming refl->Hg
open Int renaming le_refl->Ct,le_trans->K8,not_lt->QU,toNat_natCast->Bc
open List renaming append_assoc->C2,append_nil->CJ,append_of_mem->TQ,drop_append_of_le_length->TJ,drop_drop->Iq,drop_sublist->QH,eq_nil_of_length_eq_zero->Dw,filter_append->QX,foldl_append->G1,foldl_cons->Dv,foldl_nil->K7,getD_eq_getElem?_getD->B9,getElem?_eq_getElem->Av,getElem?_set->Of,getElem_mem->Cd,getElem_of_mem->D0,length->j8,length_append->Au,length_cons->Bj,length_map->DV,length_singleton->Im,map_append->Eg,mem_append->BM,mem_append_right->CP,mem_cons->Bl,mem_map->Bu,mem_range->Cu,mem_singleton->CL,nodup_append->JN,nodup_cons->IB,pairwise_cons->K6,pairwise_iff_getElem->K3,pairwise_singleton->lK,range->B7,range_succ->IC,replicate->BS,take_add_one->JJ,take_append_drop->JK,take_length->E5
open List.Sublist renaming append->lY,refl->ET
open List.cons renaming inj->mC
open Nat renaming eq_zero_or_pos->TS,le_refl->Ar,le_trans->CV,lt_or_ge->HA,lt_trichotomy->IA,sub_self->Ol,zero_le->D1
open Option renaming bind_some->A6,filter_eq_some_iff->JL,some->I
open Option.some renaming inj->Eh
open Prod.mk renaming inj->IH
set_option linter.all false
noncomputable section
namespace Go.VS
open Go
def ahA:bz ()=I ((tR rv0,()),()):=by
 have h0:af (tR zR,tR zR,0,())=I (.inr (tR zR,tR rv0,())):=by
  have st:∀(n:Nat) (l:List A7) (m:List Bool),n<4->l.length<=4->m.length<=4->UP (tR zR,tR ⟨0,l,m,[],[],[]⟩,(n:Int),())=I (.inl (tR zR,tR ⟨0,l++[kp0 n],if n=0 then m else m++[Y],[],[],[]⟩,((n+1:Nat):Int),())):=by
   intro n l m hn hl hm;unfold UP qT;have e1:Ac (l.length+1)=Y:=BG J;have e2:Ac (m.length+1)=Y:=BG J;have e3:w64 ((n:Int)+1)=((n+1:Nat):Int):=AZ J J;simp only[AR<|show(n:Int)<4 by omega,A2,Je,A6,FY hn,AB,A4,Im,e1,e2,e3];by_cases c:n=0
   .subst c;rfl
   .rw[AR<|show(0:Int)<(n:Int) by omega,A5 rfl,A8 c];rfl
  have fin:UP (tR zR,tR rv0,4,())=I (.inr<|.inr (tR zR,tR rv0,())):=rfl;exact As (st 0 [] [] aE9 aE9 aE9)<|As (st 1 _ _ aE9 aE9 aE9)<|As (st 2 _ _ aE9 aE9 aE9)<|As (st 3 _ _ aE9 aE9 aE9)<|BF fin
 unfold bz;rw[show af _=_ from h0];simp only[AO,RP Zm.sm,A6]
def agh:RO ()=I ((tR rv0,()),()):=aaD
def evA(l:List Event)(i:Nat):Event:=l.getD i<|dfl .CM
def aDK(l:List Event)(i:Nat): @rd Event aFi l (i:Int)=evA l i:=rfl
def abF{l:List Event}{i:Nat}(h:i<l.length):evA l i=l[i]:=by
 unfold evA;rw[B9,Av h];rfl
def aAy{w:AA}{l:List Event}{i:Nat}(h:i<l.length):Dm w (l.take<|i+1)=Ab (Dm w<|l.take i) (evA l i):=by
 rw[abF h,JJ,Av h,aCF];rfl
def aD0(l:List Event):Az (Dm rv0 l)=Y:=(jY YT nV (l:=l)).1
def avM(l:List Event):SmR (Dm rv0 l):=(F5<|aD0 l).1.sm
def abE{l:List Event}(h:∀e∈l,e.tx.size<=1048576){i:Nat}(hi:i<l.length):(evA l i).tx.size<=1048576:=by
 rw[abF hi];exact h _<|Cd hi
def aiU{l:List Event}(hl:l.length<=4294967296)(h:∀e∈l,e.tx.size<=1048576):cO (l,())=I ((tR<|HO l,()),()):=by
 unfold cO HO;rw[agh];simp only[A6];by_cases c:2000<l.length
 .rw[A5 c,AR<|show(2000:Int)<(j8 l:Int) by omega,A5 rfl]
 .rw[A8 c,BE (J:¬(2000:Int)<(j8 l:Int)),A4];have h0:aV (l,tR zR,tR rv0,0,())=I (.inr (tR zR,tR<|Dm rv0<|l.take l.length,())):=
   CS (λi=>(l,tR zR,tR<|Dm rv0<|l.take i,(i:Int),())) l.length (λi hi=>by
    unfold bm;have hd:=als (avM<|l.take i) (e:=evA l i)<|abE h hi;simp only[BL hi,AU hi,A2,aDK];rw[show Nc (tR<|Dm rv0<|l.take i,tE<|evA l i,())=_ from hd];simp only[A6,BC hi (by omega:l.length<=9223372036854775807),aAy hi];rfl) (by simp[bm])
  rw[show aV _=_ from h0,E5];rfl
def ajB{l:List Event}(hl:l.length<=4294967296)(h:∀e∈l,e.tx.size<=1048576):cF (l,())=I ((tR<|HO l,()),()):=by
 unfold cF HO;rw[ahA];simp only[A6];by_cases c:2000<l.length
 .rw[A5 c,AR<|show(2000:Int)<(j8 l:Int) by omega,A5 rfl]
 .rw[A8 c,BE (J:¬(2000:Int)<(j8 l:Int)),A4];have h0:ax (tR zR,tR rv0,l,(j8 l:Int),0,())=I (.inr (tR zR,tR<|Dm rv0<|l.take l.length,())):=
   CS (λi=>(tR zR,tR<|Dm rv0<|l.take i,l,(j8 l:Int),(i:Int),())) l.length (λi hi=>by
    unfold c8;have hr:=aD0<|l.take i;have hw:=F5 hr;have hd:=gM hw.1 hw.2.1 hw.2.2 (e:=evA l i)<|abE h hi;simp only[BL hi,AU hi,A2,aDK];rw[show Hn (tR<|Dm rv0<|l.take i,tE<|evA l i,())=_ from hd];have e:Ab (Dm rv0<|l.take i) (evA l i)=(if U (99999<=(Dm rv0<|l.take i).ti) then(Dm rv0<|l.take i,A0) else if(doM (Dm rv0<|l.take i)<|evA l i).2 then(Cj (Dm rv0<|l.take i)<|evA l i,Y) else(Dm rv0<|l.take i,A0)).1:=by
     unfold Ab Ev;rw[A5 hr]
    simp only[A6,BC hi (by omega:l.length<=9223372036854775807),aAy hi,e]) (by simp[c8])
  rw[show ax _=_ from h0,E5];rfl
def Xb(l:List Event):Az (HO l)=Y:=(aCD l).1
def at3(l:List Event):SmR (HO l):=(F5<|Xb l).1.sm
def Reach.tx{ev:List Event}{w:AA}(h:Reach ev w):∀e∈ev,e.tx.size<=1048576:=by
 induction h with
 | nil=>exact λe he=>by cases he
 | snoc _ _ ht ih=>exact l5 ih ht
def aqY{l:List Int}(hb:BOk l):∃ev:List Event,UE (l,())=I ((ev,()),())/\ev.length<=1048576/\ ∀e∈ev,e.tx.size<=1048576:=by
 have key:Tot (UE (l,())) λa=>a.1.1.length<=1048576/\ ∀e∈a.1.1,e.tx.size<=1048576:=by
  unfold UE;refine Tot.bind (awl hb) λr1 h1=>Tot.bind (Cq h1 aE9) λr4 h4=>Tot.ite (λ_=> ?_) (λ_=> ?_)
  .refine Tot.bind (Cq h4.1 aE9) λr5 h5=> ?_;have h50:=h5.2.1;have h51:r5.1.1<2:=h5.2.2 (show(1:Int)<=2 by decide);rw[AZ J J];refine Tot.pos (by rw[AD,decide_eq_true_eq,decide_eq_true_eq];omega) (Tot.ret ⟨?_,λe he=> ?_⟩)
   .show(BS _ _).length<=_;rw[List.length_replicate];omega
   .rw[(List.mem_replicate.1 he).2];show noB.size<=_;decide
  .exact Tot.bind (awg (M:=26) h4.1 aE9 aE9 aE9) λr6 h6=>Tot.ret (by
    obtain⟨w,ev,e1,e2,e3⟩:=h6.2;have e4:r6.1.1.2.2.2.2.2.2.2=(ev,()):=by rw[e1]
    rw[e4];exact⟨by show ev.length<=1048576;omega,e2.reach.tx⟩)
 obtain⟨⟨⟨ev,_⟩,_⟩,e,h1,h2⟩:=key;exact⟨ev,e,h1,h2⟩
def aB5(l:List A7)(i:Nat): @rd A7 aE5 l (i:Int)=kA l i:=rfl
def l8(n:Nat):U ((n:Int)<(n:Int))=A0:=by simp
def nE{α:Type}{R:α->α->Prop}{f:α->Bool}{n:α}:∀ {l:List α},l.Pairwise R->(∀x∈l,f x=Y->R x n)->(∀x∈l,f x=A0->R n x)->(∀x y,R n x->R x y->R n y)->(ins f l n).Pairwise R
 | [],_,_,_,_=>lK _ _
 | x::l,h,h1,h2,h3=>by
  obtain⟨a,b⟩:=K6.1 h;obtain c|c:=tf (f x)
  .have e:ins f (x::l) n=x::ins f l n:=by unfold ins;simp[c]
   rw[e,K6];refine⟨λy hy=> ?_,nE b (λy hy=>h1 y<|.tail _ hy) (λy hy=>h2 y<|.tail _ hy) h3⟩;obtain rfl|hy:=GX _ hy
   .exact h1 x (.head _) c
   .exact a y hy
  .have e:ins f (x::l) n=n::x::l:=by unfold ins;simp[c]
   rw[e,K6];refine⟨λy hy=> ?_,h⟩;have hx:=h2 x (.head _) c;cases hy with
   | head=>exact hx
   | tail _ hy=>exact h3 _ _ hx<|a y hy
abbrev RN(a b:A3):Prop:=bef a.fr a.nu b.fr b.nu=Y
abbrev RM(a b:Mark):Prop:=bef a.mf a.mn b.mf b.mn=Y
def ab0{a b c d:Int}(h:¬(a=c/\b=d))(g:bef a b c d=A0):bef c d a b=Y:=by
 unfold bef at *;simp only[Mx,Lx,decide_eq_false_iff_not,C1,AD,decide_eq_true_eq]at *;omega
def XO{l:List A3}(h:DI l=Y):l.Pairwise RN:=by
 rw[K3];intro i j hi hj hij;have:=Rz h j i hij hj;rw[DT<|Av hi,DT<|Av hj]at this;exact this
def aDz{l:List A3}(h:l.Pairwise RN)(g:∀x∈l,Ax x=Y):DI l=Y:=by
 unfold DI;rw[Cp];intro i hi;rw[DT<|Av hi,g _ (Cd hi),AP,C1,decide_eq_true_eq];obtain c|c:=TS i
 .exact .inl c
 .right;rw[DT<|Av (J:i - 1<l.length)];exact K3.1 h (i - 1) i J hi J
def aEF{l:List Mark}(h:FH l=Y):l.Pairwise RM:=by
 have key:∀(j i:Nat),i<j->j<l.length->bef (mA l i).mf (mA l i).mn (mA l j).mf (mA l j).mn=Y:=by
  intro j
  induction j with
  | zero=>intro i h;omega
  | succ j ih=>
   intro i hij hj;have h1:=Cp.1 h (j+1) hj;simp only[AD,C1,decide_eq_true_eq]at h1;have h2:bef (mA l j).mf (mA l j).mn (mA l<|j+1).mf (mA l<|j+1).mn=Y:=h1.2.resolve_left J;obtain h3|h3:=HA i j
   .exact SP (ih i h3 J) h2
   .rwa[show i=j by omega]
 rw[K3];intro i j hi hj hij;have:=key j i hij hj;rw[Fc<|Av hi,Fc<|Av hj]at this;exact this
def aty{l:List Mark}(h:l.Pairwise RM)(g:∀x∈l,Ew x=Y):FH l=Y:=by
 unfold FH;rw[Cp];intro i hi;rw[Fc<|Av hi,g _ (Cd hi),AP,C1,decide_eq_true_eq];obtain c|c:=TS i
 .exact .inl c
 .right;rw[Fc<|Av (J:i - 1<l.length)];exact K3.1 h (i - 1) i J hi J
def aBr{l:List A3}{n:A3}(h:DI l=Y)(hn:Ax n=Y)(h0:∀x∈l,¬(x.fr=n.fr/\x.nu=n.nu)):DI (Du l n)=Y:=by
 refine aDz (nE (XO h) (λ_ _ c=>c) (λx hx c=>ab0 (h0 x hx) c) λ_ _ a b=>SP a b) (λx hx=> ?_);obtain rfl|hx:=GX _ hx
 .exact hn
 .exact Pc h hx
def aBu{l:List Mark}{m:Mark}(h:FH l=Y)(hm:Ew m=Y)(h0:∀x∈l,¬(x.mf=m.mf/\x.mn=m.mn)):FH (ED l m)=Y:=by
 refine aty (nE (aEF h) (λ_ _ c=>c) (λx hx c=>ab0 (h0 x hx) c) λ_ _ a b=>SP a b) (λx hx=> ?_);obtain rfl|hx:=GX _ hx
 .exact hm
 .exact aAf h hx
def aaM(l:List A3)(i:Nat):(ER l i).Sublist l:=by
 unfold ER;have h:(l.take i++l.drop (i+1)).Sublist (l.take i++l.drop i):=by
  refine lY (ET _) ?_;rw[← Iq];exact QH _ _
 rwa[JK]at h
def arA{l:List A3}(h:DI l=Y)(i:Nat):DI (ER l i)=Y:=
 aDz ((XO h).sublist<|aaM l i) (λx hx=>Pc h<|O4 hx)
def jP{k:AJ}(id:isN k.id=Y)(ti:inB k.ti 0 999=Y)(nx:inB k.nx 1 100=Y)(hl:k.held.length<=6)(h:DI k.held=Y)(ml:k.marks.length<=12)(m:FH k.marks=Y)(il:k.inbox.length<=6)(i:DI k.inbox=Y)
  (ho:∀n∈k.held,¬(n.fr=k.id/\k.nx<=n.nu)/\k.ti<n.un/\Ec k.id n.fr n.to=Y/\ ∀x∈k.marks,¬(x.mf=n.fr/\x.mn=n.nu))
  (mo:∀x∈k.marks,k.ti<x.mu/\ ¬(x.mf=k.id/\k.nx<=x.mn))(io:∀n∈k.inbox,n.to=k.id/\ ¬(n.fr=k.id/\k.nx<=n.nu)/\(k.ti<n.un->∃x∈k.marks,x.mf=n.fr/\x.mn=n.nu)):At k=Y:=by
 unfold At;simp only[AD,decide_eq_true_eq,Cp];refine⟨id,ti,nx,⟨J,h⟩,⟨J,m⟩,⟨J,i⟩,λj hj=> ?_,λj hj=> ?_,λj hj=> ?_⟩
 .obtain⟨a,b,c,d⟩:=ho _<|I3 hj;unfold Gx;simp only[AD,CE,decide_eq_true_eq,Lx,decide_eq_false_iff_not];refine⟨?_,b,c,by rw[jk d];decide⟩;by_cases e:(nA k.held j).fr=k.id
  .exact .inr λg=>a ⟨e,g⟩
  .exact .inl e
 .obtain⟨a,b⟩:=mo _<|Yx hj;unfold J4;simp only[AD,CE,decide_eq_true_eq,Lx,decide_eq_false_iff_not];refine⟨a, ?_⟩;by_cases e:(mA k.marks j).mf=k.id
  .exact .inr λg=>b ⟨e,g⟩
  .exact .inl e
 .obtain⟨a,b,c⟩:=io _<|I3 hj;unfold IY;simp only[AD,C1,CE,decide_eq_true_eq,Lx,decide_eq_false_iff_not];refine⟨a, ?_, ?_⟩
  .by_cases e:(nA k.inbox j).fr=k.id
   .exact .inr λg=>b ⟨e,g⟩
   .exact .inl e
  .by_cases e:k.ti<(nA k.inbox j).un
   .obtain⟨x,x1,x2,x3⟩:=c e;exact .inr (l7 x1 x2 x3)
   .exact .inl e
def WA{k:AJ}(h:At k=Y){n:A3}(hn:n∈k.held):¬(n.fr=k.id/\k.nx<=n.nu)/\k.ti<n.un/\Ec k.id n.fr n.to=Y/\ ∀x∈k.marks,¬(x.mf=n.fr/\x.mn=n.nu):=by
 obtain⟨i,hi,e⟩:=ZJ hn;have:=(C3 h).ho i hi;unfold Gx at this;rw[e]at this;simp only[AD,CE,decide_eq_true_eq,Lx,decide_eq_false_iff_not]at this;exact⟨λc=>by obtain d|d:=this.1<;>first|exact d c.1|exact d c.2,this.2.1,this.2.2.1,l6 this.2.2.2⟩
def jB{k:AJ}(h:At k=Y){m:Mark}(hm:m∈k.marks):k.ti<m.mu/\ ¬(m.mf=k.id/\k.nx<=m.mn):=by
 obtain⟨i,hi,e⟩:=aws hm;have:=(C3 h).mo i hi;unfold J4 at this;rw[e]at this;simp only[AD,CE,decide_eq_true_eq,Lx,decide_eq_false_iff_not]at this;exact⟨this.1,λc=>by obtain d|d:=this.2<;>first|exact d c.1|exact d c.2⟩
def Wu{k:AJ}(h:At k=Y){n:A3}(hn:n∈k.inbox):n.to=k.id/\ ¬(n.fr=k.id/\k.nx<=n.nu)/\(k.ti<n.un->∃x∈k.marks,x.mf=n.fr/\x.mn=n.nu):=by
 obtain⟨i,hi,e⟩:=ZJ hn;have:=(C3 h).io i hi;unfold IY at this;rw[e]at this;simp only[AD,C1,CE,decide_eq_true_eq,Lx,decide_eq_false_iff_not]at this;refine⟨this.1,λc=>by obtain d|d:=this.2.1<;>first|exact d c.1|exact d c.2,λc=> ?_⟩;obtain d|d:=this.2.2
 .exact absurd c d
 .obtain⟨j0,_,j2,j3⟩:=Xw d;exact⟨_,Yx j0,j2,j3⟩
def arn{k:AJ}{n:A3}(hk:At k=Y)(hn:Ax n=Y)(hf:n.fr≠k.id)(ht:k.ti<n.un)(h1:∀x∈k.held,¬(x.fr=n.fr/\x.nu=n.nu))(h2:∀x∈k.inbox,¬(x.fr=n.fr/\x.nu=n.nu))(h3:∀x∈k.marks,¬(x.mf=n.fr/\x.mn=n.nu))
  (hl:k.held.length+k.marks.length+1<=6)(il:k.inbox.length+1<=6)(hw:n.to≠k.id->Ec k.id n.fr n.to=Y):∃o,BJ k (J6 n)=I o:=by
 have kf:=C3 hk;have r:=S4 hn;have d1:¬0<=AX k.held n.fr n.nu:=λc=>by obtain⟨j,_,a,b⟩:=FG c;exact h1 _ (I3 j) ⟨a,b⟩
 have d2:¬0<=AX k.inbox n.fr n.nu:=λc=>by obtain⟨j,_,a,b⟩:=FG c;exact h2 _ (I3 j) ⟨a,b⟩
 have d3:¬0<=Bo k.marks n.fr n.nu:=λc=>by obtain⟨j,_,a,b⟩:=Xw c;exact h3 _ (Yx j) ⟨a,b⟩
 rw[jI hk hn,A8 hf];unfold Ed;rw[hn,AB,A4,BE J,A4,BE d1,A4,BE d2,A4,BE d3,A4,
  BE (J:¬(12:Int)<(j8 k.held:Int)+k.marks.length+1),A4]
 have hid:isN k.id=Y:=Aa.2 ⟨kf.id0,kf.id1⟩;have hti:inB k.ti 0 999=Y:=Aa.2 ⟨kf.t0,kf.t1⟩;have hnx:inB k.nx 1 100=Y:=Aa.2 ⟨kf.n0,kf.n1⟩;by_cases e:n.to=k.id
 .rw[A5<|AR e];refine⟨_,JL.2 ⟨rfl,jP hid hti hnx kf.hl kf.h ?_ ?_ ?_ (aBr kf.i hn h2) (λx hx=> ?_) (λx hx=> ?_) λx hx=> ?_⟩⟩
  .show(ED _ _).length<=12;unfold ED;rw[Nw];omega
  .exact aBu kf.m (by unfold Ew;simp[r.2.2.2.1,r.2.2.2.2.2.1,r.2.2.2.2.2.2.1]) h3
  .show(Du _ _).length<=6;unfold Du;rw[Nw];omega
  .obtain⟨a,b,c,d⟩:=WA hk hx;refine⟨a,b,c,λy hy=> ?_⟩;obtain rfl|hy:=GX _ hy
   .exact λc=>h1 x hx ⟨c.1.symm,c.2.symm⟩
   .exact d y hy
  .rcases GX _ hx with rfl|hx
   .exact⟨ht,λc=>hf c.1⟩
   .exact jB hk hx
  .rcases GX _ hx with rfl|hx
   .exact⟨e,λc=>hf c.1,λ_=>⟨_,Ka _<|.inl rfl,rfl,rfl⟩⟩
   .obtain⟨a,b,c⟩:=Wu hk hx;refine⟨a,b,λh=> ?_⟩;obtain⟨y,y1,y2⟩:=c h;exact⟨y,Ka _<|.inr y1,y2⟩
 .rw[BE e,A4];refine⟨_,JL.2 ⟨rfl,jP hid hti hnx ?_ (aBr kf.h hn h1) kf.ml kf.m kf.il kf.i (λx hx=> ?_) (λx hx=>jB hk hx) λx hx=>Wu hk hx⟩⟩
  .show(Du _ _).length<=6;unfold Du;rw[Nw];omega
  .rcases GX _ hx with rfl|hx
   .exact⟨λc=>hf c.1,ht,hw e,h3⟩
   .exact WA hk hx
def au5{k:AJ}{n:A3}(hk:At k=Y)(hn:n∈k.held)(hl:k.held.length+k.marks.length<=6):∃o,BJ k (CY Bw n.fr n.nu n.un)=I o/\ ∀x∈o.held,¬(x.fr=n.fr/\x.nu=n.nu):=by
 have kf:=C3 hk;have nok:=Pc kf.h hn;have r:=S4 nok;have h0:=XQ hn rfl rfl;obtain⟨j0,j1,j2,j3⟩:=FG h0;have hu:∀x∈k.held,x.fr=n.fr->x.nu=n.nu->x=n:=λx hx a b=>by
  obtain⟨i,hi,e⟩:=D0 hx;obtain⟨j,hj,e'⟩:=D0 hn;have pw:=K3.1<|XO kf.h;obtain c|c|c:=IA i j
  .have:=pw i j hi hj c;rw[e,e',RN,a,b,OS]at this;cases this
  .subst c;rw[← e,← e']
  .have:=pw j i hj hi c;rw[e,e',RN,a,b,OS]at this;cases this
 have en:=hu _ (I3 j0) j2 j3;rw[aCk hk J J J];have hit:EE k.held ⟨n.fr,n.nu,n.un⟩=Y:=by
  unfold EE;rw[AR h0,en,AR rfl];rfl
 rw[A5 hit];obtain⟨a,b,_,d⟩:=WA hk hn;have gone:∀x∈ER k.held (AX k.held n.fr n.nu).toNat,¬(x.fr=n.fr/\x.nu=n.nu):=λx hx c=>by
  have:=hu x (O4 hx) c.1 c.2;subst this;have:=aaN kf.h j0;rw[en]at this;exact this hx
 refine⟨_,JL.2 ⟨rfl,jP (Aa.2 ⟨kf.id0,kf.id1⟩) (Aa.2 ⟨kf.t0,kf.t1⟩) (Aa.2 ⟨kf.n0,kf.n1⟩) ?_ (arA kf.h _) ?_ ?_ kf.il kf.i (λx hx=> ?_) (λx hx=> ?_) λx hx=> ?_⟩,gone⟩
 .exact CV (aaM _ _).length_le kf.hl
 .show(ED _ _).length<=12;unfold ED;rw[Nw];omega
 .exact aBu kf.m (by unfold Ew;simp[r.2.2.2.1,r.2.2.2.2.2.1,r.2.2.2.2.2.2.1]) d
 .obtain⟨a,b,c,d⟩:=WA hk<|O4 hx;refine⟨a,b,c,λy hy=> ?_⟩;obtain rfl|hy:=GX _ hy
  .exact λc=>gone x hx ⟨c.1.symm,c.2.symm⟩
  .exact d y hy
 .rcases GX _ hx with rfl|hx
  .exact⟨b,a⟩
  .exact jB hk hx
 .obtain⟨a,b,c⟩:=Wu hk hx;refine⟨a,b,λh=> ?_⟩;obtain⟨y,y1,y2⟩:=c h;exact⟨y,Ka _<|.inr y1,y2⟩
def YQ{α:Type}:∀ {l s:List α},l.Nodup->(∀x∈l,x∈s)->l.length<=s.length
 | [],_,_,_=>D1 _
 | x::l,s,h,g=>by
  obtain⟨a,b⟩:=IB.1 h;obtain⟨s1,s2,rfl⟩:=TQ<|g x<|.head _;have:=YQ (l:=l) (s:=s1++s2) b (λy hy=>by
   have hy':=g y<|.tail _ hy;rw[BM,Bl]at hy';rw[BM];obtain c|c|c:=hy'
   .exact .inl c
   .subst c;exact absurd hy a
   .exact .inr c)
  simp only[Au,Bj]at this ⊢;omega
def idN(n:A3):Int×Int:=(n.fr,n.nu)
def idM(m:Mark):Int×Int:=(m.mf,m.mn)
def aCt{l:List A3}(h:DI l=Y):(l.map idN).Nodup:=by
 unfold List.Nodup;rw[List.pairwise_map];refine(XO h).imp (fun {a b} r e=> ?_);have e1:=(IH e).1;have e2:=(IH e).2;rw[RN,e1,e2,OS]at r;cases r
def asG{l:List Mark}(h:FH l=Y):(l.map idM).Nodup:=by
 unfold List.Nodup;rw[List.pairwise_map];refine(aEF h).imp (fun {a b} r e=> ?_);have e1:=(IH e).1;have e2:=(IH e).2;rw[RM,e1,e2,OS]at r;cases r
def KV{w:AA}(v:Inv w)(ok:B5 w){i:Nat}(hi:i<4){n:A3}(h:n∈(sT w i).held):n∈w.AY:=v.hs i hi n<|((v.lo i hi).lf (ok.k i hi).1).held n h
def aDk{w:AA}(ok:B5 w){i:Nat}(hi:i<4):((sT w i).held.map idN++(sT w i).marks.map idM).Nodup:=by
 have hk:=FZ ok hi;have kf:=C3 hk;rw[JN];refine⟨aCt kf.h,asG kf.m,λa ha b hb e=> ?_⟩;obtain⟨n,hn,rfl⟩:=Bu.1 ha;obtain⟨m,hm,rfl⟩:=Bu.1 hb;have e1:=(IH e).1;have e2:=(IH e).2;exact(WA hk hn).2.2.2 m hm ⟨e1.symm,e2.symm⟩
def aEu{w:AA}(v:Inv w)(ok:B5 w){i:Nat}(hi:i<4):∀x∈(sT w i).held.map idN++(sT w i).marks.map idM,x∈w.AY.map idN:=λx hx=>by
 obtain hx|hx:=BM.1 hx
 .obtain⟨n,hn,rfl⟩:=Bu.1 hx;exact Bu.2 ⟨n,KV v ok hi hn,rfl⟩
 .obtain⟨m,hm,rfl⟩:=Bu.1 hx;obtain⟨n,h1,h2,_⟩:=v.mrk i hi m hm;exact Bu.2 ⟨n,h1,by rw[h2];rfl⟩
def axm{w:AA}(v:Inv w)(ok:B5 w){i:Nat}(hi:i<4):(sT w i).held.length+(sT w i).marks.length<=6:=by
 have:=YQ (aDk ok hi)<|aEu v ok hi;have:=ok.sl;simp only[Au,DV]at *;omega
def atQ{w:AA}(v:Inv w)(ok:B5 w){i:Nat}(hi:i<4){n:A3}(hn:n∈w.AY)(h1:∀x∈(sT w i).held,¬(x.fr=n.fr/\x.nu=n.nu))(h3:∀x∈(sT w i).marks,¬(x.mf=n.fr/\x.mn=n.nu)):
  (sT w i).held.length+(sT w i).marks.length+1<=6:=by
 have:=YQ (l:=idN n::((sT w i).held.map idN++(sT w i).marks.map idM)) (s:=w.AY.map idN) (IB.2 ⟨λhx=>by
  obtain hx|hx:=BM.1 hx
  .obtain⟨x,hx,e⟩:=Bu.1 hx;exact h1 x hx ⟨(IH e).1,(IH e).2⟩
  .obtain⟨x,hx,e⟩:=Bu.1 hx;exact h3 x hx ⟨(IH e).1,(IH e).2⟩,aDk ok hi⟩) (λx hx=>by
  cases hx with
  | head=>exact Bu.2 ⟨n,hn,rfl⟩
  | tail _ hx=>exact aEu v ok hi x hx)
 have:=ok.sl;simp only[Au,DV,Bj]at *;omega
def atS{w:AA}(v:Inv w)(ok:B5 w){i:Nat}(hi:i<4){n:A3}(hn:n∈w.AY)(h2:∀x∈(sT w i).inbox,¬(x.fr=n.fr/\x.nu=n.nu)):(sT w i).inbox.length+1<=6:=by
 have:=YQ (l:=idN n::(sT w i).inbox.map idN) (s:=w.AY.map idN) (IB.2 ⟨λhx=>by
  obtain⟨x,hx,e⟩:=Bu.1 hx;exact h2 x hx ⟨(IH e).1,(IH e).2⟩,aCt (C3<|FZ ok hi).i⟩) (λx hx=>by
  cases hx with
  | head=>exact Bu.2 ⟨n,hn,rfl⟩
  | tail _ hx=>
   obtain⟨y,hy,rfl⟩:=Bu.1 hx;exact Bu.2 ⟨y,(v.bx i hi y hy).1,rfl⟩)
 have:=ok.sl;simp only[DV,Bj]at *;omega
def eBr:Event:=⟨4,0,0,0,0,0,0,0,0,noB⟩
def eMx(i fr nu b:Int):Event:=⟨3,i,fr,nu,0,b,0,0,0,noB⟩
def eRi(i:Int):Event:=⟨8,i,0,0,0,0,0,0,0,noB⟩
def eOp(i:Int):Event:=⟨9,i,0,0,0,0,0,0,0,noB⟩
def dlv:Nat->AA->AA
 | 0,w=>w
 | n+1,w=>if w.AS.length=0 then w else dlv n (Ab w eBr)
def Q6{w:AA}(h:w.AS=[])(n:Nat):dlv n w=w:=by
 cases n with
 | zero=>rfl
 | succ n=>unfold dlv;rw[A5 (by rw[h];rfl)]
def mX{w:AA}{p:AL}{ps:List AL}(h:w.AS=p::ps)(n:Nat):dlv (n+1) w=dlv n (Ab w eBr):=by
 show(if w.AS.length=0 then w else dlv n (Ab w eBr))=_;rw[A8 (by rw[h];simp)]
structure Cm (w:AA):Prop where
 ok:Az w=Y
 inv:Inv w
 li:∀i,i<3->bA w.Ao i=Y
 up:∀i,i<4->(kA w.A9 i).up=Y
def Cm.rv{w:AA}(c:Cm w):B5 w:=(F5 c.ok).1
def LW{w:AA}(h:Az w=Y)(v:Inv w)(e:Event):Az (Ab w e)=Y/\Inv (Ab w e):=jY (l:=[e]) h v
def Q2{w:AA}{e:Event}(h:Az w=Y)(ht:w.ti<99999)(hd:(doM w e).2=Y):
  Ab w e=⟨w.ti+1,(doM w e).1.A9,(doM w e).1.Ao,(doM w e).1.AS,(doM w e).1.AY,(doM w e).1.got⟩:=by
 have t0:=(F5 h).2.1;have e1:Ab w e=Cj w e:=by
  unfold Ab Ev;rw[A5 h,A8 (by rw[BE (J:¬99999<=w.ti)];exact CQ),A5 hd]
 rw[e1,mw hd,AZ J J]
def Q1{w:AA}{e:Event}(h:Az w=Y)(hd:(doM w e).2=A0):Ab w e=w:=by
 unfold Ab Ev;rw[A5 h,hd,A4];split<;>rfl
def abZ{w:AA}{p:AL}{ps:List AL}(ok:B5 w)(hr:w.AS=p::ps)(hl:∀i,i<3->bA w.Ao i=Y):doM w eBr=(Eb w p ps,Y):=by
 have hp:pA w.AS 0=p:=by rw[hr];rfl
 have hpo:=MY (ok.p p (by rw[hr];exact .head _));unfold doM;rw[A5<|.inl rfl];unfold EZ;rw[A5<|show inB eBr.wo 0 ((w.AS.length:Int) - 1)=Y from Aa.2 ⟨Ct _,by rw[hr];show(0:Int)<=((ps.length+1:Nat):Int) - 1;omega⟩,A8<|show ¬eBr.ki=6 by decide,A8<|show ¬eBr.ki=5 by decide];rw[show pA w.AS eBr.wo.toNat=p from hp,hl _ J,A5 rfl,A5<|show eBr.kp=0 from rfl];rw[hr];rfl
def aqQ{w:AA}{f:Frame}{ps:List AL}(hf:Bx f=Y):Eb w (pcF f) ps=⟨w.ti,w.A9.set f.dst.toNat (CB (kA w.A9 f.dst.toNat) f).1,w.Ao,Bz ps (CB (kA w.A9 f.dst.toNat) f).2,w.AY,w.got⟩:=by
 have hu:Cn (BA (pcF f).data)=(f,Y):=by
  show Cn (BA<|BH<|Cb f)=_;rw[Nt<|O3 f,WR hf]
 unfold Eb;rw[hu,A5<|by simp[pcF]];rfl
def aaA{w:AA}{f:Frame}(h:Az w=Y)(ht:w.ti<99999)(hl:∀i,i<3->bA w.Ao i=Y)(hr:w.AS=[pcF f])(hf:Bx f=Y):
  Ab w eBr=⟨w.ti+1,w.A9.set f.dst.toNat (CB (kA w.A9 f.dst.toNat) f).1,w.Ao,Bz [] (CB (kA w.A9 f.dst.toNat) f).2,w.AY,w.got⟩:=by
 have hd:=abZ (F5 h).1 hr hl;rw[Q2 h ht<|by rw[hd],hd,aqQ hf]
def atO(f:Frame):Bz [] [f]=[pcF f]:=rfl
def aC6:Bz [] []=[]:=rfl
def axr{w:AA}(c:Cm w)(hr:w.AS=[])(ht:w.ti<99999){i:Nat}(hi:i<4){n:A3}(hn:n∈(sT w i).held){b:Int}(hb:inB b 0 999=Y):
  Ab w (eMx i n.fr n.nu b)=⟨w.ti+1,w.A9,w.Ao,[pcF (B8 i n b)],w.AY,w.got⟩:=by
 have ok:=c.rv;have hk:=FZ ok hi;have h0:=XQ hn rfl rfl;obtain⟨j0,_,j2,j3⟩:=FG h0;have e:=Ic c.inv.sp (KV c.inv ok hi<|I3 j0) (KV c.inv ok hi hn) j2 j3;have hid:=(ok.k i hi).2;have hm:EC (kA w.A9 i) n.fr n.nu b=(B8 i n b,Y):=by
  unfold EC;rw[A5 (by rw[c.up i hi,hb,BE (show ¬AX (stT<|kA w.A9 i).held n.fr n.nu<0 by have:0<=AX (stT<|kA w.A9 i).held n.fr n.nu:=h0;omega)];rfl)];have e:nA (stT<|kA w.A9 i).held (AX (stT<|kA w.A9 i).held n.fr n.nu).toNat=n:=e;rw[e,hid];rfl
 have hd:doM w (eMx i n.fr n.nu b)=(⟨w.ti,w.A9,w.Ao,Bz w.AS [B8 i n b],w.AY,w.got⟩,Y):=by
  unfold doM;rw[A8 (by show ¬((3:Int)=4\/(3:Int)=5\/(3:Int)=6);omega),A8 (by show ¬((3:Int)=9\/(3:Int)=10);omega),A5<|show isN (eMx i n.fr n.nu b).at_=Y from FY hi];unfold GW;rw[A8 (by show ¬(3:Int)=1;omega),A8 (by show ¬(3:Int)=2;omega),A5<|show(eMx i n.fr n.nu b).ki=3 from rfl];have:EC (kA w.A9 (eMx i n.fr n.nu b).at_.toNat) (eMx i n.fr n.nu b).fr (eMx i n.fr n.nu b).nu (eMx i n.fr n.nu b).mix=(B8 i n b,Y):=hm;rw[this];rfl
 rw[Q2 c.ok ht<|by rw[hd],hd,hr];rfl
def Sc{l:List A7}{i j:Nat}(k:A7)(h:j≠i):kA (l.set i k) j=kA l j:=by
 by_cases c:i<l.length
 .rw[GB c,A8 h]
 .rw[List.set_eq_of_length_le J]
def aBy{w:AA}(c:Cm w)(ht:w.ti+3<99999)(hr:w.AS=[]){i j:Nat}(hi:i<4)(hj:j<4){n:A3}(hn:n∈(sT w i).held)(hnx:Br i n.to=(j:Int)){b:Int}(hb:inB b 0 999=Y):
  (∃w',dlv 400 (Ab w<|eMx i n.fr n.nu b)=w'/\(E8 (kA w.A9 j)<|B8 i n b).2=[]/\w'=⟨w.ti+2,w.A9.set j (E8 (kA w.A9 j)<|B8 i n b).1,w.Ao,[],w.AY,w.got⟩)\/
  (∃w' x,dlv 400 (Ab w<|eMx i n.fr n.nu b)=w'/\(x=2\/x=3)/\(E8 (kA w.A9 j)<|B8 i n b).2=[Df x (B8 i n b)]/\
   w'=⟨w.ti+3,(w.A9.set j (E8 (kA w.A9 j)<|B8 i n b).1).set i (CB (kA w.A9 i)<|Df x<|B8 i n b).1,w.Ao,[],w.AY,w.got⟩):=by
 have ok:=c.rv;have kl:=ok.kl;have hkn:=O8 (FZ ok hi) hn;have idi:=HN ok hi;rw[idi]at hkn;have nok:=ok.s n<|KV c.inv ok hi hn;have hf:Bx (B8 i n b)=Y:=ja (FY hi) nok hkn.1 hb;have PA:(B8 i n b).dst=(j:Int):=hnx;have hij:i≠j:=by
  have:=aCP (FY hi) (O6 nok).2.1 (by have:=hkn.1;unfold Ec at this;simp only[AD,CE,decide_eq_false_iff_not]at this;exact this.1);intro e;rw[hnx,e]at this;omega
 have h1:=axr c hr J hi hn hb;have g0:=LW c.ok c.inv<|eMx i n.fr n.nu b;have hh:CB (kA w.A9 j) (B8 i n b)=E8 (kA w.A9 j) (B8 i n b):=by
  rw[Xk (ok.k j hj).1];unfold HU;rw[A5 (by rw[c.up j hj,hf,PA,(ok.k j hj).2];simp),A5<|show U ((B8 i n b).ki=1)=Y from rfl]
 rw[h1]at g0;have s2:=aaA (w:=⟨w.ti+1,w.A9,w.Ao,[pcF (B8 i n b)],w.AY,w.got⟩) (f:=B8 i n b) g0.1 (by show w.ti+1<99999;omega) c.li rfl hf;rw[PA,Bc]at s2;simp only[hh]at s2;have d1:dlv 400 (Ab w<|eMx i n.fr n.nu b)=dlv 399 (Ab ⟨w.ti+1,w.A9,w.Ao,[pcF (B8 i n b)],w.AY,w.got⟩ eBr):=by
  rw[h1];exact mX rfl 399
 have g1:=LW g0.1 g0.2 eBr;rw[s2]at d1 g1;have two:w.ti+1+1=w.ti+2:=J
 rw[two]at d1 g1;have ha:=k8 (kA w.A9 j)<|B8 i n b;rw[hh]at ha;obtain ha|⟨_,_,_,x,hx,ha⟩:=ha
 .rw[ha,aC6]at d1;exact .inl ⟨_,rfl,ha,by rw[d1,Q6 rfl]⟩
 .refine .inr ⟨_,x,rfl,hx,ha, ?_⟩;rw[ha,atO]at d1 g1;have hfa:=nC hf rfl hx;have s3:=aaA (w:=⟨w.ti+2,w.A9.set j (E8 (kA w.A9 j)<|B8 i n b).1,w.Ao,[pcF (Df x<|B8 i n b)],w.AY,w.got⟩) (f:=Df x<|B8 i n b) g1.1 (by show w.ti+2<99999;omega) c.li rfl hfa;have hds:(Df x<|B8 i n b).dst=(i:Int):=rfl;rw[hds,Bc]at s3;simp only[Sc _ hij]at s3;have hno:(CB (kA w.A9 i)<|Df x<|B8 i n b).2=[]:=by
   obtain h|⟨_,h,_⟩:=k8 (kA w.A9 i) (Df x<|B8 i n b)
   .exact h
   .have:(Df x<|B8 i n b).ki=x:=rfl;omega
  rw[hno,aC6]at s3;rw[d1,mX rfl 398,s3,Q6 rfl];rw[show w.ti+2+1=w.ti+3 by omega]
def Pr(hv:List AE)(n:A3)(b:Nat):Prop:=b=0\/ ∃h∈hv,h.fr=n.fr/\h.nu=n.nu/\ ∃x,h.got=x++F4 n.tx b
def ar2(tx:A1)(b:Nat):(F4 tx b).length=b:=by unfold F4;simp
def apm(tx:A1)(b:Nat):F4 tx (b+1)=F4 tx b++[⟨(b:Int),GG tx (b:Int)⟩]:=by
 unfold F4;rw[IC,Eg];rfl
def apl(x:List AN)(tx:A1){b:Nat}(hb:b<=5):∃x',Cr (x++F4 tx b) (b:Int) (GG tx (b:Int))=x'++F4 tx (b+1):=by
 have h:(F4 tx b).filter (Dn (b:Int))=F4 tx b:=List.filter_eq_self.2 λm hm=>by
  obtain⟨j,hj,rfl⟩:=ar1 hm;unfold Dn;simp;omega
 have hl:=ar2 tx b;unfold Cr;rw[QX,h,apm];split
 .rename_i hc;rw[Au]at hc;refine⟨(x.filter<|Dn (b:Int)).drop 1, ?_⟩;rw[TJ J,C2]
 .exact⟨x.filter<|Dn (b:Int),by rw[C2]⟩
def atq{k:A7}(hk:Ae k=Y){a b:AE}(ha:a∈k.AH)(hb:b∈k.AH)(h1:a.fr=b.fr)(h2:a.nu=b.nu):a=b:=by
 have hv:=(El hk).hv;obtain⟨i,hi,ei⟩:=OU ha;obtain⟨j,hj,ej⟩:=OU hb;have key:∀i j,i<k.AH.length->j<i->¬((hA k.AH j).fr=(hA k.AH i).fr/\(hA k.AH j).nu=(hA k.AH i).nu):=λi j hi hj c=>by
  have:=hv i hi;unfold Fg at this;rw[AD,Cp]at this;have:=this.2 j hj;rw[AR c.1,AR c.2]at this;cases this
 obtain c|c|c:=IA i j
 .exact absurd ⟨by rw[ei,ej,h1],by rw[ei,ej,h2]⟩ (key j i hj c)
 .subst c;rw[← ei,← ej]
 .exact absurd ⟨by rw[ei,ej,h1],by rw[ei,ej,h2]⟩<|key i j hi c
def aqy{l:List AE}{f n:Int}(h:EB l f n<0):∀x∈l,¬(x.fr=f/\x.nu=n):=λx hx c=>by
 obtain⟨i,hi,e⟩:=OU hx;unfold EB at h;obtain⟨_,g⟩|⟨m,g,_⟩:=G6 l.length (λi=>U ((hA l i).fr=f)&&U ((hA l i).nu=n))
 .have:=g i hi;rw[e,AR c.1,AR c.2]at this;cases this
 .omega
def at1{k:A7}(hk:Ae k=Y){f:Frame}{n:A3}(h1:f.fr=n.fr)(h2:f.nu=n.nu){b:Nat}(p:Pr k.AH n b):∃x,(hA (Ap k.AH f).1 (Ap k.AH f).2).got=x++F4 n.tx b:=by
 obtain⟨i,e,hi,e1,e2,_⟩|⟨hn,l,_,e⟩:=jy k.AH f
 .rw[e];obtain rfl|⟨h,hh,a1,a2,x,a3⟩:=p
  .exact⟨(hA k.AH i).got,by show _=_++F4 n.tx 0;rw[show F4 n.tx 0=[] from rfl,CJ]⟩
  .have:=atq hk hh (nO hi) (by rw[a1,e1,h1]) (by rw[a2,e2,h2]);exact⟨x,by rw[← this];exact a3⟩
 .rw[e];obtain rfl|⟨h,hh,a1,a2,_⟩:=p
  .exact⟨[],by rw[Xz];rfl⟩
  .exact absurd ⟨by rw[a1,h1],by rw[a2,h2]⟩<|aqy hn h hh
def at0{w:AA}(v:Inv w){j:Nat}(hj:j<4){f:Frame}{n:A3}(hn:n∈w.AY)(h1:f.fr=n.fr)(h2:f.nu=n.nu)(h3:f.to=n.to)(h4:f.un=n.un)(h5:f.sz=n.tx.size):
  Ln (hA (Ap (kA w.A9 j).AH f).1 (Ap (kA w.A9 j).AH f).2) f=Y:=by
 obtain⟨i,e,hi,e1,e2,_⟩|⟨_,l,_,e⟩:=jy (kA w.A9 j).AH f
 .rw[e];obtain⟨x,x1,x2,x3,x4,x5,x6,_⟩:=v.hf j hj _<|nO hi;have ex:x=n:=Ic v.sp x1 hn (by rw[← x2,e1,h1]) (by rw[← x3,e2,h2]);subst ex;unfold Ln;rw[x4,x5,x6,h3,h4,h5];simp
 .rw[e,Xz];exact atP f
def asR{tx:A1}{b k:Nat}(h:k<b):(⟨(k:Int),GG tx (k:Int)⟩:AN)∈F4 tx b:=Bu.2 ⟨k,Cu.2 h,rfl⟩
def arl{tx:A1}(h:inB tx.size 1 24=Y){x:List AN}(ho:Ow tx (x++F4 tx ((tx.size+3) / 4))):F7 tx.size (x++F4 tx ((tx.size+3) / 4))=(tx,Y):=by
 have h':=Aa.1 h;refine aqW h ho λk hk=>⟨⟨(k:Int),GG tx (k:Int)⟩,CP _<|asR hk,aCc h<|Aa.2 J, ?_⟩;exact apn (aCV h) hk
def aCG{w:AA}(c:Cm w){i j:Nat}(hi:i<4)(hj:j<4){n:A3}(hn:n∈(sT w i).held)(hnx:Br i n.to=(j:Int)){b:Nat}(hb:b<(n.tx.size+3) / 4)(hp:Pr (kA w.A9 j).AH n b):
  (n.un<=(sT w j).ti/\E8 (kA w.A9 j) (B8 i n b)=(kA w.A9 j,[Df 3 (B8 i n b)]))\/
  (¬n.un<=(sT w j).ti/\ ∃k',E8 (kA w.A9 j) (B8 i n b)=(k',[Df 2 (B8 i n b)])/\k'.up=Y/\(stT k').ti=(sT w j).ti/\ ∀x∈(stT k').held,x∈(sT w j).held\/x=n)\/
  (¬n.un<=(sT w j).ti/\b+1<(n.tx.size+3) / 4/\ ∃hv,E8 (kA w.A9 j) (B8 i n b)=(GZ (kA w.A9 j) hv,[])/\Pr hv n (b+1)):=by
 have ok:=c.rv;have v:=c.inv;have hkn:=O8 (FZ ok hi) hn;rw[HN ok hi]at hkn;have hs:=KV v ok hi hn;have nok:=ok.s n hs;have rn:=O6 nok;have htx:=Me nok;have ayk:=Aa.1 htx;have Qv:inB (b:Int) 0 999=Y:=Aa.2 J;have hf:Bx (B8 i n b)=Y:=ja (FY hi) nok hkn.1 Qv;have hwn:=Pv (FY hi) rn.1 rn.2.1 hkn.1;rw[hnx]at hwn;have p8:=(ok.k j hj).1;have aza:=(ok.k j hj).2;have upj:=c.up j hj;unfold E8;by_cases hl:n.un<=(sT w j).ti
 .rw[A5<|show(B8 i n b).un<=(stT<|kA w.A9 j).ti from hl];exact .inl ⟨hl,rfl⟩
 rw[A8<|show ¬(B8 i n b).un<=(stT<|kA w.A9 j).ti from hl];by_cases hh:0<=AX (stT<|kA w.A9 j).held (B8 i n b).fr (B8 i n b).nu\/0<=Bo (stT<|kA w.A9 j).marks (B8 i n b).fr (B8 i n b).nu
 .rw[A5 hh];obtain⟨_,_,_,a3⟩:=YB p8;exact .inr<|.inl ⟨hl,_,rfl,upj,by rw[a3],λx hx=>by rw[a3]at hx;exact .inl hx⟩
 rw[A8 hh,A8 (show ¬(B8 i n b).fr=(kA w.A9 j).id by rw[aza];exact λe=>hwn.2.1 e.symm)];have d1:∀x∈(sT w j).held,¬(x.fr=n.fr/\x.nu=n.nu):=λx hx e=>hh<|.inl<|XQ hx e.1 e.2;have d3:∀x∈(sT w j).marks,¬(x.mf=n.fr/\x.mn=n.nu):=λx hx e=>hh<|.inr<|l7 hx e.1 e.2;have d2:∀x∈(sT w j).inbox,¬(x.fr=n.fr/\x.nu=n.nu):=λx hx e=>by
  have hx2:=Ic v.sp (v.bx j hj x hx).1 hs e.1 e.2;subst hx2;obtain⟨y,y1,y2,y3⟩:=(Wu (FZ ok hj) hx).2.2 J;exact d3 y y1 ⟨y2,y3⟩
 obtain⟨p1,p2,p3⟩:=aac (w:=w) (v.hf j hj) (f:=B8 i n b) hs rfl rfl rfl rfl rfl;have plt:=OH (hv:=(kA w.A9 j).AH) (f:=B8 i n b);obtain⟨q1,q2⟩:=abG v plt p1 hs (f:=B8 i n b) rfl rfl rfl p2 p3;obtain⟨x,ex⟩:=at1 p8 (f:=B8 i n b) (n:=n) rfl rfl hp;obtain⟨x',ex'⟩:=apl x n.tx (b:=b) J;unfold Jx;rw[A5<|at0 v hj (f:=B8 i n b) hs rfl rfl rfl rfl rfl];rw[ex,show Cr (x++F4 n.tx b) (B8 i n b).mix (B8 i n b).da=_ from ex'];rw[ex,show Cr (x++F4 n.tx b) (B8 i n b).mix (B8 i n b).da=_ from ex']at q2;rw[show(B8 i n b).sz=(n.tx.size:Int) from rfl];obtain ht|ht:=tf (F7 n.tx.size<|x'++F4 n.tx (b+1)).2
 .rw[A5 ht];have hte:=aDY htx q2 ht;rw[hte];rw[show(⟨(B8 i n b).fr,(B8 i n b).nu,(B8 i n b).to,(B8 i n b).un,(n.tx,Y).1⟩:A3)=n from rfl];have hdr:=mz p8 upj hf rfl;have hkk:=C8 hdr.ok;have est:stT (GZ (kA w.A9 j)<|FB (Cz (Ap (kA w.A9 j).AH<|B8 i n b).1 (Ap (kA w.A9 j).AH<|B8 i n b).2<|B8 i n b) (Ap (kA w.A9 j).AH<|B8 i n b).2)=sT w j:=rfl;obtain⟨o,ho⟩:=arn (k:=sT w j) (FZ ok hj) nok (by rw[HN ok hj];exact λe=>hwn.2.1 e.symm) J d1 d2 d3 (atQ v ok hj hs d1 d3) (atS v ok hj hs d2) (λhne=>by
   rw[HN ok hj]at hne ⊢;exact hwn.2.2 λe=>hne e.symm)
  have o7:=aDR hkk (by rw[est];exact ho);unfold Kc;rw[A5 (by rw[nok,o7.2];rfl)];obtain⟨kf,_⟩:=aEj (FZ ok hj) nok ho;refine .inr (.inl ⟨hl,_,rfl,by rw[OP];exact upj, ?_,λy hy=> ?_⟩)
  .rw[o7.1.is.stT];have tk:=axQ (FZ ok hj) nok ho;exact tk.ti
  .rw[o7.1.is.stT]at hy;obtain e|e|e:=kf.held y hy
   .exact .inl e
   .cases e
   .cases e;exact .inr rfl
 .rw[ht,A4];refine .inr (.inr ⟨hl, ?_,_,rfl, ?_⟩)
  .rcases HA (b+1) ((n.tx.size+3) / 4) with h|h
   .exact h
   .have e:b+1=(n.tx.size+3) / 4:=J
    rw[e]at ht q2;rw[arl htx q2]at ht;cases ht
  .have hm:∀(l:List AE) (m:Nat),m<l.length->(⟨(hA l m).fr,(hA l m).nu,(hA l m).to,(hA l m).un,(hA l m).sz,Cr (hA l m).got (B8 i n b).mix (B8 i n b).da⟩:AE)∈Cz l m (B8 i n b):=λl m h=>by
    unfold Cz;exact List.mem_set h _
   refine .inr ⟨_,hm _ _ plt,p2,p3,x', ?_⟩;show Cr (hA (Ap (kA w.A9 j).AH<|B8 i n b).1 (Ap (kA w.A9 j).AH<|B8 i n b).2).got (B8 i n b).mix (B8 i n b).da=_;rw[ex];exact ex'
def lF:∀(m:Nat) {w:AA},Az w=Y->Inv w->Az (dlv m w)=Y/\Inv (dlv m w)
 | 0,_,h,v=>⟨h,v⟩
 | m+1,w,h,v=>by
  unfold dlv;split
  .exact⟨h,v⟩
  .obtain⟨a,b⟩:=LW h v eBr;exact lF m a b
def aCe{k:A7}(hk:Ae k=Y)(f:Frame):CB k (Df 3 f)=(k,[]):=by
 rw[Xk hk];unfold HU;split
 .rw[A8 (show ¬U ((Df 3 f).ki=1)=Y by show ¬U ((3:Int)=1)=Y;decide),show U ((Df 3 f).ki=2)=A0 from rfl,AM,A4]
 .rfl
def au6{w:AA}(c:Cm w){i:Nat}(hi:i<4){n:A3}(hn:n∈(sT w i).held){b:Int}(hb:inB b 0 999=Y):
  ∃k',CB (kA w.A9 i) (Df 2<|B8 i n b)=(k',[])/\k'.up=Y/\(stT k').ti=(sT w i).ti/\(∀x∈(stT k').held,x∈(sT w i).held/\x≠n):=by
 have ok:=c.rv;have hk:=FZ ok hi;have acR:=(ok.k i hi).1;have hkn:=O8 hk hn;rw[HN ok hi]at hkn;have hs:=KV c.inv ok hi hn;have nok:=ok.s n hs;have hf:Bx (B8 i n b)=Y:=ja (FY hi) nok hkn.1 hb;have hfa:=nC hf rfl (n:=2) (.inl rfl);have h0:=XQ hn rfl rfl;obtain⟨j0,_,j2,j3⟩:=FG h0;have e:=Ic c.inv.sp (KV c.inv ok hi<|I3 j0) hs j2 j3;have e:nA (stT<|kA w.A9 i).held (AX (stT<|kA w.A9 i).held n.fr n.nu).toNat=n:=e;have h0:0<=AX (stT<|kA w.A9 i).held n.fr n.nu:=h0;obtain⟨o,ho,hg⟩:=au5 hk hn<|axm c.inv ok hi;have r:=S4 nok;have hw2:(wrR (kA w.A9 i) (CY Bw n.fr n.nu n.un) A0).2=Y:=by
  unfold wrR;rw[show BJ (stT<|kA w.A9 i) _=_ from ho]
 obtain⟨_,_,a2,_⟩:=aai acR (c.inv.lo i hi) ⟨n.fr,n.nu,n.un,J,J,J,rfl⟩ hw2;have eo:o=stT (wrR (kA w.A9 i) (CY Bw n.fr n.nu n.un) A0).1:=Eh<|ho.symm.trans a2;have kf:=aaq hk J J J ho;obtain⟨_,eo2⟩:=mS hk J J J ho;refine⟨(wrR (kA w.A9 i) (CY Bw n.fr n.nu n.un) A0).1, ?_,by rw[OP];exact c.up i hi,by rw[← eo,eo2],λx hx=> ?_⟩
 .rw[Xk acR];unfold HU;rw[A5 (by rw[c.up i hi,hfa,AP,AP];exact AR (by rw[(ok.k i hi).2];rfl)),A8 (show ¬U ((Df 2<|B8 i n b).ki=1)=Y by show ¬U ((2:Int)=1)=Y;decide)];rw[A5 (by
   rw[show(Df 2<|B8 i n b).fr=n.fr from rfl,show(Df 2<|B8 i n b).nu=n.nu from rfl,e,BE (J:¬AX (stT<|kA w.A9 i).held n.fr n.nu<0)];rw[show(Df 2<|B8 i n b).to=n.to from rfl,show(Df 2<|B8 i n b).un=n.un from rfl,show U ((Df 2<|B8 i n b).ki=2)=Y from rfl,AR rfl,AR rfl];rfl)]
  rfl
 .rw[← eo]at hx;obtain h|h|h:=kf.held x hx
  .exact⟨h,λe=>hg x hx ⟨by rw[e],by rw[e]⟩⟩
  .cases h
  .cases h
structure Ofr (T:Nat) (w w':AA) (i j:Nat) (n:A3):Prop where
 cm:Cm w'
 ra:w'.AS=[]
 se:w'.AY=w.AY
 go:w'.got=w.got
 t0:w.ti<=w'.ti
 t1:w'.ti<=w.ti+T
 clk:∀k,k<4->(sT w' k).ti=(sT w k).ti
 hi:∀x∈(sT w' i).held,x∈(sT w i).held
 hj:∀x∈(sT w' j).held,x∈(sT w j).held\/x=n
 ot:∀k,k≠i->k≠j->kA w'.A9 k=kA w.A9 k
 st:n.un<=(sT w j).ti->w'.A9=w.A9
def Ofr.rfl{w:AA}(c:Cm w)(hr:w.AS=[])(i j:Nat)(n:A3):Ofr 0 w w i j n:=⟨c,hr,Hg _,Hg _,Ct _,J,λ_ _=>Hg _,λ_ h=>h,λ_ h=> .inl h,λ_ _ _=>Hg _,λ_=>Hg _⟩
def Ofr.trans{T S:Nat}{a b c:AA}{i j:Nat}{n:A3}(hj4:j<4)(h:Ofr T a b i j n)(g:Ofr S b c i j n):Ofr (T+S) a c i j n:=
 ⟨g.cm,g.ra,g.se.trans h.se,g.go.trans h.go,K8 h.t0 g.t0,by have:=h.t1;have:=g.t1;omega,λk hk=>(g.clk k hk).trans<|h.clk k hk,λx hx=>h.hi x<|g.hi x hx,
  λx hx=>by obtain e|e:=g.hj x hx;exact h.hj x e;exact .inr e,λk h1 h2=>(g.ot k h1 h2).trans<|h.ot k h1 h2,λhs=>(g.st (by rw[h.clk j hj4];exact hs)).trans<|h.st hs⟩
def Ofr.up{T S:Nat}{w w':AA}{i j:Nat}{n:A3}(h:Ofr T w w' i j n)(hS:T<=S):Ofr S w w' i j n:=⟨h.cm,h.ra,h.se,h.go,h.t0,by have:=h.t1;omega,h.clk,h.hi,h.hj,h.ot,h.st⟩
def axo{w:AA}(ok:B5 w){i j:Nat}(hi:i<4){n:A3}(nok:Ax n=Y)(hw:Ec (i:Int) n.fr n.to=Y)(hnx:Br i n.to=(j:Int)):i≠j:=by
 have:=aCP (FY hi) (O6 nok).2.1 (by unfold Ec at hw;simp only[AD,CE,decide_eq_false_iff_not]at hw;exact hw.1);intro e;rw[hnx,e]at this;omega
def FA(i:Nat)(n:A3)(w:AA)(b:Nat):AA:=dlv 400<|Ab w<|eMx i n.fr n.nu b
def ar8{w:AA}(c:Cm w)(hr:w.AS=[])(ht:w.ti+3<99999){i j:Nat}(hi:i<4)(hj:j<4){n:A3}(hn:n∈(sT w i).held)(hnx:Br i n.to=(j:Int)){b:Nat}(hb:b<(n.tx.size+3) / 4)(hp:Pr (kA w.A9 j).AH n b):
  Ofr 3 w (FA i n w b) i j n/\(n.un<=(sT w j).ti\/n ∉ (sT (FA i n w b) i).held\/(n∈(sT (FA i n w b) i).held/\b+1<(n.tx.size+3) / 4/\Pr (kA (FA i n w b).A9 j).AH n (b+1))):=by
 have ok:=c.rv;have kl:=ok.kl;have hkn:=O8 (FZ ok hi) hn;rw[HN ok hi]at hkn;have nok:=ok.s n<|KV c.inv ok hi hn;have htx:=Aa.1<|Me nok;have Qv:inB (b:Int) 0 999=Y:=Aa.2 J;have hij:=axo ok hi nok hkn.1 hnx;have Di:=(fun(e:Event)=>LW c.ok c.inv e)<|eMx i n.fr n.nu b;have Di:=lF 400 Di.1 Di.2;unfold FA;obtain⟨w',e0,ha,ew⟩|⟨w',x,e0,hx,ha,ew⟩:=aBy c ht hr hi hj hn hnx Qv
 .rw[e0]at Di ⊢;obtain⟨_,e⟩|⟨_,k',e,_⟩|⟨hl,hb2,hv,e,hpr⟩:=aCG c hi hj hn hnx hb hp
  .rw[e]at ha;cases ha
  .rw[e]at ha;cases ha
  .rw[e]at ew;subst ew;have kj:kA (w.A9.set j<|GZ (kA w.A9 j) hv) j=GZ (kA w.A9 j) hv:=by rw[GB J,A5 rfl]
   have kk:∀k,k≠j->kA (w.A9.set j<|GZ (kA w.A9 j) hv) k=kA w.A9 k:=λk hk=>Sc _ hk;have sts:∀k,stT (kA (w.A9.set j<|GZ (kA w.A9 j) hv) k)=stT (kA w.A9 k):=λk=>by
    by_cases h:k=j
    .rw[h,kj];rfl
    .rw[kk k h]
   refine⟨⟨⟨Di.1,Di.2,c.li,λk hk=> ?_⟩,rfl,rfl,rfl,by show w.ti<=w.ti+2;omega,by show w.ti+2<=w.ti+(3:Nat);omega,λk _=>by unfold sT;rw[sts],λy hy=>by unfold sT at hy ⊢; rw[sts]at hy;exact hy,
    λy hy=> .inl (by unfold sT at hy ⊢; rw[sts]at hy;exact hy),λk _ h2=>kk k h2,λhs=>absurd hs hl⟩,.inr<|.inr ⟨?_,hb2, ?_⟩⟩
   .show(kA (w.A9.set j _) k).up=Y;by_cases h:k=j
    .rw[h,kj];exact c.up j hj
    .rw[kk k h];exact c.up k hk
   .unfold sT at hn ⊢;rw[sts];exact hn
   .show Pr (kA (w.A9.set j _) j).AH n (b+1);rw[kj];exact hpr
 .rw[e0]at Di ⊢;obtain⟨hl,e⟩|⟨hl,k',e,u1,u2,u3⟩|⟨_,_,hv,e,_⟩:=aCG c hi hj hn hnx hb hp
  .rw[e]at ha;have hx3:x=3:=by
    have:=congrArg Frame.ki (mC ha).1;exact this.symm
   subst hx3;rw[e,aCe (ok.k i hi).1,Kg,Kg]at ew;subst ew;exact⟨⟨⟨Di.1,Di.2,c.li,c.up⟩,rfl,rfl,rfl,by show w.ti<=w.ti+3;omega,Ct _,λ_ _=>rfl,λ_ h=>h,λ_ h=> .inl h,λ_ _ _=>rfl,λ_=>rfl⟩,.inl hl⟩
  .rw[e]at ha;have hx2:x=2:=by
    have:=congrArg Frame.ki (mC ha).1;exact this.symm
   subst hx2;obtain⟨k1,l0,l1,l2,l3⟩:=au6 c hi hn Qv;rw[e,l0]at ew;subst ew;have ki:kA ((w.A9.set j k').set i k1) i=k1:=by rw[GB y7,A5 rfl]
   have kj:kA ((w.A9.set j k').set i k1) j=k':=by rw[Sc _ λh=>hij h.symm,GB J,A5 rfl]
   have kk:∀k,k≠i->k≠j->kA ((w.A9.set j k').set i k1) k=kA w.A9 k:=λk h1 h2=>by rw[Sc _ h1,Sc _ h2]
   refine⟨⟨⟨Di.1,Di.2,c.li,λk hk=> ?_⟩,rfl,rfl,rfl,by show w.ti<=w.ti+3;omega,Ct _,λk hk=> ?_,λy hy=> ?_,λy hy=> ?_,kk,λhs=>absurd hs hl⟩,.inr<|.inl λh=> ?_⟩
   .show(kA ((w.A9.set j k').set i k1) k).up=Y;by_cases h1:k=i
    .rw[h1,ki];exact l1
    .by_cases h2:k=j
     .rw[h2,kj];exact u1
     .rw[kk k h1 h2];exact c.up k hk
   .show(stT<|kA ((w.A9.set j k').set i k1) k).ti=_;by_cases h1:k=i
    .rw[h1,ki];exact l2
    .by_cases h2:k=j
     .rw[h2,kj];exact u2
     .rw[kk k h1 h2]
   .have hy:y∈(stT<|kA ((w.A9.set j k').set i k1) i).held:=hy;rw[ki]at hy;exact(l3 y hy).1
   .have hy:y∈(stT<|kA ((w.A9.set j k').set i k1) j).held:=hy;rw[kj]at hy;exact u3 y hy
   .have h:n∈(stT<|kA ((w.A9.set j k').set i k1) i).held:=h;rw[ki]at h;exact(l3 n h).2 rfl
  .rw[e]at ha;cases ha
def axq{w:AA}(c:Cm w){i:Nat}(hi:i<4){n:A3}(hs:n∈w.AY)(hn:n ∉ (sT w i).held)(b:Int):Ab w (eMx i n.fr n.nu b)=w:=by
 have ok:=c.rv;refine Q1 c.ok ?_;have:(EC (kA w.A9 i) n.fr n.nu b).2=A0:=by
  unfold EC;split
  .rename_i hc;simp only[AD,CE,decide_eq_false_iff_not]at hc;obtain⟨j0,_,j2,j3⟩:=FG<|QU.1 hc.2.1;have hm:=I3 j0;have e:=Ic c.inv.sp (KV c.inv ok hi hm) hs j2 j3;rw[e]at hm;exact absurd hm hn
  .rfl
 unfold doM;rw[A8 (by show ¬((3:Int)=4\/(3:Int)=5\/(3:Int)=6);omega),A8 (by show ¬((3:Int)=9\/(3:Int)=10);omega),A5<|show isN (eMx i n.fr n.nu b).at_=Y from FY hi];unfold GW;rw[A8 (by show ¬(3:Int)=1;omega),A8 (by show ¬(3:Int)=2;omega),A5<|show(eMx i n.fr n.nu b).ki=3 from rfl];rw[A8 (by rw[show(EC (kA w.A9 (eMx i n.fr n.nu b).at_.toNat) (eMx i n.fr n.nu b).fr (eMx i n.fr n.nu b).nu (eMx i n.fr n.nu b).mix).2=A0 from this];exact CQ)]
def Jw(i:Nat)(w:AA)(n:A3):AA:=(B7<|(n.tx.size+3) / 4).foldl (FA i n) w
def ar9{w:AA}(c:Cm w)(hr:w.AS=[])(ht:w.ti+18<99999){i j:Nat}(hi:i<4)(hj:j<4){n:A3}(hs:n∈w.AY)(hnx:Br i n.to=(j:Int)):
  Ofr 18 w (Jw i w n) i j n/\(n.un<=(sT w j).ti\/n ∉ (sT (Jw i w n) i).held):=by
 have ok:=c.rv;have nok:=ok.s n hs;have htx:=Aa.1<|Me nok;have key:∀m,m<=(n.tx.size+3) / 4->Ofr (3 * m) w ((B7 m).foldl (FA i n) w) i j n/\(n.un<=(sT w j).ti\/n ∉ (sT ((B7 m).foldl (FA i n) w) i).held\/
   (n∈(sT ((B7 m).foldl (FA i n) w) i).held/\m<(n.tx.size+3) / 4/\Pr (kA ((B7 m).foldl (FA i n) w).A9 j).AH n m)):=by
  intro m
  induction m with
  | zero=>
   intro _;refine⟨Ofr.rfl c hr i j n, ?_⟩;by_cases h:n∈(sT w i).held
   .exact .inr (.inr ⟨h,J,.inl rfl⟩)
   .exact .inr<|.inl h
  | succ m ih=>
   intro hm;obtain⟨o,g⟩:=ih J;rw[IC,G1];generalize (B7 m).foldl (FA i n) w=x at o g;show Ofr (3 * (m+1)) w (FA i n x m) i j n/\(_\/n ∉ (sT (FA i n x m) i).held\/(n∈(sT (FA i n x m) i).held/\_/\Pr (kA (FA i n x m).A9 j).AH n (m+1)));have hxs:n∈x.AY:=by rw[o.se];exact hs
   by_cases hh:n∈(sT x i).held
   .have t1:=o.t1;by_cases hp:Pr (kA x.A9 j).AH n m
    .obtain⟨o2,g2⟩:=ar8 o.cm o.ra J hi hj hh hnx (b:=m) J hp;refine⟨(o.trans hj o2).up J, ?_⟩;obtain g2|g2|g2:=g2
     .rw[o.clk j hj]at g2;exact .inl g2
     .exact .inr (.inl g2)
     .exact .inr<|.inr g2
    ·
     have hst:n.un<=(sT w j).ti:=by
      obtain g|g|g:=g
      .exact g
      .exact absurd hh g
      .exact absurd g.2.2 hp
     have o2:Ofr 3 x (FA i n x m) i j n:=by
      have hkn:=O8 (FZ o.cm.rv hi) hh;rw[HN o.cm.rv hi]at hkn;have hl:n.un<=(sT x j).ti:=by rw[o.clk j hj];exact hst
      have Qv:inB (m:Int) 0 999=Y:=Aa.2 J;have okx:=o.cm.rv;have Di:=LW o.cm.ok o.cm.inv<|eMx i n.fr n.nu m;have Di:=lF 400 Di.1 Di.2;have hpm:E8 (kA x.A9 j) (B8 i n m)=(kA x.A9 j,[Df 3 (B8 i n m)]):=by
       unfold E8;rw[A5<|show(B8 i n m).un<=(stT<|kA x.A9 j).ti from hl]
      unfold FA;obtain⟨w',e0,ha,_⟩|⟨w',y,e0,hy,ha,ew⟩:=aBy o.cm J o.ra hi hj hh hnx Qv
      .rw[hpm]at ha;cases ha
      .rw[e0]at Di ⊢;rw[hpm]at ha;have hy3:y=3:=(congrArg Frame.ki (mC ha).1).symm;subst hy3;rw[hpm,aCe (okx.k i hi).1,Kg,Kg]at ew;subst ew;exact⟨⟨Di.1,Di.2,o.cm.li,o.cm.up⟩,rfl,rfl,rfl,by show x.ti<=x.ti+3;omega,Ct _,λ_ _=>rfl,λ_ h=>h,λ_ h=> .inl h,λ_ _ _=>rfl,λ_=>rfl⟩
     exact⟨(o.trans hj o2).up J,.inl hst⟩
   .have e:FA i n x m=x:=by
     unfold FA;rw[axq o.cm hi hxs hh,Q6 o.ra]
    rw[e];exact⟨o.up J,.inr<|.inl hh⟩
 obtain⟨o,g⟩:=key _<|Ar _;refine⟨o.up J, ?_⟩;obtain g|g|g:=g
 .exact .inl g
 .exact .inr g
 .omega
def stk(w:AA)(n:A3)(i:Nat):Prop:=n.un<=(sT w (Br i n.to).toNat).ti
structure Cal (T:Nat) (w w':AA):Prop where
 cm:Cm w'
 ra:w'.AS=[]
 se:w'.AY=w.AY
 go:w'.got=w.got
 t0:w.ti<=w'.ti
 t1:w'.ti<=w.ti+T
 clk:∀k,k<4->(sT w' k).ti=(sT w k).ti
def Cal.rfl{w:AA}(c:Cm w)(hr:w.AS=[]):Cal 0 w w:=⟨c,hr,Hg _,Hg _,Ct _,J,λ_ _=>Hg _⟩
def Cal.trans{T S:Nat}{a b c:AA}(h:Cal T a b)(g:Cal S b c):Cal (T+S) a c:=
 ⟨g.cm,g.ra,g.se.trans h.se,g.go.trans h.go,K8 h.t0 g.t0,by have:=h.t1;have:=g.t1;omega,λk hk=>(g.clk k hk).trans<|h.clk k hk⟩
def Cal.up{T S:Nat}{w w':AA}(h:Cal T w w')(hS:T<=S):Cal S w w':=⟨h.cm,h.ra,h.se,h.go,h.t0,by have:=h.t1;omega,h.clk⟩
def Sj{w w':AA}(h:∀k,k<4->(sT w' k).ti=(sT w k).ti){n:A3}{i:Nat}(hn:isN (Br i n.to)=Y):stk w' n i↔stk w n i:=by
 have:=F6 hn;unfold stk;rw[h _ J]
structure Trn (T:Nat) (w w':AA) (i:Nat) (L:List A3):Prop where
 ca:Cal T w w'
 hi:∀x∈(sT w' i).held,x∈(sT w i).held
 ot:∀k,k<4->k≠i->∀x∈(sT w' k).held,x∈(sT w k).held\/(x∈L/\Br i x.to=(k:Int))
 dn:∀n∈L,n ∉ (sT w' i).held\/stk w n i
 st:(∀n∈L,stk w n i)->w'.A9=w.A9
def aBz{i:Nat}(hi:i<4):∀(L:List A3) {w:AA},Cm w->w.AS=[]->w.ti+18 * (L.length:Int)<99999->(∀n∈L,n∈w.AY/\Ec (i:Int) n.fr n.to=Y)->Trn (18 * L.length) w (L.foldl (Jw i) w) i L
 | [],w,c,hr,_,_=>⟨Cal.rfl c hr,λ_ h=>h,λ_ _ _ _ h=> .inl h,λ_ h=>(by cases h),λ_=>rfl⟩
 | n::L,w,c,hr,ht,hL=>by
  obtain⟨hs,hw⟩:=hL n<|.head _;have rn:=O6<|c.rv.s n hs;obtain⟨x1,_,_⟩:=Pv (FY hi) rn.1 rn.2.1 hw;have xr:=F6 x1;obtain⟨j,hj⟩:∃j:Nat,Br i n.to=(j:Int):=⟨(Br i n.to).toNat,J⟩;have hj4:j<4:=J
  have hjn:(Br (i:Int) n.to).toNat=j:=J
  rw[Bj]at ht;obtain⟨o,g⟩:=ar9 c hr J hi hj4 hs hj;have t1:=o.t1;have ih:=aBz hi L o.cm o.ra J (λm hm=>by rw[o.se];exact hL m<|.tail _ hm);have nx:∀m∈L,isN (Br i m.to)=Y:=λm hm=>by
   obtain⟨a,b⟩:=hL m<|.tail _ hm;have rm:=O6<|c.rv.s m a;exact(Pv (FY hi) rm.1 rm.2.1 b).1
  have co:Cal 18 w (Jw i w n):=⟨o.cm,o.ra,o.se,o.go,o.t0,o.t1,o.clk⟩;show Trn _ w (L.foldl (Jw i)<|Jw i w n) i (n::L);refine⟨(co.trans ih.ca).up (by rw[Bj];omega),λx hx=>o.hi x<|ih.hi x hx,λk hk hki x hx=> ?_,λm hm=> ?_,λhst=> ?_⟩
  .rcases ih.ot k hk hki x hx with h|⟨h1,h2⟩
   .by_cases hkj:k=j
    .subst hkj;obtain h|h:=o.hj x h
     .exact .inl h
     .rw[h];exact .inr ⟨.head _,hj⟩
    .left;unfold sT at h ⊢;rw[o.ot k hki hkj]at h;exact h
   .exact .inr ⟨.tail _ h1,h2⟩
  .cases hm with
   | head=>
    obtain g|g:=g
    .right;unfold stk;rw[hjn];exact g
    .exact .inl λh=>g<|ih.hi _ h
   | tail _ hm=>
    obtain h|h:=ih.dn m hm
    .exact .inl h
    .exact .inr ((Sj o.clk<|nx m hm).1 h)
  .have h0:=hst n<|.head _;unfold stk at h0;rw[hjn]at h0;exact(ih.st λm hm=>(Sj o.clk<|nx m hm).2<|hst m<|.tail _ hm).trans<|o.st h0
def IL(w:AA)(i:Nat):AA:=(sT w i).held.foldl (Jw i) w
def jz{w:AA}(c:Cm w){i:Nat}(hi:i<4):∀n∈(sT w i).held,n∈w.AY/\Ec (i:Int) n.fr n.to=Y:=λn hn=>by
 have:=(O8 (FZ c.rv hi) hn).1;rw[HN c.rv hi]at this;exact⟨KV c.inv c.rv hi hn,this⟩
def T3{w:AA}(c:Cm w)(hr:w.AS=[])(ht:w.ti+108<99999){i:Nat}(hi:i<4):Trn 108 w (IL w i) i (sT w i).held:=by
 have hl:=(C3<|FZ c.rv hi).hl;have t:=aBz hi (sT w i).held c hr J<|jz c hi;exact⟨t.ca.up J,t.hi,t.ot,t.dn,t.st⟩
def Stl(w:AA):Prop:=∀k,k<4->∀n∈(sT w k).held,stk w n k
def NI(m:Nat)(w:AA):Prop:=∀k:Nat,k<4->∀n∈(sT w k).held,stk w n k\/(n.to<(k:Int)/\k+m<=3)\/(m=0/\(k:Int)<n.to)
def TI(m i:Nat)(w:AA):Prop:=∀k:Nat,k<4->∀n∈(sT w k).held,stk w n k\/(n.to<(k:Int)/\(k<i->k+m+1<=3)/\k+m<=3)\/((k:Int)<n.to/\i<=k)
def YN{w:AA}(c:Cm w)(hr:w.AS=[])(ht:w.ti+108<99999){i m:Nat}(hi:i<4)(h:TI m i w):TI m (i+1) (IL w i):=by
 have t:=T3 c hr ht hi;intro k hk n hn;have okx:=t.ca.cm.rv;have nx:∀ {k:Nat} {x:A3},k<4->x∈(sT w k).held->isN (Br k x.to)=Y:=fun {k x} hk hx=>by
  obtain⟨a,b⟩:=jz c hk x hx;have rm:=O6<|c.rv.s x a;exact(Pv (FY hk) rm.1 rm.2.1 b).1
 by_cases hki:k=i
 .subst hki;have hn':=t.hi n hn;obtain g|g:=t.dn n hn'
  .exact absurd hn g
  .exact .inl ((Sj t.ca.clk<|nx hk hn').2 g)
 .rcases t.ot k hk hki n hn with g|⟨g1,g2⟩
  .rcases h k hk n g with a|⟨a,b,d⟩|⟨a,b⟩
   .exact .inl ((Sj t.ca.clk<|nx hk g).2 a)
   .exact .inr (.inl ⟨a,λe=>b J,d⟩)
   .exact .inr (.inr ⟨a,J⟩)
  .have hw:=O8 (FZ okx hk) hn;rw[HN okx hk,t.ca.clk k hk]at hw;have hne:(k:Int)≠n.to:=λe=>by
    have:=hw.1;unfold Ec at this;rw[e]at this;simp at this
   have e1:Br (i:Int) n.to=if(i:Int)<n.to then(i:Int)+1 else(i:Int) - 1:=by
    have:=nx hi g1;unfold Br at this ⊢;split at this
    .exact absurd (F6 this) J
    .rename_i hc;rw[A8 hc]
   rw[e1]at g2;obtain a|⟨a,b,d⟩|⟨a,b⟩:=h i hi n g1
   .exfalso;unfold stk at a;rw[e1,g2,Bc]at a;omega
   .rw[A8 J]at g2;exact .inr (.inl ⟨J,λ_=>by omega,J⟩)
   .rw[A5 a]at g2;exact .inr<|.inr ⟨J,J⟩
def Qd(w:AA):AA:=IL (IL (IL (IL w 0) 1) 2) 3
def aEf{w:AA}(c:Cm w)(hr:w.AS=[])(ht:w.ti+432<99999){m:Nat}(h:NI m w):Cal 432 w (Qd w)/\NI (m+1) (Qd w)/\(Stl w->(Qd w).A9=w.A9):=by
 have s0:TI m 0 w:=λk hk n hn=>by
  obtain a|⟨a,b⟩|⟨_,a⟩:=h k hk n hn
  .exact .inl a
  .exact .inr (.inl ⟨a,λe=>by omega,b⟩)
  .exact .inr<|.inr ⟨a,J⟩
 have t0:=T3 c hr J (i:=0) J;have s1:=YN c hr J J s0;have b0:=t0.ca.t1;have t1:=T3 t0.ca.cm t0.ca.ra J (i:=1) J;have s2:=YN t0.ca.cm t0.ca.ra J J s1;have b1:=t1.ca.t1;have t2:=T3 t1.ca.cm t1.ca.ra J (i:=2) J;have s3:=YN t1.ca.cm t1.ca.ra J J s2;have b2:=t2.ca.t1;have t3:=T3 t2.ca.cm t2.ca.ra J (i:=3) J;have s4:=YN t2.ca.cm t2.ca.ra J J s3;refine⟨(((t0.ca.trans t1.ca).trans t2.ca).trans t3.ca).up J,λk hk n hn=> ?_,λhst=> ?_⟩
 .rcases s4 k hk n hn with a|⟨a,b,_⟩|⟨_,a⟩
  .exact .inl a
  .exact .inr (.inl ⟨a,by have:=b hk;omega⟩)
  .omega
 .have e0:=t0.st (λn hn=>hst 0 J n hn);have up:∀ {x:AA},x.A9=w.A9->Stl x:=fun {x} e k hk n hn=>by
   unfold sT at hn;rw[e]at hn;have:=hst k hk n hn;unfold stk sT at this ⊢;rw[e];exact this
  have e1:=(t1.st λn hn=>up e0 1 J n hn).trans e0;have e2:=(t2.st λn hn=>up e1 2 J n hn).trans e1;exact(t3.st λn hn=>up e2 3 J n hn).trans e2
def avH{w:AA}(c:Cm w)(h:NI 3 w):Stl w:=λk hk n hn=>by
 obtain a|⟨a,b⟩|⟨a,_⟩:=h k hk n hn
 .exact a
 .have:=(arB<|c.rv.s n<|KV c.inv c.rv hk hn).2;omega
 .omega
def avI{w:AA}(c:Cm w):NI 0 w:=λk hk n hn=>by
 have hw:=O8 (FZ c.rv hk) hn;rw[HN c.rv hk]at hw;have hne:(k:Int)≠n.to:=λe=>by
  have:=hw.1;unfold Ec at this;rw[e]at this;simp at this
 by_cases e:n.to<(k:Int)
 .exact .inr (.inl ⟨e,J⟩)
 .exact .inr<|.inr ⟨rfl,J⟩
def Ny{w:AA}(c:Cm w)(i:Nat)(hi:i<4):Ab w (eRi i)=w/\Ab w (eOp i)=w:=by
 have ok:=c.rv;have ll:=ok.ll;refine⟨Q1 c.ok ?_,Q1 c.ok ?_⟩
 .unfold doM;rw[A8 (by show ¬((8:Int)=4\/(8:Int)=5\/(8:Int)=6);omega),A8 (by show ¬((8:Int)=9\/(8:Int)=10);omega),A5<|show isN (eRi i).at_=Y from FY hi];unfold GW;rw[A8 (by show ¬(8:Int)=1;omega),A8 (by show ¬(8:Int)=2;omega),A8 (by show ¬(8:Int)=3;omega),A8 (by show ¬(8:Int)=7;omega),A5<|show(eRi i).ki=8 from rfl];show(!(kA w.A9 i).up)=A0;rw[c.up i hi];rfl
 .unfold doM;rw[A8 (by show ¬((9:Int)=4\/(9:Int)=5\/(9:Int)=6);omega),A5 (by show((9:Int)=9\/(9:Int)=10);omega)];unfold Es;split
  .rename_i hc;rw[AD,Aa]at hc;have h0:(0:Int)<=(i:Int)/\(i:Int)<=(w.Ao.length:Int) - 1:=hc.1;have hb:bA w.Ao (eOp i).at_.toNat=Y:=c.li i J;have:=hc.2;rw[hb,show U ((eOp (i:Int)).ki=9)=Y from rfl]at this;cases this
  .rfl
structure Pre (T:Nat) (w w':AA):Prop where
 ok:Az w'=Y
 inv:Inv w'
 se:w'.AY=w.AY
 go:w'.got=w.got
 t0:w.ti<=w'.ti
 t1:w'.ti<=w.ti+T
 st:∀k,sT w' k=sT w k
 up:∀k,(kA w.A9 k).up=Y->(kA w'.A9 k).up=Y
 li:∀i,i<3->bA w.Ao i=Y->bA w'.Ao i=Y
def Pre.trans{T S:Nat}{a b c:AA}(h:Pre T a b)(g:Pre S b c):Pre (T+S) a c:=
 ⟨g.ok,g.inv,g.se.trans h.se,g.go.trans h.go,K8 h.t0 g.t0,by have:=h.t1;have:=g.t1;omega,λk=>(g.st k).trans<|h.st k,λk x=>g.up k<|h.up k x,λi hi x=>g.li i hi<|h.li i hi x⟩
def arT{w:AA}(h:Az w=Y)(v:Inv w)(ht:w.ti<99999){i:Nat}(hi:i<4):Pre 1 w (Ab w<|eRi i)/\(kA (Ab w<|eRi i).A9 i).up=Y:=by
 have ok:=(F5 h).1;have kl:=ok.kl;have Di:=LW h v<|eRi i;have hd:doM w (eRi i)=(G3 w i<|riM<|kA w.A9 i,!(kA w.A9 i).up):=by
  unfold doM;rw[A8 (by show ¬((8:Int)=4\/(8:Int)=5\/(8:Int)=6);omega),A8 (by show ¬((8:Int)=9\/(8:Int)=10);omega),A5<|show isN (eRi i).at_=Y from FY hi];unfold GW;rw[A8 (by show ¬(8:Int)=1;omega),A8 (by show ¬(8:Int)=2;omega),A8 (by show ¬(8:Int)=3;omega),A8 (by show ¬(8:Int)=7;omega),A5<|show(eRi i).ki=8 from rfl];rfl
 obtain e|e:=tf (kA w.A9 i).up
 .have:Ab w (eRi i)=w:=Q1 h (by rw[hd,e];rfl);rw[this]at Di ⊢;exact⟨⟨h,v,rfl,rfl,Ct _,J,λ_=>rfl,λ_ x=>x,λ_ _ x=>x⟩,e⟩
 .have es:=Q2 h ht (e:=eRi i) (by rw[hd,e];rfl);rw[hd]at es;have ks:∀k,kA (Ab w<|eRi i).A9 k=if k=i then riM (kA w.A9 i) else kA w.A9 k:=λk=>by
   rw[es];show kA (w.A9.set i _) k=_;rw[GB J]
  refine⟨⟨Di.1,Di.2,by rw[es];rfl,by rw[es];rfl,by rw[es];show w.ti<=w.ti+1;omega,by rw[es];exact Ct _,λk=> ?_,λk x=> ?_,λj _ x=>by rw[es];exact x⟩,by rw[ks,A5 rfl];rfl⟩
  .unfold sT;rw[ks];split
   .rename_i c;rw[c];rfl
   .rfl
  .rw[ks];split
   .rfl
   .exact x
def ar6{w:AA}(h:Az w=Y)(v:Inv w)(ht:w.ti<99999){i:Nat}(hi:i<4):Pre 1 w (Ab w<|eOp i)/\(i<3->bA (Ab w<|eOp i).Ao i=Y):=by
 have ok:=(F5 h).1;have ll:=ok.ll;have Di:=LW h v<|eOp i;have hd:doM w (eOp i)=Es w (eOp i):=by
  unfold doM;rw[A8 (by show ¬((9:Int)=4\/(9:Int)=5\/(9:Int)=6);omega),A5 (by show((9:Int)=9\/(9:Int)=10);omega)]
 have e9:U ((eOp (i:Int)).ki=9)=Y:=rfl;obtain e|e:=tf (doM w<|eOp i).2
 .have es:=Q2 h ht e;rw[hd]at es e;have el:Es w (eOp i)=(⟨w.ti,w.A9,w.Ao.set i Y,w.AS,w.AY,w.got⟩,Y):=by
   unfold Es at e ⊢;split at e
   .rename_i hc;rw[A5 hc,e9];rfl
   .cases e
  rw[el]at es;have hin:i<3:=by
   unfold Es at e;split at e
   .rename_i hc;rw[AD,Aa]at hc;have:(i:Int)<=(w.Ao.length:Int) - 1:=hc.1.2;omega
   .cases e
  have bl:∀j,bA (Ab w<|eOp i).Ao j=if j=i then Y else bA w.Ao j:=λj=>by
   rw[es];show bA (w.Ao.set i Y) j=_;unfold bA;rw[B9,Of,B9];by_cases c:i=j
   .rw[A5 c,A5 J,A5 c.symm];rfl
   .rw[A8 c,A8 λx=>c x.symm]
  refine⟨⟨Di.1,Di.2,by rw[es],by rw[es],by rw[es];show w.ti<=w.ti+1;omega,by rw[es];exact Ct _,λk=>by rw[es],λk x=>by rw[es];exact x,λj _ x=> ?_⟩,λ_=>by rw[bl,A5 rfl]⟩;rw[bl];split
  .rfl
  .exact x
 .have:Ab w (eOp i)=w:=Q1 h e;rw[this]at Di ⊢;refine⟨⟨h,v,rfl,rfl,Ct _,J,λ_=>rfl,λ_ x=>x,λ_ _ x=>x⟩,λhi3=> ?_⟩;rw[hd]at e;unfold Es at e;split at e
  .cases e
  .rename_i hn;obtain c|c:=tf (bA w.Ao i)
   .exact c
   .exfalso;refine hn ?_;rw[AD,Aa];refine⟨⟨by show(0:Int)<=(i:Int);omega,by show(i:Int)<=(w.Ao.length:Int) - 1;omega⟩, ?_⟩;rw[e9,show bA w.Ao (eOp i).at_.toNat=A0 from c];rfl
def opn(w:AA):AA:=[0,1,2,3].foldl (λw (i:Nat)=>Ab (Ab w<|eRi i)<|eOp i) w
def XJ{w:AA}(h:Az w=Y)(v:Inv w)(ht:w.ti+2<99999){i:Nat}(hi:i<4):Pre 2 w (Ab (Ab w<|eRi i)<|eOp i)/\(kA (Ab (Ab w<|eRi i)<|eOp i).A9 i).up=Y/\(i<3->bA (Ab (Ab w<|eRi i)<|eOp i).Ao i=Y):=by
 obtain⟨a,b⟩:=arT h v J hi;have t:=a.t1;obtain⟨c,d⟩:=ar6 a.ok a.inv J hi;exact⟨a.trans c,c.up _ b,d⟩
def axn{w:AA}(h:Az w=Y)(v:Inv w)(ht:w.ti+8<99999):Pre 8 w (opn w)/\(∀k,k<4->(kA (opn w).A9 k).up=Y)/\ ∀i,i<3->bA (opn w).Ao i=Y:=by
 obtain⟨a0,a1,a2⟩:=XJ h v J (i:=0) J;have ta:=a0.t1;obtain⟨b0,b1,b2⟩:=XJ a0.ok a0.inv J (i:=1) J;have tb:=b0.t1;obtain⟨c0,c1,c2⟩:=XJ b0.ok b0.inv J (i:=2) J;have tc:=c0.t1;obtain⟨d0,d1,_⟩:=XJ c0.ok c0.inv J (i:=3) J;refine⟨((a0.trans b0).trans c0).trans d0,λk hk=> ?_,λi hi=> ?_⟩
 .match k,hk with
  | 0,_=>exact d0.up 0<|c0.up 0<|b0.up 0 a1
  | 1,_=>exact d0.up 1<|c0.up 1 b1
  | 2,_=>exact d0.up 2 c1
  | 3,_=>exact d1
 .match i,hi with
  | 0,_=>exact d0.li 0 J<|c0.li 0 J<|b0.li 0 J<|a2 J
  | 1,_=>exact d0.li 1 J<|c0.li 1 J<|b2 J
  | 2,_=>exact d0.li 2 J<|c2 J
def pt(p:AL):Nat:=if(Cn<|BA p.data).1.ki=1 then 2 else 1
def pot(l:List AL):Nat:=(l.map pt).sum
def aad(p:AL):1<=pt p:=by unfold pt;split<;>omega
def kZ(p:AL)(l:List AL):pot (p::l)=pt p+pot l:=by unfold pot;simp
def avL(a b:List AL):pot (a++b)=pot a+pot b:=by unfold pot;simp
def aae:∀l:List AL,pot l<=2 * l.length
 | []=>Ar _
 | p::l=>by
  have:=aae l;have:pt p<=2:=by unfold pt;split<;>omega
  rw[kZ,Bj];omega
def at2{ps:List AL}{a:Frame}(hf:Bx a=Y)(h1:a.ki≠1):pot (Bz ps [a])<=pot ps+1:=by
 have:pt (pcF a)=1:=by
  unfold pt;rw[show BA (pcF a).data=Cb a from Nt<|O3 a,WR hf,A8 h1]
 unfold Bz;rw[avL];obtain c|c:=TS (30 - ps.length)
 .rw[c];simp[pot]
 .obtain⟨n,hn⟩:∃n,30 - ps.length=n+1:=⟨30 - ps.length - 1,J⟩;rw[hn];simp[pot,this]
def asB{w:AA}(ok:B5 w){p:AL}{ps:List AL}(hp:E3 p=Y):pot (Eb w p ps).AS<pt p+pot ps/\(Eb w p ps).Ao=w.Ao/\(Eb w p ps).AY=w.AY/\(Eb w p ps).got=w.got/\(∀k,(kA (Eb w p ps).A9 k).up=(kA w.A9 k).up)/\ ∀k,k<4->tiK (kA (Eb w p ps).A9 k)=tiK (kA w.A9 k):=by
 have R6:=aad p;have hr:=MY hp;have kl:=ok.kl;unfold Eb;split
 .rename_i hc;have hd:p.dst.toNat<4:=J
  refine⟨?_,rfl,rfl,rfl,λk=> ?_,λk hk=> ?_⟩
  .show pot (Bz ps _)<_;obtain h|⟨hf,h1,_,x,hx,h⟩:=k8 (kA w.A9 p.dst.toNat) (Cn<|BA p.data).1
   .rw[h];have:Bz ps []=ps:=by unfold Bz;simp
    rw[this];omega
   .rw[h];have h2:pt p=2:=by unfold pt;rw[A5 h1]
    have:=at2 (ps:=ps) (nC hf h1 hx) (by show x≠1;omega);omega
  .show(kA (w.A9.set p.dst.toNat _) k).up=_;rw[GB J];split
   .rename_i e;rw[e];exact aEv (ok.k _ hd).1 _
   .rfl
  .show tiK (kA (w.A9.set p.dst.toNat _) k)=_;rw[GB J];split
   .rename_i e;rw[e];exact awB (ok.k _ hd).1 _
   .rfl
 .exact⟨by show pot ps<_;omega,rfl,rfl,rfl,λ_=>rfl,λ_ _=>rfl⟩
structure Dlv (T:Nat) (w w':AA):Prop where
 ok:Az w'=Y
 inv:Inv w'
 se:w'.AY=w.AY
 go:w'.got=w.got
 t0:w.ti<=w'.ti
 t1:w'.ti<=w.ti+T
 clk:∀k,k<4->(sT w' k).ti=(sT w k).ti
 up:∀k,(kA w'.A9 k).up=(kA w.A9 k).up
 li:w'.Ao=w.Ao
def abR:∀(m:Nat) {w:AA},Az w=Y->Inv w->(∀i,i<3->bA w.Ao i=Y)->w.ti+(m:Int)<99999->Dlv m w (dlv m w)/\(pot w.AS<=m->(dlv m w).AS=[])
 | 0,w,h,v,_,_=>⟨⟨h,v,rfl,rfl,Ct _,by show w.ti<=w.ti+((0:Nat):Int);omega,λ_ _=>rfl,λ_=>rfl,rfl⟩,λhp=>by
  show w.AS=[];cases hr:w.AS with
  | nil=>rfl
  | cons p ps=>
   rw[hr,kZ]at hp;have:=aad p;omega⟩
 | m+1,w,h,v,hl,ht=>by
  have ok:=(F5 h).1;cases hr:w.AS with
  | nil=>
   rw[Q6 hr];exact⟨⟨h,v,rfl,rfl,Ct _,J,λ_ _=>rfl,λ_=>rfl,rfl⟩,λ_=>hr⟩
  | cons p ps=>
   rw[mX hr];have hd:=abZ ok hr hl;have es:=Q2 h J (e:=eBr) (by rw[hd]);rw[hd]at es;obtain⟨g1,g2⟩:=LW h v eBr;obtain⟨b1,b2,b3,b4,b5,b6⟩:=asB ok (p:=p) (ps:=ps) (ok.p p (by rw[hr];exact .head _));have et:(Ab w eBr).ti=w.ti+1:=by rw[es]
   obtain⟨r1,r2⟩:=abR m g1 g2 (λi hi=>by rw[es];show bA (Eb w p ps).Ao i=Y;rw[b2];exact hl i hi) J;refine⟨⟨r1.ok,r1.inv,r1.se.trans (by rw[es];exact b3),r1.go.trans (by rw[es];exact b4),by have:=r1.t0;omega,by have:=r1.t1;omega,λk hk=>(r1.clk k hk).trans ?_,λk=>(r1.up k).trans ?_,r1.li.trans (by rw[es];exact b2)⟩,λhp=>r2 ?_⟩
   .rw[es];exact b6 k hk
   .rw[es];exact b5 k
   .rw[es];rw[kZ]at hp;show pot (Eb w p ps).AS<=m;omega
def Fe(w:AA):AA:=Qd<|dlv 400<|opn w
def arR{w:AA}(h:Az w=Y)(v:Inv w)(ht:w.ti+840<99999):Cal 840 w (Fe w)/\NI 1 (Fe w):=by
 obtain⟨a,b,c⟩:=axn h v J;have t1:=a.t1;obtain⟨d,e⟩:=abR 400 a.ok a.inv c J;have hr:(dlv 400<|opn w).AS=[]:=e (by
  have:=aae (opn w).AS;have:=(F5 a.ok).1.rl;omega)
 have cm:Cm (dlv 400<|opn w):=⟨d.ok,d.inv,λi hi=>by rw[d.li];exact c i hi,λk hk=>by rw[d.up];exact b k hk⟩;have t2:=d.t1;obtain⟨f,g,_⟩:=aEf cm hr J<|avI cm;refine⟨⟨f.cm,f.ra,f.se.trans<|d.se.trans a.se,f.go.trans<|d.go.trans a.go,K8 a.t0<|K8 d.t0 f.t0,by have:=f.t1;show(Qd<|dlv 400<|opn w).ti<=w.ti+((840:Nat):Int);omega,λk hk=>(f.clk k hk).trans<|(d.clk k hk).trans<|by rw[a.st]⟩,g⟩
def auJ{w:AA}(c:Cm w):opn w=w:=by
 unfold opn;simp only[Dv,K7];rw[(Ny c 0 J).1,(Ny c 0 J).2,(Ny c 1 J).1,(Ny c 1 J).2,(Ny c 2 J).1,(Ny c 2 J).2,(Ny c 3 J).1,(Ny c 3 J).2]
def kr{w:AA}(c:Cm w)(hr:w.AS=[])(ht:w.ti+840<99999){m:Nat}(h:NI m w):Cal 840 w (Fe w)/\NI (m+1) (Fe w)/\(Stl w->(Fe w).A9=w.A9):=by
 unfold Fe;rw[auJ c,Q6 hr];obtain⟨f,g,k⟩:=aEf c hr J h;exact⟨f.up J,g,k⟩
def HS:Nat->AA->AA
 | 0,w=>w
 | n+1,w=>if w.ti<79999 then HS n (Fe w) else w
def SD{w:AA}(ht:w.ti<79999)(n:Nat):HS (n+1) w=HS n (Fe w):=by
 show(if w.ti<79999 then HS n (Fe w) else w)=_;rw[A5 ht]
def atU{w:AA}(c:Cm w){m:Nat}(hm:3<=m)(h:NI m w):Stl w:=avH c λk hk n hn=>by
 obtain a|⟨a,b⟩|⟨a,_⟩:=h k hk n hn
 .exact .inl a
 .exact .inr (.inl ⟨a,J⟩)
 .omega
def axM{w:AA}(h:Az w=Y)(v:Inv w)(ht:w.ti+3360<79999):Cal 3360 w (HS 4 w)/\Stl (HS 4 w):=by
 obtain⟨a0,a1⟩:=arR h v J;have ta:=a0.t1;obtain⟨b0,b1,_⟩:=kr a0.cm a0.ra J a1;have tb:=b0.t1;obtain⟨c0,c1,_⟩:=kr b0.cm b0.ra J b1;have tc:=c0.t1;obtain⟨d0,d1,_⟩:=kr c0.cm c0.ra J c1;have e:HS 4 w=Fe (Fe<|Fe<|Fe w):=by
  rw[SD J,SD J,SD J,SD J];rfl
 rw[e];exact⟨((a0.trans b0).trans c0).trans d0,atU d0.cm J d1⟩
def Pf{w:AA}(h:Az w=Y)(e:Event):Az (Ab w e)=Y:=by
 unfold Ab;obtain⟨h0,_⟩|⟨_,h0⟩|⟨_,h1,h2,h0⟩:=WC w e
 .rw[h]at h0;cases h0
 .rw[h0];exact h
 .rw[h0];exact aDB h h1 h2
def km{w:AA}(h:Az w=Y)(e:Event):w.ti<=(Ab w e).ti/\(Ab w e).ti<=w.ti+1:=by
 have t0:=(F5 h).2.1;unfold Ab;obtain⟨h0,_⟩|⟨_,h0⟩|⟨_,h1,h2,h0⟩:=WC w e
 .rw[h]at h0;cases h0
 .rw[h0];show w.ti<=w.ti/\w.ti<=w.ti+1;omega
 .rw[h0];show w.ti<=(Cj w e).ti/\(Cj w e).ti<=w.ti+1;rw[mY h2,AZ J J];omega
def jX:∀(l:List Event) {w:AA},Az w=Y->Az (Dm w l)=Y/\w.ti<=(Dm w l).ti/\(Dm w l).ti<=w.ti+l.length
 | [],w,h=>⟨h,Ct _,by show w.ti<=w.ti+((0:Nat):Int);omega⟩
 | e::l,w,h=>by
  obtain⟨a,b⟩:=km h e;obtain⟨c,d,f⟩:=jX l<|Pf h e;have f:(Dm w<|e::l).ti<=(Ab w e).ti+l.length:=f;exact⟨c,K8 a d,by rw[Bj];omega⟩
def aD1(ev:List Event):0<=(HO ev).ti/\(HO ev).ti<=2000:=by
 refine⟨(F5<|Xb ev).2.1, ?_⟩;unfold HO;split
 .decide
 .have:=(jX ev YT).2.2;have t0:rv0.ti=0:=rfl;omega
def CR(w w':AA):Prop:=∃l:List Event,(∀e∈l,e.tx.size<=1048576)/\w'=Dm w l
def CR.rfl(w:AA):CR w w:=⟨[],λ_ h=>(by cases h),Hg _⟩
def CR.trans{a b c:AA}(h:CR a b)(g:CR b c):CR a c:=by
 obtain⟨l,hl,rfl⟩:=h;obtain⟨m,hm,rfl⟩:=g;exact⟨l++m,λe he=>(by obtain he|he:=BM.1 he;exact hl e he;exact hm e he),(aCF a l m).symm⟩
def CR.one(w:AA)(e:Event)(h:e.tx.size<=1048576):CR w (Ab w e):=⟨[e],λx hx=>by rw[CL.1 hx];exact h,Hg _⟩
def Lk:noB.size<=1048576:=by decide
def CR.dlv:∀(m:Nat) (w:AA),CR w<|dlv m w
 | 0,w=>CR.rfl w
 | m+1,w=>by
  unfold Go.VS.dlv;split
  .exact CR.rfl w
  .exact(CR.one w eBr Lk).trans<|CR.dlv m _
def CR.fold{α:Type}{f:AA->α->AA}(h:∀w a,CR w<|f w a):∀(l:List α) (w:AA),CR w<|l.foldl f w
 | [],w=>CR.rfl w
 | a::l,w=>(h w a).trans (CR.fold h l _)
def CR.IL(w:AA)(i:Nat):CR w (IL w i):=CR.fold (λw n=>CR.fold (λw b=>(CR.one w _ Lk).trans<|CR.dlv 400 _) _ w) _ w
def CR.rnd(w:AA):CR w (Fe w):=by
 unfold Fe opn Qd;refine CR.trans (CR.fold (λw (i:Nat)=>(CR.one w (eRi i) Lk).trans<|CR.one _ (eOp i) Lk) [0,1,2,3] w) ?_;exact((((CR.dlv 400 _).trans<|CR.IL _ 0).trans<|CR.IL _ 1).trans<|CR.IL _ 2).trans<|CR.IL _ 3
def CR.rok{w w':AA}(r:CR w w')(h:Az w=Y):Az w'=Y:=by
 obtain⟨l,_,rfl⟩:=r;exact(jX l h).1
def atB{w:AA}(c:Cm w)(hr:w.AS=[])(hs:Stl w):Wb w.ti w.A9 w.Ao w.AS w.AY w.got=Y:=by
 have ok:=c.rv;have kl:=ok.kl;have ll:=ok.ll;unfold Wb;simp only[AD,decide_eq_true_eq,Cp];refine⟨c.ok,by rw[hr];rfl,λi hi=>c.li i J,λi hi=> ?_⟩;have hi4:i<4:=J
 unfold QB;rw[AD,Cp];refine⟨c.up i hi4,λj hj=> ?_⟩;unfold QC;rw[decide_eq_true_eq,(ok.k i hi4).2];exact hs i hi4 _<|I3 hj
def Kps(k k':AJ):Prop:=(∀m∈k.marks,m∈k'.marks)/\ ∀n∈k.inbox,n∈k'.inbox
structure Kpt (x y:AA):Prop where
 cm:Cm y
 ra:y.AS=[]
 se:y.AY=x.AY
 go:y.got=x.got
 t0:x.ti<=y.ti
 bey:∀n∈x.AY,∀i,Bey x i n->Bey y i n
 kp:∀k,k<4->Kps (sT x k) (sT y k)
def eKi(k i:Int):Event:=⟨k,i,0,0,0,0,0,0,0,noB⟩
structure Gd (x w:AA):Prop where
 ok:Az w=Y
 inv:Inv w
 ra:w.AS=x.AS
 li:w.Ao=x.Ao
 t1:x.ti<=w.ti
 st:∀k,k<4->sT w k=sT x k
def ke{x w:AA}(g:Gd x w)(ht:w.ti<99999){e:Event}{i:Nat}(hi:i<4){k':A7}{b:Bool}(hd:doM w e=(G3 w i k',b))(hb:b=A0->k'=kA w.A9 i)(hst:stT k'=sT w i):
  Gd x (Ab w e)/\(Ab w e).ti<=w.ti+1/\ ∀k,kA (Ab w e).A9 k=if k=i then k' else kA w.A9 k:=by
 have ok:=(F5 g.ok).1;have kl:=ok.kl;have Di:=LW g.ok g.inv e;have tt:=km g.ok e;obtain c|c:=tf b
 .subst c;have es:=Q2 g.ok ht (e:=e) (by rw[hd]);rw[hd]at es;have ks:∀k,kA (Ab w e).A9 k=if k=i then k' else kA w.A9 k:=λk=>by
   rw[es];show kA (w.A9.set i _) k=_;rw[GB J]
  refine⟨⟨Di.1,Di.2,by rw[es];exact g.ra,by rw[es];exact g.li,K8 g.t1 tt.1,λk hk=> ?_⟩,tt.2,ks⟩;rw[← g.st k hk];unfold sT;rw[ks];split
  .rename_i c;rw[c];exact hst
  .rfl
 .subst c;have es:Ab w e=w:=Q1 g.ok (by rw[hd]);rw[es];refine⟨g,J,λk=> ?_⟩;split
  .rename_i c;rw[c,hb rfl]
  .rfl
def ZT{w:AA}{k i:Int}(hk:k=13\/k=7\/k=8)(hi:isN i=Y):doM w (eKi k i)=GW w (eKi k i) (kA w.A9 i.toNat):=by
 unfold doM;rw[A8 (by show ¬(k=4\/k=5\/k=6);omega),A8 (by show ¬(k=9\/k=10);omega),A5<|show isN (eKi k i).at_=Y from hi];rfl
def YA{x w:AA}(g:Gd x w)(ht:w.ti<99999){i:Nat}(hi:i<4)(hu:(kA w.A9 i).up=Y):
  Gd x (Ab w<|eKi 13 i)/\(Ab w<|eKi 13 i).ti<=w.ti+1/\ ∀k,kA (Ab w<|eKi 13 i).A9 k=if k=i then(Db<|kA w.A9 i).1 else kA w.A9 k:=by
 have hok:=((F5 g.ok).1.k i hi).1;refine ke g ht hi (b:=(Db<|kA w.A9 i).2) ?_ (λhb=> ?_) ?_
 .rw[ZT (.inl rfl)<|FY hi];unfold GW;rw[A8 (by show ¬(13:Int)=1;omega),A8 (by show ¬(13:Int)=2;omega),A8 (by show ¬(13:Int)=3;omega),A8 (by show ¬(13:Int)=7;omega),A8 (by show ¬(13:Int)=8;omega),A8 (by show ¬(13:Int)=11;omega),A8 (by show ¬(13:Int)=12;omega),A5<|show(eKi 13 i).ki=13 from rfl];rfl
 .unfold Db at hb ⊢;split at hb
  .cases hb
  .rename_i hc;rw[A8 hc]
 .unfold Db sT;split
  .exact(YB hok).2.2.2
  .rfl
def WK{k:A7}(hu:k.up=Y):(Db k).1.fo=((Db k).1.log.size:Int)/\(Db k).1.up=Y:=by
 unfold Db;split
 .exact⟨rfl,hu⟩
 .rename_i hc;rw[hu,AP,CE,decide_eq_false_iff_not,Decidable.not_not]at hc;exact⟨hc,hu⟩
def YD{x w:AA}(g:Gd x w)(ht:w.ti<99999){i:Nat}(hi:i<4)(hu:(kA w.A9 i).up=Y)(hf:(kA w.A9 i).fo=((kA w.A9 i).log.size:Int)):
  Gd x (Ab w<|eKi 7 i)/\(Ab w<|eKi 7 i).ti<=w.ti+1/\ ∀k,kA (Ab w<|eKi 7 i).A9 k=if k=i then faM (kA w.A9 i) 0 else kA w.A9 k:=by
 have hok:=((F5 g.ok).1.k i hi).1;refine ke g ht hi (b:=(kA w.A9 i).up) ?_ (λhb=>by rw[hu]at hb;cases hb) ?_
 .rw[ZT (.inr<|.inl rfl)<|FY hi];unfold GW;rw[A8 (by show ¬(7:Int)=1;omega),A8 (by show ¬(7:Int)=2;omega),A8 (by show ¬(7:Int)=3;omega),A5<|show(eKi 7 i).ki=7 from rfl];rfl
 .exact(aBM (C8 hok) hf 0).1.stT
def YU{x w:AA}(g:Gd x w)(ht:w.ti<99999){i:Nat}(hi:i<4):
  Gd x (Ab w<|eKi 8 i)/\(Ab w<|eKi 8 i).ti<=w.ti+1/\ ∀k,kA (Ab w<|eKi 8 i).A9 k=if k=i then riM (kA w.A9 i) else kA w.A9 k:=by
 refine ke g ht hi (b:= !(kA w.A9 i).up) ?_ (λhb=> ?_) rfl
 .rw[ZT (.inr<|.inr rfl)<|FY hi];unfold GW;rw[A8 (by show ¬(8:Int)=1;omega),A8 (by show ¬(8:Int)=2;omega),A8 (by show ¬(8:Int)=3;omega),A8 (by show ¬(8:Int)=7;omega),A5<|show(eKi 8 i).ki=8 from rfl];rfl
 .rw[Bool.not_eq_false']at hb;exact aaH hb
def Dc(k:Int)(w:AA):AA:=[0,1,2,3].foldl (λw (i:Nat)=>Ab w<|eKi k i) w
def axj{x:AA}(c:Cm x)(hr:x.AS=[])(hs:Stl x)(ht:x.ti+12<99999):Cm (Dc 8<|Dc 7<|Dc 13 x)/\(Dc 8<|Dc 7<|Dc 13 x).AS=[]/\Stl (Dc 8<|Dc 7<|Dc 13 x)/\ ∀k,k<4->sT (Dc 8<|Dc 7<|Dc 13 x) k=sT x k:=by
 have g:Gd x x:=⟨c.ok,c.inv,rfl,rfl,Ct _,λ_ _=>rfl⟩;obtain⟨a0,p0,q0⟩:=YA g J (i:=0) J<|c.up 0 J;obtain⟨a1,p1,q1⟩:=YA a0 J (i:=1) J (by rw[q0,A8 J];exact c.up 1 J);obtain⟨a2,p2,q2⟩:=YA a1 J (i:=2) J (by rw[q1,A8 J,q0,A8 J];exact c.up 2 J);obtain⟨a3,p3,q3⟩:=YA a2 J (i:=3) J (by rw[q2,A8 J,q1,A8 J,q0,A8 J];exact c.up 3 J);have e1:Dc 13 x=Ab (Ab (Ab (Ab x<|eKi 13 (0:Nat))<|eKi 13 (1:Nat))<|eKi 13 (2:Nat)) (eKi 13 (3:Nat)):=rfl;rw[e1];have f1:∀k,k<4->(kA (Ab (Ab (Ab (Ab x<|eKi 13 (0:Nat))<|eKi 13 (1:Nat))<|eKi 13 (2:Nat))<|eKi 13 (3:Nat)).A9 k).fo=((kA (Ab (Ab (Ab (Ab x<|eKi 13 (0:Nat))<|eKi 13 (1:Nat))<|eKi 13 (2:Nat))<|eKi 13 (3:Nat)).A9 k).log.size:Int)/\(kA (Ab (Ab (Ab (Ab x<|eKi 13 (0:Nat))<|eKi 13 (1:Nat))<|eKi 13 (2:Nat))<|eKi 13 (3:Nat)).A9 k).up=Y:=λk hk=>by
  match k,hk with
  | 0,_=>
   rw[q3,A8 J,q2,A8 J,q1,A8 J,q0,A5 rfl];exact WK<|c.up 0 J
  | 1,_=>
   rw[q3,A8 J,q2,A8 J,q1,A5 rfl];exact WK (by rw[q0,A8 J];exact c.up 1 J)
  | 2,_=>
   rw[q3,A8 J,q2,A5 rfl];exact WK (by rw[q1,A8 J,q0,A8 J];exact c.up 2 J)
  | 3,_=>
   rw[q3,A5 rfl];exact WK (by rw[q2,A8 J,q1,A8 J,q0,A8 J];exact c.up 3 J)
 have ty:(Ab (Ab (Ab (Ab x<|eKi 13 (0:Nat))<|eKi 13 (1:Nat))<|eKi 13 (2:Nat))<|eKi 13 (3:Nat)).ti<=x.ti+4:=J
 generalize Ab (Ab (Ab (Ab x<|eKi 13 (0:Nat))<|eKi 13 (1:Nat))<|eKi 13 (2:Nat)) (eKi 13 (3:Nat))=y at a3 f1 ty;obtain⟨b0,r0,s0⟩:=YD a3 J (i:=0) J (f1 0 J).2 (f1 0 J).1;obtain⟨b1,r1,s1⟩:=YD b0 J (i:=1) J (by rw[s0,A8 J];exact(f1 1 J).2) (by rw[s0,A8 J];exact(f1 1 J).1);obtain⟨b2,r2,s2⟩:=YD b1 J (i:=2) J (by rw[s1,A8 J,s0,A8 J];exact(f1 2 J).2) (by rw[s1,A8 J,s0,A8 J];exact(f1 2 J).1);obtain⟨b3,r3,s3⟩:=YD b2 J (i:=3) J (by rw[s2,A8 J,s1,A8 J,s0,A8 J];exact(f1 3 J).2) (by rw[s2,A8 J,s1,A8 J,s0,A8 J];exact(f1 3 J).1);have e2:Dc 7 y=Ab (Ab (Ab (Ab y<|eKi 7 (0:Nat))<|eKi 7 (1:Nat))<|eKi 7 (2:Nat)) (eKi 7 (3:Nat)):=rfl;rw[e2];have tz:(Ab (Ab (Ab (Ab y<|eKi 7 (0:Nat))<|eKi 7 (1:Nat))<|eKi 7 (2:Nat))<|eKi 7 (3:Nat)).ti<=x.ti+8:=J
 generalize Ab (Ab (Ab (Ab y<|eKi 7 (0:Nat))<|eKi 7 (1:Nat))<|eKi 7 (2:Nat)) (eKi 7 (3:Nat))=z at b3 tz;obtain⟨d0,t0,u0⟩:=YU b3 J (i:=0) J;obtain⟨d1,t1,u1⟩:=YU d0 J (i:=1) J;obtain⟨d2,t2,u2⟩:=YU d1 J (i:=2) J;obtain⟨d3,t3,u3⟩:=YU d2 J (i:=3) J;have e3:Dc 8 z=Ab (Ab (Ab (Ab z<|eKi 8 (0:Nat))<|eKi 8 (1:Nat))<|eKi 8 (2:Nat)) (eKi 8 (3:Nat)):=rfl;rw[e3];refine⟨⟨d3.ok,d3.inv,λi hi=>by rw[d3.li];exact c.li i hi,λk hk=> ?_⟩,d3.ra.trans hr,λk hk n hn=> ?_,d3.st⟩
 .match k,hk with
  | 0,_=>
   rw[u3,A8 J,u2,A8 J,u1,A8 J,u0,A5 rfl];rfl
  | 1,_=>
   rw[u3,A8 J,u2,A8 J,u1,A5 rfl];rfl
  | 2,_=>
   rw[u3,A8 J,u2,A5 rfl];rfl
  | 3,_=>
   rw[u3,A5 rfl];rfl
 .rw[d3.st k hk]at hn;obtain⟨a,b⟩:=jz c hk n hn;have rn:=O6<|c.rv.s n a;exact(Sj (λj hj=>by rw[d3.st j hj]) (Pv (FY hk) rn.1 rn.2.1 b).1).2<|hs k hk n hn
def ZP{w:AA}(h:Az w=Y){e:Event}(ht:e.tx.size<=1048576):Hn (tR w,tE e,())=I ((tR<|Ab w e,(Ev w e).2,()),()):=by
 obtain⟨a,b,c⟩:=F5 h;rw[gM a b c ht];unfold Ab Ev;rw[A5 h]
def ax0{w:AA}(h:Az w=Y):Hn (tR w,(4,0,0,0,0,0,0,0,0,noB,()),())=I ((tR<|Ab w eBr,(Ev w eBr).2,()),()):=ZP h (e:=eBr) Lk
def awz{w:AA}(h:Az w=Y)(i fr nu b:Int):Hn (tR w,(3,i,fr,nu,0,b,0,0,0,noB,()),())=I ((tR<|Ab w<|eMx i fr nu b,(Ev w<|eMx i fr nu b).2,()),()):=ZP h (e:=eMx i fr nu b) Lk
def awx{w:AA}(h:Az w=Y)(i:Int):Hn (tR w,(8,i,0,0,0,0,0,0,0,noB,()),())=I ((tR<|Ab w<|eRi i,(Ev w<|eRi i).2,()),()):=ZP h (e:=eRi i) Lk
def awy{w:AA}(h:Az w=Y)(i:Int):Hn (tR w,(9,i,0,0,0,0,0,0,0,noB,()),())=I ((tR<|Ab w<|eOp i,(Ev w<|eOp i).2,()),()):=ZP h (e:=eOp i) Lk
def arS{w:AA}(h:Az w=Y){e:Event}(hr:(Ev w e).2=A0):Ab w e=w:=by
 unfold Ab;obtain⟨h0,_⟩|⟨_,h0⟩|⟨_,_,_,h0⟩:=WC w e
 .rw[h]at h0;cases h0
 .rw[h0]
 .rw[h0]at hr;cases hr
def aa4{w:AA}(h:Ab w eBr=w):∀m,dlv m w=w
 | 0=>rfl
 | m+1=>by
  unfold dlv;rw[h,aa4 h m];split<;>rfl
def ab4:∀(m:Nat) {w:AA},Az w=Y->m<=400->UF (tR w,tR zR,((400 - m:Nat):Int),())=I (.inr (tR<|dlv m w,tR zR,()))
 | 0,w,_,_=>BF (by
  unfold RB;rw[A8 (by show ¬(U (((400 - 0:Nat):Int)<400)&&_)=Y;rw[show U (((400 - 0:Nat):Int)<400)=A0 from rfl,AM];exact CQ)];rfl)
 | m+1,w,h,hm=>by
  have hlt:U (((400 - (m+1):Nat):Int)<400)=Y:=AR J;by_cases hr:w.AS.length=0
  .refine BF ?_;unfold RB;have:U ((0:Int)<(w.AS.length:Int))=A0:=BE J;rw[A8 (by show ¬(_&&U ((0:Int)<(w.AS.length:Int)))=Y;rw[this,BZ];exact CQ)];rw[Q6<|Dw hr]
  .have R6:U ((0:Int)<(w.AS.length:Int))=Y:=AR J;have hh:=ax0 h;have hdl:dlv (m+1) w=dlv m (Ab w eBr):=by
    show(if w.AS.length=0 then w else dlv m (Ab w eBr))=_;rw[A8 hr]
   have hb:∀(b:Bool),(Ev w eBr).2=b->RB (tR w,tR zR,((400 - (m+1):Nat):Int),())=if b then I (.inl (tR<|Ab w eBr,tR zR,((400 - m:Nat):Int),())) else I (.inr<|.inr (tR w,tR zR,())):=λb hb=>by
    unfold RB;rw[A5 (by show(U (((400 - (m+1):Nat):Int)<400)&&U ((0:Int)<(w.AS.length:Int)))=Y;rw[hlt,R6];rfl)];simp only[hh,A6,hb];have ew:w64 (((400 - (m+1):Nat):Int)+1)=((400 - m:Nat):Int):=by rw[AZ J J];omega
    simp only[ew];cases b<;>rfl
   obtain c|c:=tf (Ev w eBr).2
   .rw[hdl];exact As (by have:=hb Y c;simpa using this) (ab4 m (Pf h eBr) J)
   .have hf:=arS h c;rw[hdl,hf,aa4 hf];exact BF (by have:=hb A0 c;simpa using this)
def ub{w:AA}(h:Az w=Y):RQ (tR w,())=I ((tR<|dlv 400 w,()),()):=by
 have:UF (tR w,tR zR,0,())=_:=ab4 400 h<|Ar _;unfold RQ;rw[show UF _=_ from this];rfl
def aax{w:AA}(h:Az w=Y)(i:Nat)(n:A3)(b:Nat):Az (FA i n w b)=Y:=(CR.dlv 400<|Ab w<|eMx i n.fr n.nu b).rok<|Pf h _
def Sa{α:Type}{f:AA->α->AA}(hf:∀w a,Az w=Y->Az (f w a)=Y):∀(l:List α) {w:AA},Az w=Y->Az (l.foldl f w)=Y
 | [],_,h=>h
 | a::l,w,h=>Sa hf l (hf w a h)
def aDx{w:AA}(h:Az w=Y)(i:Nat)(n:A3):Az (Jw i w n)=Y:=Sa (λw b h=>aax h i n b) _ h
def axW{w:AA}(h:Az w=Y)(i:Nat)(n:A3)(L:List A3)(a b:Int){B:Nat}(hB:B<=1000):
  cZ (tR w,tR zR,(i:Int),(n.fr,n.nu,n.to,n.un,n.tx,()),L,a,b,(B:Int),0,())=I (.inr (tR<|(B7 B).foldl (FA i n) w,tR zR,(i:Int),L,a,b,())):=
 CS (λj=>(tR<|(B7 j).foldl (FA i n) w,tR zR,(i:Int),(n.fr,n.nu,n.to,n.un,n.tx,()),L,a,b,(B:Int),(j:Int),())) B (λj hj=>by
  have hx:=Sa (λw b h=>aax h i n b) (B7 j) h;have h1:=awz hx i n.fr n.nu j;have h2:=ub<|Pf hx<|eMx i n.fr n.nu j;unfold fN;simp only[BL hj,A2,h1,h2,A6,BC hj (by omega:B<=9223372036854775807)];rw[IC,G1];rfl) (by
  unfold fN;simp only[l8,A4])
def axX{w:AA}(h:Az w=Y)(i:Nat)(L:List A3)(hL:L.length<=1000)(hn:∀n∈L,Ax n=Y):
  cb (tR w,tR zR,(i:Int),L,(L.length:Int),0,())=I (.inr (tR<|L.foldl (Jw i) w,tR zR,(i:Int),())):=by
 have:=CS (b:=Vl) (y:= .inr (tR<|(L.take L.length).foldl (Jw i) w,tR zR,(i:Int),())) (λj=>(tR<|(L.take j).foldl (Jw i) w,tR zR,(i:Int),L,(L.length:Int),(j:Int),())) L.length (λj hj=>by
  have hx:=Sa (λw n h=>aDx h i n) (L.take j) h;have hm:=I3 hj;have htx:=Me<|hn _ hm;have hc:=ab5 htx;have ayk:=Aa.1 htx;have h3:=axW hx i (nA L j) L (L.length:Int) (j:Int) (B:=((nA L j).tx.size+3) / 4) J;unfold Vl;simp only[BL hj,AU hj,A2,Da,zm,A6,hc];rw[show cZ _=_ from h3];simp only[Co,BC hj (by omega:L.length<=9223372036854775807)];rw[show L.take (j+1)=L.take j++[nA L j] by rw[JJ,Av hj,DT<|Av hj];rfl,G1];rfl) (by
  unfold Vl;simp only[l8,A4])
 rw[E5]at this;exact this
def kg{w:AA}(h:Az w=Y)(i:Nat):Az (IL w i)=Y:=Sa (λw n h=>aDx h i n) _ h
def Zf{w:AA}(h:Az w=Y){i:Nat}(hi:i<4):Vm (tR w,tR zR,(i:Int),())=I (.inl (tR<|IL w i,tR zR,((i+1:Nat):Int),())):=by
 have ok:=(F5 h).1;have kl:=ok.kl;have kf:=C3<|FZ ok hi;have h2:=axX h i (stT<|kA w.A9 i).held (by have:=kf.hl;unfold sT at this;omega) (λn hn=>Pc kf.h hn);unfold Vm;simp only[AR<|show(i:Int)<4 by omega,A2,AU (J:i<w.A9.length),aB5,LL (ok.k i hi).1,A6];rw[show cb _=_ from h2];simp only[Co,AZ (n:=(i:Int)+1) J J];rfl
def Zg{w:AA}(h:Az w=Y){i:Nat}(hi:i<4):Vn (tR w,tR zR,(i:Int),())=I (.inl (tR<|Ab (Ab w<|eRi i)<|eOp i,tR zR,((i+1:Nat):Int),())):=by
 have h1:=awx h i;have h2:=awy (Pf h<|eRi i) i;unfold Vn;simp only[AR<|show(i:Int)<4 by omega,A2,h1,h2,A6,AZ (n:=(i:Int)+1) J J];rfl
def apE{w:AA}(h:Az w=Y):W2 (tR w,())=I ((tR<|Fe w,()),()):=by
 have st:∀(w:AA) (i:Nat),Az w=Y->Az (Ab (Ab w<|eRi i)<|eOp i)=Y:=λw i h=>Pf (Pf h _) _;have o0:=st _ 0 h;have o1:=st _ 1 o0;have o2:=st _ 2 o1;have o3:=st _ 3 o2;have e0:cd (tR w,tR zR,0,())=I (.inr (tR<|opn w,tR zR,())):=
  As (Zg h (i:=0) J) (As (Zg o0 (i:=1) J)<|As (Zg o1 (i:=2) J)<|As (Zg o2 (i:=3) J)<|BF (by unfold Vn;rfl))
 have d:=ub (w:=opn w) o3;have od:Az (dlv 400<|opn w)=Y:=(CR.dlv 400<|opn w).rok o3;have k0:=kg od 0;have k1:=kg k0 1;have k2:=kg k1 2;have e1:cc (tR<|dlv 400<|opn w,tR zR,0,())=I (.inr (tR<|Fe w,tR zR,())):=
  As (Zf od (i:=0) J) (As (Zf k0 (i:=1) J)<|As (Zf k1 (i:=2) J)<|As (Zf k2 (i:=3) J)<|BF (by unfold Vm;rfl))
 unfold W2;rw[show cd _=_ from e0];simp only[Co];rw[show RQ _=_ from d];simp only[A6];rw[show cc _=_ from e1];rfl
def atV{w:AA}(h:Az w=Y):Az (Fe w)=Y:=(CR.rnd w).rok h
def aa9(r:Nat)(hr:r<=20):∀(m:Nat) {w:AA},Az w=Y->m<=r->UG ((r:Int),tR zR,tR w,((r - m:Nat):Int),())=I (.inr (tR zR,tR<|HS m w,()))
 | 0,w,_,_=>BF (by
  unfold Ui;have:U (((r - 0:Nat):Int)<(if(20:Int)<(r:Int) then 20 else(r:Int)))=A0:=by
   rw[A8 J];exact BE J
  rw[A8 (by show ¬(U (((r - 0:Nat):Int)<(if(20:Int)<(r:Int) then 20 else(r:Int)))&&_)=Y;rw[this,AM];exact CQ)];rfl)
 | m+1,w,h,hm=>by
  have hlt:U (((r - (m+1):Nat):Int)<(if(20:Int)<(r:Int) then 20 else(r:Int)))=Y:=by
   rw[A8 J];exact AR J
  by_cases ht:w.ti<79999
  .rw[SD ht];refine As (x':=((r:Int),tR zR,tR<|Fe w,((r - m:Nat):Int),())) ?_<|aa9 r hr m (atV h) J;unfold Ui;rw[A5 (by show(U (((r - (m+1):Nat):Int)<(if(20:Int)<(r:Int) then 20 else(r:Int)))&&U (w.ti<79999))=Y;rw[hlt,AR ht];rfl)];rw[show W2 _=_ from apE h];simp only[A6];have ew:w64 (((r - (m+1):Nat):Int)+1)=((r - m:Nat):Int):=by rw[AZ J J];omega
   simp only[ew]
  .have e:HS (m+1) w=w:=by
    show(if w.ti<79999 then HS m (Fe w) else w)=w;rw[A8 ht]
   rw[e];refine BF ?_;unfold Ui;rw[A8 (by show ¬(_&&U (w.ti<79999))=Y;rw[BE ht,BZ];exact CQ)]
def ajC{w:AA}(h:Az w=Y){r:Nat}(hr:r<=20):Uw (tR w,(r:Int),())=I ((tR<|HS r w,()),()):=by
 have sm:=(F5 h).1.sm;have g:=aa9 r hr r h<|Ar _;rw[Ol]at g;have g:UG ((r:Int),tR zR,tR w,0,())=_:=g;unfold Uw;rw[show Ng (tR w,())=_ from gN sm];simp only[A6,show Gt w.ti w.A9 w.Ao w.AS w.AY w.got=Y from h,AB,A4];rw[show JZ (tR w,())=_ from RP sm];simp only[A6];rw[show UG _=_ from g];rfl
def auA{w:AA}(c:Cm w)(hr:w.AS=[])(hs:Stl w):Uc (tR w,())=I ((Y,()),()):=by
 have:=ah9 (ti:=w.ti) c.rv.sm;rw[atB c hr hs]at this;exact this
def as6(ev:List Event):Cal 3360 (HO ev) (HS 4<|HO ev)/\Stl (HS 4<|HO ev):=by
 have:=aD1 ev;exact axM (Xb ev) (aCD ev).2 J
def aw0{w:AA}(h:Az w=Y):Uw (tR w,4,())=I ((tR<|HS 4 w,()),()):=ajC h (r:=4) J
def OJ{w:AA}(h:Az w=Y)(v:Inv w){k:Int}(hk:k=13\/k=7\/k=8){i:Nat}(hi:i<4):Az (Ab w<|eKi k i)=Y/\Inv (Ab w<|eKi k i)/\(Ab w<|eKi k i).got=w.got/\(Ab w<|eKi k i).ti<=w.ti+1:=by
 obtain⟨a,b⟩:=LW h v<|eKi k i;have t:=km h<|eKi k i;refine⟨a,b, ?_,t.2⟩;unfold Ab;obtain⟨h0,_⟩|⟨_,h0⟩|⟨_,h1,h2,h0⟩:=WC w (eKi k i)
 .rw[h]at h0;cases h0
 .rw[h0]
 .rw[h0];show(Cj w<|eKi k i).got=_;rw[mw h2,ZT hk<|FY hi];unfold GW;rw[A8 (by show ¬k=1;omega),A8 (by show ¬k=2;omega),A8 (by show ¬k=3;omega)];split
  .rfl
  .split
   .rfl
   .rw[A8 (by show ¬k=11;omega),A8 (by show ¬k=12;omega)];split<;>rfl
def ab1{w:AA}(h:Az w=Y)(v:Inv w){k:Int}(hk:k=13\/k=7\/k=8):Az (Dc k w)=Y/\Inv (Dc k w)/\(Dc k w).got=w.got/\(Dc k w).ti<=w.ti+4:=by
 obtain⟨a0,b0,c0,d0⟩:=OJ h v hk (i:=0) J;obtain⟨a1,b1,c1,d1⟩:=OJ a0 b0 hk (i:=1) J;obtain⟨a2,b2,c2,d2⟩:=OJ a1 b1 hk (i:=2) J;obtain⟨a3,b3,c3,d3⟩:=OJ a2 b2 hk (i:=3) J;exact⟨a3,b3,c3.trans<|c2.trans<|c1.trans c0,by show(Ab (Ab (Ab (Ab w<|eKi k (0:Nat))<|eKi k (1:Nat))<|eKi k (2:Nat))<|eKi k (3:Nat)).ti<=_;omega⟩
def aqK{w:AA}(h:Az w=Y)(k i:Int):VJ (tR w,(k,i,0,0,0,0,0,0,0,noB,()),())=I ((tR<|Ab w<|eKi k i,(Ev w<|eKi k i).2,()),()):=amH (F5 h).1.sm (e:=eKi k i) Lk
def aw7{w0 w:AA}(h:Az w=Y)(v:Inv w){k:Nat}(hk:k<3){q:Int}(hq: @rd Int aE8 [13,7,8] (k:Int)=q)(hq3:q=13\/q=7\/q=8):
  aS (tR w0,tR w,(k:Int),0,())=I (.inr (tR w0,tR<|Dc q w,(k:Int),())):=by
 have st:∀(w:AA) (i:Nat),Az w=Y->i<4->UC (tR w0,tR w,(k:Int),(i:Int),())=I (.inl (tR w0,tR<|Ab w<|eKi q i,(k:Int),((i+1:Nat):Int),())):=λw i h hi=>by
  unfold UC;have hin:inb (k:Int) ([13,7,8]:List Int).length=Y:=AU hk;simp only[AR<|show(i:Int)<4 by omega,A2,hin,hq,aqK h,A6,AZ (n:=(i:Int)+1) J J];rfl
 obtain⟨a0,b0,_⟩:=OJ h v hq3 (i:=0) J;obtain⟨a1,b1,_⟩:=OJ a0 b0 hq3 (i:=1) J;obtain⟨a2,b2,_⟩:=OJ a1 b1 hq3 (i:=2) J;exact As (st _ 0 h J)<|As (st _ 1 a0 J)<|As (st _ 2 a1 J)<|As (st _ 3 a2 J)<|BF (by unfold UC;rfl)
def aw6{x y:AA}(okx:B5 x)(oky:B5 y)(h:∀k,k<4->sT y k=sT x k):pC (tR x,tR y,0,())=I (.inr (tR y,())):=by
 have kx:=okx.kl;have ky:=oky.kl;refine CS (b:=UB) (λi=>(tR x,tR y,(i:Int),())) x.A9.length (λi hi=> ?_) (by
  unfold UB;simp only[l8,A4])
 have hi4:i<4:=J
 have e:stT (kA y.A9 i)=stT (kA x.A9 i):=h i hi4;unfold UB;simp only[BL hi,AU hi,AU (J:i<y.A9.length),aB5,A2,LL (okx.k i hi4).1,LL (oky.k i hi4).1,A6,e];rw[show Vk _=_ from apo (C8 (okx.k i hi4).1).kok];simp only[A6,AB,A4,BC hi (by omega:x.A9.length<=9223372036854775807)]
def axi{l:List Int}(hb:BOk l):UN (l,())=I ((Y,()),()):=by
 obtain⟨ev,hd,hl,ht⟩:=aqY hb;have hti:=aD1 ev;obtain⟨ca,st⟩:=as6 ev;unfold UN;apply Tot.val;refine Tot.ite (λ_=>Tot.ret rfl) (λ_=>Tot.bind (Tot.eq hd) λr1 h1=> ?_);subst h1;refine Tot.bind (Tot.eq<|aiU J ht) λr2 h2=>Tot.bind (Tot.eq<|ajB J ht) λr3 h3=> ?_;subst h2 h3;refine Tot.bind (Tot.eq<|ap9<|at3 ev) λr5 h5=> ?_;subst h5;refine Tot.neg rfl (Tot.bind (Tot.eq<|aw0<|Xb ev) λr6 h6=> ?_);subst h6;have t1:=ca.t1;have c:=ca.cm;have hr:=ca.ra;generalize HS 4 (HO ev)=x at *;obtain⟨b0,b1,b2,b3⟩:=axj c hr st J;obtain⟨x1,y1,_⟩:=ab1 c.ok c.inv (k:=13) J;obtain⟨x2,y2,_⟩:=ab1 x1 y1 (k:=7) J;have loop:pD (tR x,tR x,0,())=I (.inr (tR x,tR<|Dc 8<|Dc 7<|Dc 13 x,())):=by
  have stp:∀(w:AA) (k:Nat) (q:Int),Az w=Y->Inv w->k<3-> @rd Int aE8 [13,7,8] (k:Int)=q->(q=13\/q=7\/q=8)->UD (tR x,tR w,(k:Int),())=I (.inl (tR x,tR<|Dc q w,((k+1:Nat):Int),())):=λw k q h v hk hq hq3=>by
   unfold UD;simp only[AR<|show(k:Int)<3 by omega,A2];rw[show aS _=_ from aw7 h v hk hq hq3];simp only[Co,AZ (n:=(k:Int)+1) J J];rfl
  exact As (stp _ 0 13 c.ok c.inv J rfl J)<|As (stp _ 1 7 x1 y1 J rfl J)<|As (stp _ 2 8 x2 y2 J rfl J)<|BF (by unfold UD;rfl)
 refine Tot.sum (P:=λ_=>False) (Q:=λy=>y=(tR x,tR<|Dc 8<|Dc 7<|Dc 13 x,())) ⟨_,loop,rfl⟩ (λ_ h=>h.elim) (λy hy=> ?_);subst hy;refine Tot.sum (P:=λ_=>False) (Q:=λy=>y=(tR<|Dc 8<|Dc 7<|Dc 13 x,())) ⟨_,aw6 c.rv b0.rv b3,rfl⟩ (λ_ h=>h.elim) (λy hy=> ?_);subst hy;refine Tot.bind (Tot.eq<|auA b0 b1 b2) λr61 h61=> ?_;subst h61;exact Tot.ret rfl
end Go.VS
end
