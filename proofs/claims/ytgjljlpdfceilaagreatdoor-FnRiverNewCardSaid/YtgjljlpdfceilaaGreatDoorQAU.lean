/- Part 10. -/
import Derived.Test.YtgjljlpdfceilaaGreatDoorQAT
open Bool renaming and_eq_false_iff->Lw,and_eq_true->AD,and_false->BY,and_self->EZ,false->A0,false_and->AM,false_ne_true->CM,not_eq_true'->CE,not_true->AA,or_eq_false_iff->Mv,or_eq_true->C0,true->Y,true_and->AR
open Decidable renaming decide->U
open Eq renaming refl->Hd
open Int renaming le_refl->D0,le_trans->Ks,not_lt->QY,toNat_natCast->Bf,toNat_of_nonneg->TJ
open List renaming append_assoc->C3,append_nil->CK,append_of_mem->Ta,drop_append_of_le_length->TS,drop_drop->Il,drop_sublist->QT,eq_nil_of_length_eq_zero->Du,filter_append->Oi,foldl_append->G3,foldl_cons->Dr,foldl_nil->K7,getD_eq_getElem?_getD->B8,getElem?_append_right->F1,getElem?_eq_getElem->Au,getElem?_set->Oj,getElem_mem->Cg,getElem_of_mem->Ct,length->j8,length_append->Aq,length_cons->Bl,length_map->DL,map_append->Ek,mem_append->BL,mem_append_right->CS,mem_cons->Bm,mem_map->Bv,mem_range->Cs,mem_singleton->CN,nodup_append->JR,nodup_cons->IC,pairwise_cons->KB,pairwise_iff_getElem->K5,pairwise_singleton->lQ,range->B7,range_succ->ID,replicate->BS,set_eq_of_length_le->lP,take_add_one->JP,take_append_drop->JO,take_length->E4
open List.Sublist renaming append->lG,refl->Ea
open List.cons renaming inj->lE
open Nat renaming eq_zero_or_pos->TM,le_refl->Ar,le_trans->CP,lt_or_ge->GN,lt_trichotomy->I6,sub_self->N1,zero_le->Cz
open Option renaming bind_some->A6,filter_eq_some_iff->Ii,some->I
open Option.some renaming inj->Ei
open Prod.mk renaming inj->Hg
set_option linter.all false
noncomputable section
namespace Go.VS
open Go
def mS{α:Type}{R:α->α->Prop}{f:α->Bool}{n:α}:∀ {l:List α},l.Pairwise R->(∀x∈l,f x=Y->R x n)->(∀x∈l,f x=A0->R n x)->(∀x y,R n x->R x y->R n y)->(ins f l n).Pairwise R
 | [],_,_,_,_=>lQ _ _
 | x::l,h,h1,h2,h3=>by
  obtain⟨a,b⟩:=KB.1 h;obtain c|c:=tf (f x)
  .have e:ins f (x::l) n=x::ins f l n:=by unfold ins;simp[c]
   rw[e,KB];refine⟨λy hy=> ?_,mS b (λy hy=>h1 y<|.tail _ hy) (λy hy=>h2 y<|.tail _ hy) h3⟩;obtain rfl|hy:=GA _ hy
   .exact h1 x (.head _) c
   .exact a y hy
  .have e:ins f (x::l) n=n::x::l:=by unfold ins;simp[c]
   rw[e,KB];refine⟨λy hy=> ?_,h⟩;have hx:=h2 x (.head _) c;cases hy with
   | head=>exact hx
   | tail _ hy=>exact h3 _ _ hx<|a y hy
abbrev RN(a b:A3):Prop:=bef a.fr a.nu b.fr b.nu=Y
abbrev RM(a b:Mark):Prop:=bef a.mf a.mn b.mf b.mn=Y
def abc{a b c d:Int}(h:¬(a=c/\b=d))(g:bef a b c d=A0):bef c d a b=Y:=by
 unfold bef at *;simp only[Mv,Lw,decide_eq_false_iff_not,C0,AD,decide_eq_true_eq]at *;omega
def XZ{l:List A3}(h:DJ l=Y):l.Pairwise RN:=by
 rw[K5];intro i j hi hj hij;have:=Ry h j i hij hj;rw[DW<|Au hi,DW<|Au hj]at this;exact this
def aD1{l:List A3}(h:l.Pairwise RN)(g:∀x∈l,At x=Y):DJ l=Y:=by
 unfold DJ;rw[DB];intro i hi;rw[DW<|Au hi,g _ (Cg hi),AR,C0,decide_eq_true_eq];obtain c|c:=TM i
 .exact .inl c
 .right;rw[DW<|Au (J:i - 1<l.length)];exact K5.1 h (i - 1) i J hi J
def aD6{l:List Mark}(h:FM l=Y):l.Pairwise RM:=by
 have key:∀(j i:Nat),i<j->j<l.length->bef (mA l i).mf (mA l i).mn (mA l j).mf (mA l j).mn=Y:=by
  intro j
  induction j with
  | zero=>intro i h;omega
  | succ j ih=>
   intro i hij hj;have h1:=DB.1 h (j+1) hj;simp only[AD,C0,decide_eq_true_eq]at h1;have h2:bef (mA l j).mf (mA l j).mn (mA l<|j+1).mf (mA l<|j+1).mn=Y:=h1.2.resolve_left J;obtain h3|h3:=GN i j
   .exact SN (ih i h3 J) h2
   .rwa[show i=j by omega]
 rw[K5];intro i j hi hj hij;have:=key j i hij hj;rw[Fe<|Au hi,Fe<|Au hj]at this;exact this
def atS{l:List Mark}(h:l.Pairwise RM)(g:∀x∈l,FB x=Y):FM l=Y:=by
 unfold FM;rw[DB];intro i hi;rw[Fe<|Au hi,g _ (Cg hi),AR,C0,decide_eq_true_eq];obtain c|c:=TM i
 .exact .inl c
 .right;rw[Fe<|Au (J:i - 1<l.length)];exact K5.1 h (i - 1) i J hi J
def jG{l:List A3}{n:A3}(h:DJ l=Y)(hn:At n=Y)(h0:∀x∈l,¬(x.fr=n.fr/\x.nu=n.nu)):DJ (DY l n)=Y:=by
 refine aD1 (mS (XZ h) (λ_ _ c=>c) (λx hx c=>abc (h0 x hx) c) λ_ _ a b=>SN a b) (λx hx=> ?_);obtain rfl|hx:=GA _ hx
 .exact hn
 .exact Pc h hx
def aCQ{l:List Mark}{m:Mark}(h:FM l=Y)(hm:FB m=Y)(h0:∀x∈l,¬(x.mf=m.mf/\x.mn=m.mn)):FM (EE l m)=Y:=by
 refine atS (mS (aD6 h) (λ_ _ c=>c) (λx hx c=>abc (h0 x hx) c) λ_ _ a b=>SN a b) (λx hx=> ?_);obtain rfl|hx:=GA _ hx
 .exact hm
 .exact aAO h hx
def aaB(l:List A3)(i:Nat):(EX l i).Sublist l:=by
 unfold EX;have h:(l.take i++l.drop (i+1)).Sublist (l.take i++l.drop i):=by
  refine lG (Ea _) ?_;rw[← Il];exact QT _ _
 rwa[JO]at h
def asT{l:List A3}(h:DJ l=Y)(i:Nat):DJ (EX l i)=Y:=
 aD1 ((XZ h).sublist<|aaB l i) (λx hx=>Pc h<|O4 hx)
def Wc{k:AJ}(id:isN k.id=Y)(ti:inB k.ti 0 999=Y)(nx:inB k.nx 1 100=Y)(hl:k.held.length<=6)(h:DJ k.held=Y)(ml:k.marks.length<=12)(m:FM k.marks=Y)(il:k.inbox.length<=6)(i:DJ k.inbox=Y)
  (ho:∀n∈k.held,¬(n.fr=k.id/\k.nx<=n.nu)/\k.ti<n.un/\Dz k.id n.fr n.to=Y/\ ∀x∈k.marks,¬(x.mf=n.fr/\x.mn=n.nu))
  (mo:∀x∈k.marks,k.ti<x.mu/\ ¬(x.mf=k.id/\k.nx<=x.mn))(io:∀n∈k.inbox,n.to=k.id/\ ¬(n.fr=k.id/\k.nx<=n.nu)/\(k.ti<n.un->∃x∈k.marks,x.mf=n.fr/\x.mn=n.nu)):As k=Y:=by
 unfold As;simp only[AD,decide_eq_true_eq,DB];refine⟨id,ti,nx,⟨J,h⟩,⟨J,m⟩,⟨J,i⟩,λj hj=> ?_,λj hj=> ?_,λj hj=> ?_⟩
 .obtain⟨a,b,c,d⟩:=ho _<|Gx hj;unfold Gy;simp only[AD,CE,decide_eq_true_eq,Lw,decide_eq_false_iff_not];refine⟨?_,b,c,by rw[jb d];decide⟩;by_cases e:(nA k.held j).fr=k.id
  .exact .inr λg=>a ⟨e,g⟩
  .exact .inl e
 .obtain⟨a,b⟩:=mo _<|TB hj;unfold J3;simp only[AD,CE,decide_eq_true_eq,Lw,decide_eq_false_iff_not];refine⟨a, ?_⟩;by_cases e:(mA k.marks j).mf=k.id
  .exact .inr λg=>b ⟨e,g⟩
  .exact .inl e
 .obtain⟨a,b,c⟩:=io _<|Gx hj;unfold IV;simp only[AD,C0,CE,decide_eq_true_eq,Lw,decide_eq_false_iff_not];refine⟨a, ?_, ?_⟩
  .by_cases e:(nA k.inbox j).fr=k.id
   .exact .inr λg=>b ⟨e,g⟩
   .exact .inl e
  .by_cases e:k.ti<(nA k.inbox j).un
   .obtain⟨x,x1,x2,x3⟩:=c e;exact .inr (kK x1 x2 x3)
   .exact .inl e
def Pd{k:AJ}(h:As k=Y){n:A3}(hn:n∈k.held):¬(n.fr=k.id/\k.nx<=n.nu)/\k.ti<n.un/\Dz k.id n.fr n.to=Y/\ ∀x∈k.marks,¬(x.mf=n.fr/\x.mn=n.nu):=by
 obtain⟨i,hi,e⟩:=Yt hn;have:=(Bu h).ho i hi;unfold Gy at this;rw[e]at this;simp only[AD,CE,decide_eq_true_eq,Lw,decide_eq_false_iff_not]at this;exact⟨λc=>by obtain d|d:=this.1<;>first|exact d c.1|exact d c.2,this.2.1,this.2.2.1,kJ this.2.2.2⟩
def W4{k:AJ}(h:As k=Y){m:Mark}(hm:m∈k.marks):k.ti<m.mu/\ ¬(m.mf=k.id/\k.nx<=m.mn):=by
 obtain⟨i,hi,e⟩:=axO hm;have:=(Bu h).mo i hi;unfold J3 at this;rw[e]at this;simp only[AD,CE,decide_eq_true_eq,Lw,decide_eq_false_iff_not]at this;exact⟨this.1,λc=>by obtain d|d:=this.2<;>first|exact d c.1|exact d c.2⟩
def S3{k:AJ}(h:As k=Y){n:A3}(hn:n∈k.inbox):n.to=k.id/\ ¬(n.fr=k.id/\k.nx<=n.nu)/\(k.ti<n.un->∃x∈k.marks,x.mf=n.fr/\x.mn=n.nu):=by
 obtain⟨i,hi,e⟩:=Yt hn;have:=(Bu h).io i hi;unfold IV at this;rw[e]at this;simp only[AD,C0,CE,decide_eq_true_eq,Lw,decide_eq_false_iff_not]at this;refine⟨this.1,λc=>by obtain d|d:=this.2.1<;>first|exact d c.1|exact d c.2,λc=> ?_⟩;obtain d|d:=this.2.2
 .exact absurd c d
 .obtain⟨j0,_,j2,j3⟩:=Sk d;exact⟨_,TB j0,j2,j3⟩
def arG{k:AJ}{n:A3}(hk:As k=Y)(hn:At n=Y)(hf:n.fr≠k.id)(ht:k.ti<n.un)(h1:∀x∈k.held,¬(x.fr=n.fr/\x.nu=n.nu))(h2:∀x∈k.inbox,¬(x.fr=n.fr/\x.nu=n.nu))(h3:∀x∈k.marks,¬(x.mf=n.fr/\x.mn=n.nu))
  (hl:k.held.length+k.marks.length+1<=6)(il:k.inbox.length+1<=6)(hw:n.to≠k.id->Dz k.id n.fr n.to=Y):∃o,BE k (J6 n)=I o:=by
 have kf:=Bu hk;have r:=Pf hn;have d1:¬0<=AU k.held n.fr n.nu:=λc=>by obtain⟨j,_,a,b⟩:=Eo c;exact h1 _ (Gx j) ⟨a,b⟩
 have d2:¬0<=AU k.inbox n.fr n.nu:=λc=>by obtain⟨j,_,a,b⟩:=Eo c;exact h2 _ (Gx j) ⟨a,b⟩
 have d3:¬0<=Bj k.marks n.fr n.nu:=λc=>by obtain⟨j,_,a,b⟩:=Sk c;exact h3 _ (TB j) ⟨a,b⟩
 rw[iw hk hn,A9 hf];unfold EV;rw[hn,AA,A4,B1 J,A4,B1 d1,A4,B1 d2,A4,B1 d3,A4,
  B1 (J:¬(12:Int)<(j8 k.held:Int)+k.marks.length+1),A4]
 have hid:isN k.id=Y:=AY.2 ⟨kf.id0,kf.id1⟩;have hti:inB k.ti 0 999=Y:=AY.2 ⟨kf.t0,kf.t1⟩;have hnx:inB k.nx 1 100=Y:=AY.2 ⟨kf.n0,kf.n1⟩;by_cases e:n.to=k.id
 .rw[A5<|AQ e];refine⟨_,Ii.2 ⟨rfl,Wc hid hti hnx kf.hl kf.h ?_ ?_ ?_ (jG kf.i hn h2) (λx hx=> ?_) (λx hx=> ?_) λx hx=> ?_⟩⟩
  .show(EE _ _).length<=12;unfold EE;rw[MT];omega
  .exact aCQ kf.m (by unfold FB;simp[r.2.2.2.1,r.2.2.2.2.2.1,r.2.2.2.2.2.2.1]) h3
  .show(DY _ _).length<=6;unfold DY;rw[MT];omega
  .obtain⟨a,b,c,d⟩:=Pd hk hx;refine⟨a,b,c,λy hy=> ?_⟩;obtain rfl|hy:=GA _ hy
   .exact λc=>h1 x hx ⟨c.1.symm,c.2.symm⟩
   .exact d y hy
  .rcases GA _ hx with rfl|hx
   .exact⟨ht,λc=>hf c.1⟩
   .exact W4 hk hx
  .rcases GA _ hx with rfl|hx
   .exact⟨e,λc=>hf c.1,λ_=>⟨_,Kd _<|.inl rfl,rfl,rfl⟩⟩
   .obtain⟨a,b,c⟩:=S3 hk hx;refine⟨a,b,λh=> ?_⟩;obtain⟨y,y1,y2⟩:=c h;exact⟨y,Kd _<|.inr y1,y2⟩
 .rw[B1 e,A4];refine⟨_,Ii.2 ⟨rfl,Wc hid hti hnx ?_ (jG kf.h hn h1) kf.ml kf.m kf.il kf.i (λx hx=> ?_) (λx hx=>W4 hk hx) λx hx=>S3 hk hx⟩⟩
  .show(DY _ _).length<=6;unfold DY;rw[MT];omega
  .rcases GA _ hx with rfl|hx
   .exact⟨λc=>hf c.1,ht,hw e,h3⟩
   .exact Pd hk hx
def atZ{k:AJ}{n:A3}(hk:As k=Y)(hn:n∈k.held)(hl:k.held.length+k.marks.length<=6):∃o,BE k (CX Bx n.fr n.nu n.un)=I o/\ ∀x∈o.held,¬(x.fr=n.fr/\x.nu=n.nu):=by
 have kf:=Bu hk;have nok:=Pc kf.h hn;have r:=Pf nok;have h0:=Xc hn rfl rfl;obtain⟨j0,j1,j2,j3⟩:=Eo h0;have hu:∀x∈k.held,x.fr=n.fr->x.nu=n.nu->x=n:=λx hx a b=>by
  obtain⟨i,hi,e⟩:=Ct hx;obtain⟨j,hj,e'⟩:=Ct hn;have pw:=K5.1<|XZ kf.h;obtain c|c|c:=I6 i j
  .have:=pw i j hi hj c;rw[e,e',RN,a,b,OQ]at this;cases this
  .subst c;rw[← e,← e']
  .have:=pw j i hj hi c;rw[e,e',RN,a,b,OQ]at this;cases this
 have en:=hu _ (Gx j0) j2 j3;rw[aBs hk J J J];have hit:EF k.held ⟨n.fr,n.nu,n.un⟩=Y:=by
  unfold EF;rw[AQ h0,en,AQ rfl];rfl
 rw[A5 hit];obtain⟨a,b,_,d⟩:=Pd hk hn;have gone:∀x∈EX k.held (AU k.held n.fr n.nu).toNat,¬(x.fr=n.fr/\x.nu=n.nu):=λx hx c=>by
  have:=hu x (O4 hx) c.1 c.2;subst this;have:=aaC kf.h j0;rw[en]at this;exact this hx
 refine⟨_,Ii.2 ⟨rfl,Wc (AY.2 ⟨kf.id0,kf.id1⟩) (AY.2 ⟨kf.t0,kf.t1⟩) (AY.2 ⟨kf.n0,kf.n1⟩) ?_ (asT kf.h _) ?_ ?_ kf.il kf.i (λx hx=> ?_) (λx hx=> ?_) λx hx=> ?_⟩,gone⟩
 .exact CP (aaB _ _).length_le kf.hl
 .show(EE _ _).length<=12;unfold EE;rw[MT];omega
 .exact aCQ kf.m (by unfold FB;simp[r.2.2.2.1,r.2.2.2.2.2.1,r.2.2.2.2.2.2.1]) d
 .obtain⟨a,b,c,d⟩:=Pd hk<|O4 hx;refine⟨a,b,c,λy hy=> ?_⟩;obtain rfl|hy:=GA _ hy
  .exact λc=>gone x hx ⟨c.1.symm,c.2.symm⟩
  .exact d y hy
 .rcases GA _ hx with rfl|hx
  .exact⟨b,a⟩
  .exact W4 hk hx
 .obtain⟨a,b,c⟩:=S3 hk hx;refine⟨a,b,λh=> ?_⟩;obtain⟨y,y1,y2⟩:=c h;exact⟨y,Kd _<|.inr y1,y2⟩
def Se{α:Type}:∀ {l s:List α},l.Nodup->(∀x∈l,x∈s)->l.length<=s.length
 | [],_,_,_=>Cz _
 | x::l,s,h,g=>by
  obtain⟨a,b⟩:=IC.1 h;obtain⟨s1,s2,rfl⟩:=Ta<|g x<|.head _;have:=Se (l:=l) (s:=s1++s2) b (λy hy=>by
   have hy':=g y<|.tail _ hy;rw[BL,Bm]at hy';rw[BL];obtain c|c|c:=hy'
   .exact .inl c
   .subst c;exact absurd hy a
   .exact .inr c)
  simp only[Aq,Bl]at this ⊢;omega
def idN(n:A3):Int×Int:=(n.fr,n.nu)
def idM(m:Mark):Int×Int:=(m.mf,m.mn)
def aC1{l:List A3}(h:DJ l=Y):(l.map idN).Nodup:=by
 unfold List.Nodup;rw[List.pairwise_map];refine(XZ h).imp (fun {a b} r e=> ?_);have e1:=(Hg e).1;have e2:=(Hg e).2;rw[RN,e1,e2,OQ]at r;cases r
def as7{l:List Mark}(h:FM l=Y):(l.map idM).Nodup:=by
 unfold List.Nodup;rw[List.pairwise_map];refine(aD6 h).imp (fun {a b} r e=> ?_);have e1:=(Hg e).1;have e2:=(Hg e).2;rw[RM,e1,e2,OQ]at r;cases r
def KY{w:AB}(v:Inv w)(ok:B4 w){i:Nat}(hi:i<4){n:A3}(h:n∈(sT w i).held):n∈w.AO:=v.hs i hi n<|((v.lo i hi).lf (ok.k i hi).1).held n h
def ka{w:AB}(ok:B4 w){i:Nat}(hi:i<4):((sT w i).held.map idN++(sT w i).marks.map idM).Nodup:=by
 have hk:=Fa ok hi;have kf:=Bu hk;rw[JR];refine⟨aC1 kf.h,as7 kf.m,λa ha b hb e=> ?_⟩;obtain⟨n,hn,rfl⟩:=Bv.1 ha;obtain⟨m,hm,rfl⟩:=Bv.1 hb;have e1:=(Hg e).1;have e2:=(Hg e).2;exact(Pd hk hn).2.2.2 m hm ⟨e1.symm,e2.symm⟩
def lb{w:AB}(v:Inv w)(ok:B4 w){i:Nat}(hi:i<4):∀x∈(sT w i).held.map idN++(sT w i).marks.map idM,x∈w.AO.map idN:=λx hx=>by
 obtain hx|hx:=BL.1 hx
 .obtain⟨n,hn,rfl⟩:=Bv.1 hx;exact Bv.2 ⟨n,KY v ok hi hn,rfl⟩
 .obtain⟨m,hm,rfl⟩:=Bv.1 hx;obtain⟨n,h1,h2,_⟩:=v.mrk i hi m hm;exact Bv.2 ⟨n,h1,by rw[h2];rfl⟩
def axC{w:AB}(v:Inv w)(ok:B4 w){i:Nat}(hi:i<4):(sT w i).held.length+(sT w i).marks.length<=6:=by
 have:=Se (ka ok hi)<|lb v ok hi;have:=ok.sl;simp only[Aq,DL]at *;omega
def aty{w:AB}(v:Inv w)(ok:B4 w){i:Nat}(hi:i<4){n:A3}(hn:n∈w.AO)(h1:∀x∈(sT w i).held,¬(x.fr=n.fr/\x.nu=n.nu))(h3:∀x∈(sT w i).marks,¬(x.mf=n.fr/\x.mn=n.nu)):
  (sT w i).held.length+(sT w i).marks.length+1<=6:=by
 have:=Se (l:=idN n::((sT w i).held.map idN++(sT w i).marks.map idM)) (s:=w.AO.map idN) (IC.2 ⟨λhx=>by
  obtain hx|hx:=BL.1 hx
  .obtain⟨x,hx,e⟩:=Bv.1 hx;exact h1 x hx ⟨(Hg e).1,(Hg e).2⟩
  .obtain⟨x,hx,e⟩:=Bv.1 hx;exact h3 x hx ⟨(Hg e).1,(Hg e).2⟩,ka ok hi⟩) (λx hx=>by
  cases hx with
  | head=>exact Bv.2 ⟨n,hn,rfl⟩
  | tail _ hx=>exact lb v ok hi x hx)
 have:=ok.sl;simp only[Aq,DL,Bl]at *;omega
def atz{w:AB}(v:Inv w)(ok:B4 w){i:Nat}(hi:i<4){n:A3}(hn:n∈w.AO)(h2:∀x∈(sT w i).inbox,¬(x.fr=n.fr/\x.nu=n.nu)):(sT w i).inbox.length+1<=6:=by
 have:=Se (l:=idN n::(sT w i).inbox.map idN) (s:=w.AO.map idN) (IC.2 ⟨λhx=>by
  obtain⟨x,hx,e⟩:=Bv.1 hx;exact h2 x hx ⟨(Hg e).1,(Hg e).2⟩,aC1 (Bu<|Fa ok hi).i⟩) (λx hx=>by
  cases hx with
  | head=>exact Bv.2 ⟨n,hn,rfl⟩
  | tail _ hx=>
   obtain⟨y,hy,rfl⟩:=Bv.1 hx;exact Bv.2 ⟨y,(v.bx i hi y hy).1,rfl⟩)
 have:=ok.sl;simp only[DL,Bl]at *;omega
def eBr:Event:=⟨4,0,0,0,0,0,0,0,0,noB⟩
def eMx(i fr nu b:Int):Event:=⟨3,i,fr,nu,0,b,0,0,0,noB⟩
def eRi(i:Int):Event:=⟨8,i,0,0,0,0,0,0,0,noB⟩
def eOp(i:Int):Event:=⟨9,i,0,0,0,0,0,0,0,noB⟩
def dlv:Nat->AB->AB
 | 0,w=>w
 | n+1,w=>if w.AS.length=0 then w else dlv n (B6 w eBr)
def Q3{w:AB}(h:w.AS=[])(n:Nat):dlv n w=w:=by
 cases n with
 | zero=>rfl
 | succ n=>unfold dlv;rw[A5 (by rw[h];rfl)]
def mJ{w:AB}{p:AL}{ps:List AL}(h:w.AS=p::ps)(n:Nat):dlv (n+1) w=dlv n (B6 w eBr):=by
 show(if w.AS.length=0 then w else dlv n (B6 w eBr))=_;rw[A9 (by rw[h];simp)]
structure Cm (w:AB):Prop where
 ok:B5 w=Y
 inv:Inv w
 li:∀i,i<3->bA w.Al i=Y
 up:∀i,i<4->(kA w.A7 i).up=Y
def Cm.rv{w:AB}(c:Cm w):B4 w:=(Fs c.ok).1
def LV{w:AB}(h:B5 w=Y)(v:Inv w)(e:Event):B5 (B6 w e)=Y/\Inv (B6 w e):=jD (l:=[e]) h v
def Q6{w:AB}{e:Event}(h:B5 w=Y)(ht:w.ti<99999)(hd:(doM w e).2=Y):
  B6 w e=⟨w.ti+1,(doM w e).1.A7,(doM w e).1.Al,(doM w e).1.AS,(doM w e).1.AO,(doM w e).1.got⟩:=by
 have t0:=(Fs h).2.1;have e1:B6 w e=Ck w e:=by
  unfold B6 EC;rw[A5 h,A9 (by rw[B1 (J:¬99999<=w.ti)];exact CM),A5 hd]
 rw[e1,mX hd,Aa J J]
def Sg{w:AB}{e:Event}(h:B5 w=Y)(hd:(doM w e).2=A0):B6 w e=w:=by
 unfold B6 EC;rw[A5 h,hd,A4];split<;>rfl
def abe{w:AB}{p:AL}{ps:List AL}(ok:B4 w)(hr:w.AS=p::ps)(hl:∀i,i<3->bA w.Al i=Y):doM w eBr=(EP w p ps,Y):=by
 have hp:pA w.AS 0=p:=by rw[hr];rfl
 have hpo:=La (ok.p p (by rw[hr];exact .head _));unfold doM;rw[A5<|.inl rfl];unfold E8;rw[A5<|show inB eBr.wo 0 ((w.AS.length:Int) - 1)=Y from AY.2 ⟨D0 _,by rw[hr];show(0:Int)<=((ps.length+1:Nat):Int) - 1;omega⟩,A9<|show ¬eBr.ki=6 by decide,A9<|show ¬eBr.ki=5 by decide];rw[show pA w.AS eBr.wo.toNat=p from hp,hl _ J,A5 rfl,A5<|show eBr.kp=0 from rfl];rw[hr];rfl
def apx{w:AB}{f:Frame}{ps:List AL}(hf:By f=Y):EP w (pcF f) ps=⟨w.ti,w.A7.set f.dst.toNat (CB (kA w.A7 f.dst.toNat) f).1,w.Al,C1 ps (CB (kA w.A7 f.dst.toNat) f).2,w.AO,w.got⟩:=by
 have hu:Co (BA (pcF f).data)=(f,Y):=by
  show Co (BA<|BF<|Ca f)=_;rw[Ns<|O3 f,WD hf]
 unfold EP;rw[hu,A5<|by simp[pcF]];rfl
def aao{w:AB}{f:Frame}(h:B5 w=Y)(ht:w.ti<99999)(hl:∀i,i<3->bA w.Al i=Y)(hr:w.AS=[pcF f])(hf:By f=Y):
  B6 w eBr=⟨w.ti+1,w.A7.set f.dst.toNat (CB (kA w.A7 f.dst.toNat) f).1,w.Al,C1 [] (CB (kA w.A7 f.dst.toNat) f).2,w.AO,w.got⟩:=by
 have hd:=abe (Fs h).1 hr hl;rw[Q6 h ht<|by rw[hd],hd,apx hf]
def atw(f:Frame):C1 [] [f]=[pcF f]:=rfl
def aBX:C1 [] []=[]:=rfl
def axI{w:AB}(c:Cm w)(hr:w.AS=[])(ht:w.ti<99999){i:Nat}(hi:i<4){n:A3}(hn:n∈(sT w i).held){b:Int}(hb:inB b 0 999=Y):
  B6 w (eMx i n.fr n.nu b)=⟨w.ti+1,w.A7,w.Al,[pcF (B9 i n b)],w.AO,w.got⟩:=by
 have ok:=c.rv;have hk:=Fa ok hi;have h0:=Xc hn rfl rfl;obtain⟨j0,_,j2,j3⟩:=Eo h0;have e:=IX c.inv.sp (KY c.inv ok hi<|Gx j0) (KY c.inv ok hi hn) j2 j3;have hid:=(ok.k i hi).2;have hm:ED (kA w.A7 i) n.fr n.nu b=(B9 i n b,Y):=by
  unfold ED;rw[A5 (by rw[c.up i hi,hb,B1 (show ¬AU (stT<|kA w.A7 i).held n.fr n.nu<0 by have:0<=AU (stT<|kA w.A7 i).held n.fr n.nu:=h0;omega)];rfl)];have e:nA (stT<|kA w.A7 i).held (AU (stT<|kA w.A7 i).held n.fr n.nu).toNat=n:=e;rw[e,hid];rfl
 have hd:doM w (eMx i n.fr n.nu b)=(⟨w.ti,w.A7,w.Al,C1 w.AS [B9 i n b],w.AO,w.got⟩,Y):=by
  unfold doM;rw[A9 (by show ¬((3:Int)=4\/(3:Int)=5\/(3:Int)=6);omega),A9 (by show ¬((3:Int)=9\/(3:Int)=10);omega),A5<|show isN (eMx i n.fr n.nu b).at_=Y from Gw hi];unfold GZ;rw[A9 (by show ¬(3:Int)=1;omega),A9 (by show ¬(3:Int)=2;omega),A5<|show(eMx i n.fr n.nu b).ki=3 from rfl];have:ED (kA w.A7 (eMx i n.fr n.nu b).at_.toNat) (eMx i n.fr n.nu b).fr (eMx i n.fr n.nu b).nu (eMx i n.fr n.nu b).mix=(B9 i n b,Y):=hm;rw[this];rfl
 rw[Q6 c.ok ht<|by rw[hd],hd,hr];rfl
def SU{l:List A8}{i j:Nat}(k:A8)(h:j≠i):kA (l.set i k) j=kA l j:=by
 by_cases c:i<l.length
 .rw[F9 c,A9 h]
 .rw[lP J]
def aBc{w:AB}(c:Cm w)(ht:w.ti+3<99999)(hr:w.AS=[]){i j:Nat}(hi:i<4)(hj:j<4){n:A3}(hn:n∈(sT w i).held)(hnx:Br i n.to=(j:Int)){b:Int}(hb:inB b 0 999=Y):
  (∃w',dlv 400 (B6 w<|eMx i n.fr n.nu b)=w'/\(E9 (kA w.A7 j)<|B9 i n b).2=[]/\w'=⟨w.ti+2,w.A7.set j (E9 (kA w.A7 j)<|B9 i n b).1,w.Al,[],w.AO,w.got⟩)\/
  (∃w' x,dlv 400 (B6 w<|eMx i n.fr n.nu b)=w'/\(x=2\/x=3)/\(E9 (kA w.A7 j)<|B9 i n b).2=[De x (B9 i n b)]/\
   w'=⟨w.ti+3,(w.A7.set j (E9 (kA w.A7 j)<|B9 i n b).1).set i (CB (kA w.A7 i)<|De x<|B9 i n b).1,w.Al,[],w.AO,w.got⟩):=by
 have ok:=c.rv;have kl:=ok.kl;have hkn:=O1 (Fa ok hi) hn;have idi:=HR ok hi;rw[idi]at hkn;have nok:=ok.s n<|KY c.inv ok hi hn;have hf:By (B9 i n b)=Y:=jF (Gw hi) nok hkn.1 hb;have P6:(B9 i n b).dst=(j:Int):=hnx;have hij:i≠j:=by
  have:=aBh (Gw hi) (O6 nok).2.1 (by have:=hkn.1;unfold Dz at this;simp only[AD,CE,decide_eq_false_iff_not]at this;exact this.1);intro e;rw[hnx,e]at this;omega
 have h1:=axI c hr J hi hn hb;have g0:=LV c.ok c.inv<|eMx i n.fr n.nu b;have hh:CB (kA w.A7 j) (B9 i n b)=E9 (kA w.A7 j) (B9 i n b):=by
  rw[Xg (ok.k j hj).1];unfold HW;rw[A5 (by rw[c.up j hj,hf,P6,(ok.k j hj).2];simp),A5<|show U ((B9 i n b).ki=1)=Y from rfl]
 rw[h1]at g0;have s2:=aao (w:=⟨w.ti+1,w.A7,w.Al,[pcF (B9 i n b)],w.AO,w.got⟩) (f:=B9 i n b) g0.1 (by show w.ti+1<99999;omega) c.li rfl hf;rw[P6,Bf]at s2;simp only[hh]at s2;have d1:dlv 400 (B6 w<|eMx i n.fr n.nu b)=dlv 399 (B6 ⟨w.ti+1,w.A7,w.Al,[pcF (B9 i n b)],w.AO,w.got⟩ eBr):=by
  rw[h1];exact mJ rfl 399
 have g1:=LV g0.1 g0.2 eBr;rw[s2]at d1 g1;have two:w.ti+1+1=w.ti+2:=J
 rw[two]at d1 g1;have ha:=jO (kA w.A7 j)<|B9 i n b;rw[hh]at ha;obtain ha|⟨_,_,_,x,hx,ha⟩:=ha
 .rw[ha,aBX]at d1;exact .inl ⟨_,rfl,ha,by rw[d1,Q3 rfl]⟩
 .refine .inr ⟨_,x,rfl,hx,ha, ?_⟩;rw[ha,atw]at d1 g1;have hfa:=ma hf rfl hx;have s3:=aao (w:=⟨w.ti+2,w.A7.set j (E9 (kA w.A7 j)<|B9 i n b).1,w.Al,[pcF (De x<|B9 i n b)],w.AO,w.got⟩) (f:=De x<|B9 i n b) g1.1 (by show w.ti+2<99999;omega) c.li rfl hfa;have hds:(De x<|B9 i n b).dst=(i:Int):=rfl;rw[hds,Bf]at s3;simp only[SU _ hij]at s3;have hno:(CB (kA w.A7 i)<|De x<|B9 i n b).2=[]:=by
   obtain h|⟨_,h,_⟩:=jO (kA w.A7 i) (De x<|B9 i n b)
   .exact h
   .have:(De x<|B9 i n b).ki=x:=rfl;omega
  rw[hno,aBX]at s3;rw[d1,mJ rfl 398,s3,Q3 rfl];rw[show w.ti+2+1=w.ti+3 by omega]
def Pr(hv:List AE)(n:A3)(b:Nat):Prop:=b=0\/ ∃h∈hv,h.fr=n.fr/\h.nu=n.nu/\ ∃x,h.got=x++F5 n.tx b
def aqX(tx:A1)(b:Nat):(F5 tx b).length=b:=by unfold F5;simp
def aq9(tx:A1)(b:Nat):F5 tx (b+1)=F5 tx b++[⟨(b:Int),GH tx (b:Int)⟩]:=by
 unfold F5;rw[ID,Ek];rfl
def apd(x:List AN)(tx:A1){b:Nat}(hb:b<=5):∃x',Cq (x++F5 tx b) (b:Int) (GH tx (b:Int))=x'++F5 tx (b+1):=by
 have h:(F5 tx b).filter (Dk (b:Int))=F5 tx b:=List.filter_eq_self.2 λm hm=>by
  obtain⟨j,hj,rfl⟩:=aqW hm;unfold Dk;simp;omega
 have hl:=aqX tx b;unfold Cq;rw[Oi,h,aq9];split
 .rename_i hc;rw[Aq]at hc;refine⟨(x.filter<|Dk (b:Int)).drop 1, ?_⟩;rw[TS J,C3]
 .exact⟨x.filter<|Dk (b:Int),by rw[C3]⟩
def auk{k:A8}(hk:Ad k=Y){a b:AE}(ha:a∈k.AH)(hb:b∈k.AH)(h1:a.fr=b.fr)(h2:a.nu=b.nu):a=b:=by
 have hv:=(FJ hk).hv;obtain⟨i,hi,ei⟩:=OK ha;obtain⟨j,hj,ej⟩:=OK hb;have key:∀i j,i<k.AH.length->j<i->¬((hA k.AH j).fr=(hA k.AH i).fr/\(hA k.AH j).nu=(hA k.AH i).nu):=λi j hi hj c=>by
  have:=hv i hi;unfold Ff at this;rw[AD,DB]at this;have:=this.2 j hj;rw[AQ c.1,AQ c.2]at this;cases this
 obtain c|c|c:=I6 i j
 .exact absurd ⟨by rw[ei,ej,h1],by rw[ei,ej,h2]⟩ (key j i hj c)
 .subst c;rw[← ei,← ej]
 .exact absurd ⟨by rw[ei,ej,h1],by rw[ei,ej,h2]⟩<|key i j hi c
def aqT{l:List AE}{f n:Int}(h:EG l f n<0):∀x∈l,¬(x.fr=f/\x.nu=n):=λx hx c=>by
 obtain⟨i,hi,e⟩:=OK hx;unfold EG at h;obtain⟨_,g⟩|⟨m,g,_⟩:=G6 l.length (λi=>U ((hA l i).fr=f)&&U ((hA l i).nu=n))
 .have:=g i hi;rw[e,AQ c.1,AQ c.2]at this;cases this
 .omega
def au5{k:A8}(hk:Ad k=Y){f:Frame}{n:A3}(h1:f.fr=n.fr)(h2:f.nu=n.nu){b:Nat}(p:Pr k.AH n b):∃x,(hA (Ao k.AH f).1 (Ao k.AH f).2).got=x++F5 n.tx b:=by
 obtain⟨i,e,hi,e1,e2,_⟩|⟨hn,l,_,e⟩:=jB k.AH f
 .rw[e];obtain rfl|⟨h,hh,a1,a2,x,a3⟩:=p
  .exact⟨(hA k.AH i).got,by show _=_++F5 n.tx 0;rw[show F5 n.tx 0=[] from rfl,CK]⟩
  .have:=auk hk hh (mq hi) (by rw[a1,e1,h1]) (by rw[a2,e2,h2]);exact⟨x,by rw[← this];exact a3⟩
 .rw[e];obtain rfl|⟨h,hh,a1,a2,_⟩:=p
  .exact⟨[],by rw[Xu];rfl⟩
  .exact absurd ⟨by rw[a1,h1],by rw[a2,h2]⟩<|aqT hn h hh
def au4{w:AB}(v:Inv w){j:Nat}(hj:j<4){f:Frame}{n:A3}(hn:n∈w.AO)(h1:f.fr=n.fr)(h2:f.nu=n.nu)(h3:f.to=n.to)(h4:f.un=n.un)(h5:f.sz=n.tx.size):
  Lm (hA (Ao (kA w.A7 j).AH f).1 (Ao (kA w.A7 j).AH f).2) f=Y:=by
 obtain⟨i,e,hi,e1,e2,_⟩|⟨_,l,_,e⟩:=jB (kA w.A7 j).AH f
 .rw[e];obtain⟨x,x1,x2,x3,x4,x5,x6,_⟩:=v.hf j hj _<|mq hi;have ex:x=n:=IX v.sp x1 hn (by rw[← x2,e1,h1]) (by rw[← x3,e2,h2]);subst ex;unfold Lm;rw[x4,x5,x6,h3,h4,h5];simp
 .rw[e,Xu];exact atx f
def ark{tx:A1}{b k:Nat}(h:k<b):(⟨(k:Int),GH tx (k:Int)⟩:AN)∈F5 tx b:=Bv.2 ⟨k,Cs.2 h,rfl⟩
def arE{tx:A1}(h:inB tx.size 1 24=Y){x:List AN}(ho:Oy tx (x++F5 tx ((tx.size+3) / 4))):FA tx.size (x++F5 tx ((tx.size+3) / 4))=(tx,Y):=by
 have h':=AY.1 h;refine aq3 h ho λk hk=>⟨⟨(k:Int),GH tx (k:Int)⟩,CS _<|ark hk,aCT h<|AY.2 J, ?_⟩;exact ape (aBn h) hk
def aCJ{w:AB}(c:Cm w){i j:Nat}(hi:i<4)(hj:j<4){n:A3}(hn:n∈(sT w i).held)(hnx:Br i n.to=(j:Int)){b:Nat}(hb:b<(n.tx.size+3) / 4)(hp:Pr (kA w.A7 j).AH n b):
  (n.un<=(sT w j).ti/\E9 (kA w.A7 j) (B9 i n b)=(kA w.A7 j,[De 3 (B9 i n b)]))\/
  (¬n.un<=(sT w j).ti/\ ∃k',E9 (kA w.A7 j) (B9 i n b)=(k',[De 2 (B9 i n b)])/\k'.up=Y/\(stT k').ti=(sT w j).ti/\ ∀x∈(stT k').held,x∈(sT w j).held\/x=n)\/
  (¬n.un<=(sT w j).ti/\b+1<(n.tx.size+3) / 4/\ ∃hv,E9 (kA w.A7 j) (B9 i n b)=(Gc (kA w.A7 j) hv,[])/\Pr hv n (b+1)):=by
 have ok:=c.rv;have v:=c.inv;have hkn:=O1 (Fa ok hi) hn;rw[HR ok hi]at hkn;have hs:=KY v ok hi hn;have nok:=ok.s n hs;have rn:=O6 nok;have htx:=Mf nok;have azX:=AY.1 htx;have Qv:inB (b:Int) 0 999=Y:=AY.2 J;have hf:By (B9 i n b)=Y:=jF (Gw hi) nok hkn.1 Qv;have hwn:=Ps (Gw hi) rn.1 rn.2.1 hkn.1;rw[hnx]at hwn;have oC:=(ok.k j hj).1;have az4:=(ok.k j hj).2;have upj:=c.up j hj;unfold E9;by_cases hl:n.un<=(sT w j).ti
 .rw[A5<|show(B9 i n b).un<=(stT<|kA w.A7 j).ti from hl];exact .inl ⟨hl,rfl⟩
 rw[A9<|show ¬(B9 i n b).un<=(stT<|kA w.A7 j).ti from hl];by_cases hh:0<=AU (stT<|kA w.A7 j).held (B9 i n b).fr (B9 i n b).nu\/0<=Bj (stT<|kA w.A7 j).marks (B9 i n b).fr (B9 i n b).nu
 .rw[A5 hh];obtain⟨_,_,_,a3⟩:=mI oC;exact .inr<|.inl ⟨hl,_,rfl,upj,by rw[a3],λx hx=>by rw[a3]at hx;exact .inl hx⟩
 rw[A9 hh,A9 (show ¬(B9 i n b).fr=(kA w.A7 j).id by rw[az4];exact λe=>hwn.2.1 e.symm)];have d1:∀x∈(sT w j).held,¬(x.fr=n.fr/\x.nu=n.nu):=λx hx e=>hh<|.inl<|Xc hx e.1 e.2;have d3:∀x∈(sT w j).marks,¬(x.mf=n.fr/\x.mn=n.nu):=λx hx e=>hh<|.inr<|kK hx e.1 e.2;have d2:∀x∈(sT w j).inbox,¬(x.fr=n.fr/\x.nu=n.nu):=λx hx e=>by
  have hx2:=IX v.sp (v.bx j hj x hx).1 hs e.1 e.2;subst hx2;obtain⟨y,y1,y2,y3⟩:=(S3 (Fa ok hj) hx).2.2 J;exact d3 y y1 ⟨y2,y3⟩
 obtain⟨p1,p2,p3⟩:=abE (w:=w) (v.hf j hj) (f:=B9 i n b) hs rfl rfl rfl rfl rfl;have plt:=OC (hv:=(kA w.A7 j).AH) (f:=B9 i n b);obtain⟨q1,q2⟩:=abd v plt p1 hs (f:=B9 i n b) rfl rfl rfl p2 p3;obtain⟨x,ex⟩:=au5 oC (f:=B9 i n b) (n:=n) rfl rfl hp;obtain⟨x',ex'⟩:=apd x n.tx (b:=b) J;unfold K0;rw[A5<|au4 v hj (f:=B9 i n b) hs rfl rfl rfl rfl rfl];rw[ex,show Cq (x++F5 n.tx b) (B9 i n b).mix (B9 i n b).da=_ from ex'];rw[ex,show Cq (x++F5 n.tx b) (B9 i n b).mix (B9 i n b).da=_ from ex']at q2;rw[show(B9 i n b).sz=(n.tx.size:Int) from rfl];obtain ht|ht:=tf (FA n.tx.size<|x'++F5 n.tx (b+1)).2
 .rw[A5 ht];have hte:=aCs htx q2 ht;rw[hte];rw[show(⟨(B9 i n b).fr,(B9 i n b).nu,(B9 i n b).to,(B9 i n b).un,(n.tx,Y).1⟩:A3)=n from rfl];have hdr:=mW oC upj hf rfl;have hkk:=C5 hdr.ok;have est:stT (Gc (kA w.A7 j)<|FG (Cv (Ao (kA w.A7 j).AH<|B9 i n b).1 (Ao (kA w.A7 j).AH<|B9 i n b).2<|B9 i n b) (Ao (kA w.A7 j).AH<|B9 i n b).2)=sT w j:=rfl;obtain⟨o,ho⟩:=arG (k:=sT w j) (Fa ok hj) nok (by rw[HR ok hj];exact λe=>hwn.2.1 e.symm) J d1 d2 d3 (aty v ok hj hs d1 d3) (atz v ok hj hs d2) (λhne=>by
   rw[HR ok hj]at hne ⊢;exact hwn.2.2 λe=>hne e.symm)
  have nj:=kB hkk (by rw[est];exact ho);unfold Kg;rw[A5 (by rw[nok,nj.2];rfl)];obtain⟨kf,_⟩:=aaa (Fa ok hj) nok ho;refine .inr (.inl ⟨hl,_,rfl,by rw[OG];exact upj, ?_,λy hy=> ?_⟩)
  .rw[nj.1.is.stT];have tk:=axi (Fa ok hj) nok ho;exact tk.ti
  .rw[nj.1.is.stT]at hy;obtain e|e|e:=kf.held y hy
   .exact .inl e
   .cases e
   .cases e;exact .inr rfl
 .rw[ht,A4];refine .inr (.inr ⟨hl, ?_,_,rfl, ?_⟩)
  .rcases GN (b+1) ((n.tx.size+3) / 4) with h|h
   .exact h
   .have e:b+1=(n.tx.size+3) / 4:=J
    rw[e]at ht q2;rw[arE htx q2]at ht;cases ht
  .have hm:∀(l:List AE) (m:Nat),m<l.length->(⟨(hA l m).fr,(hA l m).nu,(hA l m).to,(hA l m).un,(hA l m).sz,Cq (hA l m).got (B9 i n b).mix (B9 i n b).da⟩:AE)∈Cv l m (B9 i n b):=λl m h=>by
    unfold Cv;exact List.mem_set h _
   refine .inr ⟨_,hm _ _ plt,p2,p3,x', ?_⟩;show Cq (hA (Ao (kA w.A7 j).AH<|B9 i n b).1 (Ao (kA w.A7 j).AH<|B9 i n b).2).got (B9 i n b).mix (B9 i n b).da=_;rw[ex];exact ex'
def kW:∀(m:Nat) {w:AB},B5 w=Y->Inv w->B5 (dlv m w)=Y/\Inv (dlv m w)
 | 0,_,h,v=>⟨h,v⟩
 | m+1,w,h,v=>by
  unfold dlv;split
  .exact⟨h,v⟩
  .obtain⟨a,b⟩:=LV h v eBr;exact kW m a b
def aCV{k:A8}(hk:Ad k=Y)(f:Frame):CB k (De 3 f)=(k,[]):=by
 rw[Xg hk];unfold HW;split
 .rw[A9 (show ¬U ((De 3 f).ki=1)=Y by show ¬U ((3:Int)=1)=Y;decide),show U ((De 3 f).ki=2)=A0 from rfl,AM,A4]
 .rfl
def ata{w:AB}(c:Cm w){i:Nat}(hi:i<4){n:A3}(hn:n∈(sT w i).held){b:Int}(hb:inB b 0 999=Y):
  ∃k',CB (kA w.A7 i) (De 2<|B9 i n b)=(k',[])/\k'.up=Y/\(stT k').ti=(sT w i).ti/\(∀x∈(stT k').held,x∈(sT w i).held/\x≠n):=by
 have ok:=c.rv;have hk:=Fa ok hi;have acW:=(ok.k i hi).1;have hkn:=O1 hk hn;rw[HR ok hi]at hkn;have hs:=KY c.inv ok hi hn;have nok:=ok.s n hs;have hf:By (B9 i n b)=Y:=jF (Gw hi) nok hkn.1 hb;have hfa:=ma hf rfl (n:=2) (.inl rfl);have h0:=Xc hn rfl rfl;obtain⟨j0,_,j2,j3⟩:=Eo h0;have e:=IX c.inv.sp (KY c.inv ok hi<|Gx j0) hs j2 j3;have e:nA (stT<|kA w.A7 i).held (AU (stT<|kA w.A7 i).held n.fr n.nu).toNat=n:=e;have h0:0<=AU (stT<|kA w.A7 i).held n.fr n.nu:=h0;obtain⟨o,ho,hg⟩:=atZ hk hn<|axC c.inv ok hi;have r:=Pf nok;have hw2:(wrR (kA w.A7 i) (CX Bx n.fr n.nu n.un) A0).2=Y:=by
  unfold wrR;rw[show BE (stT<|kA w.A7 i) _=_ from ho]
 obtain⟨_,_,a2,_⟩:=aay acW (c.inv.lo i hi) ⟨n.fr,n.nu,n.un,J,J,J,rfl⟩ hw2;have eo:o=stT (wrR (kA w.A7 i) (CX Bx n.fr n.nu n.un) A0).1:=Ei<|ho.symm.trans a2;have kf:=abR hk J J J ho;obtain⟨_,eo2⟩:=lx hk J J J ho;refine⟨(wrR (kA w.A7 i) (CX Bx n.fr n.nu n.un) A0).1, ?_,by rw[OG];exact c.up i hi,by rw[← eo,eo2],λx hx=> ?_⟩
 .rw[Xg acW];unfold HW;rw[A5 (by rw[c.up i hi,hfa,AR,AR];exact AQ (by rw[(ok.k i hi).2];rfl)),A9 (show ¬U ((De 2<|B9 i n b).ki=1)=Y by show ¬U ((2:Int)=1)=Y;decide)];rw[A5 (by
   rw[show(De 2<|B9 i n b).fr=n.fr from rfl,show(De 2<|B9 i n b).nu=n.nu from rfl,e,B1 (J:¬AU (stT<|kA w.A7 i).held n.fr n.nu<0)];rw[show(De 2<|B9 i n b).to=n.to from rfl,show(De 2<|B9 i n b).un=n.un from rfl,show U ((De 2<|B9 i n b).ki=2)=Y from rfl,AQ rfl,AQ rfl];rfl)]
  rfl
 .rw[← eo]at hx;obtain h|h|h:=kf.held x hx
  .exact⟨h,λe=>hg x hx ⟨by rw[e],by rw[e]⟩⟩
  .cases h
  .cases h
structure Ofr (T:Nat) (w w':AB) (i j:Nat) (n:A3):Prop where
 cm:Cm w'
 ra:w'.AS=[]
 se:w'.AO=w.AO
 go:w'.got=w.got
 t0:w.ti<=w'.ti
 t1:w'.ti<=w.ti+T
 clk:∀k,k<4->(sT w' k).ti=(sT w k).ti
 hi:∀x∈(sT w' i).held,x∈(sT w i).held
 hj:∀x∈(sT w' j).held,x∈(sT w j).held\/x=n
 ot:∀k,k≠i->k≠j->kA w'.A7 k=kA w.A7 k
 st:n.un<=(sT w j).ti->w'.A7=w.A7
def Ofr.rfl{w:AB}(c:Cm w)(hr:w.AS=[])(i j:Nat)(n:A3):Ofr 0 w w i j n:=⟨c,hr,Hd _,Hd _,D0 _,J,λ_ _=>Hd _,λ_ h=>h,λ_ h=> .inl h,λ_ _ _=>Hd _,λ_=>Hd _⟩
def Ofr.trans{T S:Nat}{a b c:AB}{i j:Nat}{n:A3}(hj4:j<4)(h:Ofr T a b i j n)(g:Ofr S b c i j n):Ofr (T+S) a c i j n:=
 ⟨g.cm,g.ra,g.se.trans h.se,g.go.trans h.go,Ks h.t0 g.t0,by have:=h.t1;have:=g.t1;omega,λk hk=>(g.clk k hk).trans<|h.clk k hk,λx hx=>h.hi x<|g.hi x hx,
  λx hx=>by obtain e|e:=g.hj x hx;exact h.hj x e;exact .inr e,λk h1 h2=>(g.ot k h1 h2).trans<|h.ot k h1 h2,λhs=>(g.st (by rw[h.clk j hj4];exact hs)).trans<|h.st hs⟩
def Ofr.up{T S:Nat}{w w':AB}{i j:Nat}{n:A3}(h:Ofr T w w' i j n)(hS:T<=S):Ofr S w w' i j n:=⟨h.cm,h.ra,h.se,h.go,h.t0,by have:=h.t1;omega,h.clk,h.hi,h.hj,h.ot,h.st⟩
def axE{w:AB}(ok:B4 w){i j:Nat}(hi:i<4){n:A3}(nok:At n=Y)(hw:Dz (i:Int) n.fr n.to=Y)(hnx:Br i n.to=(j:Int)):i≠j:=by
 have:=aBh (Gw hi) (O6 nok).2.1 (by unfold Dz at hw;simp only[AD,CE,decide_eq_false_iff_not]at hw;exact hw.1);intro e;rw[hnx,e]at this;omega
def FF(i:Nat)(n:A3)(w:AB)(b:Nat):AB:=dlv 400<|B6 w<|eMx i n.fr n.nu b
def asR{w:AB}(c:Cm w)(hr:w.AS=[])(ht:w.ti+3<99999){i j:Nat}(hi:i<4)(hj:j<4){n:A3}(hn:n∈(sT w i).held)(hnx:Br i n.to=(j:Int)){b:Nat}(hb:b<(n.tx.size+3) / 4)(hp:Pr (kA w.A7 j).AH n b):
  Ofr 3 w (FF i n w b) i j n/\(n.un<=(sT w j).ti\/n ∉ (sT (FF i n w b) i).held\/(n∈(sT (FF i n w b) i).held/\b+1<(n.tx.size+3) / 4/\Pr (kA (FF i n w b).A7 j).AH n (b+1))):=by
 have ok:=c.rv;have kl:=ok.kl;have hkn:=O1 (Fa ok hi) hn;rw[HR ok hi]at hkn;have nok:=ok.s n<|KY c.inv ok hi hn;have htx:=AY.1<|Mf nok;have Qv:inB (b:Int) 0 999=Y:=AY.2 J;have hij:=axE ok hi nok hkn.1 hnx;have EL:=(fun(e:Event)=>LV c.ok c.inv e)<|eMx i n.fr n.nu b;have EL:=kW 400 EL.1 EL.2;unfold FF;obtain⟨w',e0,ha,ew⟩|⟨w',x,e0,hx,ha,ew⟩:=aBc c ht hr hi hj hn hnx Qv
 .rw[e0]at EL ⊢;obtain⟨_,e⟩|⟨_,k',e,_⟩|⟨hl,hb2,hv,e,hpr⟩:=aCJ c hi hj hn hnx hb hp
  .rw[e]at ha;cases ha
  .rw[e]at ha;cases ha
  .rw[e]at ew;subst ew;have kj:kA (w.A7.set j<|Gc (kA w.A7 j) hv) j=Gc (kA w.A7 j) hv:=by rw[F9 J,A5 rfl]
   have kk:∀k,k≠j->kA (w.A7.set j<|Gc (kA w.A7 j) hv) k=kA w.A7 k:=λk hk=>SU _ hk;have sts:∀k,stT (kA (w.A7.set j<|Gc (kA w.A7 j) hv) k)=stT (kA w.A7 k):=λk=>by
    by_cases h:k=j
    .rw[h,kj];rfl
    .rw[kk k h]
   refine⟨⟨⟨EL.1,EL.2,c.li,λk hk=> ?_⟩,rfl,rfl,rfl,by show w.ti<=w.ti+2;omega,by show w.ti+2<=w.ti+(3:Nat);omega,λk _=>by unfold sT;rw[sts],λy hy=>by unfold sT at hy ⊢; rw[sts]at hy;exact hy,
    λy hy=> .inl (by unfold sT at hy ⊢; rw[sts]at hy;exact hy),λk _ h2=>kk k h2,λhs=>absurd hs hl⟩,.inr<|.inr ⟨?_,hb2, ?_⟩⟩
   .show(kA (w.A7.set j _) k).up=Y;by_cases h:k=j
    .rw[h,kj];exact c.up j hj
    .rw[kk k h];exact c.up k hk
   .unfold sT at hn ⊢;rw[sts];exact hn
   .show Pr (kA (w.A7.set j _) j).AH n (b+1);rw[kj];exact hpr
 .rw[e0]at EL ⊢;obtain⟨hl,e⟩|⟨hl,k',e,u1,u2,u3⟩|⟨_,_,hv,e,_⟩:=aCJ c hi hj hn hnx hb hp
  .rw[e]at ha;have hx3:x=3:=by
    have:=congrArg Frame.ki (lE ha).1;exact this.symm
   subst hx3;rw[e,aCV (ok.k i hi).1,Kh,Kh]at ew;subst ew;exact⟨⟨⟨EL.1,EL.2,c.li,c.up⟩,rfl,rfl,rfl,by show w.ti<=w.ti+3;omega,D0 _,λ_ _=>rfl,λ_ h=>h,λ_ h=> .inl h,λ_ _ _=>rfl,λ_=>rfl⟩,.inl hl⟩
  .rw[e]at ha;have hx2:x=2:=by
    have:=congrArg Frame.ki (lE ha).1;exact this.symm
   subst hx2;obtain⟨k1,l0,l1,l2,l3⟩:=ata c hi hn Qv;rw[e,l0]at ew;subst ew;have ki:kA ((w.A7.set j k').set i k1) i=k1:=by rw[F9 o5,A5 rfl]
   have kj:kA ((w.A7.set j k').set i k1) j=k':=by rw[SU _ λh=>hij h.symm,F9 J,A5 rfl]
   have kk:∀k,k≠i->k≠j->kA ((w.A7.set j k').set i k1) k=kA w.A7 k:=λk h1 h2=>by rw[SU _ h1,SU _ h2]
   refine⟨⟨⟨EL.1,EL.2,c.li,λk hk=> ?_⟩,rfl,rfl,rfl,by show w.ti<=w.ti+3;omega,D0 _,λk hk=> ?_,λy hy=> ?_,λy hy=> ?_,kk,λhs=>absurd hs hl⟩,.inr<|.inl λh=> ?_⟩
   .show(kA ((w.A7.set j k').set i k1) k).up=Y;by_cases h1:k=i
    .rw[h1,ki];exact l1
    .by_cases h2:k=j
     .rw[h2,kj];exact u1
     .rw[kk k h1 h2];exact c.up k hk
   .show(stT<|kA ((w.A7.set j k').set i k1) k).ti=_;by_cases h1:k=i
    .rw[h1,ki];exact l2
    .by_cases h2:k=j
     .rw[h2,kj];exact u2
     .rw[kk k h1 h2]
   .have hy:y∈(stT<|kA ((w.A7.set j k').set i k1) i).held:=hy;rw[ki]at hy;exact(l3 y hy).1
   .have hy:y∈(stT<|kA ((w.A7.set j k').set i k1) j).held:=hy;rw[kj]at hy;exact u3 y hy
   .have h:n∈(stT<|kA ((w.A7.set j k').set i k1) i).held:=h;rw[ki]at h;exact(l3 n h).2 rfl
  .rw[e]at ha;cases ha
def axH{w:AB}(c:Cm w){i:Nat}(hi:i<4){n:A3}(hs:n∈w.AO)(hn:n ∉ (sT w i).held)(b:Int):B6 w (eMx i n.fr n.nu b)=w:=by
 have ok:=c.rv;refine Sg c.ok ?_;have:(ED (kA w.A7 i) n.fr n.nu b).2=A0:=by
  unfold ED;split
  .rename_i hc;simp only[AD,CE,decide_eq_false_iff_not]at hc;obtain⟨j0,_,j2,j3⟩:=Eo<|QY.1 hc.2.1;have hm:=Gx j0;have e:=IX c.inv.sp (KY c.inv ok hi hm) hs j2 j3;rw[e]at hm;exact absurd hm hn
  .rfl
 unfold doM;rw[A9 (by show ¬((3:Int)=4\/(3:Int)=5\/(3:Int)=6);omega),A9 (by show ¬((3:Int)=9\/(3:Int)=10);omega),A5<|show isN (eMx i n.fr n.nu b).at_=Y from Gw hi];unfold GZ;rw[A9 (by show ¬(3:Int)=1;omega),A9 (by show ¬(3:Int)=2;omega),A5<|show(eMx i n.fr n.nu b).ki=3 from rfl];rw[A9 (by rw[show(ED (kA w.A7 (eMx i n.fr n.nu b).at_.toNat) (eMx i n.fr n.nu b).fr (eMx i n.fr n.nu b).nu (eMx i n.fr n.nu b).mix).2=A0 from this];exact CM)]
def Jz(i:Nat)(w:AB)(n:A3):AB:=(B7<|(n.tx.size+3) / 4).foldl (FF i n) w
def asS{w:AB}(c:Cm w)(hr:w.AS=[])(ht:w.ti+18<99999){i j:Nat}(hi:i<4)(hj:j<4){n:A3}(hs:n∈w.AO)(hnx:Br i n.to=(j:Int)):
  Ofr 18 w (Jz i w n) i j n/\(n.un<=(sT w j).ti\/n ∉ (sT (Jz i w n) i).held):=by
 have ok:=c.rv;have nok:=ok.s n hs;have htx:=AY.1<|Mf nok;have key:∀m,m<=(n.tx.size+3) / 4->Ofr (3 * m) w ((B7 m).foldl (FF i n) w) i j n/\(n.un<=(sT w j).ti\/n ∉ (sT ((B7 m).foldl (FF i n) w) i).held\/
   (n∈(sT ((B7 m).foldl (FF i n) w) i).held/\m<(n.tx.size+3) / 4/\Pr (kA ((B7 m).foldl (FF i n) w).A7 j).AH n m)):=by
  intro m
  induction m with
  | zero=>
   intro _;refine⟨Ofr.rfl c hr i j n, ?_⟩;by_cases h:n∈(sT w i).held
   .exact .inr (.inr ⟨h,J,.inl rfl⟩)
   .exact .inr<|.inl h
  | succ m ih=>
   intro hm;obtain⟨o,g⟩:=ih J;rw[ID,G3];generalize (B7 m).foldl (FF i n) w=x at o g;show Ofr (3 * (m+1)) w (FF i n x m) i j n/\(_\/n ∉ (sT (FF i n x m) i).held\/(n∈(sT (FF i n x m) i).held/\_/\Pr (kA (FF i n x m).A7 j).AH n (m+1)));have hxs:n∈x.AO:=by rw[o.se];exact hs
   by_cases hh:n∈(sT x i).held
   .have t1:=o.t1;by_cases hp:Pr (kA x.A7 j).AH n m
    .obtain⟨o2,g2⟩:=asR o.cm o.ra J hi hj hh hnx (b:=m) J hp;refine⟨(o.trans hj o2).up J, ?_⟩;obtain g2|g2|g2:=g2
     .rw[o.clk j hj]at g2;exact .inl g2
     .exact .inr (.inl g2)
     .exact .inr<|.inr g2
    ·
     have hst:n.un<=(sT w j).ti:=by
      obtain g|g|g:=g
      .exact g
      .exact absurd hh g
      .exact absurd g.2.2 hp
     have o2:Ofr 3 x (FF i n x m) i j n:=by
      have hkn:=O1 (Fa o.cm.rv hi) hh;rw[HR o.cm.rv hi]at hkn;have hl:n.un<=(sT x j).ti:=by rw[o.clk j hj];exact hst
      have Qv:inB (m:Int) 0 999=Y:=AY.2 J;have okx:=o.cm.rv;have EL:=LV o.cm.ok o.cm.inv<|eMx i n.fr n.nu m;have EL:=kW 400 EL.1 EL.2;have hpm:E9 (kA x.A7 j) (B9 i n m)=(kA x.A7 j,[De 3 (B9 i n m)]):=by
       unfold E9;rw[A5<|show(B9 i n m).un<=(stT<|kA x.A7 j).ti from hl]
      unfold FF;obtain⟨w',e0,ha,_⟩|⟨w',y,e0,hy,ha,ew⟩:=aBc o.cm J o.ra hi hj hh hnx Qv
      .rw[hpm]at ha;cases ha
      .rw[e0]at EL ⊢;rw[hpm]at ha;have hy3:y=3:=(congrArg Frame.ki (lE ha).1).symm;subst hy3;rw[hpm,aCV (okx.k i hi).1,Kh,Kh]at ew;subst ew;exact⟨⟨EL.1,EL.2,o.cm.li,o.cm.up⟩,rfl,rfl,rfl,by show x.ti<=x.ti+3;omega,D0 _,λ_ _=>rfl,λ_ h=>h,λ_ h=> .inl h,λ_ _ _=>rfl,λ_=>rfl⟩
     exact⟨(o.trans hj o2).up J,.inl hst⟩
   .have e:FF i n x m=x:=by
     unfold FF;rw[axH o.cm hi hxs hh,Q3 o.ra]
    rw[e];exact⟨o.up J,.inr<|.inl hh⟩
 obtain⟨o,g⟩:=key _<|Ar _;refine⟨o.up J, ?_⟩;obtain g|g|g:=g
 .exact .inl g
 .exact .inr g
 .omega
def stk(w:AB)(n:A3)(i:Nat):Prop:=n.un<=(sT w (Br i n.to).toNat).ti
structure Cal (T:Nat) (w w':AB):Prop where
 cm:Cm w'
 ra:w'.AS=[]
 se:w'.AO=w.AO
 go:w'.got=w.got
 t0:w.ti<=w'.ti
 t1:w'.ti<=w.ti+T
 clk:∀k,k<4->(sT w' k).ti=(sT w k).ti
def Cal.rfl{w:AB}(c:Cm w)(hr:w.AS=[]):Cal 0 w w:=⟨c,hr,Hd _,Hd _,D0 _,J,λ_ _=>Hd _⟩
def Cal.trans{T S:Nat}{a b c:AB}(h:Cal T a b)(g:Cal S b c):Cal (T+S) a c:=
 ⟨g.cm,g.ra,g.se.trans h.se,g.go.trans h.go,Ks h.t0 g.t0,by have:=h.t1;have:=g.t1;omega,λk hk=>(g.clk k hk).trans<|h.clk k hk⟩
def Cal.up{T S:Nat}{w w':AB}(h:Cal T w w')(hS:T<=S):Cal S w w':=⟨h.cm,h.ra,h.se,h.go,h.t0,by have:=h.t1;omega,h.clk⟩
def YF{w w':AB}(h:∀k,k<4->(sT w' k).ti=(sT w k).ti){n:A3}{i:Nat}(hn:isN (Br i n.to)=Y):stk w' n i↔stk w n i:=by
 have:=E7 hn;unfold stk;rw[h _ J]
structure Trn (T:Nat) (w w':AB) (i:Nat) (L:List A3):Prop where
 ca:Cal T w w'
 hi:∀x∈(sT w' i).held,x∈(sT w i).held
 ot:∀k,k<4->k≠i->∀x∈(sT w' k).held,x∈(sT w k).held\/(x∈L/\Br i x.to=(k:Int))
 dn:∀n∈L,n ∉ (sT w' i).held\/stk w n i
 st:(∀n∈L,stk w n i)->w'.A7=w.A7
def aBd{i:Nat}(hi:i<4):∀(L:List A3) {w:AB},Cm w->w.AS=[]->w.ti+18 * (L.length:Int)<99999->(∀n∈L,n∈w.AO/\Dz (i:Int) n.fr n.to=Y)->Trn (18 * L.length) w (L.foldl (Jz i) w) i L
 | [],w,c,hr,_,_=>⟨Cal.rfl c hr,λ_ h=>h,λ_ _ _ _ h=> .inl h,λ_ h=>(by cases h),λ_=>rfl⟩
 | n::L,w,c,hr,ht,hL=>by
  obtain⟨hs,hw⟩:=hL n<|.head _;have rn:=O6<|c.rv.s n hs;obtain⟨x1,_,_⟩:=Ps (Gw hi) rn.1 rn.2.1 hw;have xr:=E7 x1;obtain⟨j,hj⟩:∃j:Nat,Br i n.to=(j:Int):=⟨(Br i n.to).toNat,J⟩;have hj4:j<4:=J
  have hjn:(Br (i:Int) n.to).toNat=j:=J
  rw[Bl]at ht;obtain⟨o,g⟩:=asS c hr J hi hj4 hs hj;have t1:=o.t1;have ih:=aBd hi L o.cm o.ra J (λm hm=>by rw[o.se];exact hL m<|.tail _ hm);have nx:∀m∈L,isN (Br i m.to)=Y:=λm hm=>by
   obtain⟨a,b⟩:=hL m<|.tail _ hm;have rm:=O6<|c.rv.s m a;exact(Ps (Gw hi) rm.1 rm.2.1 b).1
  have co:Cal 18 w (Jz i w n):=⟨o.cm,o.ra,o.se,o.go,o.t0,o.t1,o.clk⟩;show Trn _ w (L.foldl (Jz i)<|Jz i w n) i (n::L);refine⟨(co.trans ih.ca).up (by rw[Bl];omega),λx hx=>o.hi x<|ih.hi x hx,λk hk hki x hx=> ?_,λm hm=> ?_,λhst=> ?_⟩
  .rcases ih.ot k hk hki x hx with h|⟨h1,h2⟩
   .by_cases hkj:k=j
    .subst hkj;obtain h|h:=o.hj x h
     .exact .inl h
     .rw[h];exact .inr ⟨.head _,hj⟩
    .left;unfold sT at h ⊢;rw[o.ot k hki hkj]at h;exact h
   .exact .inr ⟨.tail _ h1,h2⟩
  .cases hm with
   | head=>
    obtain g|g:=g
    .right;unfold stk;rw[hjn];exact g
    .exact .inl λh=>g<|ih.hi _ h
   | tail _ hm=>
    obtain h|h:=ih.dn m hm
    .exact .inl h
    .exact .inr ((YF o.clk<|nx m hm).1 h)
  .have h0:=hst n<|.head _;unfold stk at h0;rw[hjn]at h0;exact(ih.st λm hm=>(YF o.clk<|nx m hm).2<|hst m<|.tail _ hm).trans<|o.st h0
def IH(w:AB)(i:Nat):AB:=(sT w i).held.foldl (Jz i) w
def jN{w:AB}(c:Cm w){i:Nat}(hi:i<4):∀n∈(sT w i).held,n∈w.AO/\Dz (i:Int) n.fr n.to=Y:=λn hn=>by
 have:=(O1 (Fa c.rv hi) hn).1;rw[HR c.rv hi]at this;exact⟨KY c.inv c.rv hi hn,this⟩
def T9{w:AB}(c:Cm w)(hr:w.AS=[])(ht:w.ti+108<99999){i:Nat}(hi:i<4):Trn 108 w (IH w i) i (sT w i).held:=by
 have hl:=(Bu<|Fa c.rv hi).hl;have t:=aBd hi (sT w i).held c hr J<|jN c hi;exact⟨t.ca.up J,t.hi,t.ot,t.dn,t.st⟩
def Stl(w:AB):Prop:=∀k,k<4->∀n∈(sT w k).held,stk w n k
def NG(m:Nat)(w:AB):Prop:=∀k:Nat,k<4->∀n∈(sT w k).held,stk w n k\/(n.to<(k:Int)/\k+m<=3)\/(m=0/\(k:Int)<n.to)
def TI(m i:Nat)(w:AB):Prop:=∀k:Nat,k<4->∀n∈(sT w k).held,stk w n k\/(n.to<(k:Int)/\(k<i->k+m+1<=3)/\k+m<=3)\/((k:Int)<n.to/\i<=k)
def YC{w:AB}(c:Cm w)(hr:w.AS=[])(ht:w.ti+108<99999){i m:Nat}(hi:i<4)(h:TI m i w):TI m (i+1) (IH w i):=by
 have t:=T9 c hr ht hi;intro k hk n hn;have okx:=t.ca.cm.rv;have nx:∀ {k:Nat} {x:A3},k<4->x∈(sT w k).held->isN (Br k x.to)=Y:=fun {k x} hk hx=>by
  obtain⟨a,b⟩:=jN c hk x hx;have rm:=O6<|c.rv.s x a;exact(Ps (Gw hk) rm.1 rm.2.1 b).1
 by_cases hki:k=i
 .subst hki;have hn':=t.hi n hn;obtain g|g:=t.dn n hn'
  .exact absurd hn g
  .exact .inl ((YF t.ca.clk<|nx hk hn').2 g)
 .rcases t.ot k hk hki n hn with g|⟨g1,g2⟩
  .rcases h k hk n g with a|⟨a,b,d⟩|⟨a,b⟩
   .exact .inl ((YF t.ca.clk<|nx hk g).2 a)
   .exact .inr (.inl ⟨a,λe=>b J,d⟩)
   .exact .inr (.inr ⟨a,J⟩)
  .have hw:=O1 (Fa okx hk) hn;rw[HR okx hk,t.ca.clk k hk]at hw;have hne:(k:Int)≠n.to:=λe=>by
    have:=hw.1;unfold Dz at this;rw[e]at this;simp at this
   have e1:Br (i:Int) n.to=if(i:Int)<n.to then(i:Int)+1 else(i:Int) - 1:=by
    have:=nx hi g1;unfold Br at this ⊢;split at this
    .exact absurd (E7 this) J
    .rename_i hc;rw[A9 hc]
   rw[e1]at g2;obtain a|⟨a,b,d⟩|⟨a,b⟩:=h i hi n g1
   .exfalso;unfold stk at a;rw[e1,g2,Bf]at a;omega
   .rw[A9 J]at g2;exact .inr (.inl ⟨J,λ_=>by omega,J⟩)
   .rw[A5 a]at g2;exact .inr<|.inr ⟨J,J⟩
def Qd(w:AB):AB:=IH (IH (IH (IH w 0) 1) 2) 3
def aaW{w:AB}(c:Cm w)(hr:w.AS=[])(ht:w.ti+432<99999){m:Nat}(h:NG m w):Cal 432 w (Qd w)/\NG (m+1) (Qd w)/\(Stl w->(Qd w).A7=w.A7):=by
 have s0:TI m 0 w:=λk hk n hn=>by
  obtain a|⟨a,b⟩|⟨_,a⟩:=h k hk n hn
  .exact .inl a
  .exact .inr (.inl ⟨a,λe=>by omega,b⟩)
  .exact .inr<|.inr ⟨a,J⟩
 have t0:=T9 c hr J (i:=0) J;have s1:=YC c hr J J s0;have b0:=t0.ca.t1;have t1:=T9 t0.ca.cm t0.ca.ra J (i:=1) J;have s2:=YC t0.ca.cm t0.ca.ra J J s1;have b1:=t1.ca.t1;have t2:=T9 t1.ca.cm t1.ca.ra J (i:=2) J;have s3:=YC t1.ca.cm t1.ca.ra J J s2;have b2:=t2.ca.t1;have t3:=T9 t2.ca.cm t2.ca.ra J (i:=3) J;have s4:=YC t2.ca.cm t2.ca.ra J J s3;refine⟨(((t0.ca.trans t1.ca).trans t2.ca).trans t3.ca).up J,λk hk n hn=> ?_,λhst=> ?_⟩
 .rcases s4 k hk n hn with a|⟨a,b,_⟩|⟨_,a⟩
  .exact .inl a
  .exact .inr (.inl ⟨a,by have:=b hk;omega⟩)
  .omega
 .have e0:=t0.st (λn hn=>hst 0 J n hn);have up:∀ {x:AB},x.A7=w.A7->Stl x:=fun {x} e k hk n hn=>by
   unfold sT at hn;rw[e]at hn;have:=hst k hk n hn;unfold stk sT at this ⊢;rw[e];exact this
  have e1:=(t1.st λn hn=>up e0 1 J n hn).trans e0;have e2:=(t2.st λn hn=>up e1 2 J n hn).trans e1;exact(t3.st λn hn=>up e2 3 J n hn).trans e2
def aun{w:AB}(c:Cm w)(h:NG 3 w):Stl w:=λk hk n hn=>by
 obtain a|⟨a,b⟩|⟨a,_⟩:=h k hk n hn
 .exact a
 .have:=(asU<|c.rv.s n<|KY c.inv c.rv hk hn).2;omega
 .omega
def auo{w:AB}(c:Cm w):NG 0 w:=λk hk n hn=>by
 have hw:=O1 (Fa c.rv hk) hn;rw[HR c.rv hk]at hw;have hne:(k:Int)≠n.to:=λe=>by
  have:=hw.1;unfold Dz at this;rw[e]at this;simp at this
 by_cases e:n.to<(k:Int)
 .exact .inr (.inl ⟨e,J⟩)
 .exact .inr<|.inr ⟨rfl,J⟩
def Nv{w:AB}(c:Cm w)(i:Nat)(hi:i<4):B6 w (eRi i)=w/\B6 w (eOp i)=w:=by
 have ok:=c.rv;have ll:=ok.ll;refine⟨Sg c.ok ?_,Sg c.ok ?_⟩
 .unfold doM;rw[A9 (by show ¬((8:Int)=4\/(8:Int)=5\/(8:Int)=6);omega),A9 (by show ¬((8:Int)=9\/(8:Int)=10);omega),A5<|show isN (eRi i).at_=Y from Gw hi];unfold GZ;rw[A9 (by show ¬(8:Int)=1;omega),A9 (by show ¬(8:Int)=2;omega),A9 (by show ¬(8:Int)=3;omega),A9 (by show ¬(8:Int)=7;omega),A5<|show(eRi i).ki=8 from rfl];show(!(kA w.A7 i).up)=A0;rw[c.up i hi];rfl
 .unfold doM;rw[A9 (by show ¬((9:Int)=4\/(9:Int)=5\/(9:Int)=6);omega),A5 (by show((9:Int)=9\/(9:Int)=10);omega)];unfold Ef;split
  .rename_i hc;rw[AD,AY]at hc;have h0:(0:Int)<=(i:Int)/\(i:Int)<=(w.Al.length:Int) - 1:=hc.1;have hb:bA w.Al (eOp i).at_.toNat=Y:=c.li i J;have:=hc.2;rw[hb,show U ((eOp (i:Int)).ki=9)=Y from rfl]at this;cases this
  .rfl
structure Pre (T:Nat) (w w':AB):Prop where
 ok:B5 w'=Y
 inv:Inv w'
 se:w'.AO=w.AO
 go:w'.got=w.got
 t0:w.ti<=w'.ti
 t1:w'.ti<=w.ti+T
 st:∀k,sT w' k=sT w k
 up:∀k,(kA w.A7 k).up=Y->(kA w'.A7 k).up=Y
 li:∀i,i<3->bA w.Al i=Y->bA w'.Al i=Y
def Pre.trans{T S:Nat}{a b c:AB}(h:Pre T a b)(g:Pre S b c):Pre (T+S) a c:=
 ⟨g.ok,g.inv,g.se.trans h.se,g.go.trans h.go,Ks h.t0 g.t0,by have:=h.t1;have:=g.t1;omega,λk=>(g.st k).trans<|h.st k,λk x=>g.up k<|h.up k x,λi hi x=>g.li i hi<|h.li i hi x⟩
def asD{w:AB}(h:B5 w=Y)(v:Inv w)(ht:w.ti<99999){i:Nat}(hi:i<4):Pre 1 w (B6 w<|eRi i)/\(kA (B6 w<|eRi i).A7 i).up=Y:=by
 have ok:=(Fs h).1;have kl:=ok.kl;have EL:=LV h v<|eRi i;have hd:doM w (eRi i)=(GW w i<|riM<|kA w.A7 i,!(kA w.A7 i).up):=by
  unfold doM;rw[A9 (by show ¬((8:Int)=4\/(8:Int)=5\/(8:Int)=6);omega),A9 (by show ¬((8:Int)=9\/(8:Int)=10);omega),A5<|show isN (eRi i).at_=Y from Gw hi];unfold GZ;rw[A9 (by show ¬(8:Int)=1;omega),A9 (by show ¬(8:Int)=2;omega),A9 (by show ¬(8:Int)=3;omega),A9 (by show ¬(8:Int)=7;omega),A5<|show(eRi i).ki=8 from rfl];rfl
 obtain e|e:=tf (kA w.A7 i).up
 .have:B6 w (eRi i)=w:=Sg h (by rw[hd,e];rfl);rw[this]at EL ⊢;exact⟨⟨h,v,rfl,rfl,D0 _,J,λ_=>rfl,λ_ x=>x,λ_ _ x=>x⟩,e⟩
 .have es:=Q6 h ht (e:=eRi i) (by rw[hd,e];rfl);rw[hd]at es;have ks:∀k,kA (B6 w<|eRi i).A7 k=if k=i then riM (kA w.A7 i) else kA w.A7 k:=λk=>by
   rw[es];show kA (w.A7.set i _) k=_;rw[F9 J]
  refine⟨⟨EL.1,EL.2,by rw[es];rfl,by rw[es];rfl,by rw[es];show w.ti<=w.ti+1;omega,by rw[es];exact D0 _,λk=> ?_,λk x=> ?_,λj _ x=>by rw[es];exact x⟩,by rw[ks,A5 rfl];rfl⟩
  .unfold sT;rw[ks];split
   .rename_i c;rw[c];rfl
   .rfl
  .rw[ks];split
   .rfl
   .exact x
def asP{w:AB}(h:B5 w=Y)(v:Inv w)(ht:w.ti<99999){i:Nat}(hi:i<4):Pre 1 w (B6 w<|eOp i)/\(i<3->bA (B6 w<|eOp i).Al i=Y):=by
 have ok:=(Fs h).1;have ll:=ok.ll;have EL:=LV h v<|eOp i;have hd:doM w (eOp i)=Ef w (eOp i):=by
  unfold doM;rw[A9 (by show ¬((9:Int)=4\/(9:Int)=5\/(9:Int)=6);omega),A5 (by show((9:Int)=9\/(9:Int)=10);omega)]
 have e9:U ((eOp (i:Int)).ki=9)=Y:=rfl;obtain e|e:=tf (doM w<|eOp i).2
 .have es:=Q6 h ht e;rw[hd]at es e;have el:Ef w (eOp i)=(⟨w.ti,w.A7,w.Al.set i Y,w.AS,w.AO,w.got⟩,Y):=by
   unfold Ef at e ⊢;split at e
   .rename_i hc;rw[A5 hc,e9];rfl
   .cases e
  rw[el]at es;have hin:i<3:=by
   unfold Ef at e;split at e
   .rename_i hc;rw[AD,AY]at hc;have:(i:Int)<=(w.Al.length:Int) - 1:=hc.1.2;omega
   .cases e
  have bl:∀j,bA (B6 w<|eOp i).Al j=if j=i then Y else bA w.Al j:=λj=>by
   rw[es];show bA (w.Al.set i Y) j=_;unfold bA;rw[B8,Oj,B8];by_cases c:i=j
   .rw[A5 c,A5 J,A5 c.symm];rfl
   .rw[A9 c,A9 λx=>c x.symm]
  refine⟨⟨EL.1,EL.2,by rw[es],by rw[es],by rw[es];show w.ti<=w.ti+1;omega,by rw[es];exact D0 _,λk=>by rw[es],λk x=>by rw[es];exact x,λj _ x=> ?_⟩,λ_=>by rw[bl,A5 rfl]⟩;rw[bl];split
  .rfl
  .exact x
 .have:B6 w (eOp i)=w:=Sg h e;rw[this]at EL ⊢;refine⟨⟨h,v,rfl,rfl,D0 _,J,λ_=>rfl,λ_ x=>x,λ_ _ x=>x⟩,λhi3=> ?_⟩;rw[hd]at e;unfold Ef at e;split at e
  .cases e
  .rename_i hn;obtain c|c:=tf (bA w.Al i)
   .exact c
   .exfalso;refine hn ?_;rw[AD,AY];refine⟨⟨by show(0:Int)<=(i:Int);omega,by show(i:Int)<=(w.Al.length:Int) - 1;omega⟩, ?_⟩;rw[e9,show bA w.Al (eOp i).at_.toNat=A0 from c];rfl
def opn(w:AB):AB:=[0,1,2,3].foldl (λw (i:Nat)=>B6 (B6 w<|eRi i)<|eOp i) w
def X4{w:AB}(h:B5 w=Y)(v:Inv w)(ht:w.ti+2<99999){i:Nat}(hi:i<4):Pre 2 w (B6 (B6 w<|eRi i)<|eOp i)/\(kA (B6 (B6 w<|eRi i)<|eOp i).A7 i).up=Y/\(i<3->bA (B6 (B6 w<|eRi i)<|eOp i).Al i=Y):=by
 obtain⟨a,b⟩:=asD h v J hi;have t:=a.t1;obtain⟨c,d⟩:=asP a.ok a.inv J hi;exact⟨a.trans c,c.up _ b,d⟩
def axD{w:AB}(h:B5 w=Y)(v:Inv w)(ht:w.ti+8<99999):Pre 8 w (opn w)/\(∀k,k<4->(kA (opn w).A7 k).up=Y)/\ ∀i,i<3->bA (opn w).Al i=Y:=by
 obtain⟨a0,a1,a2⟩:=X4 h v J (i:=0) J;have ta:=a0.t1;obtain⟨b0,b1,b2⟩:=X4 a0.ok a0.inv J (i:=1) J;have tb:=b0.t1;obtain⟨c0,c1,c2⟩:=X4 b0.ok b0.inv J (i:=2) J;have tc:=c0.t1;obtain⟨d0,d1,_⟩:=X4 c0.ok c0.inv J (i:=3) J;refine⟨((a0.trans b0).trans c0).trans d0,λk hk=> ?_,λi hi=> ?_⟩
 .match k,hk with
  | 0,_=>exact d0.up 0<|c0.up 0<|b0.up 0 a1
  | 1,_=>exact d0.up 1<|c0.up 1 b1
  | 2,_=>exact d0.up 2 c1
  | 3,_=>exact d1
 .match i,hi with
  | 0,_=>exact d0.li 0 J<|c0.li 0 J<|b0.li 0 J<|a2 J
  | 1,_=>exact d0.li 1 J<|c0.li 1 J<|b2 J
  | 2,_=>exact d0.li 2 J<|c2 J
def pt(p:AL):Nat:=if(Co<|BA p.data).1.ki=1 then 2 else 1
def pot(l:List AL):Nat:=(l.map pt).sum
def abF(p:AL):1<=pt p:=by unfold pt;split<;>omega
def k8(p:AL)(l:List AL):pot (p::l)=pt p+pot l:=by unfold pot;simp
def aur(a b:List AL):pot (a++b)=pot a+pot b:=by unfold pot;simp
def abG:∀l:List AL,pot l<=2 * l.length
 | []=>Ar _
 | p::l=>by
  have:=abG l;have:pt p<=2:=by unfold pt;split<;>omega
  rw[k8,Bl];omega
def au6{ps:List AL}{a:Frame}(hf:By a=Y)(h1:a.ki≠1):pot (C1 ps [a])<=pot ps+1:=by
 have:pt (pcF a)=1:=by
  unfold pt;rw[show BA (pcF a).data=Ca a from Ns<|O3 a,WD hf,A9 h1]
 unfold C1;rw[aur];obtain c|c:=TM (30 - ps.length)
 .rw[c];simp[pot]
 .obtain⟨n,hn⟩:∃n,30 - ps.length=n+1:=⟨30 - ps.length - 1,J⟩;rw[hn];simp[pot,this]
def atI{w:AB}(ok:B4 w){p:AL}{ps:List AL}(hp:E0 p=Y):pot (EP w p ps).AS<pt p+pot ps/\(EP w p ps).Al=w.Al/\(EP w p ps).AO=w.AO/\(EP w p ps).got=w.got/\(∀k,(kA (EP w p ps).A7 k).up=(kA w.A7 k).up)/\ ∀k,k<4->tiK (kA (EP w p ps).A7 k)=tiK (kA w.A7 k):=by
 have R3:=abF p;have hr:=La hp;have kl:=ok.kl;unfold EP;split
 .rename_i hc;have hd:p.dst.toNat<4:=J
  refine⟨?_,rfl,rfl,rfl,λk=> ?_,λk hk=> ?_⟩
  .show pot (C1 ps _)<_;obtain h|⟨hf,h1,_,x,hx,h⟩:=jO (kA w.A7 p.dst.toNat) (Co<|BA p.data).1
   .rw[h];have:C1 ps []=ps:=by unfold C1;simp
    rw[this];omega
   .rw[h];have h2:pt p=2:=by unfold pt;rw[A5 h1]
    have:=au6 (ps:=ps) (ma hf h1 hx) (by show x≠1;omega);omega
  .show(kA (w.A7.set p.dst.toNat _) k).up=_;rw[F9 J];split
   .rename_i e;rw[e];exact aEc (ok.k _ hd).1 _
   .rfl
  .show tiK (kA (w.A7.set p.dst.toNat _) k)=_;rw[F9 J];split
   .rename_i e;rw[e];exact aEd (ok.k _ hd).1 _
   .rfl
 .exact⟨by show pot ps<_;omega,rfl,rfl,rfl,λ_=>rfl,λ_ _=>rfl⟩
structure Dlv (T:Nat) (w w':AB):Prop where
 ok:B5 w'=Y
 inv:Inv w'
 se:w'.AO=w.AO
 go:w'.got=w.got
 t0:w.ti<=w'.ti
 t1:w'.ti<=w.ti+T
 clk:∀k,k<4->(sT w' k).ti=(sT w k).ti
 up:∀k,(kA w'.A7 k).up=(kA w.A7 k).up
 li:w'.Al=w.Al
def aby:∀(m:Nat) {w:AB},B5 w=Y->Inv w->(∀i,i<3->bA w.Al i=Y)->w.ti+(m:Int)<99999->Dlv m w (dlv m w)/\(pot w.AS<=m->(dlv m w).AS=[])
 | 0,w,h,v,_,_=>⟨⟨h,v,rfl,rfl,D0 _,by show w.ti<=w.ti+((0:Nat):Int);omega,λ_ _=>rfl,λ_=>rfl,rfl⟩,λhp=>by
  show w.AS=[];cases hr:w.AS with
  | nil=>rfl
  | cons p ps=>
   rw[hr,k8]at hp;have:=abF p;omega⟩
 | m+1,w,h,v,hl,ht=>by
  have ok:=(Fs h).1;cases hr:w.AS with
  | nil=>
   rw[Q3 hr];exact⟨⟨h,v,rfl,rfl,D0 _,J,λ_ _=>rfl,λ_=>rfl,rfl⟩,λ_=>hr⟩
  | cons p ps=>
   rw[mJ hr];have hd:=abe ok hr hl;have es:=Q6 h J (e:=eBr) (by rw[hd]);rw[hd]at es;obtain⟨g1,g2⟩:=LV h v eBr;obtain⟨b1,b2,b3,b4,b5,b6⟩:=atI ok (p:=p) (ps:=ps) (ok.p p (by rw[hr];exact .head _));have et:(B6 w eBr).ti=w.ti+1:=by rw[es]
   obtain⟨r1,r2⟩:=aby m g1 g2 (λi hi=>by rw[es];show bA (EP w p ps).Al i=Y;rw[b2];exact hl i hi) J;refine⟨⟨r1.ok,r1.inv,r1.se.trans (by rw[es];exact b3),r1.go.trans (by rw[es];exact b4),by have:=r1.t0;omega,by have:=r1.t1;omega,λk hk=>(r1.clk k hk).trans ?_,λk=>(r1.up k).trans ?_,r1.li.trans (by rw[es];exact b2)⟩,λhp=>r2 ?_⟩
   .rw[es];exact b6 k hk
   .rw[es];exact b5 k
   .rw[es];rw[k8]at hp;show pot (EP w p ps).AS<=m;omega
def Fg(w:AB):AB:=Qd<|dlv 400<|opn w
def ar9{w:AB}(h:B5 w=Y)(v:Inv w)(ht:w.ti+840<99999):Cal 840 w (Fg w)/\NG 1 (Fg w):=by
 obtain⟨a,b,c⟩:=axD h v J;have t1:=a.t1;obtain⟨d,e⟩:=aby 400 a.ok a.inv c J;have hr:(dlv 400<|opn w).AS=[]:=e (by
  have:=abG (opn w).AS;have:=(Fs a.ok).1.rl;omega)
 have cm:Cm (dlv 400<|opn w):=⟨d.ok,d.inv,λi hi=>by rw[d.li];exact c i hi,λk hk=>by rw[d.up];exact b k hk⟩;have t2:=d.t1;obtain⟨f,g,_⟩:=aaW cm hr J<|auo cm;refine⟨⟨f.cm,f.ra,f.se.trans<|d.se.trans a.se,f.go.trans<|d.go.trans a.go,Ks a.t0<|Ks d.t0 f.t0,by have:=f.t1;show(Qd<|dlv 400<|opn w).ti<=w.ti+((840:Nat):Int);omega,λk hk=>(f.clk k hk).trans<|(d.clk k hk).trans<|by rw[a.st]⟩,g⟩
def atd{w:AB}(c:Cm w):opn w=w:=by
 unfold opn;simp only[Dr,K7];rw[(Nv c 0 J).1,(Nv c 0 J).2,(Nv c 1 J).1,(Nv c 1 J).2,(Nv c 2 J).1,(Nv c 2 J).2,(Nv c 3 J).1,(Nv c 3 J).2]
def jv{w:AB}(c:Cm w)(hr:w.AS=[])(ht:w.ti+840<99999){m:Nat}(h:NG m w):Cal 840 w (Fg w)/\NG (m+1) (Fg w)/\(Stl w->(Fg w).A7=w.A7):=by
 unfold Fg;rw[atd c,Q3 hr];obtain⟨f,g,k⟩:=aaW c hr J h;exact⟨f.up J,g,k⟩
def H5:Nat->AB->AB
 | 0,w=>w
 | n+1,w=>if w.ti<79999 then H5 n (Fg w) else w
def SC{w:AB}(ht:w.ti<79999)(n:Nat):H5 (n+1) w=H5 n (Fg w):=by
 show(if w.ti<79999 then H5 n (Fg w) else w)=_;rw[A5 ht]
def au1{w:AB}(c:Cm w){m:Nat}(hm:3<=m)(h:NG m w):Stl w:=aun c λk hk n hn=>by
 obtain a|⟨a,b⟩|⟨a,_⟩:=h k hk n hn
 .exact .inl a
 .exact .inr (.inl ⟨a,J⟩)
 .omega
def abz{w:AB}(h:B5 w=Y)(v:Inv w)(ht:w.ti+3360<79999):Cal 3360 w (H5 4 w)/\Stl (H5 4 w):=by
 obtain⟨a0,a1⟩:=ar9 h v J;have ta:=a0.t1;obtain⟨b0,b1,_⟩:=jv a0.cm a0.ra J a1;have tb:=b0.t1;obtain⟨c0,c1,_⟩:=jv b0.cm b0.ra J b1;have tc:=c0.t1;obtain⟨d0,d1,_⟩:=jv c0.cm c0.ra J c1;have e:H5 4 w=Fg (Fg<|Fg<|Fg w):=by
  rw[SC J,SC J,SC J,SC J];rfl
 rw[e];exact⟨((a0.trans b0).trans c0).trans d0,au1 d0.cm J d1⟩
def Ph{w:AB}(h:B5 w=Y)(e:Event):B5 (B6 w e)=Y:=by
 unfold B6;obtain⟨h0,_⟩|⟨_,h0⟩|⟨_,h1,h2,h0⟩:=S1 w e
 .rw[h]at h0;cases h0
 .rw[h0];exact h
 .rw[h0];exact aDI h h1 h2
def asf{w:AB}(h:B5 w=Y)(e:Event):w.ti<=(B6 w e).ti/\(B6 w e).ti<=w.ti+1:=by
 have t0:=(Fs h).2.1;unfold B6;obtain⟨h0,_⟩|⟨_,h0⟩|⟨_,h1,h2,h0⟩:=S1 w e
 .rw[h]at h0;cases h0
 .rw[h0];show w.ti<=w.ti/\w.ti<=w.ti+1;omega
 .rw[h0];show w.ti<=(Ck w e).ti/\(Ck w e).ti<=w.ti+1;rw[ld h2,Aa J J];omega
def jC:∀(l:List Event) {w:AB},B5 w=Y->B5 (DV w l)=Y/\w.ti<=(DV w l).ti/\(DV w l).ti<=w.ti+l.length
 | [],w,h=>⟨h,D0 _,by show w.ti<=w.ti+((0:Nat):Int);omega⟩
 | e::l,w,h=>by
  obtain⟨a,b⟩:=asf h e;obtain⟨c,d,f⟩:=jC l<|Ph h e;have f:(DV w<|e::l).ti<=(B6 w e).ti+l.length:=f;exact⟨c,Ks a d,by rw[Bl];omega⟩
def aDZ(ev:List Event):0<=(Dy ev).ti/\(Dy ev).ti<=2000:=by
 refine⟨(Fs<|XV ev).2.1, ?_⟩;unfold Dy;split
 .decide
 .have:=(jC ev Sd).2.2;have t0:rv0.ti=0:=rfl;omega
def CQ(w w':AB):Prop:=∃l:List Event,(∀e∈l,e.tx.size<=1048576)/\w'=DV w l
def CQ.rfl(w:AB):CQ w w:=⟨[],λ_ h=>(by cases h),Hd _⟩
def CQ.trans{a b c:AB}(h:CQ a b)(g:CQ b c):CQ a c:=by
 obtain⟨l,hl,rfl⟩:=h;obtain⟨m,hm,rfl⟩:=g;exact⟨l++m,λe he=>(by obtain he|he:=BL.1 he;exact hl e he;exact hm e he),(aCI a l m).symm⟩
def CQ.one(w:AB)(e:Event)(h:e.tx.size<=1048576):CQ w (B6 w e):=⟨[e],λx hx=>by rw[CN.1 hx];exact h,Hd _⟩
def Mo:noB.size<=1048576:=by decide
def CQ.dlv:∀(m:Nat) (w:AB),CQ w<|dlv m w
 | 0,w=>CQ.rfl w
 | m+1,w=>by
  unfold Go.VS.dlv;split
  .exact CQ.rfl w
  .exact(CQ.one w eBr Mo).trans<|CQ.dlv m _
def CQ.fold{α:Type}{f:AB->α->AB}(h:∀w a,CQ w<|f w a):∀(l:List α) (w:AB),CQ w<|l.foldl f w
 | [],w=>CQ.rfl w
 | a::l,w=>(h w a).trans (CQ.fold h l _)
def CQ.IH(w:AB)(i:Nat):CQ w (IH w i):=CQ.fold (λw n=>CQ.fold (λw b=>(CQ.one w _ Mo).trans<|CQ.dlv 400 _) _ w) _ w
def CQ.rnd(w:AB):CQ w (Fg w):=by
 unfold Fg opn Qd;refine CQ.trans (CQ.fold (λw (i:Nat)=>(CQ.one w (eRi i) Mo).trans<|CQ.one _ (eOp i) Mo) [0,1,2,3] w) ?_;exact((((CQ.dlv 400 _).trans<|CQ.IH _ 0).trans<|CQ.IH _ 1).trans<|CQ.IH _ 2).trans<|CQ.IH _ 3
def CQ.rok{w w':AB}(r:CQ w w')(h:B5 w=Y):B5 w'=Y:=by
 obtain⟨l,_,rfl⟩:=r;exact(jC l h).1
def aq8{w:AB}(c:Cm w)(hs:Stl w){n:A3}(hn:n∈w.AO):K4 w n\/JE w n:=by
 obtain h|h|⟨j,j1,j2,_⟩:=c.inv.cu n hn
 .exact .inl h
 .exact .inr h
 .have h:=hs j j1 n j2;obtain⟨a,b⟩:=jN c j1 n j2;have rn:=O6<|c.rv.s n a;have x1:=(Ps (Gw j1) rn.1 rn.2.1 b).1;have xr:=E7 x1;have e1:Br (j:Int) n.to=if(j:Int)<n.to then(j:Int)+1 else(j:Int) - 1:=by
   unfold Br at x1 ⊢;split at x1
   .exact absurd (E7 x1) J
   .rename_i hc;rw[A9 hc]
  refine .inr ⟨(Br (j:Int) n.to).toNat,J, ?_,h⟩;unfold Dz at b;simp only[AD,CE,decide_eq_false_iff_not,C0,AY]at b;unfold onW;rw[TJ xr.1,e1];split<;>omega
def Kps(k k':AJ):Prop:=(∀m∈k.marks,m∈k'.marks)/\ ∀n∈k.inbox,n∈k'.inbox
structure Kpt (x y:AB):Prop where
 cm:Cm y
 ra:y.AS=[]
 se:y.AO=x.AO
 go:y.got=x.got
 t0:x.ti<=y.ti
 bey:∀n∈x.AO,∀i,Bey x i n->Bey y i n
 kp:∀k,k<4->Kps (sT x k) (sT y k)
structure Gd (x w:AB):Prop where
 ok:B5 w=Y
 inv:Inv w
 ra:w.AS=x.AS
 li:w.Al=x.Al
 t1:x.ti<=w.ti
 st:∀k,k<4->sT w k=sT x k
def ZC{w:AB}(h:B5 w=Y){e:Event}(ht:e.tx.size<=1048576):Hl (tR w,tE e,())=I ((tR<|B6 w e,(EC w e).2,()),()):=by
 obtain⟨a,b,c⟩:=Fs h;rw[rj a b c ht];unfold B6 EC;rw[A5 h]
def axW{w:AB}(h:B5 w=Y):Hl (tR w,(4,0,0,0,0,0,0,0,0,noB,()),())=I ((tR<|B6 w eBr,(EC w eBr).2,()),()):=ZC h (e:=eBr) Mo
def axV{w:AB}(h:B5 w=Y)(i fr nu b:Int):Hl (tR w,(3,i,fr,nu,0,b,0,0,0,noB,()),())=I ((tR<|B6 w<|eMx i fr nu b,(EC w<|eMx i fr nu b).2,()),()):=ZC h (e:=eMx i fr nu b) Mo
def axT{w:AB}(h:B5 w=Y)(i:Int):Hl (tR w,(8,i,0,0,0,0,0,0,0,noB,()),())=I ((tR<|B6 w<|eRi i,(EC w<|eRi i).2,()),()):=ZC h (e:=eRi i) Mo
def axU{w:AB}(h:B5 w=Y)(i:Int):Hl (tR w,(9,i,0,0,0,0,0,0,0,noB,()),())=I ((tR<|B6 w<|eOp i,(EC w<|eOp i).2,()),()):=ZC h (e:=eOp i) Mo
def arA{w:AB}(h:B5 w=Y){e:Event}(hr:(EC w e).2=A0):B6 w e=w:=by
 unfold B6;obtain⟨h0,_⟩|⟨_,h0⟩|⟨_,_,_,h0⟩:=S1 w e
 .rw[h]at h0;cases h0
 .rw[h0]
 .rw[h0]at hr;cases hr
def aai{w:AB}(h:B6 w eBr=w):∀m,dlv m w=w
 | 0=>rfl
 | m+1=>by
  unfold dlv;rw[h,aai h m];split<;>rfl
def abK:∀(m:Nat) {w:AB},B5 w=Y->m<=400->UG (tR w,tR zR,((400 - m:Nat):Int),())=I (.inr (tR<|dlv m w,tR zR,()))
 | 0,w,_,_=>BH (by
  unfold R8;rw[A9 (by show ¬(U (((400 - 0:Nat):Int)<400)&&_)=Y;rw[show U (((400 - 0:Nat):Int)<400)=A0 from rfl,AM];exact CM)];rfl)
 | m+1,w,h,hm=>by
  have hlt:U (((400 - (m+1):Nat):Int)<400)=Y:=AQ J;by_cases hr:w.AS.length=0
  .refine BH ?_;unfold R8;have:U ((0:Int)<(w.AS.length:Int))=A0:=B1 J;rw[A9 (by show ¬(_&&U ((0:Int)<(w.AS.length:Int)))=Y;rw[this,BY];exact CM)];rw[Q3<|Du hr]
  .have R3:U ((0:Int)<(w.AS.length:Int))=Y:=AQ J;have hh:=axW h;have hdl:dlv (m+1) w=dlv m (B6 w eBr):=by
    show(if w.AS.length=0 then w else dlv m (B6 w eBr))=_;rw[A9 hr]
   have hb:∀(b:Bool),(EC w eBr).2=b->R8 (tR w,tR zR,((400 - (m+1):Nat):Int),())=if b then I (.inl (tR<|B6 w eBr,tR zR,((400 - m:Nat):Int),())) else I (.inr<|.inr (tR w,tR zR,())):=λb hb=>by
    unfold R8;rw[A5 (by show(U (((400 - (m+1):Nat):Int)<400)&&U ((0:Int)<(w.AS.length:Int)))=Y;rw[hlt,R3];rfl)];simp only[hh,A6,hb];have ew:w64 (((400 - (m+1):Nat):Int)+1)=((400 - m:Nat):Int):=by rw[Aa J J];omega
    simp only[ew];cases b<;>rfl
   obtain c|c:=tf (EC w eBr).2
   .rw[hdl];exact Av (by have:=hb Y c;simpa using this) (abK m (Ph h eBr) J)
   .have hf:=arA h c;rw[hdl,hf,aai hf];exact BH (by have:=hb A0 c;simpa using this)
def uk{w:AB}(h:B5 w=Y):RI (tR w,())=I ((tR<|dlv 400 w,()),()):=by
 have:UG (tR w,tR zR,0,())=_:=abK 400 h<|Ar _;unfold RI;rw[show UG _=_ from this];rfl
def ab8{w:AB}(h:B5 w=Y)(i:Nat)(n:A3)(b:Nat):B5 (FF i n w b)=Y:=(CQ.dlv 400<|B6 w<|eMx i n.fr n.nu b).rok<|Ph h _
def Sb{α:Type}{f:AB->α->AB}(hf:∀w a,B5 w=Y->B5 (f w a)=Y):∀(l:List α) {w:AB},B5 w=Y->B5 (l.foldl f w)=Y
 | [],_,h=>h
 | a::l,w,h=>Sb hf l (hf w a h)
def aCz{w:AB}(h:B5 w=Y)(i:Nat)(n:A3):B5 (Jz i w n)=Y:=Sb (λw b h=>ab8 h i n b) _ h
def axo{w:AB}(h:B5 w=Y)(i:Nat)(n:A3)(L:List A3)(a b:Int){B:Nat}(hB:B<=1000):
  c9 (tR w,tR zR,(i:Int),(n.fr,n.nu,n.to,n.un,n.tx,()),L,a,b,(B:Int),0,())=I (.inr (tR<|(B7 B).foldl (FF i n) w,tR zR,(i:Int),L,a,b,())):=
 Ch (λj=>(tR<|(B7 j).foldl (FF i n) w,tR zR,(i:Int),(n.fr,n.nu,n.to,n.un,n.tx,()),L,a,b,(B:Int),(j:Int),())) B (λj hj=>by
  have hx:=Sb (λw b h=>ab8 h i n b) (B7 j) h;have h1:=axV hx i n.fr n.nu j;have h2:=uk<|Ph hx<|eMx i n.fr n.nu j;unfold fA;simp only[BQ hj,A2,h1,h2,A6,BI hj (by omega:B<=9223372036854775807)];rw[ID,G3];rfl) (by
  unfold fA;simp only[aDC,A4])
def axp{w:AB}(h:B5 w=Y)(i:Nat)(L:List A3)(hL:L.length<=1000)(hn:∀n∈L,At n=Y):
  cB (tR w,tR zR,(i:Int),L,(L.length:Int),0,())=I (.inr (tR<|L.foldl (Jz i) w,tR zR,(i:Int),())):=by
 have:=Ch (b:=Vb) (y:= .inr (tR<|(L.take L.length).foldl (Jz i) w,tR zR,(i:Int),())) (λj=>(tR<|(L.take j).foldl (Jz i) w,tR zR,(i:Int),L,(L.length:Int),(j:Int),())) L.length (λj hj=>by
  have hx:=Sb (λw n h=>aCz h i n) (L.take j) h;have hm:=Gx hj;have htx:=Mf<|hn _ hm;have hc:=abY htx;have azX:=AY.1 htx;have h3:=axo hx i (nA L j) L (L.length:Int) (j:Int) (B:=((nA L j).tx.size+3) / 4) J;unfold Vb;simp only[BQ hj,AW hj,A2,Dc,yr,A6,hc];rw[show c9 _=_ from h3];simp only[DT,BI hj (by omega:L.length<=9223372036854775807)];rw[show L.take (j+1)=L.take j++[nA L j] by rw[JP,Au hj,DW<|Au hj];rfl,G3];rfl) (by
  unfold Vb;simp only[aDC,A4])
 rw[E4]at this;exact this
def kP{w:AB}(h:B5 w=Y)(i:Nat):B5 (IH w i)=Y:=Sb (λw n h=>aCz h i n) _ h
def Zb{w:AB}(h:B5 w=Y){i:Nat}(hi:i<4):Vc (tR w,tR zR,(i:Int),())=I (.inl (tR<|IH w i,tR zR,((i+1:Nat):Int),())):=by
 have ok:=(Fs h).1;have kl:=ok.kl;have kf:=Bu<|Fa ok hi;have h2:=axp h i (stT<|kA w.A7 i).held (by have:=kf.hl;unfold sT at this;omega) (λn hn=>Pc kf.h hn);unfold Vc;simp only[AQ<|show(i:Int)<4 by omega,A2,AW (J:i<w.A7.length),aqn,LI (ok.k i hi).1,A6];rw[show cB _=_ from h2];simp only[DT,Aa (n:=(i:Int)+1) J J];rfl
def Zd{w:AB}(h:B5 w=Y){i:Nat}(hi:i<4):Vd (tR w,tR zR,(i:Int),())=I (.inl (tR<|B6 (B6 w<|eRi i)<|eOp i,tR zR,((i+1:Nat):Int),())):=by
 have h1:=axT h i;have h2:=axU (Ph h<|eRi i) i;unfold Vd;simp only[AQ<|show(i:Int)<4 by omega,A2,h1,h2,A6,Aa (n:=(i:Int)+1) J J];rfl
def ap0{w:AB}(h:B5 w=Y):Vs (tR w,())=I ((tR<|Fg w,()),()):=by
 have st:∀(w:AB) (i:Nat),B5 w=Y->B5 (B6 (B6 w<|eRi i)<|eOp i)=Y:=λw i h=>Ph (Ph h _) _;have o0:=st _ 0 h;have o1:=st _ 1 o0;have o2:=st _ 2 o1;have o3:=st _ 3 o2;have e0:cD (tR w,tR zR,0,())=I (.inr (tR<|opn w,tR zR,())):=
  Av (Zd h (i:=0) J) (Av (Zd o0 (i:=1) J)<|Av (Zd o1 (i:=2) J)<|Av (Zd o2 (i:=3) J)<|BH (by unfold Vd;rfl))
 have d:=uk (w:=opn w) o3;have od:B5 (dlv 400<|opn w)=Y:=(CQ.dlv 400<|opn w).rok o3;have k0:=kP od 0;have k1:=kP k0 1;have k2:=kP k1 2;have e1:cC (tR<|dlv 400<|opn w,tR zR,0,())=I (.inr (tR<|Fg w,tR zR,())):=
  Av (Zb od (i:=0) J) (Av (Zb k0 (i:=1) J)<|Av (Zb k1 (i:=2) J)<|Av (Zb k2 (i:=3) J)<|BH (by unfold Vc;rfl))
 unfold Vs;rw[show cD _=_ from e0];simp only[DT];rw[show RI _=_ from d];simp only[A6];rw[show cC _=_ from e1];rfl
def au2{w:AB}(h:B5 w=Y):B5 (Fg w)=Y:=(CQ.rnd w).rok h
def aan(r:Nat)(hr:r<=20):∀(m:Nat) {w:AB},B5 w=Y->m<=r->UH ((r:Int),tR zR,tR w,((r - m:Nat):Int),())=I (.inr (tR zR,tR<|H5 m w,()))
 | 0,w,_,_=>BH (by
  unfold Ui;have:U (((r - 0:Nat):Int)<(if(20:Int)<(r:Int) then 20 else(r:Int)))=A0:=by
   rw[A9 J];exact B1 J
  rw[A9 (by show ¬(U (((r - 0:Nat):Int)<(if(20:Int)<(r:Int) then 20 else(r:Int)))&&_)=Y;rw[this,AM];exact CM)];rfl)
 | m+1,w,h,hm=>by
  have hlt:U (((r - (m+1):Nat):Int)<(if(20:Int)<(r:Int) then 20 else(r:Int)))=Y:=by
   rw[A9 J];exact AQ J
  by_cases ht:w.ti<79999
  .rw[SC ht];refine Av (x':=((r:Int),tR zR,tR<|Fg w,((r - m:Nat):Int),())) ?_<|aan r hr m (au2 h) J;unfold Ui;rw[A5 (by show(U (((r - (m+1):Nat):Int)<(if(20:Int)<(r:Int) then 20 else(r:Int)))&&U (w.ti<79999))=Y;rw[hlt,AQ ht];rfl)];rw[show Vs _=_ from ap0 h];simp only[A6];have ew:w64 (((r - (m+1):Nat):Int)+1)=((r - m:Nat):Int):=by rw[Aa J J];omega
   simp only[ew]
  .have e:H5 (m+1) w=w:=by
    show(if w.ti<79999 then H5 m (Fg w) else w)=w;rw[A9 ht]
   rw[e];refine BH ?_;unfold Ui;rw[A9 (by show ¬(_&&U (w.ti<79999))=Y;rw[B1 ht,BY];exact CM)]
def aij{w:AB}(h:B5 w=Y){r:Nat}(hr:r<=20):RO (tR w,(r:Int),())=I ((tR<|H5 r w,()),()):=by
 have sm:=(Fs h).1.sm;have g:=aan r hr r h<|Ar _;rw[N1]at g;have g:UH ((r:Int),tR zR,tR w,0,())=_:=g;unfold RO;rw[show PU (tR w,())=_ from xI sm];simp only[A6,show J5 w.ti w.A7 w.Al w.AS w.AO w.got=Y from h,AA,A4];rw[show JZ (tR w,())=_ from RQ sm];simp only[A6];rw[show UH _=_ from g];rfl
def atD(ev:List Event):Cal 3360 (Dy ev) (H5 4<|Dy ev)/\Stl (H5 4<|Dy ev):=by
 have:=aDZ ev;exact abz (XV ev) (aCG ev).2 J
def mO{w:AB}(h:B5 w=Y):RO (tR w,4,())=I ((tR<|H5 4 w,()),()):=aij h (r:=4) J
def awx{w:AB}(v:Inv w)(ok:B4 w){e:Event}(hd:(doM w e).2=Y){i:Nat}(hi:i<4):(sT (Ck w e) i).ti<=(sT w i).ti+(if e.ki=2 then 1 else 0):=by
 rw[mX hd];show tiK (kA (doM w e).1.A7 i)<=tiK (kA w.A7 i)+_;by_cases h7:e.ki=7
 .have kl:=ok.kl;unfold doM at hd ⊢;rw[A9 J,A9 J]at hd ⊢;split
  .rename_i ha;have ha:=E7 ha;unfold GZ;rw[A9 J,A9 J,A9 J,A5 h7,A9 J];show tiK (kA (w.A7.set e.at_.toNat<|faM (kA w.A7 e.at_.toNat) e.kp) i)<=_;rw[F9 J];split
   .rename_i e1;have h:=aae (ok.k e.at_.toNat J).1 (v.lo _ J) e.kp;have:=h.2.2.2.2.ti;unfold tiK;rw[e1];omega
   .omega
  .show tiK (kA w.A7 i)<=_;rw[A9 J];omega
 .rw[aww ok hi hd h7];split<;>split<;>omega
def jo:∀(l:List Event) {w:AB},B5 w=Y->Inv w->∀i,i<4->(sT (DV w l) i).ti<=(sT w i).ti+tc l
 | [],w,_,_,i,_=>by show(sT w i).ti<=(sT w i).ti+((0:Nat):Int);omega
 | e::l,w,h,v,i,hi=>by
  obtain⟨h1,v1⟩:=LV h v e;have ih:=jo l h1 v1 i hi;have et:tc (e::l)=(if e.ki=2 then 1 else 0)+tc l:=by
   unfold tc;by_cases c:e.ki=2
   .simp[c];omega
   .simp[c]
  have hs:(sT (B6 w e) i).ti<=(sT w i).ti+(if e.ki=2 then 1 else 0):=by
   unfold B6;obtain⟨c,hh⟩|⟨c,hh⟩|⟨c,c1,c2,hh⟩:=S1 w e
   .rw[h]at c;cases c
   .rw[hh];show(sT w i).ti<=_;split<;>omega
   .rw[hh];exact awx v (Fs h).1 c2 hi
  show(sT (DV (B6 w e) l) i).ti<=_;rw[et];split at hs<;>rename_i c<;>simp only[c,A2,if_false]at * <;>omega
def aCd{i:Nat}(hi:i<4):(sT rv0 i).ti=0:=by
 match i,hi with
 | 0,_=>decide
 | 1,_=>decide
 | 2,_=>decide
 | 3,_=>decide
def au7(ev:List Event){i:Nat}(hi:i<4):(sT (Dy ev) i).ti<=tc ev:=by
 unfold Dy;split
 .rw[aCd hi];omega
 .have:=jo ev Sd ZW i hi;rw[aCd hi]at this;omega
def atb{k:AJ}{n:A3}(hk:As k=Y)(hn:At n=Y)(hf:n.fr=k.id)(hu:n.nu=k.nx)(ht:k.ti<n.un)(hl:k.held.length+k.marks.length+1<=6)(e:n.to≠k.id)(hw:Dz k.id n.fr n.to=Y):∃o,BE k (Ia n)=I o:=by
 have kf:=Bu hk;have r:=Pf hn;have nn:k.nx<=99:=by
  have:=AY.1 (show inB n.nu 1 99=Y by unfold At at hn;simp only[AD]at hn;exact hn.2.2.1);omega
 have h1:∀x∈k.held,¬(x.fr=n.fr/\x.nu=n.nu):=λx hx c=>(Pd hk hx).1 ⟨J,J⟩;have h2:∀x∈k.inbox,¬(x.fr=n.fr/\x.nu=n.nu):=λx hx c=>(S3 hk hx).2.1 ⟨J,J⟩;have h3:∀x∈k.marks,¬(x.mf=n.fr/\x.mn=n.nu):=λx hx c=>(W4 hk hx).2 ⟨J,J⟩;have d1:¬0<=AU k.held n.fr n.nu:=λc=>by obtain⟨j,_,a,b⟩:=Eo c;exact h1 _ (Gx j) ⟨a,b⟩
 have d2:¬0<=AU k.inbox n.fr n.nu:=λc=>by obtain⟨j,_,a,b⟩:=Eo c;exact h2 _ (Gx j) ⟨a,b⟩
 have d3:¬0<=Bj k.marks n.fr n.nu:=λc=>by obtain⟨j,_,a,b⟩:=Sk c;exact h3 _ (TB j) ⟨a,b⟩
 rw[kO hk,Gu Xa<|aCa n,show BV k (B [111,119,110]) (B<|L<|wr n)=BV k DX (wr n) by rw[B_L],aBR hn,A5 ⟨hf,hu⟩];unfold EV;rw[hn,AA,A4,B1 (by show ¬n.un<=k.ti;omega),A4,B1 d1,A4,B1 d2,A4,B1 d3,A4,
  B1 (J:¬(12:Int)<(j8 k.held:Int)+k.marks.length+1),A4]
 have hid:isN k.id=Y:=AY.2 ⟨kf.id0,kf.id1⟩;have hti:inB k.ti 0 999=Y:=AY.2 ⟨kf.t0,kf.t1⟩;have n0:=kf.n0;have hnx:inB (k.nx+1) 1 100=Y:=AY.2 ⟨J,J⟩;rw[B1 e,A4];refine⟨_,Ii.2 ⟨rfl,Wc hid hti hnx ?_ (jG kf.h hn h1) kf.ml kf.m kf.il kf.i (λx hx=> ?_) (λx hx=> ?_) λx hx=> ?_⟩⟩
 .show(DY _ _).length<=6;unfold DY;rw[MT];show k.held.length+1<=6;omega
 .rcases GA _ hx with rfl|hx
  .exact⟨λc=>by have:=c.2;show False;rw[hu]at this;show False;have t:k.nx+1<=k.nx:=this;omega,ht,hw,h3⟩
  .obtain⟨a,b,c,d⟩:=Pd hk hx;exact⟨λg=>a ⟨g.1,by have t:k.nx+1<=_:=g.2;omega⟩,b,c,d⟩
 .obtain⟨a,b⟩:=W4 hk hx;exact⟨a,λg=>b ⟨g.1,by have t:k.nx+1<=_:=g.2;omega⟩⟩
 .obtain⟨a,b,c⟩:=S3 hk hx;exact⟨a,λg=>b ⟨g.1,by have t:k.nx+1<=_:=g.2;omega⟩,c⟩
abbrev GS:A1:=B [111,110,101,32,109,111,114,101]
abbrev F6:Event:=⟨1,0,0,0,0,0,0,3,999,GS⟩
def ate{k:Int}(h:1<=k)(h9:k<=99):At ⟨0,k,3,999,GS⟩=Y:=by
 unfold At;rw[show isN (0:Int)=Y from by decide,show isN (3:Int)=Y from by decide,show inB k 1 99=Y from AY.2 ⟨h,h9⟩,show inB (999:Int) 1 999=Y from by decide,show Jw GS=Y from by decide];rfl
def aw1{w:AB}(c:Cm w)(hs:w.AO.length<6)(ht:(sT w 0).ti<999)(hn:(sT w 0).nx<=99):(doM w F6).2=Y/\(doM w F6).1.AO=w.AO++[⟨0,(sT w 0).nx,3,999,GS⟩]/\(doM w F6).1.got=w.got:=by
 have ok:=c.rv;have kl:=ok.kl;obtain⟨k1,k2⟩:=ok.k 0 J;have kp:=C5 k1;have kf:=Bu kp.kok;have up:=c.up 0 J;have hid:(kA w.A7 0).id=0:=k2;have sid:(stT<|kA w.A7 0).id=0:=by rw[kp.id];exact hid
 have n0:1<=(stT<|kA w.A7 0).nx:=kf.n0;have nok:At ⟨(kA w.A7 0).id,(stT<|kA w.A7 0).nx,3,999,GS⟩=Y:=by
  rw[hid];exact ate n0 hn
 have hr:(sT w 0).held.length+(sT w 0).marks.length+1<=6:=by
  have:=Se (ka ok (i:=0) J)<|lb c.inv ok (i:=0) J;simp only[Aq,DL]at this;omega
 obtain⟨o,ho⟩:=atb kp.kok nok (by rw[hid,sid]) rfl ht hr (by rw[sid];show(3:Int)≠0;decide) (by rw[sid,hid];show Dz 0 0 3=Y;decide);have hq:=(kB kp ho).2;have em:Ci (kA w.A7 0) 3 999 GS=((wrR (kA w.A7 0) (Ia ⟨(kA w.A7 0).id,(stT<|kA w.A7 0).nx,3,999,GS⟩) Y).1,(stT<|kA w.A7 0).nx):=by
  unfold Ci;rw[up,nok,EZ,A5 rfl,hq,A5 rfl]
 have ed:doM w F6=(⟨w.ti,w.A7.set 0 (Ci (kA w.A7 0) 3 999 GS).1,w.Al,w.AS,w.AO++[⟨0,(Ci (kA w.A7 0) 3 999 GS).2,3,999,GS⟩],w.got⟩,Y):=by
  unfold doM;rw[A9 aEp,A9 aEp,A5 aEp];unfold GZ;rw[A5 rfl];unfold Jv;rw[A9 J,A9 (by show ¬(Ci (kA w.A7 0) 3 999 GS).2=0;rw[em];show ¬(stT<|kA w.A7 0).nx=0;omega)];rfl
 rw[ed,em];exact⟨rfl,rfl,rfl⟩
def aw0{w:AB}(ok:B4 w)(hn:¬(sT w 0).nx<=99):(doM w F6).2=A0:=by
 obtain⟨k1,k2⟩:=ok.k 0 J;have nok:At ⟨(kA w.A7 0).id,(stT<|kA w.A7 0).nx,3,999,GS⟩=A0:=by
  obtain c|c:=tf (At ⟨(kA w.A7 0).id,(stT<|kA w.A7 0).nx,3,999,GS⟩)
  .exfalso;have:=AY.1 (show inB (stT<|kA w.A7 0).nx 1 99=Y by unfold At at c;simp only[AD]at c;exact c.2.2.1);exact hn this.2
  .exact c
 have em:(Ci (kA w.A7 0) 3 999 GS).2=0:=by
  unfold Ci;rw[nok,BY,A4]
 unfold doM;rw[A9 aEp,A9 aEp,A5 aEp];unfold GZ;rw[A5 rfl];unfold Jv;split
 .rfl
 .rw[A5<|show(Ci (kA w.A7 F6.at_.toNat) F6.to F6.un F6.tx).2=0 from em]
def aqA{l:List Int}(hb:BOk l):∃ev:List Event,UF (l,())=I ((ev,()),())/\ev.length<=1048576/\(∀e∈ev,e.tx.size<=1048576)/\tc ev<=900:=by
 have key:Tot (UF (l,())) λa=>a.1.1.length<=1048576/\(∀e∈a.1.1,e.tx.size<=1048576)/\tc a.1.1<=900:=by
  unfold UF;refine Tot.bind (awT hb) λr1 h1=>Tot.bind (Cp h1 aEp) λr4 h4=>Tot.ite (λ_=> ?_) (λ_=> ?_)
  .refine Tot.bind (Cp h4.1 aEp) λr5 h5=> ?_;have h50:=h5.2.1;have h51:r5.1.1<2:=h5.2.2 (show(1:Int)<=2 by decide);rw[Aa J J];refine Tot.pos (by rw[AD,decide_eq_true_eq,decide_eq_true_eq];omega) (Tot.ret ⟨?_,λe he=> ?_, ?_⟩)
   .show(BS _ _).length<=_;rw[List.length_replicate];omega
   .rw[(List.mem_replicate.1 he).2];show noB.size<=_;decide
   .show tc (BS _ _)<=_;unfold tc;rw[List.filter_replicate,A9 aEp];decide
  .exact Tot.bind (awN (M:=26) h4.1 aEp aEp aEp) λr6 h6=>Tot.ret (by
    obtain⟨w,ev,e1,e2,e3⟩:=h6.2;have e4:r6.1.1.2.2.2.2.2.2.2=(ev,()):=by rw[e1]
    rw[e4];exact⟨by show ev.length<=1048576;omega,e2.reach.tx,by show tc ev<=900;omega⟩)
 obtain⟨⟨⟨ev,_⟩,_⟩,e,h1,h2,h3⟩:=key;exact⟨ev,e,h1,h2,h3⟩
def atp:GS.size<=1048576:=by decide
def axF{l:List Int}(hb:BOk l):Ub (l,())=I ((Y,()),()):=by
 obtain⟨ev,hd,hl,ht,htc⟩:=aqA hb;have hti:=aDZ ev;obtain⟨ca,st⟩:=atD ev;have clk:∀i,i<4->(sT (H5 4<|Dy ev) i).ti<=900:=λi hi=>by
  have:=au7 ev hi;rw[ca.clk i hi];omega
 unfold Ub;apply Tot.val;refine Tot.ite (λ_=>Tot.ret rfl) (λ_=>Tot.bind (Tot.eq hd) λr1 h1=> ?_);subst h1;refine Tot.bind (Tot.eq<|ai6 J ht) λr2 h2=>Tot.bind (Tot.eq<|aii J ht) λr3 h3=> ?_;subst h2 h3;refine Tot.bind (Tot.eq<|zj<|aDa ev) λr5 h5=> ?_;subst h5;refine Tot.ite (λ_=>Tot.bind (Tot.eq<|zj<|aDa ev) λr8 h8=>by subst h8;exact Tot.ret rfl) (λhs6=> ?_);have hs6:(Dy ev).AO.length<6:=by
  have:U ((6:Int)<=((Dy ev).AO.length:Int))=A0:=by simpa using hs6
  have:=It this;omega
 refine Tot.bind (Tot.eq<|mO<|XV ev) λr6 h6=> ?_;subst h6;have t1:=ca.t1;have se:=ca.se;have c:=ca.cm;generalize hx:H5 4 (Dy ev)=x at *;have okx:=c.rv;have klx:=okx.kl;have hsx:x.AO.length<6:=by rw[se];exact hs6
 refine Tot.bind (Tot.eq<|amk okx.sm (e:=F6) atp) λr10 h10=> ?_;subst h10;by_cases hn:(sT x 0).nx<=99
 .obtain⟨d1,d2,d3⟩:=aw1 c hsx (by have:=clk 0 J;omega) hn;have er:EC x F6=(B6 x F6,Y):=by
   unfold B6;obtain⟨c1,_⟩|⟨_,h⟩|⟨_,_,_,h⟩:=S1 x F6
   .rw[c.ok]at c1;cases c1
   .exfalso;unfold EC at h;rw[A5 c.ok,B1 J,A4,A5 d1]at h;have:=(Hg h).2;cases this
   .rw[h]
  obtain⟨oky,vy⟩:=LV c.ok c.inv F6;have ey:=Q6 c.ok J d1;have ty:(B6 x F6).ti=x.ti+1:=by rw[ey]
  have sy:(B6 x F6).AO=x.AO++[⟨0,(sT x 0).nx,3,999,GS⟩]:=by rw[ey];exact d2
  have gy:(B6 x F6).got=x.got:=by rw[ey];exact d3
  have cy:∀i,i<4->(sT (B6 x F6) i).ti<=900:=λi hi=>by
   have h:=jo [F6] c.ok c.inv i hi;have:=clk i hi;have e0:tc [F6]=0:=by decide
   rw[e0]at h;have h:(sT (B6 x F6) i).ti<=(sT x i).ti+((0:Nat):Int):=h;omega
  rw[er];generalize B6 x F6=y at *;obtain⟨cz,sz⟩:=abz oky vy J;refine Tot.bind (Tot.eq<|mO oky) λr11 h11=> ?_;subst h11;have sez:=cz.se;have gz:=cz.go.trans gy;have clz:=cz.clk;have cmz:=cz.cm;generalize H5 4 y=z at *;have okz:=cmz.rv;have klz:=okz.kl;have sz':z.AO=(Dy ev).AO++[⟨0,(sT x 0).nx,3,999,GS⟩]:=by rw[sez,sy,se]
  have lz:z.AO.length=(Dy ev).AO.length+1:=by rw[sz',Aq];rfl
  refine Tot.neg ?_ ?_
  .show(!true|| !decide ((z.AO.length:Int)=w64 (((Dy ev).AO.length:Int)+1)))=A0;rw[Aa J J,AQ J];rfl
  .refine Tot.pos (AW (J:3<z.A7.length)) ?_;have kz:=(okz.k 3 J).1;refine Tot.bind (Tot.eq<|LI (k:=kA z.A7 3) kz) λr16 h16=> ?_;subst h16;have hlt:(Dy ev).AO.length<z.AO.length:=J
   refine Tot.pos (AW hlt) ?_;have en:nA z.AO (Dy ev).AO.length=⟨0,(sT x 0).nx,3,999,GS⟩:=by
    rw[nA,B8,sz',F1<|Ar _,N1];rfl
   have kf:=Bu (C5 kz).kok;have f2:=kf.il;simp only[Dc];refine Tot.bind (awK (l:=(stT<|kA z.A7 3).inbox) (n:=nA z.AO (Dy ev).AO.length) J) λr17 h17=> ?_;have F8:nA z.AO (Dy ev).AO.length∈(stT<|kA z.A7 3).inbox:=by
    have hm:=Gx hlt;obtain h|h:=aq8 cmz sz hm
    .rcases h with h|h
     .exfalso;rw[en,gz]at h;have:=c.inv.nx _ (c.inv.gs _ h).1;have:(sT x 0).nx<(sT x 0).nx:=this;omega
     .rw[en]at h ⊢;exact h
    .exfalso;obtain⟨i,i1,i2,i3⟩:=h;rw[en]at i3;have i3:(999:Int)<=(sT z i).ti:=i3;rw[clz i i1]at i3;have:=cy i i1;omega
   have hb:r17.1.1=Y:=h17.2 F8;obtain⟨⟨b,_⟩,_⟩:=r17;have hb:b=Y:=hb;subst hb;exact Tot.ret rfl
 .have dn:=aw0 okx hn;have er:EC x F6=(x,A0):=by
   unfold EC;rw[A5 c.ok,B1 J,A4,dn,A4]
  rw[er];refine Tot.bind (Tot.eq<|mO c.ok) λr11 h11=> ?_;refine Tot.pos rfl (Tot.pos (AW (J:0<x.A7.length)) ?_);refine Tot.bind (Tot.eq<|LI (k:=kA x.A7 0) (okx.k 0 J).1) λr14 h14=> ?_;subst h14;have:U ((99:Int)<(stT<|kA x.A7 0).nx)=Y:=AQ (by have:¬(stT<|kA x.A7 0).nx<=99:=hn;omega);exact Tot.ret<|by rw[show _=Y from this]
end Go.VS
end
