/- Part 10. -/
import Derived.Test.YtcdeafiabojglaaGreatDoorQAT
open Bool renaming and_eq_true->AE,and_false->BX,false->A0,false_and->AO,false_ne_true->CF,not_eq_true'->CM,not_true->AB,or_eq_true->C8,true->Y
open Decidable renaming decide->U
open Eq renaming refl->Hn
open Int renaming le_refl->Dw,le_trans->Qy,tdiv->Ay,tdiv_eq_ediv_of_nonneg->Fh,toNat_natCast->Bc
open List renaming append_nil->CE,eq_nil_of_length_eq_zero->Df,foldl_append->Fg,getD_eq_getElem?_getD->BG,getElem?_eq_getElem->Av,getElem_mem->Ci,getElem_of_mem->Cz,length->j8,length_append->Am,length_cons->Bm,length_range->R0,length_take->DW,map_nil->IK,mem_append->BN,mem_append_left->Bz,mem_append_right->CW,mem_filter->F8,mem_of_mem_drop->Iz,mem_of_mem_take->HI,mem_or_eq_of_mem_set->ML,mem_singleton->C1,mem_singleton_self->MP,pairwise_append->NO,pairwise_iff_getElem->KG,pairwise_singleton->aD8,range->B1,range_succ->Hl,take_add_one->JW,take_length->EG,take_of_length_le->J2
open Nat renaming eq_zero_or_pos->U6,le_refl->Ar,lt_succ_self->P3,lt_trans->Zw,lt_trichotomy->J0,sub_self->LJ,zero_le->Ch
open Option renaming bind_some->A6,some->I
open Option.some renaming inj->E5
open Prod.mk renaming inj->J4
set_option linter.all false
noncomputable section
namespace Go.VS
open Go
def Dif(a b:A3):Prop:=¬(a.fr=b.fr/\a.nu=b.nu)
def dsN(n:A3)(i:Int):Nat:=(n.to - i).natAbs
def onW(n:A3)(i:Int):Prop:=(n.fr<=i/\i<=n.to)\/(n.to<=i/\i<=n.fr)
noncomputable abbrev sT(w:AA)(i:Nat):AL:=stT<|kA w.A8 i
noncomputable abbrev sD(w:AA)(i:Nat):AL:=stD<|kA w.A8 i
def LS(w:AA)(n:A3):Prop:=n∈w.got\/n∈(sT w n.to.toNat).inbox
def Iw(w:AA)(n:A3):Prop:=∃i:Nat,i<4/\onW n i/\n.un<=(sT w i).ti
def Jz(w:AA)(n:A3)(i:Nat):Prop:=i<4/\n∈(sT w i).held/\n∈(sD w i).held
def Bey(w:AA)(i:Int)(n:A3):Prop:=LS w n\/Iw w n\/ ∃j:Nat,Jz w n j/\dsN n j<dsN n i
def HvF(w:AA)(f:Frame):Prop:=f.ki=2->∃n∈w.AX,n.fr=f.fr/\n.nu=f.nu/\Bey w f.dst n
def HfG(se:List A3)(h:AD):Prop:=∃n∈se,h.fr=n.fr/\h.nu=n.nu/\h.to=n.to/\h.un=n.un/\h.sz=n.tx.size/\PF n.tx h.got
structure Inv (w:AA):Prop where
 lo:∀i,i<4->LO (kA w.A8 i)
 hs:∀i,i<4->∀n∈(sD w i).held,n∈w.AX
 bx:∀i,i<4->∀n∈(sT w i).inbox,n∈w.AX/\ ∀g∈w.got,Dif g n
 nx:∀n∈w.AX,n.nu<(sT w n.fr.toNat).nx
 sp:w.AX.Pairwise Dif
 gp:w.got.Pairwise Dif
 gs:∀g∈w.got,g∈w.AX/\(g.un<=(sT w g.to.toNat).ti\/ ∃m∈(sD w g.to.toNat).marks,m.mf=g.fr/\m.mn=g.nu/\m.mu=g.un)
 cu:∀n∈w.AX,LS w n\/Iw w n\/ ∃j,Jz w n j
 mrk:∀i,i<4->∀m∈(sT w i).marks,∃n∈w.AX,m=⟨n.fr,n.nu,n.un⟩/\Bey w i n
 ra:∀p∈w.AM,PcI (λn=>n∈w.AX) p
 hv:∀p∈w.AM,∀f,Cb (B9 p.data)=(f,Y)->HvF w f
 hf:∀i,i<4->∀h∈(kA w.A8 i).AG,HfG w.AX h
def Io{l:List A3}(h:l.Pairwise Dif):∀ {a b:A3},a∈l->b∈l->a.fr=b.fr->a.nu=b.nu->a=b:=by
 intro a b ha hb h1 h2;obtain⟨i,hi,ei⟩:=Cz ha;obtain⟨j,hj,ej⟩:=Cz hb;obtain c|c|c:=J0 i j
 .have:=KG.1 h i j hi hj c;rw[ei,ej]at this;exact absurd ⟨h1,h2⟩ this
 .subst c;rw[← ei,← ej]
 .have:=KG.1 h j i hj hi c;rw[ei,ej]at this;exact absurd ⟨h1.symm,h2.symm⟩ this
def aGt{l:List A3}{n:A3}(h:l.Pairwise Dif)(hn:∀a∈l,Dif a n):(l++[n]).Pairwise Dif:=by
 rw[NO];exact⟨h,aD8 _ _,λa ha b hb=>by rw[C1.1 hb];exact hn a ha⟩
def To{l:List A3}{x:A3}(h:x∈l):∃i,i<l.length/\nA l i=x:=by
 obtain⟨i,hi,e⟩:=Cz h;exact⟨i,hi,by rw[nA,BG,Av hi];exact e⟩
def avH{k:AL}(h:Au k=Y){n:A3}(hn:n∈k.held):k.ti<n.un/\onW n k.id/\n.to≠k.id:=by
 obtain⟨i,hi,e⟩:=To hn;have:=(C2 h).ho i hi;unfold H4 Ed at this;rw[e]at this;simp only[AE,C8,decide_eq_true_eq,Aa,CM,decide_eq_false_iff_not]at this;obtain⟨_,h1,⟨h2,h3⟩,_⟩:=this;unfold onW;exact⟨h1,J,λe=>h2 e.symm⟩
def ns{k:AL}(h:Au k=Y){n:A3}(hn:n∈k.inbox):n.to=k.id/\(n.un<=k.ti\/ ∃m∈k.marks,m.mf=n.fr/\m.mn=n.nu):=by
 obtain⟨i,hi,e⟩:=To hn;have:=(C2 h).io i hi;unfold Ii at this;rw[e]at this;simp only[AE,C8,decide_eq_true_eq,CM,decide_eq_false_iff_not]at this;obtain⟨h1,_,h2⟩:=this;refine⟨h1, ?_⟩;obtain h2|h2:=h2
 .exact .inl J
 .obtain⟨j0,_,j2,j3⟩:=ZY h2;refine .inr ⟨mA k.marks (Bt k.marks n.fr n.nu).toNat, ?_,j2,j3⟩;rw[mA,BG,Av j0];exact Ci j0
def HX{w:AA}(ok:B8 w){i:Nat}(hi:i<4):(sT w i).id=(i:Int):=(CQ (ok.k i hi).1).id.trans (ok.k i hi).2
def FI{w:AA}(ok:B8 w){i:Nat}(hi:i<4):Au (sT w i)=Y:=(CQ (ok.k i hi).1).kok
def aw7{w w':AA}{i:Nat}{a:Act}{k':A7}(ok:B8 w)(hi:i<4)(m:Mvd (kA w.A8 i) k' a)(ek:w'.A8=w.A8.set i k')
  (eg:∀n,n∈w.got\/a= .eat n->n∈w'.got){n:A3}(nok:Aw n=Y)(lets:a= .lets ⟨n.fr,n.nu,n.un⟩->Bey w i n){d:Nat}
  (h:LS w n\/Iw w n\/ ∃j:Nat,Jz w n j/\dsN n j<d):LS w' n\/Iw w' n\/ ∃j:Nat,Jz w' n j/\dsN n j<d:=by
 have kl:=ok.kl;have kA':∀j,kA w'.A8 j=if j=i then k' else kA w.A8 j:=λj=>by rw[ek,HV J]
 have up:∀j:Nat,(sT w j).ti<=(sT w' j).ti:=λj=>by
  unfold sT;rw[kA' j];split
  .rename_i e;rw[e];exact m.ti
  .exact Dw _
 have cam:LS w n->LS w' n:=λh=>by
  obtain h|h:=h
  .exact .inl (eg n<|.inl h)
  .by_cases e:n.to.toNat=i
   .rw[e]at h;obtain h1|h1:=m.box n h
    .right;unfold sT;rw[kA' n.to.toNat,A5 e];exact h1
    .exact .inl (eg n<|.inr h1)
   .right;unfold sT;rw[kA' n.to.toNat,A9 e];exact h
 have ove:Iw w n->Iw w' n:=fun⟨j,h1,h2,h3⟩=>⟨j,h1,h2,Qy h3<|up j⟩;have oth:∀j:Nat,j≠i->Jz w n j->Jz w' n j:=λj hj h=>by
  unfold Jz sT sD;rw[kA' j,A9 hj];exact h
 obtain h|h|⟨j,h,hd⟩:=h
 .exact .inl (cam h)
 .exact .inr (.inl<|ove h)
 .by_cases e:j=i
  .subst e;obtain⟨_,h1,h2⟩:=h;obtain c|c|c:=m.hold n h1 h2
   .exact .inr (.inr ⟨j,by unfold Jz sT sD;rw[kA' j,A5 rfl];exact⟨hi,c⟩,hd⟩)
   .have hw:=(avH (FI ok hi) h1).2.1;rw[HX ok hi]at hw;exact .inr (.inl ⟨j,hi,hw,by unfold sT;rw[kA' j,A5 rfl];exact c⟩)
   .rcases lets c with h|h|⟨x,hx,hx2⟩
    .exact .inl (cam h)
    .exact .inr (.inl<|ove h)
    .exact .inr (.inr ⟨x,oth x (λe=>by subst e;omega) hx,J⟩)
  .exact .inr<|.inr ⟨j,oth j e h,hd⟩
def HvF.up{w w':AA}{f:Frame}(hs:∀n∈w.AX,n∈w'.AX)(hb:∀n∈w.AX,∀i,Bey w i n->Bey w' i n)(h:HvF w f):HvF w' f:=λe=>by
 obtain⟨n,h1,h2,h3,h4⟩:=h e;exact⟨n,hs n h1,h2,h3,hb n h1 _ h4⟩
def HfG.up{se se':List A3}{h:AD}(hs:∀n∈se,n∈se')(g:HfG se h):HfG se' h:=by
 obtain⟨n,h1,h2⟩:=g;exact⟨n,hs n h1,h2⟩
def RaN(w w':AA)(p:AK):Prop:=p∈w.AM\/(PcI (λn=>n∈w'.AX) p/\ ∀f,Cb (B9 p.data)=(f,Y)->HvF w' f)
structure Np (w w':AA) (i:Nat) (k':A7) (a:Act):Prop where
 hi:i<4
 m:Mvd (kA w.A8 i) k' a
 ek:w'.A8=w.A8.set i k'
 se:(w'.AX=w.AX/\ ∀n,a≠ .own n)\/ ∃n,a= .own n/\w'.AX=w.AX++[n]/\Aw n=Y
 go:(w'.got=w.got/\ ∀n,a≠ .eat n)\/ ∃n,a= .eat n/\w'.got=w.got++[n]
 tk:∀n,a= .take n->n∈w.AX
 lt:∀m,a= .lets m->∃n∈w.AX,n.fr=m.mf/\n.nu=m.mn/\Bey w i n
 ra:∀p∈w'.AM,RaN w w' p
 hf:∀h∈k'.AG,HfG w'.AX h
def Np.bey{w w':AA}{i:Nat}{k':A7}{a:Act}(s:Np w w' i k' a)(v:Inv w)(ok:B8 w){n:A3}(hn:n∈w.AX){d:Nat}
  (h:LS w n\/Iw w n\/ ∃j:Nat,Jz w n j/\dsN n j<d):LS w' n\/Iw w' n\/ ∃j:Nat,Jz w' n j/\dsN n j<d:=by
 refine aw7 ok s.hi s.m s.ek (λx hx=> ?_) (ok.s n hn) (λe=> ?_) h
 .rcases s.go with⟨e,h1⟩|⟨y,e1,e2⟩
  .rw[e];obtain hx|hx:=hx
   .exact hx
   .exact absurd hx (h1 x)
  .rw[e2,BN,C1];obtain hx|hx:=hx
   .exact .inl hx
   .rw[e1]at hx;cases hx;exact .inr rfl
 .obtain⟨x,h1,h2,h3,h4⟩:=s.lt _ e;have:=Io v.sp h1 hn h2 h3;rw[← this];exact h4
def Inv.step{w w':AA}{i:Nat}{k':A7}{a:Act}(v:Inv w)(ok:B8 w)(s:Np w w' i k' a):Inv w':=by
 have kl:=ok.kl;have hi:=s.hi;have m:=s.m;have kA':∀j,kA w'.A8 j=if j=i then k' else kA w.A8 j:=λj=>by rw[s.ek,HV J]
 have eT:sT w' i=stT k':=by unfold sT;rw[kA' i,A5 rfl]
 have eD:sD w' i=stD k':=by unfold sD;rw[kA' i,A5 rfl]
 have oT:∀j,j≠i->sT w' j=sT w j:=λj hj=>by unfold sT;rw[kA' j,A9 hj]
 have oD:∀j,j≠i->sD w' j=sD w j:=λj hj=>by unfold sD;rw[kA' j,A9 hj]
 have id':(stT<|kA w.A8 i).id=(i:Int):=HX ok hi;have ses:∀n∈w.AX,n∈w'.AX:=λn hn=>by
  obtain⟨e,_⟩|⟨x,_,e,_⟩:=s.se<;>rw[e]
  .exact hn
  .exact Bz _ hn
 have sen:∀n,n∈w'.AX->n∈w.AX\/a= .own n:=λn hn=>by
  obtain⟨e,_⟩|⟨x,e1,e,_⟩:=s.se<;>rw[e]at hn
  .exact .inl hn
  .rcases BN.1 hn with hn|hn
   .exact .inl hn
   .rw[C1.1 hn];exact .inr e1
 have amK:∀n,a= .own n->n∈w'.AX:=λn hn=>by
  obtain⟨_,e⟩|⟨x,e1,e,_⟩:=s.se
  .exact absurd hn (e n)
  .rw[e1]at hn;cases hn;rw[e];exact CW _<|MP _
 have bU:∀n,a.new n->n∈w'.AX:=λn hn=>by
  obtain hn|hn:=hn
  .exact amK n hn
  .exact ses n<|s.tk n hn
 have gos:∀n∈w.got,n∈w'.got:=λn hn=>by
  obtain⟨e,_⟩|⟨x,_,e⟩:=s.go<;>rw[e]
  .exact hn
  .exact Bz _ hn
 have acA:∀n,a= .own n->n.fr=(i:Int)/\n.nu=(sT w i).nx/\(stT k').nx=(sT w i).nx+1:=λn hn=>by
  obtain⟨_,h⟩|⟨x,h1,h2,h3,h4⟩:=m.nx
  .exact absurd hn (h n)
  .rw[h1]at hn;cases hn;exact⟨h3.trans id',h2,h4⟩
 have nxu:∀j,(sT w j).nx<=(sT w' j).nx:=λj=>by
  by_cases e:j=i
  .subst e;rw[eT];obtain⟨h,_⟩|⟨_,_,_,_,h⟩:=m.nx<;>unfold sT<;>omega
  .rw[oT j e];exact Dw _
 have tiu:∀j,(sT w j).ti<=(sT w' j).ti:=λj=>by
  by_cases e:j=i
  .subst e;rw[eT];exact m.ti
  .rw[oT j e];exact Dw _
 have b0:∀n∈w.AX,∀j,Bey w j n->Bey w' j n:=λn hn j h=>s.bey v ok hn h;have amN:∀n,a= .own n->∀x∈w.AX,Dif x n:=λn hn x hx c=>by
  obtain⟨h1,h2,_⟩:=acA n hn;have:=v.nx x hx;rw[c.1,h1,Bc]at this;have:=c.2;omega
 have sp':w'.AX.Pairwise Dif:=by
  obtain⟨e,_⟩|⟨x,e1,e,_⟩:=s.se<;>rw[e]
  .exact v.sp
  .exact aGt v.sp<|amN x e1
 have an6:∀n,a.new n->n.to=(i:Int)->∀g∈w.got,Dif g n:=λn hn ht g hg c=>by
  obtain⟨g1,g2⟩:=v.gs g hg;have e:g=n:=Io sp' (ses g g1) (bU n hn) c.1 c.2;obtain⟨h1,h2,_⟩:=m.new n hn;subst e;rw[ht,Bc]at g2;obtain g2|⟨y,y1,y2,y3,_⟩:=g2
  .unfold sT at g2;omega
  .exact h2 y (((v.lo i hi).lf (ok.k i hi).1).mrk y y1) ⟨y2,y3⟩
 have acD:∀n,a.new n->LS w' n\/Iw w' n\/ ∃j:Nat,Jz w' n j/\(n.to≠(i:Int)/\j=i):=λn hn=>by
  obtain⟨_,_,h⟩:=m.new n hn;rw[id']at h;split at h
  .rename_i ht;refine .inl<|.inr ?_;rw[ht,Bc,eT];exact h
  .rename_i ht;exact .inr<|.inr ⟨i,by unfold Jz;rw[eT,eD];exact⟨hi,h⟩,ht,rfl⟩
 have azq:∀n∈w'.AX,Aw n=Y:=λn hn=>by
  obtain⟨e,_⟩|⟨x,_,e,h⟩:=s.se<;>rw[e]at hn
  .exact ok.s n hn
  .rcases BN.1 hn with hn|hn
   .exact ok.s n hn
   .rw[C1.1 hn];exact h
 refine⟨λj hj=> ?_,λj hj n hn=> ?_,λj hj n hn=> ?_,λn hn=> ?_,sp', ?_,λg hg=> ?_,λn hn=> ?_,λj hj y hy=> ?_,λp hp=> ?_,λp hp f hu=> ?_,λj hj h hh=> ?_⟩
 .rw[kA' j];split
  .exact m.lo
  .exact v.lo j hj
 .by_cases e:j=i
  .subst e;rw[eD]at hn;obtain h|h:=m.held n hn
   .exact ses n (v.hs j hj n h)
   .exact bU n h
  .rw[oD j e]at hn;exact ses n (v.hs j hj n hn)
 .by_cases e:j=i
  .subst e;rw[eT]at hn;obtain⟨h,ne⟩|⟨h,ht⟩:=m.PU n hn
   .obtain⟨h1,h2⟩:=v.bx j hj n h;refine⟨ses n h1,λg hg=> ?_⟩;obtain⟨e,_⟩|⟨x,e1,e⟩:=s.go<;>rw[e]at hg
    .exact h2 g hg
    .rcases BN.1 hg with hg|hg
     .exact h2 g hg
     .rw[C1.1 hg];intro c;have:=Io v.sp ((v.bx j hj x (m.eat x e1).1).1) h1 c.1 c.2;rw[this]at e1;exact ne e1
   .rw[id']at ht;refine⟨bU n h,λg hg=> ?_⟩;obtain⟨e,_⟩|⟨x,e1,e⟩:=s.go
    .rw[e]at hg;exact an6 n h ht g hg
    .rcases h with h|h<;>rw[h]at e1<;>cases e1
  .rw[oT j e]at hn;obtain⟨h1,h2⟩:=v.bx j hj n hn;refine⟨ses n h1,λg hg=> ?_⟩;obtain⟨e,_⟩|⟨x,e1,e2⟩:=s.go
   .rw[e]at hg;exact h2 g hg
   .rw[e2]at hg;obtain hg|hg:=BN.1 hg
    .exact h2 g hg
    .rw[C1.1 hg];intro c;have hx:=(m.eat x e1).1;have:=Io v.sp ((v.bx i hi x hx).1) h1 c.1 c.2;subst this;have a1:=(ns (FI ok hi) hx).1;have a2:=(ns (FI ok hj) hn).1;rw[HX ok hi]at a1;rw[HX ok hj]at a2;omega
 .rcases sen n hn with h|h
  .exact Int.lt_of_lt_of_le (v.nx n h) (nxu _)
  .obtain⟨h1,h2,h3⟩:=acA n h;rw[h1,Bc,eT];omega
 .rcases s.go with⟨e,_⟩|⟨x,e1,e⟩<;>rw[e]
  .exact v.gp
  .exact aGt v.gp (λg hg=>(v.bx i hi x (m.eat x e1).1).2 g hg)
 .have old:g∈w.got->g∈w'.AX/\(g.un<=(sT w' g.to.toNat).ti\/ ∃m∈(sD w' g.to.toNat).marks,m.mf=g.fr/\m.mn=g.nu/\m.mu=g.un):=λhg=>by
   obtain⟨h1,h2⟩:=v.gs g hg;refine⟨ses g h1, ?_⟩;obtain h2|⟨y,y1,y2,y3,y4⟩:=h2
   .exact .inl (Qy h2<|tiu _)
   .by_cases e:g.to.toNat=i
    .rw[e]at y1 ⊢;rw[eT,eD];obtain c|c:=m.mks y y1
     .exact .inr ⟨y,c,y2,y3,y4⟩
     .exact .inl J
    .rw[oD _ e];exact .inr ⟨y,y1,y2,y3,y4⟩
  obtain⟨e,_⟩|⟨x,e1,e⟩:=s.go<;>rw[e]at hg
  .exact old hg
  .rcases BN.1 hg with hg|hg
   .exact old hg
   .rw[C1.1 hg];obtain⟨hx,hm⟩:=m.eat x e1;obtain⟨b1,b2⟩:=ns (FI ok hi) hx;rw[HX ok hi]at b1;refine⟨ses x (v.bx i hi x hx).1, ?_⟩;rw[b1,Bc,eT,eD];obtain b2|⟨y,y1,y2,y3⟩:=b2
    .exact .inl (Qy b2 m.ti)
    .obtain⟨z,z1,z2,_⟩:=v.mrk i hi y y1;have:z=x:=Io v.sp z1 (v.bx i hi x hx).1 (by rw[← y2,z2]) (by rw[← y3,z2]);exact .inr ⟨y,hm y y1,y2,y3,by rw[z2,this]⟩
 .rcases sen n hn with h|h
  .rcases v.cu n h with c|c|⟨j,c⟩
   .rcases s.bey v ok h (d:=0) (.inl c) with c|c|⟨j,c,_⟩
    .exact .inl c
    .exact .inr (.inl c)
    .exact .inr (.inr ⟨j,c⟩)
   .rcases s.bey v ok h (d:=0) (.inr<|.inl c) with c|c|⟨j,c,_⟩
    .exact .inl c
    .exact .inr (.inl c)
    .exact .inr (.inr ⟨j,c⟩)
   .rcases s.bey v ok h (.inr<|.inr ⟨j,c,P3 _⟩) with c|c|⟨j,c,_⟩
    .exact .inl c
    .exact .inr (.inl c)
    .exact .inr (.inr ⟨j,c⟩)
  .rcases acD n (.inl h) with c|c|⟨j,c,_⟩
   .exact .inl c
   .exact .inr (.inl c)
   .exact .inr (.inr ⟨j,c⟩)
 .have old:∀j,j<4->y∈(sT w j).marks->∃n∈w'.AX,y=⟨n.fr,n.nu,n.un⟩/\Bey w' j n:=λj hj hy=>by
   obtain⟨n,h1,h2,h3⟩:=v.mrk j hj y hy;exact⟨n,ses n h1,h2,b0 n h1 _ h3⟩
  by_cases e:j=i
  .subst e;rw[eT]at hy;obtain h|h|⟨n,h,ht,rfl⟩:=m.mrk y hy
   .exact old j hj h
   .obtain⟨n,h1,h2,h3,h4⟩:=s.lt y h;obtain⟨x,x1,x2⟩:=m.lets y h;have:x=n:=Io v.sp (v.hs j hj x<|((v.lo j hj).lf (ok.k j hj).1).held x x1) h1 (by rw[h2,x2]) (by rw[h3,x2]);subst this;exact⟨x,ses x h1,x2,b0 x h1 _ h4⟩
   .refine⟨n,bU n h,rfl, ?_⟩;rw[id']at ht;obtain c|c|⟨_,_,c,_⟩:=acD n h
    .exact .inl c
    .exact .inr (.inl c)
    .exact absurd ht c
  .rw[oT j e]at hy;exact old j hj hy
 .rcases s.ra p hp with h|h
  .exact(v.ra p h).mono ses
  .exact h.1
 .rcases s.ra p hp with h|h
  .exact(v.hv p h f hu).up ses b0
  .exact h.2 f hu
 .rw[kA' j]at hh;split at hh
  .exact s.hf h hh
  .exact(v.hf j hj h hh).up ses
def aFF{w w':AA}{f:Frame}(h:By f=Y->KO (λn=>n∈w'.AX) f/\HvF w' f):RaN w w' (pcF f):=by
 refine .inr ⟨PcI.send λe=>(h e).1,λg hg=> ?_⟩;have hg:Cb (B9<|BF<|Cf f)=(g,Y):=hg;obtain e|e:=tf (By f)
 .rw[OG<|OO f,XX e]at hg;rw[← (J4 hg).1];exact(h e).2
 .unfold Cf at hg;rw[e,A4]at hg;have:=aCd;rw[hg]at this;cases this
def ap(e:Event)(w w':AA):Prop:=∃i k' a,Np w w' i k' a/\((∃m,a= .lets m)->e.ki=4)/\((∃n,a= .own n)->e.ki=1)
def Q3{e:Event}{w w':AA}(v:Inv w)(ok:B8 w)(ek:w'.A8=w.A8)(es:w'.AX=w.AX)(eg:w'.got=w.got)(hr:∀p∈w'.AM,RaN w w' p):ap e w w':=
 ⟨0,kA w.A8 0,.non,⟨J,Oq (ok.k 0 J).1<|v.lo 0 J,by rw[ek,L7],.inl ⟨es,λ_ e=>by cases e⟩,.inl ⟨eg,λ_ e=>by cases e⟩,
  λ_ e=>(by cases e),λ_ e=>(by cases e),hr,λh hh=>(by rw[es];exact v.hf 0 J h hh)⟩,fun⟨_,e⟩=>(by cases e),fun⟨_,e⟩=>(by cases e)⟩
def Lx{e:Event}{w:AA}(v:Inv w)(ok:B8 w):ap e w w:=Q3 v ok rfl rfl rfl λ_ h=> .inl h
def arU{a t:Int}(h:isN (Bu a t)=Y)(n:A3)(ht:n.to=t):dsN n (Bu a t)<dsN n a:=by
 have h0:=Em h;revert h0;unfold Bu dsN;split
 .omega
 .rename_i h1;intro _;simp only[C8,CM,not_or,Bool.not_eq_false,decide_eq_true_eq]at h1;have:=h1.2.2;split<;>omega
def arR{f:Frame}(h:By f=Y)(h1:f.ki=1){n:A3}(ht:f.to=n.to):dsN n f.dst<dsN n f.src:=by
 obtain⟨_,r2,_,_,_,_,r7⟩:=OW h;unfold K0 at r7;rw[A5<|AR h1]at r7;simp only[AE,decide_eq_true_eq]at r7;have e:=r7.2.2.2;rw[e]at r2 ⊢;exact arU r2 n ht.symm
def avS{got:List AQ}{mix:Int}{da:A1}{m:AQ}(h:m∈Cu got mix da):m∈got\/m=⟨mix,da⟩:=by
 unfold Cu at h;obtain h|h:=BN.1 h
 .left;split at h
  .exact(F8.1<|Iz h).1
  .exact(F8.1 h).1
 .exact .inr<|C1.1 h
def aam{w:AA}{hv:List AD}{f:Frame}{n:A3}(g:∀h∈hv,HfG w.AX h)(hn:n∈w.AX)(h1:f.fr=n.fr)(h2:f.nu=n.nu)(h3:f.to=n.to)(h4:f.un=n.un)(h5:f.sz=n.tx.size):
  (∀h∈(Ap hv f).1,HfG w.AX h)/\(hA (Ap hv f).1 (Ap hv f).2).fr=f.fr/\(hA (Ap hv f).1 (Ap hv f).2).nu=f.nu:=by
 obtain⟨i,e,hi,e1,e2,_⟩|⟨_,l,sub,e⟩:=YJ hv f
 .rw[e];exact⟨g,e1,e2⟩
 .rw[e];refine⟨λh hh=> ?_,by rw[TT],by rw[TT]⟩;obtain hh|hh:=BN.1 hh
  .exact g h (sub.subset hh)
  .rw[C1.1 hh];exact⟨n,hn,h1,h2,h3,h4,h5,λm hm=>by cases hm⟩
def og{l:List AD}{i:Nat}(h:i<l.length):hA l i∈l:=by
 rw[Hc h];exact Ci h
def abA{w:AA}(v:Inv w){hv:List AD}{i:Nat}(hi:i<hv.length){f:Frame}{n:A3}(g:∀h∈hv,HfG w.AX h)(hn:n∈w.AX)(h1:f.fr=n.fr)(h2:f.nu=n.nu)(h6:f.da=Fw n.tx f.mix)
  (e1:(hA hv i).fr=f.fr)(e2:(hA hv i).nu=f.nu):(∀h∈Co hv i f,HfG w.AX h)/\PF n.tx (Cu (hA hv i).got f.mix f.da):=by
 obtain⟨x,x1,x2,x3,x4,x5,x6,x7⟩:=g _<|og hi;have e:x=n:=Io v.sp x1 hn (by rw[← x2,e1,h1]) (by rw[← x3,e2,h2]);subst e;have ht:PF x.tx (Cu (hA hv i).got f.mix f.da):=λm hm fit=>by
  obtain c|c:=avS hm
  .exact x7 m c fit
  .rw[c];exact h6
 refine⟨λh hh=> ?_,ht⟩;unfold Co at hh;obtain c|c:=ML hh
 .exact g h c
 .rw[c];exact⟨x,x1,x2,x3,x4,x5,x6,ht⟩
def axo{w w':AA}(hg:w'.got=w.got){n:A3}{i:Int}(hT:∀j,sT w' j=sT w j)(hD:∀j,sD w' j=sD w j\/sD w' j=sT w j)(h:Bey w i n):Bey w' i n:=by
 obtain h|⟨j,h1,h2,h3⟩|⟨j,⟨h1,h2,h3⟩,h4⟩:=h
 .exact .inl (by unfold LS;rw[hg,hT];exact h)
 .exact .inr (.inl ⟨j,h1,h2,by rw[hT];exact h3⟩)
 .refine .inr (.inr ⟨j,⟨h1,by rw[hT];exact h2, ?_⟩,h4⟩);obtain e|e:=hD j<;>rw[e]<;>assumption
def Mvd.ofH{k k':A7}{hv:List AD}{a:Act}(m:Mvd (GA k hv) k' a):Mvd k k' a:=⟨m.lo,m.id,m.ti,m.nx,m.hold,m.held,m.box,m.PU,m.mrk,m.mks,m.new,m.eat,m.lets⟩
def avI{w:AA}(v:Inv w)(ok:B8 w){i:Nat}(hi:i<4){f:Frame}(hf:By f=Y)(hd:f.dst=(i:Int))(g:KO (λn=>n∈w.AX) f)(hv:HvF w f){ra:List AK}(hra:∀p∈ra,p∈w.AM):
  ∃a,Np w ⟨w.ti,w.A8.set i (C4 (kA w.A8 i) f).1,w.An,CC ra (C4 (kA w.A8 i) f).2,w.AX,w.got⟩ i (C4 (kA w.A8 i) f).1 a/\ ∀n,a≠ .own n:=by
 have hok:=(ok.k i hi).1;have hid:=(ok.k i hi).2;have kl:=ok.kl;have lo:=v.lo i hi;have mkS:∀(k':A7) (fs:List Frame) (a:Act),Mvd (kA w.A8 i) k' a->(∀n,a≠ .own n)->(∀n,a≠ .eat n)->(∀n,a= .take n->n∈w.AX)->(∀m,a= .lets m->∃n∈w.AX,n.fr=m.mf/\n.nu=m.mn/\Bey w i n)->(∀h∈k'.AG,HfG w.AX h)->
   (∀x∈fs,KO (λn=>n∈w.AX) x/\HvF ⟨w.ti,w.A8.set i k',w.An,CC ra fs,w.AX,w.got⟩ x)->∃a,Np w ⟨w.ti,w.A8.set i k',w.An,CC ra fs,w.AX,w.got⟩ i k' a/\ ∀n,a≠ .own n:=λk' fs a m n1 n2 n3 n4 n5 n6=>
  ⟨a,⟨hi,m,rfl,.inl ⟨rfl,n1⟩,.inl ⟨rfl,n2⟩,n3,n4,λp hp=>by
   obtain hp|⟨x,hx,rfl⟩:=YW hp
   .exact .inl (hra p hp)
   .exact aFF λ_=>n6 x hx,n5⟩,n1⟩
 have stay:∃a,Np w ⟨w.ti,w.A8.set i<|kA w.A8 i,w.An,CC ra [],w.AX,w.got⟩ i (kA w.A8 i) a/\ ∀n,a≠ .own n:=mkS _ _ .non (Oq hok lo) (λ_ e=>by cases e) (λ_ e=>by cases e) (λ_ e=>by cases e) (λ_ e=>by cases e) (v.hf i hi) (λx hx=>by cases hx);have non:∀(k':A7) (fs:List Frame),Mvd (kA w.A8 i) k' .non->(∀h∈k'.AG,HfG w.AX h)->(∀x∈fs,KO (λn=>n∈w.AX) x/\HvF ⟨w.ti,w.A8.set i k',w.An,CC ra fs,w.AX,w.got⟩ x)->∃a,Np w ⟨w.ti,w.A8.set i k',w.An,CC ra fs,w.AX,w.got⟩ i k' a/\ ∀n,a≠ .own n:=
  λk' fs m h1 h2=>mkS k' fs .non m (λ_ e=>by cases e) (λ_ e=>by cases e) (λ_ e=>by cases e) (λ_ e=>by cases e) h1 h2
 rw[Yh hok];unfold HA;split
 .rename_i hc;simp only[AE]at hc;split
  .rename_i h1;have h1:f.ki=1:=BW h1;obtain⟨n,hn,nok,g1,g2,g3,g4,g5,g6⟩:=g h1;have hds:=arR hf h1 g3;rw[hd]at hds;unfold Dz;split
   .exact non _ _ (Oq hok lo) (v.hf i hi) (λx hx=>by
     rw[C1.1 hx];exact⟨λe=>(by cases e),λe=>(by cases e)⟩)
   split
   .rename_i hh;obtain⟨_,a1,a2,a3⟩:=oA hok;refine non _ _ (QF hok lo a1 a3<|.inr a2) (v.hf i hi) (λx hx=> ?_);rw[C1.1 hx];refine⟨λe=>(by cases e),λ_=>⟨n,hn,g1.symm,g2.symm, ?_⟩⟩;obtain hh|hh:=hh
    .obtain⟨j0,_,j2,j3⟩:=FE hh;have hm:=HU j0;have hs:=v.hs i hi _<|(lo.lf hok).held _ hm;have e:=Io v.sp hs hn (by rw[j2,g1]) (by rw[j3,g2]);rw[e]at hm;refine .inr (.inr ⟨i,⟨hi, ?_, ?_⟩,hds⟩)
     .show n∈(stT<|kA (w.A8.set i _) i).held;rw[HV J,A5 rfl,a3];exact hm
     .show n∈(stD<|kA (w.A8.set i _) i).held;rw[HV J,A5 rfl,a2];exact hm
    .obtain⟨j0,_,j2,j3⟩:=ZY hh;have hm:mA (stT<|kA w.A8 i).marks (Bt (stT<|kA w.A8 i).marks f.fr f.nu).toNat∈(stT<|kA w.A8 i).marks:=by
      rw[mA,BG,Av j0];exact Ci j0
     obtain⟨z,z1,z2,z3⟩:=v.mrk i hi _ hm;have e:=Io v.sp z1 hn (by rw[← g1,← j2,z2]) (by rw[← g2,← j3,z2]);subst e;have z4:=axo (w:=w) (w':=⟨w.ti,w.A8.set i<|foM<|kA w.A8 i,w.An,CC ra [Cs 2 f],w.AX,w.got⟩) rfl (n:=z) (i:=(i:Int)) (λj=>by
       show stT (kA (w.A8.set i _) j)=_;rw[HV J];split
       .rename_i e;rw[e,a3]
       .rfl) (λj=>by
       show stD (kA (w.A8.set i _) j)=_\/stD (kA (w.A8.set i _) j)=_;rw[HV J];split
       .rename_i e;rw[e,a2];exact .inr rfl
       .exact .inl rfl) z3
     obtain c|c|⟨j,c1,c2⟩:=z4
     .exact .inl c
     .exact .inr (.inl c)
     .exact .inr<|.inr ⟨j,c1,Zw c2 hds⟩
   split
   .exact stay
   .obtain⟨p1,p2,p3⟩:=aam (v.hf i hi) hn g1 g2 g3 g4 g5;have plt:=N8 (hv:=(kA w.A8 i).AG) (f:=f);obtain⟨q1,q2⟩:=abA v plt p1 hn g1 g2 g6 p2 p3;have mH:∀hv,Mvd (kA w.A8 i) (GA (kA w.A8 i) hv) .non:=λhv=>QF hok lo lo rfl (.inl rfl);unfold Iv;split
    .split
     .rename_i ht;rw[g5]at ht;have ht:=aEw (L4 nok) q2 ht;have e:(⟨f.fr,f.nu,f.to,f.un,(Es f.sz<|Cu (hA (Ap (kA w.A8 i).AG f).1 (Ap (kA w.A8 i).AG f).2).got f.mix f.da).1⟩:A3)=n:=by
       rw[g5,ht,g1,g2,g3,g4]
      rw[e];have hdr:=(abE hok hc.1 hc.2.1 h1).ok;have hh:∀h∈ES (Co (Ap (kA w.A8 i).AG f).1 (Ap (kA w.A8 i).AG f).2 f) (Ap (kA w.A8 i).AG f).2,HfG w.AX h:=λh hh=>q1 h<|oB hh;unfold JL;split
      .rename_i hw;rw[AE]at hw;have mt:=(aD hdr (show LO (GA (kA w.A8 i) _) from lo) hw.2 (a:= .take n) (λo ho=>(aGk (CQ hdr).kok nok ho).1) λ_ e=>by cases e).2;have mt:=mt.ofH;refine mkS _ _ (.take n) mt (λ_ e=>by cases e) (λ_ e=>by cases e) (λx e=>by cases e;exact hn) (λ_ e=>by cases e) (λh hx=>hh h (by rw[Ol]at hx;exact hx)) (λx hx=> ?_);rw[C1.1 hx];refine⟨λe=>(by cases e),λ_=>⟨n,hn,g1.symm,g2.symm, ?_⟩⟩;obtain⟨_,_,hnw⟩:=mt.new n<|.inr rfl;rw[HX ok hi]at hnw;split at hnw
       .rename_i hto;refine .inl<|.inr ?_;show n∈(stT<|kA (w.A8.set i _) n.to.toNat).inbox;rw[hto,Bc,HV J,A5 rfl];exact hnw
       .refine .inr (.inr ⟨i,⟨hi, ?_, ?_⟩,hds⟩)
        .show n∈(stT<|kA (w.A8.set i _) i).held;rw[HV J,A5 rfl];exact hnw.1
        .show n∈(stD<|kA (w.A8.set i _) i).held;rw[HV J,A5 rfl];exact hnw.2
      .exact non _ _ (mH _) hh (λx hx=>by cases hx)
     .exact non _ _ (mH _) q1 (λx hx=>by cases hx)
    .exact non _ _ (mH _) p1 (λx hx=>by cases hx)
  .split
   .rename_i h2;rw[AE]at h2;have h2:f.ki=2:=BW h2.1;obtain⟨r1,r2,r3⟩:=lE hf;obtain e|e:=tf (wrR (kA w.A8 i) (Cc C3 f.fr f.nu f.un) A0).2
    .refine mkS _ _ _ (awk hok lo r1 r2 r3 e) (λ_ e=>by cases e) (λ_ e=>by cases e) (λ_ e=>by cases e) (λm em=> ?_) (λh hx=>v.hf i hi h (by rw[Ol]at hx;exact hx)) (λx hx=>by cases hx);cases em;obtain⟨n,n1,n2,n3,n4⟩:=hv h2;rw[hd]at n4;exact⟨n,n1,n2,n3,n4⟩
    .have:=QQ e;simp only[this];exact stay
   .exact stay
 .exact stay
def ayZ{k:A7}{fr nu mix:Int}(hb:(EC k fr nu mix).2=Y):(EC k fr nu mix).1.ki=1:=by
 unfold EC at hb ⊢;split at hb
 .rename_i hc;rw[A5 hc]
 .cases hb
def awJ{w:AA}(v:Inv w)(ok:B8 w)(e:Event):ap e w (doM w e).1:=by
 have kl:=ok.kl;have old:∀ {w':AA} {p:AK},p∈w.AM->RaN w w' p:=λh=> .inl h;unfold doM;split
 .rename_i hk;unfold Dx;split
  .rename_i h2;have h2:=Aa.1 h2;have hlt:e.wo.toNat<w.AM.length:=J
   have hpc:=v.ra _<|oK hlt;split
   .split
    .rename_i h3;simp only[AE,CM]at h3;refine Q3 v ok rfl rfl rfl (λp hp=> ?_);obtain h4|h4:=ML hp
     .exact old h4
     .rw[h4];have:=hpc.ac2 h3.1 h3.2.1 h3.2.2;refine .inr ⟨this,λf hu=> ?_⟩;have hb:=this.bad rfl;rw[hu]at hb;cases hb
    .exact Lx v ok
   .split
    .exact Q3 v ok rfl rfl rfl (λp hp=>old<|Yw hp)
    .split
     .have hra:∀p∈(if e.kp=0 then I8 w.AM e.wo.toNat else w.AM),p∈w.AM:=by
       intro p hp;split at hp
       .exact Yw hp
       .exact hp
      unfold Ft;split
      .rename_i hc;simp only[AE,decide_eq_true_eq]at hc;obtain⟨f,hu,hfo,_,hd,hg,_⟩:=hpc.frame hc.1;have hv:=v.hv _ (oK hlt) f hu;obtain⟨_,⟨d0,d1⟩,_⟩:=N4<|OY ok hlt;rw[hu];obtain⟨a,s,na⟩:=avI v ok (i:=(pA w.AM e.wo.toNat).dst.toNat) J hfo (by rw[← hd];omega) hg hv hra;exact⟨_,_,a,s,λ_=>by omega,fun⟨n,e⟩=>absurd e<|na n⟩
      .exact Q3 v ok rfl rfl rfl (λp hp=>old<|hra p hp)
     .exact Lx v ok
  .exact Lx v ok
 split
 .unfold Fc;split
  .exact Q3 v ok rfl rfl rfl (λp hp=>old hp)
  .exact Lx v ok
 split
 .rename_i ha;have ha:=Em ha;have hi:e.at_.toNat<4:=J
  have hok:=(ok.k _ hi).1;have lo:=v.lo _ hi;have one:∀ {k':A7},Mvd (kA w.A8 e.at_.toNat) k' .non->(∀h∈k'.AG,h∈(kA w.A8 e.at_.toNat).AG)->ap e w (Gp w e.at_.toNat k'):=λm hh=>
   ⟨_,_,_,⟨hi,m,rfl,.inl ⟨rfl,λ_ e=>(by cases e)⟩,.inl ⟨rfl,λ_ e=>(by cases e)⟩,λ_ e=>(by cases e),λ_ e=>(by cases e),λp hp=>old hp,λh hx=>v.hf _ hi h<|hh h hx⟩,fun⟨_,e⟩=>(by cases e),fun⟨_,e⟩=>(by cases e)⟩
  unfold Ig;split
  .rename_i h1;unfold MY;split
   .exact Lx v ok
   .split
    .exact Lx v ok
    .rename_i h0;have hid:=(ok.k _ hi).2;have hn:=aDn (k:=kA w.A8 e.at_.toNat) h0;have m:=awj hok lo (tt:=e.to) (un:=e.un) (tx:=e.tx) h0;have eid:(kA w.A8 e.at_.toNat).id=e.at_:=J
     rw[eid]at hn m;refine⟨_,_,_,⟨hi,m,rfl,.inr ⟨_,rfl,rfl,hn⟩,.inl ⟨rfl,λ_ e=>(by cases e)⟩,λ_ e=>(by cases e),λ_ e=>(by cases e),λp hp=>old hp,λh hx=> ?_⟩,fun⟨_,e⟩=>(by cases e),λ_=>h1⟩;rw[aaq]at hx;exact(v.hf _ hi h hx).up (λn hn=>Bz _ hn)
  .split
   .exact one (avW hok lo) (λh hx=>by rw[aGg]at hx;exact hx)
   .split
    .split
     .rename_i hb;refine Q3 v ok rfl rfl rfl (λp hp=> ?_);obtain hp|⟨x,hx,rfl⟩:=YW hp
      .exact old hp
      .rw[C1.1 hx];exact aFF λ_=>⟨aGa hok (λn hn=>v.hs _ hi n<|(lo.lf hok).held n hn) hb,λe=>by rw[ayZ hb]at e;cases e⟩
     .exact Lx v ok
    .split
     .exact one (ava hok lo _).2 (λh hx=>by cases hx)
     .split
      .exact one (avX hok lo) (λh hx=>hx)
      .split
       .unfold Mb;split
        .rename_i hc;rw[AE]at hc;exact⟨_,_,_,⟨hi,awl hok lo hc.1,rfl,.inl ⟨rfl,λ_ e=>(by cases e)⟩,.inr ⟨_,rfl,rfl⟩,λ_ e=>(by cases e),λ_ e=>(by cases e),λp hp=>old hp,λh hx=>v.hf _ hi h (by rw[abD]at hx;exact hx)⟩,fun⟨_,e⟩=>(by cases e),fun⟨_,e⟩=>(by cases e)⟩
        .exact Lx v ok
       .split
        .exact one (avY hok lo) (λh hx=>by rw[aGy]at hx;exact hx)
        .split
         .exact one (at2 hok lo) (λh hx=>by rw[aGL]at hx;exact hx)
         .exact Lx v ok
 .exact Lx v ok
def Inv.doM{w:AA}(v:Inv w)(ok:B8 w)(e:Event):Inv (doM w e).1:=by
 obtain⟨_,_,_,s,_⟩:=awJ v ok e;exact v.step ok s
def Inv.tick{w:AA}(v:Inv w)(ok:B8 w)(b:Bool):Inv (tick w b):=by
 unfold Go.VS.tick;cases b
 .exact v
 .obtain⟨_,_,_,s,_⟩:=Q3 (e:=⟨0,0,0,0,0,0,0,0,0,noB⟩) (w':=⟨w64<|w.ti+1,w.A8,w.An,w.AM,w.AX,w.got⟩) v ok rfl rfl rfl (λp hp=> .inl hp);exact v.step ok s
def Inv.sim{w:AA}(v:Inv w)(ok:B8 w)(e:Event):Inv (Cw w e):=(v.doM ok e).tick (abG ok e) _
def aI{i:Nat}(hi:i<4):stT (kA rv0.A8 i)=⟨(i:Int),0,1,[],[],[]⟩/\LO (kA rv0.A8 i)/\stD (kA rv0.A8 i)=⟨(i:Int),0,1,[],[],[]⟩:=by
 have hk:=(abt.k i hi).1;have e:=UO hi;have hf:(kA rv0.A8 i).fo=((kA rv0.A8 i).log.size:Int):=by rw[e];rfl
 have h1:=Tb hk hf;have h2:stT (kA rv0.A8 i)=⟨(i:Int),0,1,[],[],[]⟩:=by
  have l:CB (kA rv0.A8 i).log (kA rv0.A8 i).fo [] []:=by
   rw[e];exact⟨λr hr=>(by cases hr),(by show noB.size<=2400;decide),rfl,rfl⟩
  have:=(E7 hk).st;rw[l.state]at this;rw[e]at this;unfold Cd kp0 at this;rw[A5<|Ih hi]at this;rw[e];exact(E5 this).symm
 exact⟨h2,h1.1,h1.2.trans h2⟩
def ayj:Inv rv0:=by
 refine⟨λi hi=>(aI hi).2.1,λi hi n hn=> ?_,λi hi n hn=> ?_,λn hn=>(by cases hn),.nil,.nil,λg hg=>(by cases hg),λn hn=>(by cases hn),λi hi m hm=> ?_,λp hp=>(by cases hp),λp hp=>(by cases hp),λi hi h hh=> ?_⟩
 .unfold sD at hn;rw[(aI hi).2.2]at hn;cases hn
 .unfold sT at hn;rw[(aI hi).1]at hn;cases hn
 .unfold sT at hm;rw[(aI hi).1]at hm;cases hm
 .rw[UO hi]at hh;cases hh
def BS(w:AA)(e:Event):AA:=(HD w e).1
def Ir(w:AA)(l:List Event):AA:=l.foldl BS w
def asm(w:AA)(l m:List Event):Ir w (l++m)=Ir (Ir w l) m:=Fg
def kS(l:List A7)(i:Nat): @rd A7 aG8 l (i:Int)=kA l i:=rfl
def TN(n:Nat):U ((n:Int)<(n:Int))=A0:=by simp
def eBr:Event:=⟨4,0,0,0,0,0,0,0,0,noB⟩
def eMx(i fr nu b:Int):Event:=⟨3,i,fr,nu,0,b,0,0,0,noB⟩
def eRi(i:Int):Event:=⟨8,i,0,0,0,0,0,0,0,noB⟩
def eOp(i:Int):Event:=⟨9,i,0,0,0,0,0,0,0,noB⟩
def dlv:Nat->AA->AA
 | 0,w=>w
 | n+1,w=>if w.AM.length=0 then w else dlv n (BS w eBr)
def QO{w:AA}(h:w.AM=[])(n:Nat):dlv n w=w:=by
 cases n with
 | zero=>rfl
 | succ n=>unfold dlv;rw[A5 (by rw[h];rfl)]
structure Cm (w:AA):Prop where
 ok:As w=Y
 inv:Inv w
 li:∀i,i<3->bA w.An i=Y
 up:∀i,i<4->(kA w.A8 i).up=Y
def ZJ{w:AA}{e:Event}(h:As w=Y)(ht:w.ti<99999)(hd:(doM w e).2=Y):
  BS w e=⟨w.ti+1,(doM w e).1.A8,(doM w e).1.An,(doM w e).1.AM,(doM w e).1.AX,(doM w e).1.got⟩:=by
 have t0:=(FY h).2.1;have e1:BS w e=Cw w e:=by
  unfold BS HD;rw[A5 h,A9 (by rw[BH (J:¬99999<=w.ti)];exact CF),A5 hd]
 rw[e1,aai hd,AU J J]
def ZI{w:AA}{e:Event}(h:As w=Y)(hd:(doM w e).2=A0):BS w e=w:=by
 unfold BS HD;rw[A5 h,hd,A4];split<;>rfl
structure Ofr (T:Nat) (w w':AA) (i j:Nat) (n:A3):Prop where
 cm:Cm w'
 ra:w'.AM=[]
 se:w'.AX=w.AX
 go:w'.got=w.got
 t0:w.ti<=w'.ti
 t1:w'.ti<=w.ti+T
 clk:∀k,k<4->(sT w' k).ti=(sT w k).ti
 hi:∀x∈(sT w' i).held,x∈(sT w i).held
 hj:∀x∈(sT w' j).held,x∈(sT w j).held\/x=n
 ot:∀k,k≠i->k≠j->kA w'.A8 k=kA w.A8 k
 st:n.un<=(sT w j).ti->w'.A8=w.A8
def Ofr.rfl{w:AA}(c:Cm w)(hr:w.AM=[])(i j:Nat)(n:A3):Ofr 0 w w i j n:=⟨c,hr,Hn _,Hn _,Dw _,J,λ_ _=>Hn _,λ_ h=>h,λ_ h=> .inl h,λ_ _ _=>Hn _,λ_=>Hn _⟩
def Ofr.trans{T S:Nat}{a b c:AA}{i j:Nat}{n:A3}(hj4:j<4)(h:Ofr T a b i j n)(g:Ofr S b c i j n):Ofr (T+S) a c i j n:=
 ⟨g.cm,g.ra,g.se.trans h.se,g.go.trans h.go,Qy h.t0 g.t0,by have:=h.t1;have:=g.t1;omega,λk hk=>(g.clk k hk).trans<|h.clk k hk,λx hx=>h.hi x<|g.hi x hx,
  λx hx=>by obtain e|e:=g.hj x hx;exact h.hj x e;exact .inr e,λk h1 h2=>(g.ot k h1 h2).trans<|h.ot k h1 h2,λhs=>(g.st (by rw[h.clk j hj4];exact hs)).trans<|h.st hs⟩
def Ofr.up{T S:Nat}{w w':AA}{i j:Nat}{n:A3}(h:Ofr T w w' i j n)(hS:T<=S):Ofr S w w' i j n:=⟨h.cm,h.ra,h.se,h.go,h.t0,by have:=h.t1;omega,h.clk,h.hi,h.hj,h.ot,h.st⟩
def EB(i:Nat)(n:A3)(w:AA)(b:Nat):AA:=dlv 400<|BS w<|eMx i n.fr n.nu b
def GI(i:Nat)(w:AA)(n:A3):AA:=(B1<|(n.tx.size+3) / 4).foldl (EB i n) w
def stk(w:AA)(n:A3)(i:Nat):Prop:=n.un<=(sT w (Bu i n.to).toNat).ti
structure Cal (T:Nat) (w w':AA):Prop where
 cm:Cm w'
 ra:w'.AM=[]
 se:w'.AX=w.AX
 go:w'.got=w.got
 t0:w.ti<=w'.ti
 t1:w'.ti<=w.ti+T
 clk:∀k,k<4->(sT w' k).ti=(sT w k).ti
def Cal.rfl{w:AA}(c:Cm w)(hr:w.AM=[]):Cal 0 w w:=⟨c,hr,Hn _,Hn _,Dw _,J,λ_ _=>Hn _⟩
def Cal.trans{T S:Nat}{a b c:AA}(h:Cal T a b)(g:Cal S b c):Cal (T+S) a c:=
 ⟨g.cm,g.ra,g.se.trans h.se,g.go.trans h.go,Qy h.t0 g.t0,by have:=h.t1;have:=g.t1;omega,λk hk=>(g.clk k hk).trans<|h.clk k hk⟩
def Cal.up{T S:Nat}{w w':AA}(h:Cal T w w')(hS:T<=S):Cal S w w':=⟨h.cm,h.ra,h.se,h.go,h.t0,by have:=h.t1;omega,h.clk⟩
structure Trn (T:Nat) (w w':AA) (i:Nat) (L:List A3):Prop where
 ca:Cal T w w'
 hi:∀x∈(sT w' i).held,x∈(sT w i).held
 ot:∀k,k<4->k≠i->∀x∈(sT w' k).held,x∈(sT w k).held\/(x∈L/\Bu i x.to=(k:Int))
 dn:∀n∈L,n ∉ (sT w' i).held\/stk w n i
 st:(∀n∈L,stk w n i)->w'.A8=w.A8
def Gq(w:AA)(i:Nat):AA:=(sT w i).held.foldl (GI i) w
def UK(w:AA):AA:=Gq (Gq (Gq (Gq w 0) 1) 2) 3
structure Pre (T:Nat) (w w':AA):Prop where
 ok:As w'=Y
 inv:Inv w'
 se:w'.AX=w.AX
 go:w'.got=w.got
 t0:w.ti<=w'.ti
 t1:w'.ti<=w.ti+T
 st:∀k,sT w' k=sT w k
 up:∀k,(kA w.A8 k).up=Y->(kA w'.A8 k).up=Y
 li:∀i,i<3->bA w.An i=Y->bA w'.An i=Y
def opn(w:AA):AA:=[0,1,2,3].foldl (λw (i:Nat)=>BS (BS w<|eRi i)<|eOp i) w
structure Dlv (T:Nat) (w w':AA):Prop where
 ok:As w'=Y
 inv:Inv w'
 se:w'.AX=w.AX
 go:w'.got=w.got
 t0:w.ti<=w'.ti
 t1:w'.ti<=w.ti+T
 clk:∀k,k<4->(sT w' k).ti=(sT w k).ti
 up:∀k,(kA w'.A8 k).up=(kA w.A8 k).up
 li:w'.An=w.An
def Eu(w:AA):AA:=UK<|dlv 400<|opn w
def D1:Nat->AA->AA
 | 0,w=>w
 | n+1,w=>if w.ti<79999 then D1 n (Eu w) else w
def So{w:AA}(ht:w.ti<79999)(n:Nat):D1 (n+1) w=D1 n (Eu w):=by
 show(if w.ti<79999 then D1 n (Eu w) else w)=_;rw[A5 ht]
def HS{w:AA}(h:As w=Y)(e:Event):As (BS w e)=Y:=by
 unfold BS;obtain⟨h0,_⟩|⟨_,h0⟩|⟨_,h1,h2,h0⟩:=Sc w e
 .rw[h]at h0;cases h0
 .rw[h0];exact h
 .rw[h0];exact aFf h h1 h2
def aFa{w:AA}(h:As w=Y)(e:Event):w.ti<=(BS w e).ti/\(BS w e).ti<=w.ti+1:=by
 have t0:=(FY h).2.1;unfold BS;obtain⟨h0,_⟩|⟨_,h0⟩|⟨_,h1,h2,h0⟩:=Sc w e
 .rw[h]at h0;cases h0
 .rw[h0];show w.ti<=w.ti/\w.ti<=w.ti+1;omega
 .rw[h0];show w.ti<=(Cw w e).ti/\(Cw w e).ti<=w.ti+1;rw[ZL h2,AU J J];omega
def aEU:∀(l:List Event) {w:AA},As w=Y->As (Ir w l)=Y/\w.ti<=(Ir w l).ti/\(Ir w l).ti<=w.ti+l.length
 | [],w,h=>⟨h,Dw _,by show w.ti<=w.ti+((0:Nat):Int);omega⟩
 | e::l,w,h=>by
  obtain⟨a,b⟩:=aFa h e;obtain⟨c,d,f⟩:=aEU l<|HS h e;have f:(Ir w<|e::l).ti<=(BS w e).ti+l.length:=f;exact⟨c,Qy a d,by rw[Bm];omega⟩
def Bx(w w':AA):Prop:=∃l:List Event,(∀e∈l,e.tx.size<=1048576)/\w'=Ir w l
def Bx.rfl(w:AA):Bx w w:=⟨[],λ_ h=>(by cases h),Hn _⟩
def Bx.trans{a b c:AA}(h:Bx a b)(g:Bx b c):Bx a c:=by
 obtain⟨l,hl,rfl⟩:=h;obtain⟨m,hm,rfl⟩:=g;exact⟨l++m,λe he=>(by obtain he|he:=BN.1 he;exact hl e he;exact hm e he),(asm a l m).symm⟩
def Bx.one(w:AA)(e:Event)(h:e.tx.size<=1048576):Bx w (BS w e):=⟨[e],λx hx=>by rw[C1.1 hx];exact h,Hn _⟩
def Jy:noB.size<=1048576:=by decide
def Bx.dlv:∀(m:Nat) (w:AA),Bx w<|dlv m w
 | 0,w=>Bx.rfl w
 | m+1,w=>by
  unfold Go.VS.dlv;split
  .exact Bx.rfl w
  .exact(Bx.one w eBr Jy).trans<|Bx.dlv m _
def Bx.fold{α:Type}{f:AA->α->AA}(h:∀w a,Bx w<|f w a):∀(l:List α) (w:AA),Bx w<|l.foldl f w
 | [],w=>Bx.rfl w
 | a::l,w=>(h w a).trans (Bx.fold h l _)
def Bx.Gq(w:AA)(i:Nat):Bx w (Gq w i):=Bx.fold (λw n=>Bx.fold (λw b=>(Bx.one w _ Jy).trans<|Bx.dlv 400 _) _ w) _ w
def Bx.rnd(w:AA):Bx w (Eu w):=by
 unfold Eu opn UK;refine Bx.trans (Bx.fold (λw (i:Nat)=>(Bx.one w (eRi i) Jy).trans<|Bx.one _ (eOp i) Jy) [0,1,2,3] w) ?_;exact((((Bx.dlv 400 _).trans<|Bx.Gq _ 0).trans<|Bx.Gq _ 1).trans<|Bx.Gq _ 2).trans<|Bx.Gq _ 3
def Bx.calm:∀(m:Nat) (w:AA),Bx w<|D1 m w
 | 0,w=>Bx.rfl w
 | m+1,w=>by
  unfold D1;split
  .exact(Bx.rnd w).trans (Bx.calm m _)
  .exact Bx.rfl w
def Bx.rok{w w':AA}(r:Bx w w')(h:As w=Y):As w'=Y:=by
 obtain⟨l,_,rfl⟩:=r;exact(aEU l h).1
def aqx{l:List Event}{w:AA}(h:As w=Y)(r:Reach l w){e:Event}(ht:e.tx.size<=1048576):∃l',Reach l' (BS w e):=by
 unfold BS;obtain⟨h0,_⟩|⟨_,h0⟩|⟨_,h1,h2,h0⟩:=Sc w e
 .rw[h]at h0;cases h0
 .rw[h0];exact⟨l,r⟩
 .rw[h0];exact⟨_,r.snoc h2 ht⟩
def aCK:∀(m:List Event) {l:List Event} {w:AA},As w=Y->Reach l w->(∀e∈m,e.tx.size<=1048576)->∃l',Reach l'<|Ir w m
 | [],l,_,_,r,_=>⟨l,r⟩
 | e::m,_,w,h,r,hm=>by
  obtain⟨l',r'⟩:=aqx h r<|hm e<|.head _;exact aCK m (HS h e) r' λx hx=>hm x<|.tail _ hx
def Bx.reach{l:List Event}{w w':AA}(g:Bx w w')(h:As w=Y)(r:Reach l w):∃l',Reach l' w':=by
 obtain⟨m,hm,rfl⟩:=g;exact aCK m h r hm
def Kps(k k':AL):Prop:=(∀m∈k.marks,m∈k'.marks)/\ ∀n∈k.inbox,n∈k'.inbox
structure Kpt (x y:AA):Prop where
 cm:Cm y
 ra:y.AM=[]
 se:y.AX=x.AX
 go:y.got=x.got
 t0:x.ti<=y.ti
 bey:∀n∈x.AX,∀i,Bey x i n->Bey y i n
 kp:∀k,k<4->Kps (sT x k) (sT y k)
structure Gd (x w:AA):Prop where
 ok:As w=Y
 inv:Inv w
 ra:w.AM=x.AM
 li:w.An=x.An
 t1:x.ti<=w.ti
 st:∀k,k<4->sT w k=sT x k
def aZ{w:AA}(h:As w=Y){e:Event}(ht:e.tx.size<=1048576):Jm (tR w,tE e,())=I ((tR<|BS w e,(HD w e).2,()),()):=by
 obtain⟨a,b,c⟩:=FY h;rw[anJ a b c ht];unfold BS HD;rw[A5 h]
def ay0{w:AA}(h:As w=Y):Jm (tR w,(4,0,0,0,0,0,0,0,0,noB,()),())=I ((tR<|BS w eBr,(HD w eBr).2,()),()):=aZ h (e:=eBr) Jy
def axz{w:AA}(h:As w=Y)(i fr nu b:Int):Jm (tR w,(3,i,fr,nu,0,b,0,0,0,noB,()),())=I ((tR<|BS w<|eMx i fr nu b,(HD w<|eMx i fr nu b).2,()),()):=aZ h (e:=eMx i fr nu b) Jy
def axx{w:AA}(h:As w=Y)(i:Int):Jm (tR w,(8,i,0,0,0,0,0,0,0,noB,()),())=I ((tR<|BS w<|eRi i,(HD w<|eRi i).2,()),()):=aZ h (e:=eRi i) Jy
def axy{w:AA}(h:As w=Y)(i:Int):Jm (tR w,(9,i,0,0,0,0,0,0,0,noB,()),())=I ((tR<|BS w<|eOp i,(HD w<|eOp i).2,()),()):=aZ h (e:=eOp i) Jy
def atX{w:AA}(h:As w=Y){e:Event}(hr:(HD w e).2=A0):BS w e=w:=by
 unfold BS;obtain⟨h0,_⟩|⟨_,h0⟩|⟨_,_,_,h0⟩:=Sc w e
 .rw[h]at h0;cases h0
 .rw[h0]
 .rw[h0]at hr;cases hr
def oC{w:AA}(h:BS w eBr=w):∀m,dlv m w=w
 | 0=>rfl
 | m+1=>by
  unfold dlv;rw[h,oC h m];split<;>rfl
def abJ:∀(m:Nat) {w:AA},As w=Y->m<=400->V0 (tR w,tR zR,((400 - m:Nat):Int),())=I (.inr (tR<|dlv m w,tR zR,()))
 | 0,w,_,_=>BC (by
  unfold Rr;rw[A9 (by show ¬(U (((400 - 0:Nat):Int)<400)&&_)=Y;rw[show U (((400 - 0:Nat):Int)<400)=A0 from rfl,AO];exact CF)];rfl)
 | m+1,w,h,hm=>by
  have hlt:U (((400 - (m+1):Nat):Int)<400)=Y:=AR J;by_cases hr:w.AM.length=0
  .refine BC ?_;unfold Rr;have:U ((0:Int)<(w.AM.length:Int))=A0:=BH J;rw[A9 (by show ¬(_&&U ((0:Int)<(w.AM.length:Int)))=Y;rw[this,BX];exact CF)];rw[QO<|Df hr]
  .have PV:U ((0:Int)<(w.AM.length:Int))=Y:=AR J;have hh:=ay0 h;have hdl:dlv (m+1) w=dlv m (BS w eBr):=by
    show(if w.AM.length=0 then w else dlv m (BS w eBr))=_;rw[A9 hr]
   have hb:∀(b:Bool),(HD w eBr).2=b->Rr (tR w,tR zR,((400 - (m+1):Nat):Int),())=if b then I (.inl (tR<|BS w eBr,tR zR,((400 - m:Nat):Int),())) else I (.inr<|.inr (tR w,tR zR,())):=λb hb=>by
    unfold Rr;rw[A5 (by show(U (((400 - (m+1):Nat):Int)<400)&&U ((0:Int)<(w.AM.length:Int)))=Y;rw[hlt,PV];rfl)];simp only[hh,A6,hb];have ew:w64 (((400 - (m+1):Nat):Int)+1)=((400 - m:Nat):Int):=by rw[AU J J];omega
    simp only[ew];cases b<;>rfl
   obtain c|c:=tf (HD w eBr).2
   .rw[hdl];exact At (by have:=hb Y c;simpa using this) (abJ m (HS h eBr) J)
   .have hf:=atX h c;rw[hdl,hf,oC hf];exact BC (by have:=hb A0 c;simpa using this)
def yC{w:AA}(h:As w=Y):Rz (tR w,())=I ((tR<|dlv 400 w,()),()):=by
 have:V0 (tR w,tR zR,0,())=_:=abJ 400 h<|Ar _;unfold Rz;rw[show V0 _=_ from this];rfl
def Tq{w:AA}(h:As w=Y)(i:Nat)(n:A3)(b:Nat):As (EB i n w b)=Y:=(Bx.dlv 400<|BS w<|eMx i n.fr n.nu b).rok<|HS h _
def OX{α:Type}{f:AA->α->AA}(hf:∀w a,As w=Y->As (f w a)=Y):∀(l:List α) {w:AA},As w=Y->As (l.foldl f w)=Y
 | [],_,h=>h
 | a::l,w,h=>OX hf l (hf w a h)
def Yn{w:AA}(h:As w=Y)(i:Nat)(n:A3):As (GI i w n)=Y:=OX (λw b h=>Tq h i n b) _ h
def ayg{w:AA}(h:As w=Y)(i:Nat)(n:A3)(L:List A3)(a b:Int){B:Nat}(hB:B<=1000):
  dW (tR w,tR zR,(i:Int),(n.fr,n.nu,n.to,n.un,n.tx,()),L,a,b,(B:Int),0,())=I (.inr (tR<|(B1 B).foldl (EB i n) w,tR zR,(i:Int),L,a,b,())):=
 CX (λj=>(tR<|(B1 j).foldl (EB i n) w,tR zR,(i:Int),(n.fr,n.nu,n.to,n.un,n.tx,()),L,a,b,(B:Int),(j:Int),())) B (λj hj=>by
  have hx:=OX (λw b h=>Tq h i n b) (B1 j) h;have h1:=axz hx i n.fr n.nu j;have h2:=yC<|HS hx<|eMx i n.fr n.nu j;unfold gu;simp only[BK hj,A2,h1,h2,A6,BA hj (by omega:B<=9223372036854775807)];rw[Hl,Fg];rfl) (by
  unfold gu;simp only[TN,A4])
def ayh{w:AA}(h:As w=Y)(i:Nat)(L:List A3)(hL:L.length<=1000)(hn:∀n∈L,Aw n=Y):
  dX (tR w,tR zR,(i:Int),L,(L.length:Int),0,())=I (.inr (tR<|L.foldl (GI i) w,tR zR,(i:Int),())):=by
 have:=CX (b:=Wb) (y:= .inr (tR<|(L.take L.length).foldl (GI i) w,tR zR,(i:Int),())) (λj=>(tR<|(L.take j).foldl (GI i) w,tR zR,(i:Int),L,(L.length:Int),(j:Int),())) L.length (λj hj=>by
  have hx:=OX (λw n h=>Yn h i n) (L.take j) h;have hm:=HU hj;have htx:=L4<|hn _ hm;have hc:=ab4 htx;have amQ:=Aa.1 htx;have h3:=ayg hx i (nA L j) L (L.length:Int) (j:Int) (B:=((nA L j).tx.size+3) / 4) J;unfold Wb;simp only[BK hj,AY hj,A2,DQ,aB8,A6,hc];rw[show dW _=_ from h3];simp only[CU,BA hj (by omega:L.length<=9223372036854775807)];rw[show L.take (j+1)=L.take j++[nA L j] by rw[JW,Av hj,DT<|Av hj];rfl,Fg];rfl) (by
  unfold Wb;simp only[TN,A4])
 rw[EG]at this;exact this
def QJ{w:AA}(h:As w=Y)(i:Nat):As (Gq w i)=Y:=OX (λw n h=>Yn h i n) _ h
def an{w:AA}(h:As w=Y){i:Nat}(hi:i<4):Wc (tR w,tR zR,(i:Int),())=I (.inl (tR<|Gq w i,tR zR,((i+1:Nat):Int),())):=by
 have ok:=(FY h).1;have kl:=ok.kl;have kf:=C2<|FI ok hi;have h2:=ayh h i (stT<|kA w.A8 i).held (by have:=kf.hl;unfold sT at this;omega) (λn hn=>OD kf.h hn);unfold Wc;simp only[AR<|show(i:Int)<4 by omega,A2,AY (J:i<w.A8.length),kS,Mn (ok.k i hi).1,A6];rw[show dX _=_ from h2];simp only[CU,AU (n:=(i:Int)+1) J J];rfl
def ao{w:AA}(h:As w=Y){i:Nat}(hi:i<4):Wd (tR w,tR zR,(i:Int),())=I (.inl (tR<|BS (BS w<|eRi i)<|eOp i,tR zR,((i+1:Nat):Int),())):=by
 have h1:=axx h i;have h2:=axy (HS h<|eRi i) i;unfold Wd;simp only[AR<|show(i:Int)<4 by omega,A2,h1,h2,A6,AU (n:=(i:Int)+1) J J];rfl
def aqi{w:AA}(h:As w=Y):X5 (tR w,())=I ((tR<|Eu w,()),()):=by
 have st:∀(w:AA) (i:Nat),As w=Y->As (BS (BS w<|eRi i)<|eOp i)=Y:=λw i h=>HS (HS h _) _;have o0:=st _ 0 h;have o1:=st _ 1 o0;have o2:=st _ 2 o1;have o3:=st _ 3 o2;have e0:dZ (tR w,tR zR,0,())=I (.inr (tR<|opn w,tR zR,())):=
  At (ao h (i:=0) J) (At (ao o0 (i:=1) J)<|At (ao o1 (i:=2) J)<|At (ao o2 (i:=3) J)<|BC (by unfold Wd;rfl))
 have d:=yC (w:=opn w) o3;have od:As (dlv 400<|opn w)=Y:=(Bx.dlv 400<|opn w).rok o3;have k0:=QJ od 0;have k1:=QJ k0 1;have k2:=QJ k1 2;have e1:dY (tR<|dlv 400<|opn w,tR zR,0,())=I (.inr (tR<|Eu w,tR zR,())):=
  At (an od (i:=0) J) (At (an k0 (i:=1) J)<|At (an k1 (i:=2) J)<|At (an k2 (i:=3) J)<|BC (by unfold Wc;rfl))
 unfold X5;rw[show dZ _=_ from e0];simp only[CU];rw[show Rz _=_ from d];simp only[A6];rw[show dY _=_ from e1];rfl
def aFm{w:AA}(h:As w=Y):As (Eu w)=Y:=(Bx.rnd w).rok h
def aa5(r:Nat)(hr:r<=20):∀(m:Nat) {w:AA},As w=Y->m<=r->Pc ((r:Int),tR zR,tR w,((r - m:Nat):Int),())=I (.inr (tR zR,tR<|D1 m w,()))
 | 0,w,_,_=>BC (by
  unfold Rv;have:U (((r - 0:Nat):Int)<(if(20:Int)<(r:Int) then 20 else(r:Int)))=A0:=by
   rw[A9 J];exact BH J
  rw[A9 (by show ¬(U (((r - 0:Nat):Int)<(if(20:Int)<(r:Int) then 20 else(r:Int)))&&_)=Y;rw[this,AO];exact CF)];rfl)
 | m+1,w,h,hm=>by
  have hlt:U (((r - (m+1):Nat):Int)<(if(20:Int)<(r:Int) then 20 else(r:Int)))=Y:=by
   rw[A9 J];exact AR J
  by_cases ht:w.ti<79999
  .rw[So ht];refine At (x':=((r:Int),tR zR,tR<|Eu w,((r - m:Nat):Int),())) ?_<|aa5 r hr m (aFm h) J;unfold Rv;rw[A5 (by show(U (((r - (m+1):Nat):Int)<(if(20:Int)<(r:Int) then 20 else(r:Int)))&&U (w.ti<79999))=Y;rw[hlt,AR ht];rfl)];rw[show X5 _=_ from aqi h];simp only[A6];have ew:w64 (((r - (m+1):Nat):Int)+1)=((r - m:Nat):Int):=by rw[AU J J];omega
   simp only[ew]
  .have e:D1 (m+1) w=w:=by
    show(if w.ti<79999 then D1 m (Eu w) else w)=w;rw[A9 ht]
   rw[e];refine BC ?_;unfold Rv;rw[A9 (by show ¬(_&&U (w.ti<79999))=Y;rw[BH ht,BX];exact CF)]
def df{w:AA}(h:As w=Y){r:Nat}(hr:r<=20):IU (tR w,(r:Int),())=I ((tR<|D1 r w,()),()):=by
 have sm:=(FY h).1.sm;have g:=aa5 r hr r h<|Ar _;rw[LJ]at g;have g:Pc ((r:Int),tR zR,tR w,0,())=_:=g;unfold IU;rw[show Mp (tR w,())=_ from WQ sm];simp only[A6,show FW w.ti w.A8 w.An w.AM w.AX w.got=Y from h,AB,A4];rw[show Jn (tR w,())=_ from Ry sm];simp only[A6];rw[show Pc _=_ from g];rfl
def axg{w:AA}{e:Event}(hk:e.ki=3\/e.ki=4\/e.ki=8\/e.ki=9)(ho:(doM w e).2=A0):(doM w e).1=w:=by
 unfold doM at ho ⊢;split
 .rename_i h1;rw[A5 h1]at ho;unfold Dx at ho ⊢;split
  .rename_i h2;rw[A5 h2]at ho;rw[A9 J,A9 J]at ho ⊢;split
   .rename_i h3;rw[A5 h3]at ho;cases ho
   .rfl
  .rfl
 .rename_i h1;rw[A9 h1]at ho;split
  .rename_i h2;rw[A5 h2]at ho;unfold Fc at ho ⊢;split
   .rename_i h3;rw[A5 h3]at ho;cases ho
   .rfl
  .rename_i h2;rw[A9 h2]at ho;split
   .rename_i h3;rw[A5 h3]at ho;unfold Ig at ho ⊢;rw[A9 J,A9 J]at ho ⊢;split
    .rename_i h4;rw[A5 h4]at ho;split
     .rename_i h5;rw[A5 h5]at ho;cases ho
     .rfl
    .rename_i h4;rw[A9 h4,A9 J,A5 J]at ho;rw[A9 J,A5 J];have hu:(kA w.A8 e.at_.toNat).up=Y:=by simpa using ho
     exact QB (aGp hu)
   .rfl
def XK{w:AA}(h:As w=Y)(ht:w.ti<99999){e:Event}(tx:e.tx.size<=1048576)(hk:e.ki=3\/e.ki=4\/e.ki=8\/e.ki=9):
  Kq (tR w,tE e,())=I ((tR<|BS w e,()),()):=by
 have ok:=(FY h).1;have t0:=(FY h).2.1;have ewt:w64 (w.ti+1)=w.ti+1:=AU J J;have on:=λc=>ZJ (e:=e) h ht c;have off:=λc=>ZI (e:=e) h c;unfold Kq;refine abb (w:=w) ok (e:=e) tx (λc=> ?_) (λc _=> ?_) (λk b c=> ?_) (λra c=> ?_) (λc=> ?_)
 .rw[on c];show I (((w64<|w.ti+1,_),()),())=_;rw[ewt]
 .rw[off c]
 .cases b
  .have c2:(doM w e).2=A0:=by rw[c]
   have c3:=axg hk c2;rw[c]at c3;rw[off c2];have e3:w.A8.set e.at_.toNat k=w.A8:=congrArg AA.A8 c3;show I (((w.ti,w.A8.set e.at_.toNat k,_),()),())=_;rw[e3]
  .rw[on<|by rw[c],c];show I (((w64<|w.ti+1,_),()),())=_;rw[ewt];rfl
 .rw[on<|by rw[c],c];show I (((w64<|w.ti+1,_),()),())=_;rw[ewt]
 .rw[off<|by rw[c]];rfl
def phP(p:AK):Nat:=if(Cb<|B9 p.data).2=Y/\(Cb<|B9 p.data).1.ki=1 then 2 else 1
def phL:List AK->Nat
 | []=>0
 | p::l=>phP p+phL l
def aGw(p:AK):1<=phP p/\phP p<=2:=by unfold phP;split<;>omega
def aan:∀l:List AK,phL l<=2 * l.length
 | []=>Ar _
 | p::l=>by
  have:=aan l;have:=aGw p;show phP p+phL l<=2 * (l.length+1);omega
def aGx:∀l m:List AK,phL (l++m)=phL l+phL m
 | [],m=>by show phL m=0+phL m;omega
 | p::l,m=>by
  show phP p+phL (l++m)=phP p+phL l+phL m;rw[aGx l m];omega
def axq{f:Frame}(h:By f=Y)(h1:f.ki=1){n:Int}(hn:n=2\/n=3):phP (pcF<|Cs n f)=1:=by
 unfold phP;rw[A9];intro c;have e:Cb (B9 (pcF<|Cs n f).data)=(Cs n f,Y):=by
  show Cb (B9<|BF<|Cf<|Cs n f)=_;rw[OG<|OO _];exact XX<|oU h h1 hn
 rw[e]at c;have:n=1:=c.2;omega
def az1{w:AA}(p:AK)(ps:List AK):phL (Ft w p ps).AM+1<=phL (p::ps):=by
 have hp:=aGw p;show _<=phP p+phL ps;unfold Ft;split
 .rename_i hc;rw[AE]at hc;show phL (CC ps _)+1<=_;obtain h|⟨h1,h2,_,n,h4,h5⟩:=lJ (kA w.A8 p.dst.toNat) (Cb<|B9 p.data).1
  .rw[h];unfold CC;rw[List.take_nil,IK,CE];omega
  .rw[h5];have e2:phP p=2:=by
    unfold phP;rw[A5 ⟨hc.1,h2⟩]
   unfold CC;rw[aGx];have:phL (([Cs n (Cb<|B9 p.data).1].take<|30 - ps.length).map pcF)<=1:=by
    obtain c|c:=U6 (30 - ps.length)
    .rw[c];exact Ch _
    .rw[J2 (by show 1<=_;omega)];show phP _+0<=1;rw[axq h1 h2 h4];decide
   omega
 .show phL ps+1<=_;omega
def ab8{w:AA}(h:As w=Y)(hr:w.AM.length≠0):BS w eBr=w\/((BS w eBr).ti=w.ti+1/\phL (BS w eBr).AM+1<=phL w.AM):=by
 obtain⟨c,_⟩|⟨_,c⟩|⟨_,c1,c2,_⟩:=Sc w eBr
 .rw[h]at c;cases c
 .left;unfold BS;rw[c]
 .right;rw[ZJ h c1 c2];refine⟨rfl, ?_⟩;show phL (doM w eBr).1.AM+1<=_;obtain⟨p,ps,e⟩:∃p ps,w.AM=p::ps:=by
   cases e:w.AM with
   | nil=>rw[e]at hr;exact absurd rfl hr
   | cons p ps=>exact⟨p,ps,rfl⟩
  have hd:(doM w eBr).1=Ft w p ps:=by
   unfold doM at c2 ⊢;rw[A5<|.inl rfl]at c2 ⊢;unfold Dx at c2 ⊢;split at c2
   .rename_i h1;rw[A9<|show ¬eBr.ki=6 by decide,A9<|show ¬eBr.ki=5 by decide]at c2;rw[A5 h1,A9<|show ¬eBr.ki=6 by decide,A9<|show ¬eBr.ki=5 by decide];split at c2
    .rename_i h2;rw[A5 h2,A5<|show eBr.kp=0 from rfl];have e1:pA w.AM eBr.wo.toNat=p:=by rw[e];rfl
     have e2:I8 w.AM eBr.wo.toNat=ps:=by rw[e];rfl
     rw[e1,e2]
    .cases c2
   .cases c2
  rw[hd,e];exact az1 p ps
def abI:∀(m:Nat) {w:AA},As w=Y->(dlv m w).ti<=w.ti+phL w.AM
 | 0,w,_=>by show w.ti<=_;omega
 | m+1,w,h=>by
  unfold dlv;split
  .omega
  .rename_i hr;obtain c|⟨c1,c2⟩:=ab8 h hr
   .rw[c,oC c m];omega
   .have:=abI m<|HS h eBr;omega
def abf{w:AA}(h:As w=Y):phL w.AM<=60:=by
 have:=aan w.AM;have:=(FY h).1.rl;omega
def abK{w:AA}(h:As w=Y)(m:Nat):(dlv m w).ti<=w.ti+60:=by
 have:=abI m h;have:=abf h;omega
def aAu:∀(m:Nat) {w:AA},As w=Y->m<=400->w.ti+phL w.AM<99999->V4 (tR w,tR zR,((400 - m:Nat):Int),())=I (.inr (tR<|dlv m w,tR zR,()))
 | 0,w,_,_,_=>BC (by
  unfold Vr;rw[A9 (by show ¬(U (((400 - 0:Nat):Int)<400)&&_)=Y;rw[show U (((400 - 0:Nat):Int)<400)=A0 from rfl,AO];exact CF)];rfl)
 | m+1,w,h,hm,ht=>by
  have hlt:U (((400 - (m+1):Nat):Int)<400)=Y:=AR J;by_cases hr:w.AM.length=0
  .refine BC ?_;unfold Vr;have:U ((0:Int)<(w.AM.length:Int))=A0:=BH J;rw[A9 (by show ¬(_&&U ((0:Int)<(w.AM.length:Int)))=Y;rw[this,BX];exact CF)];rw[QO<|Df hr]
  .have PV:U ((0:Int)<(w.AM.length:Int))=Y:=AR J;have hd:Kq (tR w,(4,0,0,0,0,0,0,0,0,noB,()),())=_:=XK h J (e:=eBr) Jy<|.inr<|.inl rfl;have hdl:dlv (m+1) w=dlv m (BS w eBr):=by
    show(if w.AM.length=0 then w else dlv m (BS w eBr))=_;rw[A9 hr]
   have ht':(BS w eBr).ti+phL (BS w eBr).AM<99999:=by
    obtain c|⟨c1,c2⟩:=ab8 h hr
    .rw[c];exact ht
    .omega
   rw[hdl];refine At ?_<|aAu m (HS h eBr) J ht';unfold Vr;rw[A5 (by show(U (((400 - (m+1):Nat):Int)<400)&&U ((0:Int)<(w.AM.length:Int)))=Y;rw[hlt,PV];rfl)];have ew:w64 (((400 - (m+1):Nat):Int)+1)=((400 - m:Nat):Int):=by rw[AU J J];omega
   simp only[hd,A6,ew]
def aBh{w:AA}(h:As w=Y)(ht:w.ti+60<99999):S5 (tR w,())=I ((tR<|dlv 400 w,()),()):=by
 have:V4 (tR w,tR zR,0,())=_:=aAu 400 h (Ar _) (by have:=abf h;omega);unfold S5;rw[show V4 _=_ from this];rfl
def TC{w:AA}(h:As w=Y)(e:Event):(BS w e).ti<=w.ti+1:=(aFa h e).2
def aGU{w:AA}(h:As w=Y)(i:Nat)(n:A3)(b:Nat):(EB i n w b).ti<=w.ti+61:=by
 have:=TC h<|eMx i n.fr n.nu b;have:=abK (HS h<|eMx i n.fr n.nu b) 400;show(dlv 400 _).ti<=_;omega
def o9{α:Type}{f:AA->α->AA}{c:Int}(hf:∀w a,As w=Y->As (f w a)=Y)(ht:∀w a,As w=Y->(f w a).ti<=w.ti+c):∀(l:List α) {w:AA},As w=Y->(l.foldl f w).ti<=w.ti+c * l.length
 | [],w,_=>by show w.ti<=w.ti+c * 0;rw[Int.mul_zero];omega
 | a::l,w,h=>by
  have h1:=o9 hf ht l<|hf w a h;have h2:=ht w a h;show(l.foldl f<|f w a).ti<=w.ti+c * ((l.length+1:Nat):Int);rw[show((l.length+1:Nat):Int)=(j8 l:Int)+1 from rfl,Int.mul_add,Int.mul_one];omega
def ayn{w:AA}(h:As w=Y)(i:Nat)(n:A3)(K:AL)(a:Int)(hn:n.tx.size<=24)(ht:w.ti+400<99999):
  bp ((i:Int),tR w,tR zR,tK K,a,(n.fr,n.nu,n.to,n.un,n.tx,()),0,())=I (.inr ((i:Int),tR<|(B1<|(n.tx.size+3) / 4).foldl (EB i n) w,tR zR,tK K,a,())):=by
 have hB:Ay ((n.tx.size:Int)+3) 4=(((n.tx.size+3) / 4:Nat):Int):=by
  rw[Fh J];omega
 have hb:=W5 (n:=(n.tx.size:Int)) J J;rw[hB]at hb;generalize hBB:(n.tx.size+3) / 4=B at *;have hB6:B<=6:=J
 refine CX (b:=Vp) (λj=>((i:Int),tR<|(B1 j).foldl (EB i n) w,tR zR,tK K,a,(n.fr,n.nu,n.to,n.un,n.tx,()),(j:Int),())) B (λj hj=> ?_) ?_
 .have hx:=OX (λw b h=>Tq h i n b) (B1 j) h;have tx:=o9 (c:=61) (λw b h=>Tq h i n b) (λw b h=>aGU h i n b) (B1 j) h;rw[R0]at tx;have h1:Kq (tR<|(B1 j).foldl (EB i n) w,(3,(i:Int),n.fr,n.nu,0,(j:Int),0,0,0,noB,()),())=_:=XK hx J (e:=eMx i n.fr n.nu j) Jy<|.inl rfl;have ts:=TC hx<|eMx i n.fr n.nu j;have h2:=aBh (HS hx<|eMx i n.fr n.nu j) J;unfold Vp;simp only[hb,A6,BK hj,A2,h1,h2,BA hj (by omega:B<=9223372036854775807)];rw[Hl,Fg];rfl
 .unfold Vp;simp only[hb,A6,TN,A4]
def awc{w:AA}(h:As w=Y)(i:Nat){n:A3}(hn:n.tx.size<=24):(GI i w n).ti<=w.ti+366:=by
 have:=o9 (c:=61) (λw b h=>Tq h i n b) (λw b h=>aGU h i n b) (B1<|(n.tx.size+3) / 4) h;rw[R0]at this;show((B1<|(n.tx.size+3) / 4).foldl (EB i n) w).ti<=_;omega
def nG(i:Nat):∀(l:List A3) {w:AA},As w=Y->(∀n∈l,n.tx.size<=24)->(l.foldl (GI i) w).ti<=w.ti+366 * l.length
 | [],w,_,_=>by show w.ti<=w.ti+366 * ((0:Nat):Int);omega
 | n::l,w,h,hn=>by
  have h1:=nG i l (Yn h i n) (λm hm=>hn m<|.tail _ hm);have h2:=awc h i<|hn n<|.head _;show(l.foldl (GI i)<|GI i w n).ti<=w.ti+366 * ((l.length+1:Nat):Int);omega
def aay{w:AA}(h:As w=Y){i:Nat}(hi:i<4):(sT w i).held.length<=6/\ ∀n∈(sT w i).held,n.tx.size<=24:=by
 have kf:=C2<|FI (FY h).1 hi;refine⟨kf.hl,λn hn=> ?_⟩;have:=Aa.1<|L4<|OD kf.h hn;omega
def nh{w:AA}(h:As w=Y){i:Nat}(hi:i<4):(Gq w i).ti<=w.ti+2196:=by
 obtain⟨a,b⟩:=aay h hi;have:=nG i (sT w i).held h b;show((sT w i).held.foldl (GI i) w).ti<=_;omega
def aqO{w:AA}(h:As w=Y){i:Nat}(hi:i<4)(ht:w.ti+3000<99999):W3 (tR w,(i:Int),())=I ((tR<|Gq w i,()),()):=by
 have ok:=(FY h).1;have kl:=ok.kl;obtain⟨hl,htx⟩:=aay h hi;have hl0:bq ((i:Int),tR w,tR zR,tK<|sT w i,0,())=I (.inr (tR<|(((sT w i).held).take (sT w i).held.length).foldl (GI i) w,tR zR,())):=by
  refine CX (b:=Vq) (λj=>((i:Int),tR<|((sT w i).held.take j).foldl (GI i) w,tR zR,tK<|sT w i,(j:Int),())) (sT w i).held.length (λj hj=> ?_) ?_
  .have hx:=OX (λw n h=>Yn h i n) ((sT w i).held.take j) h;have tx:=nG i ((sT w i).held.take j) h (λn hn=>htx n<|HI hn);rw[DW]at tx;have hm:=HU hj;have h3:=ayn hx i (nA (sT w i).held j) (sT w i) (j:Int) (htx _ hm) J;unfold Vq;simp only[BK hj,AY hj,A2,DQ];rw[show bp _=_ from h3];simp only[CU,BA hj (by omega:(sT w i).held.length<=9223372036854775807)];rw[show(sT w i).held.take (j+1)=(sT w i).held.take j++[nA (sT w i).held j] by rw[JW,Av hj,DT<|Av hj];rfl,Fg];rfl
  .unfold Vq;simp only[TN,A4]
 rw[EG]at hl0;unfold W3;simp only[AY (J:i<w.A8.length),A2,kS,Mw (ok.k i hi).1,A6];rw[show bq _=_ from hl0];rfl
def aU{w:AA}(h:As w=Y){i:Nat}(hi:i<4)(ht:w.ti+2<99999):Vo (tR w,tR zR,(i:Int),())=I (.inl (tR<|BS (BS w<|eRi i)<|eOp i,tR zR,((i+1:Nat):Int),())):=by
 have h1:Kq (tR w,(8,(i:Int),0,0,0,0,0,0,0,noB,()),())=_:=XK h J (e:=eRi i) Jy<|.inr<|.inr<|.inl rfl;have t1:=TC h<|eRi i;have h2:Kq (tR<|BS w<|eRi i,(9,(i:Int),0,0,0,0,0,0,0,noB,()),())=_:=XK (HS h<|eRi i) J (e:=eOp i) Jy<|.inr<|.inr<|.inr rfl;unfold Vo;simp only[AR<|show(i:Int)<4 by omega,A2,h1,h2,A6,AU (n:=(i:Int)+1) J J];rfl
def aT{w:AA}(h:As w=Y){i:Nat}(hi:i<4)(ht:w.ti+3000<99999):Vn (tR w,tR zR,(i:Int),())=I (.inl (tR<|Gq w i,tR zR,((i+1:Nat):Int),())):=by
 have h1:=aqO h hi ht;unfold Vn;simp only[AR<|show(i:Int)<4 by omega,A2,AU (n:=(i:Int)+1) J J];rw[show W3 _=_ from h1];rfl
def aqN{w:AA}(h:As w=Y)(ht:w.ti<79999):W2 (tR w,())=I ((tR<|Eu w,()),()):=by
 have st:∀(w:AA) (i:Nat),As w=Y->As (BS (BS w<|eRi i)<|eOp i)=Y:=λw i h=>HS (HS h _) _;have tt:∀(w:AA) (i:Nat),As w=Y->(BS (BS w<|eRi i)<|eOp i).ti<=w.ti+2:=λw i h=>by
  have:=TC h<|eRi i;have:=TC (HS h<|eRi i)<|eOp i;omega
 have o0:=st _ 0 h;have o1:=st _ 1 o0;have o2:=st _ 2 o1;have o3:=st _ 3 o2;have q0:=tt _ 0 h;have q1:=tt _ 1 o0;have q2:=tt _ 2 o1;have q3:=tt _ 3 o2;have e0:bo (tR w,tR zR,0,())=I (.inr (tR<|opn w,tR zR,())):=
  At (aU h (i:=0) J J) (At (aU o0 (i:=1) J J)<|At (aU o1 (i:=2) J J)<|At (aU o2 (i:=3) J J)<|BC (by unfold Vo;rfl))
 have q4:(opn w).ti<=w.ti+8:=by
  have q3':(opn w).ti<=_:=q3;omega
 have d:=aBh (w:=opn w) o3 J;have od:As (dlv 400<|opn w)=Y:=(Bx.dlv 400<|opn w).rok o3;have q5:=abK (w:=opn w) o3 400;have k0:=QJ od 0;have k1:=QJ k0 1;have k2:=QJ k1 2;have s0:=nh od (i:=0) J;have s1:=nh k0 (i:=1) J;have s2:=nh k1 (i:=2) J;have e1:bm (tR<|dlv 400<|opn w,tR zR,0,())=I (.inr (tR<|Eu w,tR zR,())):=
  At (aT od (i:=0) J J) (At (aT k0 (i:=1) J J)<|At (aT k1 (i:=2) J J)<|At (aT k2 (i:=3) J J)<|BC (by unfold Vn;rfl))
 unfold W2;rw[show bo _=_ from e0];simp only[CU];rw[show S5 _=_ from d];simp only[A6];rw[show bm _=_ from e1];rfl
def aFj(r:Nat)(hr:r<=20):∀(m:Nat) {w:AA},As w=Y->m<=r->Pb ((r:Int),tR zR,tR w,((r - m:Nat):Int),())=I (.inr (tR zR,tR<|D1 m w,()))
 | 0,w,_,_=>BC (by
  unfold Rq;rw[A9 (by show ¬U (((r - 0:Nat):Int)<(r:Int))=Y;rw[BH J];exact CF)];rfl)
 | m+1,w,h,hm=>by
  have hlt:U (((r - (m+1):Nat):Int)<(r:Int))=Y:=AR J;have h20:U (((r - (m+1):Nat):Int)<20)=Y:=AR J;by_cases ht:w.ti<79999
  .rw[So ht];refine At (x':=((r:Int),tR zR,tR<|Eu w,((r - m:Nat):Int),())) ?_<|aFj r hr m (aFm h) J;unfold Rq;rw[A5 (by show U (((r - (m+1):Nat):Int)<(r:Int))=Y;exact hlt)];rw[A5 (by show(U (((r - (m+1):Nat):Int)<20)&&U (w.ti<79999))=Y;rw[h20,AR ht];rfl)];rw[show W2 _=_ from aqN h ht];simp only[A6];have ew:w64 (((r - (m+1):Nat):Int)+1)=((r - m:Nat):Int):=by rw[AU J J];omega
   simp only[ew]
  .have e:D1 (m+1) w=w:=by
    show(if w.ti<79999 then D1 m (Eu w) else w)=w;rw[A9 ht]
   rw[e];refine BC ?_;unfold Rq;rw[A5 (by show U (((r - (m+1):Nat):Int)<(r:Int))=Y;exact hlt)];rw[A9 (by show ¬(_&&U (w.ti<79999))=Y;rw[BH ht,BX];exact CF)]
def lW{w:AA}(h:As w=Y)(m:Nat):As (D1 m w)=Y:=(Bx.calm m w).rok h
def xG{w:AA}(h:As w=Y){r:Nat}(hr:r<=20):Lh (tR w,(r:Int),())=I ((tR<|D1 r w,()),()):=by
 have sm:=(FY h).1.sm;have g:=aFj r hr r h<|Ar _;rw[LJ]at g;have g:Pb ((r:Int),tR zR,tR w,0,())=_:=g;unfold Lh;rw[show Ms (tR w,())=_ from Pt sm];simp only[A6,show FW w.ti w.A8 w.An w.AM w.AX w.got=Y from h,AB,A4];rw[show Kn (tR w,())=_ from WV sm];simp only[A6];rw[show Pb _=_ from g];simp only[CU];rw[show Kn _=_ from WV (FY<|lW h r).1.sm];rfl
def Reach.inv{ev:List Event}{w:AA}(h:Reach ev w):Inv w:=h.ind ayj λ_ e ok _ v _=>v.sim ok e
def Reach.tick{ev:List Event}{w:AA}(h:Reach ev w):ev.length<=90000->w.ti=(j8 ev:Int):=by
 induction h with
 | nil=>intro _;rfl
 | snoc _ hd _ ih=>
  intro hl;rw[Am]at hl ⊢;have hl1:_+1<=90000:=hl;have:=ih J;rw[ZL hd,this,AU J J];rfl
end Go.VS
end
