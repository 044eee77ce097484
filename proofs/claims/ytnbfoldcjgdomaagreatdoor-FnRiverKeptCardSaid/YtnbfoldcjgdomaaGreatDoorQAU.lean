/- Part 10. -/
import Derived.Test.YtnbfoldcjgdomaaGreatDoorQAT
open Bool renaming and_eq_false_iff->LA,and_eq_true->AD,and_false->Ba,false->A0,false_and->AL,false_ne_true->CW,not_eq_true'->C6,not_true->AB,or_eq_false_iff->NG,or_eq_true->Bw,true->Y,true_and->AS
open Decidable renaming decide->U
open Eq renaming refl->Gv
open Int renaming le_refl->Cz,le_trans->KM,not_lt->Qz,toNat_natCast->BV,toNat_of_nonneg->R7
open List renaming any_eq_true->HR,append_assoc->C5,append_nil->CP,append_of_mem->U2,drop_append_of_le_length->Tu,drop_drop->J0,drop_sublist->Qp,eq_nil_of_length_eq_zero->Dz,filter_append->RA,foldl_append->GY,foldl_cons->Dy,foldl_nil->KK,getD_eq_getElem?_getD->BA,getElem?_eq_getElem->Ap,getElem?_set->P4,getElem_mem->CU,getElem_of_mem->Cq,length->j8,length_append->Aw,length_cons->Bf,length_map->Da,length_singleton->JU,map_append->Ec,mem_append->BM,mem_append_left->Bv,mem_append_right->CV,mem_cons->Bl,mem_filter->FH,mem_map->By,mem_of_mem_drop->KE,mem_or_eq_of_mem_set->Qx,mem_range->Cw,mem_singleton->C9,nodup_append->JZ,nodup_cons->IJ,pairwise_cons->KJ,pairwise_iff_getElem->JW,pairwise_singleton->oH,range->B8,range_succ->IK,replicate->BS,take_add_one->Iw,take_append_drop->JV,take_length->E0
open List.Sublist renaming append->oA,refl->Ea
open List.cons renaming inj->o8
open Nat renaming eq_zero_or_pos->UE,le_refl->Au,le_trans->CZ,lt_or_ge->GW,lt_trans->aC,lt_trichotomy->IM,sub_self->PE,zero_le->D5
open Option renaming bind_some->A6,filter_eq_some_iff->JX,some->I
open Option.some renaming inj->Dc
open Prod.mk renaming inj->Iz
set_option linter.all false
noncomputable section
namespace Go.VS
open Go
def aGv{w w':AA}{f:Frame}(h:C1 f=Y->Nc (λn=>n∈w'.AX) f/\HvF w' f):RaN w w' (pcF f):=by
 refine .inr ⟨PcI.send λe=>(h e).1,λg hg=> ?_⟩;have hg:Cs (BC<|BJ<|Ce f)=(g,Y):=hg;obtain e|e:=tf (C1 f)
 .rw[OF<|OQ f,Xb e]at hg;rw[← (Iz hg).1];exact(h e).2
 .unfold Ce at hg;rw[e,A4]at hg;have:=aDP;rw[hg]at this;cases this
def bN(e:Event)(w w':AA):Prop:=∃i k' a,Nq w w' i k' a/\((∃m,a= .lets m)->e.ki=4)/\((∃n,a= .own n)->e.ki=1)
def OJ{e:Event}{w w':AA}(v:Inv w)(ok:B9 w)(ek:w'.A8=w.A8)(es:w'.AX=w.AX)(eg:w'.got=w.got)(hr:∀p∈w'.AO,RaN w w' p):bN e w w':=
 ⟨0,kA w.A8 0,.non,⟨J,Ox (ok.k 0 J).1<|v.lo 0 J,by rw[ek,Kw],.inl ⟨es,λ_ e=>by cases e⟩,.inl ⟨eg,λ_ e=>by cases e⟩,
  λ_ e=>(by cases e),λ_ e=>(by cases e),hr,λh hh=>(by rw[es];exact v.hf 0 J h hh)⟩,fun⟨_,e⟩=>(by cases e),fun⟨_,e⟩=>(by cases e)⟩
def Lq{e:Event}{w:AA}(v:Inv w)(ok:B9 w):bN e w w:=OJ v ok rfl rfl rfl λ_ h=> .inl h
def asG{a t:Int}(h:isN (BW a t)=Y)(n:A3)(ht:n.to=t):dsN n (BW a t)<dsN n a:=by
 have h0:=ER h;revert h0;unfold BW dsN;split
 .omega
 .rename_i h1;intro _;simp only[Bw,C6,not_or,Bool.not_eq_false,decide_eq_true_eq]at h1;have:=h1.2.2;split<;>omega
def asD{f:Frame}(h:C1 f=Y)(h1:f.ki=1){n:A3}(ht:f.to=n.to):dsN n f.dst<dsN n f.src:=by
 obtain⟨_,r2,_,_,_,_,r7⟩:=OX h;unfold Jy at r7;rw[A5<|AU h1]at r7;simp only[AD,decide_eq_true_eq]at r7;have e:=r7.2.2.2;rw[e]at r2 ⊢;exact asG r2 n ht.symm
def aw3{got:List AQ}{mix:Int}{da:A1}{m:AQ}(h:m∈Cu got mix da):m∈got\/m=⟨mix,da⟩:=by
 unfold Cu at h;obtain h|h:=BM.1 h
 .left;split at h
  .exact(FH.1<|KE h).1
  .exact(FH.1 h).1
 .exact .inr<|C9.1 h
def aav{w:AA}{hv:List AG}{f:Frame}{n:A3}(g:∀h∈hv,HfG w.AX h)(hn:n∈w.AX)(h1:f.fr=n.fr)(h2:f.nu=n.nu)(h3:f.to=n.to)(h4:f.un=n.un)(h5:f.sz=n.tx.size):
  (∀h∈(Aq hv f).1,HfG w.AX h)/\(hA (Aq hv f).1 (Aq hv f).2).fr=f.fr/\(hA (Aq hv f).1 (Aq hv f).2).nu=f.nu:=by
 obtain⟨i,e,hi,e1,e2,_⟩|⟨_,l,sub,e⟩:=mL hv f
 .rw[e];exact⟨g,e1,e2⟩
 .rw[e];refine⟨λh hh=> ?_,by rw[ZT],by rw[ZT]⟩;obtain hh|hh:=BM.1 hh
  .exact g h (sub.subset hh)
  .rw[C9.1 hh];exact⟨n,hn,h1,h2,h3,h4,h5,λm hm=>by cases hm⟩
def qA{l:List AG}{i:Nat}(h:i<l.length):hA l i∈l:=by
 rw[IG h];exact CU h
def abH{w:AA}(v:Inv w){hv:List AG}{i:Nat}(hi:i<hv.length){f:Frame}{n:A3}(g:∀h∈hv,HfG w.AX h)(hn:n∈w.AX)(h1:f.fr=n.fr)(h2:f.nu=n.nu)(h6:f.da=GN n.tx f.mix)
  (e1:(hA hv i).fr=f.fr)(e2:(hA hv i).nu=f.nu):(∀h∈D3 hv i f,HfG w.AX h)/\PV n.tx (Cu (hA hv i).got f.mix f.da):=by
 obtain⟨x,x1,x2,x3,x4,x5,x6,x7⟩:=g _<|qA hi;have e:x=n:=Io v.sp x1 hn (by rw[← x2,e1,h1]) (by rw[← x3,e2,h2]);subst e;have ht:PV x.tx (Cu (hA hv i).got f.mix f.da):=λm hm fit=>by
  obtain c|c:=aw3 hm
  .exact x7 m c fit
  .rw[c];exact h6
 refine⟨λh hh=> ?_,ht⟩;unfold D3 at hh;obtain c|c:=Qx hh
 .exact g h c
 .rw[c];exact⟨x,x1,x2,x3,x4,x5,x6,ht⟩
def ayV{w w':AA}(hg:w'.got=w.got){n:A3}{i:Int}(hT:∀j,sT w' j=sT w j)(hD:∀j,sD w' j=sD w j\/sD w' j=sT w j)(h:Bey w i n):Bey w' i n:=by
 obtain h|⟨j,h1,h2,h3⟩|⟨j,⟨h1,h2,h3⟩,h4⟩:=h
 .exact .inl (by unfold LI;rw[hg,hT];exact h)
 .exact .inr (.inl ⟨j,h1,h2,by rw[hT];exact h3⟩)
 .refine .inr (.inr ⟨j,⟨h1,by rw[hT];exact h2, ?_⟩,h4⟩);obtain e|e:=hD j<;>rw[e]<;>assumption
def Mvd.ofH{k k':A7}{hv:List AG}{a:Act}(m:Mvd (Gj k hv) k' a):Mvd k k' a:=⟨m.lo,m.id,m.ti,m.nx,m.hold,m.held,m.box,m.Pe,m.mrk,m.mks,m.new,m.eat,m.lets⟩
def avu{w:AA}(v:Inv w)(ok:B9 w){i:Nat}(hi:i<4){f:Frame}(hf:C1 f=Y)(hd:f.dst=(i:Int))(g:Nc (λn=>n∈w.AX) f)(hv:HvF w f){ra:List AK}(hra:∀p∈ra,p∈w.AO):
  ∃a,Nq w ⟨w.ti,w.A8.set i (CC (kA w.A8 i) f).1,w.Al,C3 ra (CC (kA w.A8 i) f).2,w.AX,w.got⟩ i (CC (kA w.A8 i) f).1 a/\ ∀n,a≠ .own n:=by
 have hok:=(ok.k i hi).1;have hid:=(ok.k i hi).2;have kl:=ok.kl;have lo:=v.lo i hi;have mkS:∀(k':A7) (fs:List Frame) (a:Act),Mvd (kA w.A8 i) k' a->(∀n,a≠ .own n)->(∀n,a≠ .eat n)->(∀n,a= .take n->n∈w.AX)->(∀m,a= .lets m->∃n∈w.AX,n.fr=m.mf/\n.nu=m.mn/\Bey w i n)->(∀h∈k'.AJ,HfG w.AX h)->
   (∀x∈fs,Nc (λn=>n∈w.AX) x/\HvF ⟨w.ti,w.A8.set i k',w.Al,C3 ra fs,w.AX,w.got⟩ x)->∃a,Nq w ⟨w.ti,w.A8.set i k',w.Al,C3 ra fs,w.AX,w.got⟩ i k' a/\ ∀n,a≠ .own n:=λk' fs a m n1 n2 n3 n4 n5 n6=>
  ⟨a,⟨hi,m,rfl,.inl ⟨rfl,n1⟩,.inl ⟨rfl,n2⟩,n3,n4,λp hp=>by
   obtain hp|⟨x,hx,rfl⟩:=aGU hp
   .exact .inl (hra p hp)
   .exact aGv λ_=>n6 x hx,n5⟩,n1⟩
 have stay:∃a,Nq w ⟨w.ti,w.A8.set i<|kA w.A8 i,w.Al,C3 ra [],w.AX,w.got⟩ i (kA w.A8 i) a/\ ∀n,a≠ .own n:=mkS _ _ .non (Ox hok lo) (λ_ e=>by cases e) (λ_ e=>by cases e) (λ_ e=>by cases e) (λ_ e=>by cases e) (v.hf i hi) (λx hx=>by cases hx);have non:∀(k':A7) (fs:List Frame),Mvd (kA w.A8 i) k' .non->(∀h∈k'.AJ,HfG w.AX h)->(∀x∈fs,Nc (λn=>n∈w.AX) x/\HvF ⟨w.ti,w.A8.set i k',w.Al,C3 ra fs,w.AX,w.got⟩ x)->∃a,Nq w ⟨w.ti,w.A8.set i k',w.Al,C3 ra fs,w.AX,w.got⟩ i k' a/\ ∀n,a≠ .own n:=
  λk' fs m h1 h2=>mkS k' fs .non m (λ_ e=>by cases e) (λ_ e=>by cases e) (λ_ e=>by cases e) (λ_ e=>by cases e) h1 h2
 rw[ZH hok];unfold HK;split
 .rename_i hc;simp only[AD]at hc;split
  .rename_i h1;have h1:f.ki=1:=BZ h1;obtain⟨n,hn,nok,g1,g2,g3,g4,g5,g6⟩:=g h1;have hds:=asD hf h1 g3;rw[hd]at hds;unfold E6;split
   .exact non _ _ (Ox hok lo) (v.hf i hi) (λx hx=>by
     rw[C9.1 hx];exact⟨λe=>(by cases e),λe=>(by cases e)⟩)
   split
   .rename_i hh;obtain⟨_,a1,a2,a3⟩:=ZU hok;refine non _ _ (QN hok lo a1 a3<|.inr a2) (v.hf i hi) (λx hx=> ?_);rw[C9.1 hx];refine⟨λe=>(by cases e),λ_=>⟨n,hn,g1.symm,g2.symm, ?_⟩⟩;obtain hh|hh:=hh
    .obtain⟨j0,_,j2,j3⟩:=FB hh;have hm:=Ev j0;have hs:=v.hs i hi _<|(lo.lf hok).held _ hm;have e:=Io v.sp hs hn (by rw[j2,g1]) (by rw[j3,g2]);rw[e]at hm;refine .inr (.inr ⟨i,⟨hi, ?_, ?_⟩,hds⟩)
     .show n∈(stT<|kA (w.A8.set i _) i).held;rw[GI J,A5 rfl,a3];exact hm
     .show n∈(stD<|kA (w.A8.set i _) i).held;rw[GI J,A5 rfl,a2];exact hm
    .obtain⟨j0,_,j2,j3⟩:=ZP hh;have hm:mA (stT<|kA w.A8 i).marks (Bp (stT<|kA w.A8 i).marks f.fr f.nu).toNat∈(stT<|kA w.A8 i).marks:=by
      rw[mA,BA,Ap j0];exact CU j0
     obtain⟨z,z1,z2,z3⟩:=v.mrk i hi _ hm;have e:=Io v.sp z1 hn (by rw[← g1,← j2,z2]) (by rw[← g2,← j3,z2]);subst e;have z4:=ayV (w:=w) (w':=⟨w.ti,w.A8.set i<|foM<|kA w.A8 i,w.Al,C3 ra [Dh 2 f],w.AX,w.got⟩) rfl (n:=z) (i:=(i:Int)) (λj=>by
       show stT (kA (w.A8.set i _) j)=_;rw[GI J];split
       .rename_i e;rw[e,a3]
       .rfl) (λj=>by
       show stD (kA (w.A8.set i _) j)=_\/stD (kA (w.A8.set i _) j)=_;rw[GI J];split
       .rename_i e;rw[e,a2];exact .inr rfl
       .exact .inl rfl) z3
     obtain c|c|⟨j,c1,c2⟩:=z4
     .exact .inl c
     .exact .inr (.inl c)
     .exact .inr<|.inr ⟨j,c1,aC c2 hds⟩
   split
   .exact stay
   .obtain⟨p1,p2,p3⟩:=aav (v.hf i hi) hn g1 g2 g3 g4 g5;have plt:=Og (hv:=(kA w.A8 i).AJ) (f:=f);obtain⟨q1,q2⟩:=abH v plt p1 hn g1 g2 g6 p2 p3;have mH:∀hv,Mvd (kA w.A8 i) (Gj (kA w.A8 i) hv) .non:=λhv=>QN hok lo lo rfl (.inl rfl);unfold JO;split
    .split
     .rename_i ht;rw[g5]at ht;have ht:=aGI (M0 nok) q2 ht;have e:(⟨f.fr,f.nu,f.to,f.un,(FC f.sz<|Cu (hA (Aq (kA w.A8 i).AJ f).1 (Aq (kA w.A8 i).AJ f).2).got f.mix f.da).1⟩:A3)=n:=by
       rw[g5,ht,g1,g2,g3,g4]
      rw[e];have hdr:=(aQ hok hc.1 hc.2.1 h1).ok;have hh:∀h∈FF (D3 (Aq (kA w.A8 i).AJ f).1 (Aq (kA w.A8 i).AJ f).2 f) (Aq (kA w.A8 i).AJ f).2,HfG w.AX h:=λh hh=>q1 h<|axJ hh;unfold Jz;split
      .rename_i hw;rw[AD]at hw;have mt:=(ae hdr (show LO (Gj (kA w.A8 i) _) from lo) hw.2 (a:= .take n) (λo ho=>(aaH (C0 hdr).kok nok ho).1) λ_ e=>by cases e).2;have mt:=mt.ofH;refine mkS _ _ (.take n) mt (λ_ e=>by cases e) (λ_ e=>by cases e) (λx e=>by cases e;exact hn) (λ_ e=>by cases e) (λh hx=>hh h (by rw[To]at hx;exact hx)) (λx hx=> ?_);rw[C9.1 hx];refine⟨λe=>(by cases e),λ_=>⟨n,hn,g1.symm,g2.symm, ?_⟩⟩;obtain⟨_,_,hnw⟩:=mt.new n<|.inr rfl;rw[HF ok hi]at hnw;split at hnw
       .rename_i hto;refine .inl<|.inr ?_;show n∈(stT<|kA (w.A8.set i _) n.to.toNat).inbox;rw[hto,BV,GI J,A5 rfl];exact hnw
       .refine .inr (.inr ⟨i,⟨hi, ?_, ?_⟩,hds⟩)
        .show n∈(stT<|kA (w.A8.set i _) i).held;rw[GI J,A5 rfl];exact hnw.1
        .show n∈(stD<|kA (w.A8.set i _) i).held;rw[GI J,A5 rfl];exact hnw.2
      .exact non _ _ (mH _) hh (λx hx=>by cases hx)
     .exact non _ _ (mH _) q1 (λx hx=>by cases hx)
    .exact non _ _ (mH _) p1 (λx hx=>by cases hx)
  .split
   .rename_i h2;rw[AD]at h2;have h2:f.ki=2:=BZ h2.1;obtain⟨r1,r2,r3⟩:=YK hf;obtain e|e:=tf (wrR (kA w.A8 i) (CX Bx f.fr f.nu f.un) A0).2
    .refine mkS _ _ _ (axQ hok lo r1 r2 r3 e) (λ_ e=>by cases e) (λ_ e=>by cases e) (λ_ e=>by cases e) (λm em=> ?_) (λh hx=>v.hf i hi h (by rw[To]at hx;exact hx)) (λx hx=>by cases hx);cases em;obtain⟨n,n1,n2,n3,n4⟩:=hv h2;rw[hd]at n4;exact⟨n,n1,n2,n3,n4⟩
    .have:=Qb e;simp only[this];exact stay
   .exact stay
 .exact stay
def ayh{k:A7}{fr nu mix:Int}(hb:(EI k fr nu mix).2=Y):(EI k fr nu mix).1.ki=1:=by
 unfold EI at hb ⊢;split at hb
 .rename_i hc;rw[A5 hc]
 .cases hb
def aHT{w:AA}(v:Inv w)(ok:B9 w)(e:Event):bN e w (doM w e).1:=by
 have kl:=ok.kl;have old:∀ {w':AA} {p:AK},p∈w.AO->RaN w w' p:=λh=> .inl h;unfold doM;split
 .rename_i hk;unfold ES;split
  .rename_i h2;have h2:=Aa.1 h2;have hlt:e.wo.toNat<w.AO.length:=J
   have hpc:=v.ra _<|po hlt;split
   .split
    .rename_i h3;simp only[AD,C6]at h3;refine OJ v ok rfl rfl rfl (λp hp=> ?_);obtain h4|h4:=Qx hp
     .exact old h4
     .rw[h4];have:=hpc.azg h3.1 h3.2.1 h3.2.2;refine .inr ⟨this,λf hu=> ?_⟩;have hb:=this.bad rfl;rw[hu]at hb;cases hb
    .exact Lq v ok
   .split
    .exact OJ v ok rfl rfl rfl (λp hp=>old<|aGl hp)
    .split
     .have hra:∀p∈(if e.kp=0 then JI w.AO e.wo.toNat else w.AO),p∈w.AO:=by
       intro p hp;split at hp
       .exact aGl hp
       .exact hp
      unfold E7;split
      .rename_i hc;simp only[AD,decide_eq_true_eq]at hc;obtain⟨f,hu,hfo,_,hd,hg,_⟩:=hpc.frame hc.1;have hv:=v.hv _ (po hlt) f hu;obtain⟨_,⟨d0,d1⟩,_⟩:=Lm<|QR ok hlt;rw[hu];obtain⟨a,s,na⟩:=avu v ok (i:=(pA w.AO e.wo.toNat).dst.toNat) J hfo (by rw[← hd];omega) hg hv hra;exact⟨_,_,a,s,λ_=>by omega,fun⟨n,e⟩=>absurd e<|na n⟩
      .exact OJ v ok rfl rfl rfl (λp hp=>old<|hra p hp)
     .exact Lq v ok
  .exact Lq v ok
 split
 .unfold Ey;split
  .exact OJ v ok rfl rfl rfl (λp hp=>old hp)
  .exact Lq v ok
 split
 .rename_i ha;have ha:=ER ha;have hi:e.at_.toNat<4:=J
  have hok:=(ok.k _ hi).1;have lo:=v.lo _ hi;have one:∀ {k':A7},Mvd (kA w.A8 e.at_.toNat) k' .non->(∀h∈k'.AJ,h∈(kA w.A8 e.at_.toNat).AJ)->bN e w (Gc w e.at_.toNat k'):=λm hh=>
   ⟨_,_,_,⟨hi,m,rfl,.inl ⟨rfl,λ_ e=>(by cases e)⟩,.inl ⟨rfl,λ_ e=>(by cases e)⟩,λ_ e=>(by cases e),λ_ e=>(by cases e),λp hp=>old hp,λh hx=>v.hf _ hi h<|hh h hx⟩,fun⟨_,e⟩=>(by cases e),fun⟨_,e⟩=>(by cases e)⟩
  unfold I7;split
  .rename_i h1;unfold NY;split
   .exact Lq v ok
   .split
    .exact Lq v ok
    .rename_i h0;have hid:=(ok.k _ hi).2;have hn:=aFM (k:=kA w.A8 e.at_.toNat) h0;have m:=axP hok lo (tt:=e.to) (un:=e.un) (tx:=e.tx) h0;have eid:(kA w.A8 e.at_.toNat).id=e.at_:=J
     rw[eid]at hn m;refine⟨_,_,_,⟨hi,m,rfl,.inr ⟨_,rfl,rfl,hn⟩,.inl ⟨rfl,λ_ e=>(by cases e)⟩,λ_ e=>(by cases e),λ_ e=>(by cases e),λp hp=>old hp,λh hx=> ?_⟩,fun⟨_,e⟩=>(by cases e),λ_=>h1⟩;rw[axn]at hx;exact(v.hf _ hi h hx).up (λn hn=>Bv _ hn)
  .split
   .exact one (auy hok lo) (λh hx=>by rw[awO]at hx;exact hx)
   .split
    .split
     .rename_i hb;refine OJ v ok rfl rfl rfl (λp hp=> ?_);obtain hp|⟨x,hx,rfl⟩:=aGU hp
      .exact old hp
      .rw[C9.1 hx];exact aGv λ_=>⟨axS hok (λn hn=>v.hs _ hi n<|(lo.lf hok).held n hn) hb,λe=>by rw[ayh hb]at e;cases e⟩
     .exact Lq v ok
    .split
     .exact one (av2 hok lo _).2 (λh hx=>by cases hx)
     .split
      .exact one (auz hok lo) (λh hx=>hx)
      .split
       .unfold Nd;split
        .rename_i hc;rw[AD]at hc;exact⟨_,_,_,⟨hi,axR hok lo hc.1,rfl,.inl ⟨rfl,λ_ e=>(by cases e)⟩,.inr ⟨_,rfl,rfl⟩,λ_ e=>(by cases e),λ_ e=>(by cases e),λp hp=>old hp,λh hx=>v.hf _ hi h (by rw[ayv]at hx;exact hx)⟩,fun⟨_,e⟩=>(by cases e),fun⟨_,e⟩=>(by cases e)⟩
        .exact Lq v ok
       .split
        .exact one (av0 hok lo) (λh hx=>by rw[awB]at hx;exact hx)
        .split
         .exact one (atw hok lo) (λh hx=>by rw[ave]at hx;exact hx)
         .exact Lq v ok
 .exact Lq v ok
def Inv.doM{w:AA}(v:Inv w)(ok:B9 w)(e:Event):Inv (doM w e).1:=by
 obtain⟨_,_,_,s,_⟩:=aHT v ok e;exact v.step ok s
def Inv.tick{w:AA}(v:Inv w)(ok:B9 w)(b:Bool):Inv (tick w b):=by
 unfold Go.VS.tick;cases b
 .exact v
 .obtain⟨_,_,_,s,_⟩:=OJ (e:=⟨0,0,0,0,0,0,0,0,0,noB⟩) (w':=⟨w64<|w.ti+1,w.A8,w.Al,w.AO,w.AX,w.got⟩) v ok rfl rfl rfl (λp hp=> .inl hp);exact v.step ok s
def Inv.sim{w:AA}(v:Inv w)(ok:B9 w)(e:Event):Inv (Cl w e):=(v.doM ok e).tick (ph ok e) _
def aW{i:Nat}(hi:i<4):stT (kA rv0.A8 i)=⟨(i:Int),0,1,[],[],[]⟩/\LO (kA rv0.A8 i)/\stD (kA rv0.A8 i)=⟨(i:Int),0,1,[],[],[]⟩:=by
 have hk:=(bU.k i hi).1;have e:=au hi;have hf:(kA rv0.A8 i).fo=((kA rv0.A8 i).log.size:Int):=by rw[e];rfl
 have h1:=Te hk hf;have h2:stT (kA rv0.A8 i)=⟨(i:Int),0,1,[],[],[]⟩:=by
  have l:CB (kA rv0.A8 i).log (kA rv0.A8 i).fo [] []:=by
   rw[e];exact⟨λr hr=>(by cases hr),(by show noB.size<=2400;decide),rfl,rfl⟩
  have:=(Dk hk).st;rw[l.state]at this;rw[e]at this;unfold Cc kp0 at this;rw[A5<|HA hi]at this;rw[e];exact(Dc this).symm
 exact⟨h2,h1.1,h1.2.trans h2⟩
def qN:Inv rv0:=by
 refine⟨λi hi=>(aW hi).2.1,λi hi n hn=> ?_,λi hi n hn=> ?_,λn hn=>(by cases hn),.nil,.nil,λg hg=>(by cases hg),λn hn=>(by cases hn),λi hi m hm=> ?_,λp hp=>(by cases hp),λp hp=>(by cases hp),λi hi h hh=> ?_⟩
 .unfold sD at hn;rw[(aW hi).2.2]at hn;cases hn
 .unfold sT at hn;rw[(aW hi).1]at hn;cases hn
 .unfold sT at hm;rw[(aW hi).1]at hm;cases hm
 .rw[au hi]at hh;cases hh
def Ay(w:AA)(e:Event):AA:=(El w e).1
def Dn(w:AA)(l:List Event):AA:=l.foldl Ay w
def De(l:List Event):AA:=if 2000<l.length then rv0 else Dn rv0 l
def Zm:At rv0=Y:=pM bU aIm<|by decide
def la{P:AA->Prop}{Q:Event->Prop}(hs:∀w e,At w=Y->P w->Q e->(doM w e).2=Y->P (Cl w e)):∀(l:List Event) {w:AA},At w=Y->P w->(∀e∈l,Q e)->At (Dn w l)=Y/\P (Dn w l)
 | [],w,h,p,_=>⟨h,p⟩
 | e::l,w,h,p,q=>by
  have hq:=q e<|.head _;refine la hs l (w:=Ay w e) ?_ ?_ λx hx=>q x<|.tail _ hx
  all_goals
   unfold Ay;obtain⟨h0,_⟩|⟨_,h0⟩|⟨_,h1,h2,h0⟩:=T4 w e
   .rw[h]at h0;cases h0
   .rw[h0];assumption
   .rw[h0]
    first|exact aGT h h1 h2|exact hs w e h p hq h2
def aFH(w:AA)(l m:List Event):Dn w (l++m)=Dn (Dn w l) m:=GY
def mN{l:List Event}{w:AA}(h:At w=Y)(v:Inv w):At (Dn w l)=Y/\Inv (Dn w l):=
 la (Q:=λ_=>True) (λw e h v _ _=>v.sim (DY h).1 e) l h v (λ_ _=>trivial)
def Ye(l:List Event):At (De l)=Y/\Inv (De l):=by
 unfold De;split
 .exact⟨Zm,qN⟩
 .exact mN Zm qN
def agt:du ()=I ((tR rv0,()),()):=by
 have h0:cH (tR zR,tR zR,0,())=I (.inr (tR zR,tR rv0,())):=by
  have st:∀(n:Nat) (l:List A7) (m:List Bool),n<4->l.length<=4->m.length<=4->VX (tR zR,tR ⟨0,l,m,[],[],[]⟩,(n:Int),())=I (.inl (tR zR,tR ⟨0,l++[kp0 n],if n=0 then m else m++[Y],[],[],[]⟩,((n+1:Nat):Int),())):=by
   intro n l m hn hl hm;unfold VX tX;have e1:Ab (l.length+1)=Y:=BD J;have e2:Ab (m.length+1)=Y:=BD J;have e3:w64 ((n:Int)+1)=((n+1:Nat):Int):=AZ J J;simp only[AU<|show(n:Int)<4 by omega,A2,Jr,A6,HA hn,AB,A4,JU,e1,e2,e3];by_cases c:n=0
   .subst c;rfl
   .rw[AU<|show(0:Int)<(n:Int) by omega,A5 rfl,A9 c];rfl
  have fin:VX (tR zR,tR rv0,4,())=I (.inr<|.inr (tR zR,tR rv0,())):=rfl;exact As (st 0 [] [] aIm aIm aIm)<|As (st 1 _ _ aIm aIm aIm)<|As (st 2 _ _ aIm aIm aIm)<|As (st 3 _ _ aIm aIm aIm)<|BF fin
 unfold du;rw[show cH _=_ from h0];simp only[AN,SB bU.sm,A6]
def agT:S2 ()=I ((tR rv0,()),()):=aaJ
def evA(l:List Event)(i:Nat):Event:=l.getD i<|dfl .CR
def aGC(l:List Event)(i:Nat): @rd Event aIu l (i:Int)=evA l i:=rfl
def ab7{l:List Event}{i:Nat}(h:i<l.length):evA l i=l[i]:=by
 unfold evA;rw[BA,Ap h];rfl
def aDS{w:AA}{l:List Event}{i:Nat}(h:i<l.length):Dn w (l.take<|i+1)=Ay (Dn w<|l.take i) (evA l i):=by
 rw[ab7 h,Iw,Ap h,aFH];rfl
def aH0(l:List Event):At (Dn rv0 l)=Y:=(mN Zm qN (l:=l)).1
def aw8(l:List Event):SmR (Dn rv0 l):=(DY<|aH0 l).1.sm
def ab6{l:List Event}(h:∀e∈l,e.tx.size<=1048576){i:Nat}(hi:i<l.length):(evA l i).tx.size<=1048576:=by
 rw[ab7 hi];exact h _<|CU hi
def vB{l:List Event}(hl:l.length<=4294967296)(h:∀e∈l,e.tx.size<=1048576):SA (l,())=I ((tR<|De l,()),()):=by
 unfold SA De;rw[agT];simp only[A6];by_cases c:2000<l.length
 .rw[A5 c,AU<|show(2000:Int)<(j8 l:Int) by omega,A5 rfl]
 .rw[A9 c,BG (J:¬(2000:Int)<(j8 l:Int)),A4];have h0:cS (l,tR zR,tR rv0,0,())=I (.inr (tR zR,tR<|Dn rv0<|l.take l.length,())):=
   CG (λi=>(l,tR zR,tR<|Dn rv0<|l.take i,(i:Int),())) l.length (λi hi=>by
    unfold dj;have hd:=al8 (aw8<|l.take i) (e:=evA l i)<|ab6 h hi;simp only[B5 hi,AR hi,A2,aGC];rw[show O4 (tR<|Dn rv0<|l.take i,tE<|evA l i,())=_ from hd];simp only[A6,B2 hi (by omega:l.length<=9223372036854775807),aDS hi];rfl) (by simp[dj])
  rw[show cS _=_ from h0,E0];rfl
def ue{l:List Event}(hl:l.length<=4294967296)(h:∀e∈l,e.tx.size<=1048576):SE (l,())=I ((tR<|De l,()),()):=by
 unfold SE De;rw[agt];simp only[A6];by_cases c:2000<l.length
 .rw[A5 c,AU<|show(2000:Int)<(j8 l:Int) by omega,A5 rfl]
 .rw[A9 c,BG (J:¬(2000:Int)<(j8 l:Int)),A4];have h0:cb (tR zR,tR rv0,l,(j8 l:Int),0,())=I (.inr (tR zR,tR<|Dn rv0<|l.take l.length,())):=
   CG (λi=>(tR zR,tR<|Dn rv0<|l.take i,l,(j8 l:Int),(i:Int),())) l.length (λi hi=>by
    unfold eB;have hr:=aH0<|l.take i;have hw:=DY hr;have hd:=j9 hw.1 hw.2.1 hw.2.2 (e:=evA l i)<|ab6 h hi;simp only[B5 hi,AR hi,A2,aGC];rw[show I1 (tR<|Dn rv0<|l.take i,tE<|evA l i,())=_ from hd];have e:Ay (Dn rv0<|l.take i) (evA l i)=(if U (99999<=(Dn rv0<|l.take i).ti) then(Dn rv0<|l.take i,A0) else if(doM (Dn rv0<|l.take i)<|evA l i).2 then(Cl (Dn rv0<|l.take i)<|evA l i,Y) else(Dn rv0<|l.take i,A0)).1:=by
     unfold Ay El;rw[A5 hr]
    simp only[A6,B2 hi (by omega:l.length<=9223372036854775807),aDS hi,e]) (by simp[eB])
  rw[show cb _=_ from h0,E0];rfl
def OY(l:List Event):At (De l)=Y:=(Ye l).1
def mw(l:List Event):SmR (De l):=(DY<|OY l).1.sm
def Reach.tx{ev:List Event}{w:AA}(h:Reach ev w):∀e∈ev,e.tx.size<=1048576:=by
 induction h with
 | nil=>exact λe he=>by cases he
 | snoc _ _ ht ih=>exact oR ih ht
def lL{l:List Int}(hb:BOk l):∃ev:List Event,Pj (l,())=I ((ev,()),())/\ev.length<=1048576/\ ∀e∈ev,e.tx.size<=1048576:=by
 have key:Tot (Pj (l,())) λa=>a.1.1.length<=1048576/\ ∀e∈a.1.1,e.tx.size<=1048576:=by
  unfold Pj;refine Tot.bind (axp hb) λr1 h1=>Tot.bind (Ct h1 aIm) λr4 h4=>Tot.ite (λ_=> ?_) (λ_=> ?_)
  .refine Tot.bind (Ct h4.1 aIm) λr5 h5=> ?_;have h50:=h5.2.1;have h51:r5.1.1<2:=h5.2.2 (show(1:Int)<=2 by decide);rw[AZ J J];refine Tot.pos (by rw[AD,decide_eq_true_eq,decide_eq_true_eq];omega) (Tot.ret ⟨?_,λe he=> ?_⟩)
   .show(BS _ _).length<=_;rw[List.length_replicate];omega
   .rw[(List.mem_replicate.1 he).2];show noB.size<=_;decide
  .exact Tot.bind (axk (M:=26) h4.1 aIm aIm aIm) λr6 h6=>Tot.ret (by
    obtain⟨w,ev,e1,e2,e3⟩:=h6.2;have e4:r6.1.1.2.2.2.2.2.2.2=(ev,()):=by rw[e1]
    rw[e4];exact⟨by show ev.length<=1048576;omega,e2.reach.tx⟩)
 obtain⟨⟨⟨ev,_⟩,_⟩,e,h1,h2⟩:=key;exact⟨ev,e,h1,h2⟩
def aDQ(l:List A7)(i:Nat): @rd A7 aIh l (i:Int)=kA l i:=rfl
def QP(n:Nat):U ((n:Int)<(n:Int))=A0:=by simp
def ayZ{l:List A3}(h:l.Pairwise Dif){i k:Nat}(hk:k<i)(hi:i<l.length):Dif (nA l k) (nA l i):=by
 rw[DA<|Ap hi,DA<|Ap (J:k<l.length)];exact JW.1 h k i J hi hk
def awK:∀a t x:Fin 4,((a.val<=x.val/\x.val<=t.val)\/(t.val<=x.val/\x.val<=a.val))->(x.val:Int)∈Dq 3 (a.val:Int) (t.val:Int):=by decide
def aaB{n:A3}(hn:Ax n=Y){i:Nat}(hi:i<4)(h:onW n i):(i:Int)∈Dq 3 n.fr n.to:=by
 obtain⟨a,b⟩:=aEt hn;have:=awK ⟨n.fr.toNat,J⟩ ⟨n.to.toNat,J⟩ ⟨i,hi⟩ (by unfold onW at h;simp only;omega);simp only at this;rw[R7 a.1,R7 b.1]at this;exact this
def aHJ{l:List A3}(h:l.Pairwise Dif):An l.length (K3 l)=Y:=by
 rw[CA];intro i hi;unfold K3;rw[CA];intro j hj;rw[C6,LA,decide_eq_false_iff_not,decide_eq_false_iff_not];have:=ayZ h hj hi;unfold Dif at this;by_cases c:(nA l j).fr=(nA l i).fr
 .exact .inr λd=>this ⟨c,d⟩
 .exact .inl c
def avp{w:AA}(h:At w=Y)(v:Inv w):Ya w.ti w.A8 w.Al w.AO w.AX w.got=Y:=by
 have ok:=(DY h).1;have kl:=ok.kl;unfold Ya;simp only[AD];refine⟨h,aHJ v.sp,aHJ v.gp, ?_, ?_, ?_⟩
 .rw[CA];intro i hi;have hm:=Ev hi;have hn:=ok.s _ hm;rw[Bw];obtain c|⟨j,j1,j2,j3⟩|⟨j,j1,j2,j3⟩:=v.cu _ hm
  .left;unfold MG;rw[Bw,OW,OW];exact c
  .right;unfold M8;rw[HR];refine⟨(j:Int),aaB hn j1 j2, ?_⟩;unfold Ot;rw[Bw,decide_eq_true_eq,BV];exact .inr j3
  .right;unfold M8;rw[HR];have hw:=(aGu (FO ok j1) j2).2.1;rw[HF ok j1]at hw;refine⟨(j:Int),aaB hn j1 hw, ?_⟩;unfold Ot;rw[Bw,AD,OW,OW,BV];exact .inl ⟨j2,j3⟩
 .rw[CA];intro i hi;rw[OW];exact(v.gs _<|Ev hi).1
 .rw[CA];intro i hi;have hi4:i<4:=J
  unfold Rb;rw[AD,CA,CA];refine⟨λj hj=> ?_,λj hj=> ?_⟩
  .rw[OW];exact v.hs i hi4 _ (((v.lo i hi4).lf (ok.k i hi4).1).held _<|Ev hj)
  .obtain⟨a,b⟩:=v.bx i hi4 _<|Ev hj;rw[AD,OW,decide_eq_true_eq];refine⟨a, ?_⟩;obtain c|c:=lX w.got (nA (stT<|kA w.A8 i).inbox j).fr (nA (stT<|kA w.A8 i).inbox j).nu
   .omega
   .obtain⟨k0,_,k1,k2⟩:=FB c;exact absurd ⟨k1,k2⟩<|b _<|Ev k0
def pd{α:Type}{R:α->α->Prop}{f:α->Bool}{n:α}:∀ {l:List α},l.Pairwise R->(∀x∈l,f x=Y->R x n)->(∀x∈l,f x=A0->R n x)->(∀x y,R n x->R x y->R n y)->(ins f l n).Pairwise R
 | [],_,_,_,_=>oH _ _
 | x::l,h,h1,h2,h3=>by
  obtain⟨a,b⟩:=KJ.1 h;obtain c|c:=tf (f x)
  .have e:ins f (x::l) n=x::ins f l n:=by unfold ins;simp[c]
   rw[e,KJ];refine⟨λy hy=> ?_,pd b (λy hy=>h1 y<|.tail _ hy) (λy hy=>h2 y<|.tail _ hy) h3⟩;obtain rfl|hy:=Gh _ hy
   .exact h1 x (.head _) c
   .exact a y hy
  .have e:ins f (x::l) n=n::x::l:=by unfold ins;simp[c]
   rw[e,KJ];refine⟨λy hy=> ?_,h⟩;have hx:=h2 x (.head _) c;cases hy with
   | head=>exact hx
   | tail _ hy=>exact h3 _ _ hx<|a y hy
abbrev RN(a b:A3):Prop:=bef a.fr a.nu b.fr b.nu=Y
abbrev RM(a b:Mark):Prop:=bef a.mf a.mn b.mf b.mn=Y
def abF{a b c d:Int}(h:¬(a=c/\b=d))(g:bef a b c d=A0):bef c d a b=Y:=by
 unfold bef at *;simp only[NG,LA,decide_eq_false_iff_not,Bw,AD,decide_eq_true_eq]at *;omega
def Yq{l:List A3}(h:DQ l=Y):l.Pairwise RN:=by
 rw[JW];intro i j hi hj hij;have:=Sl h j i hij hj;rw[DA<|Ap hi,DA<|Ap hj]at this;exact this
def aH7{l:List A3}(h:l.Pairwise RN)(g:∀x∈l,Ax x=Y):DQ l=Y:=by
 unfold DQ;rw[CA];intro i hi;rw[DA<|Ap hi,g _ (CU hi),AS,Bw,decide_eq_true_eq];obtain c|c:=UE i
 .exact .inl c
 .right;rw[DA<|Ap (J:i - 1<l.length)];exact JW.1 h (i - 1) i J hi J
def aHF{l:List Mark}(h:FL l=Y):l.Pairwise RM:=by
 have key:∀(j i:Nat),i<j->j<l.length->bef (mA l i).mf (mA l i).mn (mA l j).mf (mA l j).mn=Y:=by
  intro j
  induction j with
  | zero=>intro i h;omega
  | succ j ih=>
   intro i hij hj;have h1:=CA.1 h (j+1) hj;simp only[AD,Bw,decide_eq_true_eq]at h1;have h2:bef (mA l j).mf (mA l j).mn (mA l<|j+1).mf (mA l<|j+1).mn=Y:=h1.2.resolve_left J;obtain h3|h3:=GW i j
   .exact TG (ih i h3 J) h2
   .rwa[show i=j by omega]
 rw[JW];intro i j hi hj hij;have:=key j i hij hj;rw[Fg<|Ap hi,Fg<|Ap hj]at this;exact this
def av8{l:List Mark}(h:l.Pairwise RM)(g:∀x∈l,F2 x=Y):FL l=Y:=by
 unfold FL;rw[CA];intro i hi;rw[Fg<|Ap hi,g _ (CU hi),AS,Bw,decide_eq_true_eq];obtain c|c:=UE i
 .exact .inl c
 .right;rw[Fg<|Ap (J:i - 1<l.length)];exact JW.1 h (i - 1) i J hi J
def aEs{l:List A3}{n:A3}(h:DQ l=Y)(hn:Ax n=Y)(h0:∀x∈l,¬(x.fr=n.fr/\x.nu=n.nu)):DQ (Dx l n)=Y:=by
 refine aH7 (pd (Yq h) (λ_ _ c=>c) (λx hx c=>abF (h0 x hx) c) λ_ _ a b=>TG a b) (λx hx=> ?_);obtain rfl|hx:=Gh _ hx
 .exact hn
 .exact QC h hx
def aEw{l:List Mark}{m:Mark}(h:FL l=Y)(hm:F2 m=Y)(h0:∀x∈l,¬(x.mf=m.mf/\x.mn=m.mn)):FL (EF l m)=Y:=by
 refine av8 (pd (aHF h) (λ_ _ c=>c) (λx hx c=>abF (h0 x hx) c) λ_ _ a b=>TG a b) (λx hx=> ?_);obtain rfl|hx:=Gh _ hx
 .exact hm
 .exact aDC h hx
def aHm(l:List A3)(i:Nat):(EY l i).Sublist l:=by
 unfold EY;have h:(l.take i++l.drop (i+1)).Sublist (l.take i++l.drop i):=by
  refine oA (Ea _) ?_;rw[← J0];exact Qp _ _
 rwa[JV]at h
def atr{l:List A3}(h:DQ l=Y)(i:Nat):DQ (EY l i)=Y:=
 aH7 ((Yq h).sublist<|aHm l i) (λx hx=>QC h<|OR hx)
def lP{k:AE}(id:isN k.id=Y)(ti:inB k.ti 0 999=Y)(nx:inB k.nx 1 100=Y)(hl:k.held.length<=6)(h:DQ k.held=Y)(ml:k.marks.length<=12)(m:FL k.marks=Y)(il:k.inbox.length<=6)(i:DQ k.inbox=Y)
  (ho:∀n∈k.held,¬(n.fr=k.id/\k.nx<=n.nu)/\k.ti<n.un/\Eh k.id n.fr n.to=Y/\ ∀x∈k.marks,¬(x.mf=n.fr/\x.mn=n.nu))
  (mo:∀x∈k.marks,k.ti<x.mu/\ ¬(x.mf=k.id/\k.nx<=x.mn))(io:∀n∈k.inbox,n.to=k.id/\ ¬(n.fr=k.id/\k.nx<=n.nu)/\(k.ti<n.un->∃x∈k.marks,x.mf=n.fr/\x.mn=n.nu)):Av k=Y:=by
 unfold Av;simp only[AD,decide_eq_true_eq,CA];refine⟨id,ti,nx,⟨J,h⟩,⟨J,m⟩,⟨J,i⟩,λj hj=> ?_,λj hj=> ?_,λj hj=> ?_⟩
 .obtain⟨a,b,c,d⟩:=ho _<|Ev hj;unfold HD;simp only[AD,C6,decide_eq_true_eq,LA,decide_eq_false_iff_not];refine⟨?_,b,c,by rw[lv d];decide⟩;by_cases e:(nA k.held j).fr=k.id
  .exact .inr λg=>a ⟨e,g⟩
  .exact .inl e
 .obtain⟨a,b⟩:=mo _<|UO hj;unfold JC;simp only[AD,C6,decide_eq_true_eq,LA,decide_eq_false_iff_not];refine⟨a, ?_⟩;by_cases e:(mA k.marks j).mf=k.id
  .exact .inr λg=>b ⟨e,g⟩
  .exact .inl e
 .obtain⟨a,b,c⟩:=io _<|Ev hj;unfold Ij;simp only[AD,Bw,C6,decide_eq_true_eq,LA,decide_eq_false_iff_not];refine⟨a, ?_, ?_⟩
  .by_cases e:(nA k.inbox j).fr=k.id
   .exact .inr λg=>b ⟨e,g⟩
   .exact .inl e
  .by_cases e:k.ti<(nA k.inbox j).un
   .obtain⟨x,x1,x2,x3⟩:=c e;exact .inr (oU x1 x2 x3)
   .exact .inl e
def Sm{k:AE}(h:Av k=Y){n:A3}(hn:n∈k.held):¬(n.fr=k.id/\k.nx<=n.nu)/\k.ti<n.un/\Eh k.id n.fr n.to=Y/\ ∀x∈k.marks,¬(x.mf=n.fr/\x.mn=n.nu):=by
 obtain⟨i,hi,e⟩:=af hn;have:=(Bz h).ho i hi;unfold HD at this;rw[e]at this;simp only[AD,C6,decide_eq_true_eq,LA,decide_eq_false_iff_not]at this;exact⟨λc=>by obtain d|d:=this.1<;>first|exact d c.1|exact d c.2,this.2.1,this.2.2.1,oS this.2.2.2⟩
def l6{k:AE}(h:Av k=Y){m:Mark}(hm:m∈k.marks):k.ti<m.mu/\ ¬(m.mf=k.id/\k.nx<=m.mn):=by
 obtain⟨i,hi,e⟩:=ayj hm;have:=(Bz h).mo i hi;unfold JC at this;rw[e]at this;simp only[AD,C6,decide_eq_true_eq,LA,decide_eq_false_iff_not]at this;exact⟨this.1,λc=>by obtain d|d:=this.2<;>first|exact d c.1|exact d c.2⟩
def Xt{k:AE}(h:Av k=Y){n:A3}(hn:n∈k.inbox):n.to=k.id/\ ¬(n.fr=k.id/\k.nx<=n.nu)/\(k.ti<n.un->∃x∈k.marks,x.mf=n.fr/\x.mn=n.nu):=by
 obtain⟨i,hi,e⟩:=af hn;have:=(Bz h).io i hi;unfold Ij at this;rw[e]at this;simp only[AD,Bw,C6,decide_eq_true_eq,LA,decide_eq_false_iff_not]at this;refine⟨this.1,λc=>by obtain d|d:=this.2.1<;>first|exact d c.1|exact d c.2,λc=> ?_⟩;obtain d|d:=this.2.2
 .exact absurd c d
 .obtain⟨j0,_,j2,j3⟩:=ZP d;exact⟨_,UO j0,j2,j3⟩
def asY{k:AE}{n:A3}(hk:Av k=Y)(hn:Ax n=Y)(hf:n.fr≠k.id)(ht:k.ti<n.un)(h1:∀x∈k.held,¬(x.fr=n.fr/\x.nu=n.nu))(h2:∀x∈k.inbox,¬(x.fr=n.fr/\x.nu=n.nu))(h3:∀x∈k.marks,¬(x.mf=n.fr/\x.mn=n.nu))
  (hl:k.held.length+k.marks.length+1<=6)(il:k.inbox.length+1<=6)(hw:n.to≠k.id->Eh k.id n.fr n.to=Y):∃o,BK k (JE n)=I o:=by
 have kf:=Bz hk;have r:=Sr hn;have d1:¬0<=AY k.held n.fr n.nu:=λc=>by obtain⟨j,_,a,b⟩:=FB c;exact h1 _ (Ev j) ⟨a,b⟩
 have d2:¬0<=AY k.inbox n.fr n.nu:=λc=>by obtain⟨j,_,a,b⟩:=FB c;exact h2 _ (Ev j) ⟨a,b⟩
 have d3:¬0<=Bp k.marks n.fr n.nu:=λc=>by obtain⟨j,_,a,b⟩:=ZP c;exact h3 _ (UO j) ⟨a,b⟩
 rw[lQ hk hn,A9 hf];unfold Ek;rw[hn,AB,A4,BG J,A4,BG d1,A4,BG d2,A4,BG d3,A4,
  BG (J:¬(12:Int)<(j8 k.held:Int)+k.marks.length+1),A4]
 have hid:isN k.id=Y:=Aa.2 ⟨kf.id0,kf.id1⟩;have hti:inB k.ti 0 999=Y:=Aa.2 ⟨kf.t0,kf.t1⟩;have hnx:inB k.nx 1 100=Y:=Aa.2 ⟨kf.n0,kf.n1⟩;by_cases e:n.to=k.id
 .rw[A5<|AU e];refine⟨_,JX.2 ⟨rfl,lP hid hti hnx kf.hl kf.h ?_ ?_ ?_ (aEs kf.i hn h2) (λx hx=> ?_) (λx hx=> ?_) λx hx=> ?_⟩⟩
  .show(EF _ _).length<=12;unfold EF;rw[OI];omega
  .exact aEw kf.m (by unfold F2;simp[r.2.2.2.1,r.2.2.2.2.2.1,r.2.2.2.2.2.2.1]) h3
  .show(Dx _ _).length<=6;unfold Dx;rw[OI];omega
  .obtain⟨a,b,c,d⟩:=Sm hk hx;refine⟨a,b,c,λy hy=> ?_⟩;obtain rfl|hy:=Gh _ hy
   .exact λc=>h1 x hx ⟨c.1.symm,c.2.symm⟩
   .exact d y hy
  .rcases Gh _ hx with rfl|hx
   .exact⟨ht,λc=>hf c.1⟩
   .exact l6 hk hx
  .rcases Gh _ hx with rfl|hx
   .exact⟨e,λc=>hf c.1,λ_=>⟨_,Ii _<|.inl rfl,rfl,rfl⟩⟩
   .obtain⟨a,b,c⟩:=Xt hk hx;refine⟨a,b,λh=> ?_⟩;obtain⟨y,y1,y2⟩:=c h;exact⟨y,Ii _<|.inr y1,y2⟩
 .rw[BG e,A4];refine⟨_,JX.2 ⟨rfl,lP hid hti hnx ?_ (aEs kf.h hn h1) kf.ml kf.m kf.il kf.i (λx hx=> ?_) (λx hx=>l6 hk hx) λx hx=>Xt hk hx⟩⟩
  .show(Dx _ _).length<=6;unfold Dx;rw[OI];omega
  .rcases Gh _ hx with rfl|hx
   .exact⟨λc=>hf c.1,ht,hw e,h3⟩
   .exact Sm hk hx
def aul{k:AE}{n:A3}(hk:Av k=Y)(hn:n∈k.held)(hl:k.held.length+k.marks.length<=6):∃o,BK k (CX Bx n.fr n.nu n.un)=I o/\ ∀x∈o.held,¬(x.fr=n.fr/\x.nu=n.nu):=by
 have kf:=Bz hk;have nok:=QC kf.h hn;have r:=Sr nok;have h0:=Ys hn rfl rfl;obtain⟨j0,j1,j2,j3⟩:=FB h0;have hu:∀x∈k.held,x.fr=n.fr->x.nu=n.nu->x=n:=λx hx a b=>by
  obtain⟨i,hi,e⟩:=Cq hx;obtain⟨j,hj,e'⟩:=Cq hn;have pw:=JW.1<|Yq kf.h;obtain c|c|c:=IM i j
  .have:=pw i j hi hj c;rw[e,e',RN,a,b,Oy]at this;cases this
  .subst c;rw[← e,← e']
  .have:=pw j i hj hi c;rw[e,e',RN,a,b,Oy]at this;cases this
 have en:=hu _ (Ev j0) j2 j3;rw[aFn hk J J J];have hit:EG k.held ⟨n.fr,n.nu,n.un⟩=Y:=by
  unfold EG;rw[AU h0,en,AU rfl];rfl
 rw[A5 hit];obtain⟨a,b,_,d⟩:=Sm hk hn;have gone:∀x∈EY k.held (AY k.held n.fr n.nu).toNat,¬(x.fr=n.fr/\x.nu=n.nu):=λx hx c=>by
  have:=hu x (OR hx) c.1 c.2;subst this;have:=aHn kf.h j0;rw[en]at this;exact this hx
 refine⟨_,JX.2 ⟨rfl,lP (Aa.2 ⟨kf.id0,kf.id1⟩) (Aa.2 ⟨kf.t0,kf.t1⟩) (Aa.2 ⟨kf.n0,kf.n1⟩) ?_ (atr kf.h _) ?_ ?_ kf.il kf.i (λx hx=> ?_) (λx hx=> ?_) λx hx=> ?_⟩,gone⟩
 .exact CZ (aHm _ _).length_le kf.hl
 .show(EF _ _).length<=12;unfold EF;rw[OI];omega
 .exact aEw kf.m (by unfold F2;simp[r.2.2.2.1,r.2.2.2.2.2.1,r.2.2.2.2.2.2.1]) d
 .obtain⟨a,b,c,d⟩:=Sm hk<|OR hx;refine⟨a,b,c,λy hy=> ?_⟩;obtain rfl|hy:=Gh _ hy
  .exact λc=>gone x hx ⟨c.1.symm,c.2.symm⟩
  .exact d y hy
 .rcases Gh _ hx with rfl|hx
  .exact⟨b,a⟩
  .exact l6 hk hx
 .obtain⟨a,b,c⟩:=Xt hk hx;refine⟨a,b,λh=> ?_⟩;obtain⟨y,y1,y2⟩:=c h;exact⟨y,Ii _<|.inr y1,y2⟩
def Zj{α:Type}:∀ {l s:List α},l.Nodup->(∀x∈l,x∈s)->l.length<=s.length
 | [],_,_,_=>D5 _
 | x::l,s,h,g=>by
  obtain⟨a,b⟩:=IJ.1 h;obtain⟨s1,s2,rfl⟩:=U2<|g x<|.head _;have:=Zj (l:=l) (s:=s1++s2) b (λy hy=>by
   have hy':=g y<|.tail _ hy;rw[BM,Bl]at hy';rw[BM];obtain c|c|c:=hy'
   .exact .inl c
   .subst c;exact absurd hy a
   .exact .inr c)
  simp only[Aw,Bf]at this ⊢;omega
def idN(n:A3):Int×Int:=(n.fr,n.nu)
def idM(m:Mark):Int×Int:=(m.mf,m.mn)
def aFw{l:List A3}(h:DQ l=Y):(l.map idN).Nodup:=by
 unfold List.Nodup;rw[List.pairwise_map];refine(Yq h).imp (fun {a b} r e=> ?_);have e1:=(Iz e).1;have e2:=(Iz e).2;rw[RN,e1,e2,Oy]at r;cases r
def atX{l:List Mark}(h:FL l=Y):(l.map idM).Nodup:=by
 unfold List.Nodup;rw[List.pairwise_map];refine(aHF h).imp (fun {a b} r e=> ?_);have e1:=(Iz e).1;have e2:=(Iz e).2;rw[RM,e1,e2,Oy]at r;cases r
def Kn{w:AA}(v:Inv w)(ok:B9 w){i:Nat}(hi:i<4){n:A3}(h:n∈(sT w i).held):n∈w.AX:=v.hs i hi n<|((v.lo i hi).lf (ok.k i hi).1).held n h
def aGt{w:AA}(ok:B9 w){i:Nat}(hi:i<4):((sT w i).held.map idN++(sT w i).marks.map idM).Nodup:=by
 have hk:=FO ok hi;have kf:=Bz hk;rw[JZ];refine⟨aFw kf.h,atX kf.m,λa ha b hb e=> ?_⟩;obtain⟨n,hn,rfl⟩:=By.1 ha;obtain⟨m,hm,rfl⟩:=By.1 hb;have e1:=(Iz e).1;have e2:=(Iz e).2;exact(Sm hk hn).2.2.2 m hm ⟨e1.symm,e2.symm⟩
def aa4{w:AA}(v:Inv w)(ok:B9 w){i:Nat}(hi:i<4):∀x∈(sT w i).held.map idN++(sT w i).marks.map idM,x∈w.AX.map idN:=λx hx=>by
 obtain hx|hx:=BM.1 hx
 .obtain⟨n,hn,rfl⟩:=By.1 hx;exact By.2 ⟨n,Kn v ok hi hn,rfl⟩
 .obtain⟨m,hm,rfl⟩:=By.1 hx;obtain⟨n,h1,h2,_⟩:=v.mrk i hi m hm;exact By.2 ⟨n,h1,by rw[h2];rfl⟩
def ayY{w:AA}(v:Inv w)(ok:B9 w){i:Nat}(hi:i<4):(sT w i).held.length+(sT w i).marks.length<=6:=by
 have:=Zj (aGt ok hi)<|aa4 v ok hi;have:=ok.sl;simp only[Aw,Da]at *;omega
def avH{w:AA}(v:Inv w)(ok:B9 w){i:Nat}(hi:i<4){n:A3}(hn:n∈w.AX)(h1:∀x∈(sT w i).held,¬(x.fr=n.fr/\x.nu=n.nu))(h3:∀x∈(sT w i).marks,¬(x.mf=n.fr/\x.mn=n.nu)):
  (sT w i).held.length+(sT w i).marks.length+1<=6:=by
 have:=Zj (l:=idN n::((sT w i).held.map idN++(sT w i).marks.map idM)) (s:=w.AX.map idN) (IJ.2 ⟨λhx=>by
  obtain hx|hx:=BM.1 hx
  .obtain⟨x,hx,e⟩:=By.1 hx;exact h1 x hx ⟨(Iz e).1,(Iz e).2⟩
  .obtain⟨x,hx,e⟩:=By.1 hx;exact h3 x hx ⟨(Iz e).1,(Iz e).2⟩,aGt ok hi⟩) (λx hx=>by
  cases hx with
  | head=>exact By.2 ⟨n,hn,rfl⟩
  | tail _ hx=>exact aa4 v ok hi x hx)
 have:=ok.sl;simp only[Aw,Da,Bf]at *;omega
def avI{w:AA}(v:Inv w)(ok:B9 w){i:Nat}(hi:i<4){n:A3}(hn:n∈w.AX)(h2:∀x∈(sT w i).inbox,¬(x.fr=n.fr/\x.nu=n.nu)):(sT w i).inbox.length+1<=6:=by
 have:=Zj (l:=idN n::(sT w i).inbox.map idN) (s:=w.AX.map idN) (IJ.2 ⟨λhx=>by
  obtain⟨x,hx,e⟩:=By.1 hx;exact h2 x hx ⟨(Iz e).1,(Iz e).2⟩,aFw (Bz<|FO ok hi).i⟩) (λx hx=>by
  cases hx with
  | head=>exact By.2 ⟨n,hn,rfl⟩
  | tail _ hx=>
   obtain⟨y,hy,rfl⟩:=By.1 hx;exact By.2 ⟨y,(v.bx i hi y hy).1,rfl⟩)
 have:=ok.sl;simp only[Da,Bf]at *;omega
def eBr:Event:=⟨4,0,0,0,0,0,0,0,0,noB⟩
def eMx(i fr nu b:Int):Event:=⟨3,i,fr,nu,0,b,0,0,0,noB⟩
def eRi(i:Int):Event:=⟨8,i,0,0,0,0,0,0,0,noB⟩
def eOp(i:Int):Event:=⟨9,i,0,0,0,0,0,0,0,noB⟩
def dlv:Nat->AA->AA
 | 0,w=>w
 | n+1,w=>if w.AO.length=0 then w else dlv n (Ay w eBr)
def Lu{w:AA}(h:w.AO=[])(n:Nat):dlv n w=w:=by
 cases n with
 | zero=>rfl
 | succ n=>unfold dlv;rw[A5 (by rw[h];rfl)]
def Td{w:AA}{p:AK}{ps:List AK}(h:w.AO=p::ps)(n:Nat):dlv (n+1) w=dlv n (Ay w eBr):=by
 show(if w.AO.length=0 then w else dlv n (Ay w eBr))=_;rw[A9 (by rw[h];simp)]
structure Cm (w:AA):Prop where
 ok:At w=Y
 inv:Inv w
 li:∀i,i<3->bA w.Al i=Y
 up:∀i,i<4->(kA w.A8 i).up=Y
def Cm.rv{w:AA}(c:Cm w):B9 w:=(DY c.ok).1
def Mv{w:AA}(h:At w=Y)(v:Inv w)(e:Event):At (Ay w e)=Y/\Inv (Ay w e):=mN (l:=[e]) h v
def Qd{w:AA}{e:Event}(h:At w=Y)(ht:w.ti<99999)(hd:(doM w e).2=Y):
  Ay w e=⟨w.ti+1,(doM w e).1.A8,(doM w e).1.Al,(doM w e).1.AO,(doM w e).1.AX,(doM w e).1.got⟩:=by
 have t0:=(DY h).2.1;have e1:Ay w e=Cl w e:=by
  unfold Ay El;rw[A5 h,A9 (by rw[BG (J:¬99999<=w.ti)];exact CW),A5 hd]
 rw[e1,aV hd,AZ J J]
def Qc{w:AA}{e:Event}(h:At w=Y)(hd:(doM w e).2=A0):Ay w e=w:=by
 unfold Ay El;rw[A5 h,hd,A4];split<;>rfl
def qC{w:AA}{p:AK}{ps:List AK}(ok:B9 w)(hr:w.AO=p::ps)(hl:∀i,i<3->bA w.Al i=Y):doM w eBr=(E7 w p ps,Y):=by
 have hp:pA w.AO 0=p:=by rw[hr];rfl
 have hpo:=Lm (ok.p p (by rw[hr];exact .head _));unfold doM;rw[A5<|.inl rfl];unfold ES;rw[A5<|show inB eBr.wo 0 ((w.AO.length:Int) - 1)=Y from Aa.2 ⟨Cz _,by rw[hr];show(0:Int)<=((ps.length+1:Nat):Int) - 1;omega⟩,A9<|show ¬eBr.ki=6 by decide,A9<|show ¬eBr.ki=5 by decide];rw[show pA w.AO eBr.wo.toNat=p from hp,hl _ J,A5 rfl,A5<|show eBr.kp=0 from rfl];rw[hr];rfl
def arF{w:AA}{f:Frame}{ps:List AK}(hf:C1 f=Y):E7 w (pcF f) ps=⟨w.ti,w.A8.set f.dst.toNat (CC (kA w.A8 f.dst.toNat) f).1,w.Al,C3 ps (CC (kA w.A8 f.dst.toNat) f).2,w.AX,w.got⟩:=by
 have hu:Cs (BC (pcF f).data)=(f,Y):=by
  show Cs (BC<|BJ<|Ce f)=_;rw[OF<|OQ f,Xb hf]
 unfold E7;rw[hu,A5<|by simp[pcF]];rfl
def aaU{w:AA}{f:Frame}(h:At w=Y)(ht:w.ti<99999)(hl:∀i,i<3->bA w.Al i=Y)(hr:w.AO=[pcF f])(hf:C1 f=Y):
  Ay w eBr=⟨w.ti+1,w.A8.set f.dst.toNat (CC (kA w.A8 f.dst.toNat) f).1,w.Al,C3 [] (CC (kA w.A8 f.dst.toNat) f).2,w.AX,w.got⟩:=by
 have hd:=qC (DY h).1 hr hl;rw[Qd h ht<|by rw[hd],hd,arF hf]
def avF(f:Frame):C3 [] [f]=[pcF f]:=rfl
def aFA:C3 [] []=[]:=rfl
def ayE{w:AA}(c:Cm w)(hr:w.AO=[])(ht:w.ti<99999){i:Nat}(hi:i<4){n:A3}(hn:n∈(sT w i).held){b:Int}(hb:inB b 0 999=Y):
  Ay w (eMx i n.fr n.nu b)=⟨w.ti+1,w.A8,w.Al,[pcF (BB i n b)],w.AX,w.got⟩:=by
 have ok:=c.rv;have hk:=FO ok hi;have h0:=Ys hn rfl rfl;obtain⟨j0,_,j2,j3⟩:=FB h0;have e:=Io c.inv.sp (Kn c.inv ok hi<|Ev j0) (Kn c.inv ok hi hn) j2 j3;have hid:=(ok.k i hi).2;have hm:EI (kA w.A8 i) n.fr n.nu b=(BB i n b,Y):=by
  unfold EI;rw[A5 (by rw[c.up i hi,hb,BG (show ¬AY (stT<|kA w.A8 i).held n.fr n.nu<0 by have:0<=AY (stT<|kA w.A8 i).held n.fr n.nu:=h0;omega)];rfl)];have e:nA (stT<|kA w.A8 i).held (AY (stT<|kA w.A8 i).held n.fr n.nu).toNat=n:=e;rw[e,hid];rfl
 have hd:doM w (eMx i n.fr n.nu b)=(⟨w.ti,w.A8,w.Al,C3 w.AO [BB i n b],w.AX,w.got⟩,Y):=by
  unfold doM;rw[A9 (by show ¬((3:Int)=4\/(3:Int)=5\/(3:Int)=6);omega),A9 (by show ¬((3:Int)=9\/(3:Int)=10);omega),A5<|show isN (eMx i n.fr n.nu b).at_=Y from HA hi];unfold I7;rw[A9 (by show ¬(3:Int)=1;omega),A9 (by show ¬(3:Int)=2;omega),A5<|show(eMx i n.fr n.nu b).ki=3 from rfl];have:EI (kA w.A8 (eMx i n.fr n.nu b).at_.toNat) (eMx i n.fr n.nu b).fr (eMx i n.fr n.nu b).nu (eMx i n.fr n.nu b).mix=(BB i n b,Y):=hm;rw[this];rfl
 rw[Qd c.ok ht<|by rw[hd],hd,hr];rfl
def TS{l:List A7}{i j:Nat}(k:A7)(h:j≠i):kA (l.set i k) j=kA l j:=by
 by_cases c:i<l.length
 .rw[GI c,A9 h]
 .rw[List.set_eq_of_length_le J]
def aF2{w:AA}(c:Cm w)(ht:w.ti+3<99999)(hr:w.AO=[]){i j:Nat}(hi:i<4)(hj:j<4){n:A3}(hn:n∈(sT w i).held)(hnx:BW i n.to=(j:Int)){b:Int}(hb:inB b 0 999=Y):
  (∃w',dlv 400 (Ay w<|eMx i n.fr n.nu b)=w'/\(E6 (kA w.A8 j)<|BB i n b).2=[]/\w'=⟨w.ti+2,w.A8.set j (E6 (kA w.A8 j)<|BB i n b).1,w.Al,[],w.AX,w.got⟩)\/
  (∃w' x,dlv 400 (Ay w<|eMx i n.fr n.nu b)=w'/\(x=2\/x=3)/\(E6 (kA w.A8 j)<|BB i n b).2=[Dh x (BB i n b)]/\
   w'=⟨w.ti+3,(w.A8.set j (E6 (kA w.A8 j)<|BB i n b).1).set i (CC (kA w.A8 i)<|Dh x<|BB i n b).1,w.Al,[],w.AX,w.got⟩):=by
 have ok:=c.rv;have kl:=ok.kl;have hkn:=OU (FO ok hi) hn;have idi:=HF ok hi;rw[idi]at hkn;have nok:=ok.s n<|Kn c.inv ok hi hn;have hf:C1 (BB i n b)=Y:=lc (HA hi) nok hkn.1 hb;have Pb:(BB i n b).dst=(j:Int):=hnx;have hij:i≠j:=by
  have:=mS (HA hi) (OZ nok).2.1 (by have:=hkn.1;unfold Eh at this;simp only[AD,C6,decide_eq_false_iff_not]at this;exact this.1);intro e;rw[hnx,e]at this;omega
 have h1:=ayE c hr J hi hn hb;have g0:=Mv c.ok c.inv<|eMx i n.fr n.nu b;have hh:CC (kA w.A8 j) (BB i n b)=E6 (kA w.A8 j) (BB i n b):=by
  rw[ZH (ok.k j hj).1];unfold HK;rw[A5 (by rw[c.up j hj,hf,Pb,(ok.k j hj).2];simp),A5<|show U ((BB i n b).ki=1)=Y from rfl]
 rw[h1]at g0;have s2:=aaU (w:=⟨w.ti+1,w.A8,w.Al,[pcF (BB i n b)],w.AX,w.got⟩) (f:=BB i n b) g0.1 (by show w.ti+1<99999;omega) c.li rfl hf;rw[Pb,BV]at s2;simp only[hh]at s2;have d1:dlv 400 (Ay w<|eMx i n.fr n.nu b)=dlv 399 (Ay ⟨w.ti+1,w.A8,w.Al,[pcF (BB i n b)],w.AX,w.got⟩ eBr):=by
  rw[h1];exact Td rfl 399
 have g1:=Mv g0.1 g0.2 eBr;rw[s2]at d1 g1;have two:w.ti+1+1=w.ti+2:=J
 rw[two]at d1 g1;have ha:=mV (kA w.A8 j)<|BB i n b;rw[hh]at ha;obtain ha|⟨_,_,_,x,hx,ha⟩:=ha
 .rw[ha,aFA]at d1;exact .inl ⟨_,rfl,ha,by rw[d1,Lu rfl]⟩
 .refine .inr ⟨_,x,rfl,hx,ha, ?_⟩;rw[ha,avF]at d1 g1;have hfa:=pv hf rfl hx;have s3:=aaU (w:=⟨w.ti+2,w.A8.set j (E6 (kA w.A8 j)<|BB i n b).1,w.Al,[pcF (Dh x<|BB i n b)],w.AX,w.got⟩) (f:=Dh x<|BB i n b) g1.1 (by show w.ti+2<99999;omega) c.li rfl hfa;have hds:(Dh x<|BB i n b).dst=(i:Int):=rfl;rw[hds,BV]at s3;simp only[TS _ hij]at s3;have hno:(CC (kA w.A8 i)<|Dh x<|BB i n b).2=[]:=by
   obtain h|⟨_,h,_⟩:=mV (kA w.A8 i) (Dh x<|BB i n b)
   .exact h
   .have:(Dh x<|BB i n b).ki=x:=rfl;omega
  rw[hno,aFA]at s3;rw[d1,Td rfl 398,s3,Lu rfl];rw[show w.ti+2+1=w.ti+3 by omega]
def Pr(hv:List AG)(n:A3)(b:Nat):Prop:=b=0\/ ∃h∈hv,h.fr=n.fr/\h.nu=n.nu/\ ∃x,h.got=x++F8 n.tx b
def art(tx:A1)(b:Nat):(F8 tx b).length=b:=by unfold F8;simp
def aqw(tx:A1)(b:Nat):F8 tx (b+1)=F8 tx b++[⟨(b:Int),GN tx (b:Int)⟩]:=by
 unfold F8;rw[IK,Ec];rfl
def aqv(x:List AQ)(tx:A1){b:Nat}(hb:b<=5):∃x',Cu (x++F8 tx b) (b:Int) (GN tx (b:Int))=x'++F8 tx (b+1):=by
 have h:(F8 tx b).filter (Dp (b:Int))=F8 tx b:=List.filter_eq_self.2 λm hm=>by
  obtain⟨j,hj,rfl⟩:=ars hm;unfold Dp;simp;omega
 have hl:=art tx b;unfold Cu;rw[RA,h,aqw];split
 .rename_i hc;rw[Aw]at hc;refine⟨(x.filter<|Dp (b:Int)).drop 1, ?_⟩;rw[Tu J,C5]
 .exact⟨x.filter<|Dp (b:Int),by rw[C5]⟩
def avy{k:A7}(hk:Ae k=Y){a b:AG}(ha:a∈k.AJ)(hb:b∈k.AJ)(h1:a.fr=b.fr)(h2:a.nu=b.nu):a=b:=by
 have hv:=(Dk hk).hv;obtain⟨i,hi,ei⟩:=Oo ha;obtain⟨j,hj,ej⟩:=Oo hb;have key:∀i j,i<k.AJ.length->j<i->¬((hA k.AJ j).fr=(hA k.AJ i).fr/\(hA k.AJ j).nu=(hA k.AJ i).nu):=λi j hi hj c=>by
  have:=hv i hi;unfold Fl at this;rw[AD,CA]at this;have:=this.2 j hj;rw[AU c.1,AU c.2]at this;cases this
 obtain c|c|c:=IM i j
 .exact absurd ⟨by rw[ei,ej,h1],by rw[ei,ej,h2]⟩ (key j i hj c)
 .subst c;rw[← ei,← ej]
 .exact absurd ⟨by rw[ei,ej,h1],by rw[ei,ej,h2]⟩<|key i j hi c
def arp{l:List AG}{f n:Int}(h:EH l f n<0):∀x∈l,¬(x.fr=f/\x.nu=n):=λx hx c=>by
 obtain⟨i,hi,e⟩:=Oo hx;unfold EH at h;obtain⟨_,g⟩|⟨m,g,_⟩:=GD l.length (λi=>U ((hA l i).fr=f)&&U ((hA l i).nu=n))
 .have:=g i hi;rw[e,AU c.1,AU c.2]at this;cases this
 .omega
def avN{k:A7}(hk:Ae k=Y){f:Frame}{n:A3}(h1:f.fr=n.fr)(h2:f.nu=n.nu){b:Nat}(p:Pr k.AJ n b):∃x,(hA (Aq k.AJ f).1 (Aq k.AJ f).2).got=x++F8 n.tx b:=by
 obtain⟨i,e,hi,e1,e2,_⟩|⟨hn,l,_,e⟩:=mL k.AJ f
 .rw[e];obtain rfl|⟨h,hh,a1,a2,x,a3⟩:=p
  .exact⟨(hA k.AJ i).got,by show _=_++F8 n.tx 0;rw[show F8 n.tx 0=[] from rfl,CP]⟩
  .have:=avy hk hh (qA hi) (by rw[a1,e1,h1]) (by rw[a2,e2,h2]);exact⟨x,by rw[← this];exact a3⟩
 .rw[e];obtain rfl|⟨h,hh,a1,a2,_⟩:=p
  .exact⟨[],by rw[ZT];rfl⟩
  .exact absurd ⟨by rw[a1,h1],by rw[a2,h2]⟩<|arp hn h hh
def avM{w:AA}(v:Inv w){j:Nat}(hj:j<4){f:Frame}{n:A3}(hn:n∈w.AX)(h1:f.fr=n.fr)(h2:f.nu=n.nu)(h3:f.to=n.to)(h4:f.un=n.un)(h5:f.sz=n.tx.size):
  MA (hA (Aq (kA w.A8 j).AJ f).1 (Aq (kA w.A8 j).AJ f).2) f=Y:=by
 obtain⟨i,e,hi,e1,e2,_⟩|⟨_,l,_,e⟩:=mL (kA w.A8 j).AJ f
 .rw[e];obtain⟨x,x1,x2,x3,x4,x5,x6,_⟩:=v.hf j hj _<|qA hi;have ex:x=n:=Io v.sp x1 hn (by rw[← x2,e1,h1]) (by rw[← x3,e2,h2]);subst ex;unfold MA;rw[x4,x5,x6,h3,h4,h5];simp
 .rw[e,ZT];exact avG f
def atA{tx:A1}{b k:Nat}(h:k<b):(⟨(k:Int),GN tx (k:Int)⟩:AQ)∈F8 tx b:=By.2 ⟨k,Cw.2 h,rfl⟩
def asW{tx:A1}(h:inB tx.size 1 24=Y){x:List AQ}(ho:PV tx (x++F8 tx ((tx.size+3) / 4))):FC tx.size (x++F8 tx ((tx.size+3) / 4))=(tx,Y):=by
 have h':=Aa.1 h;refine arL h ho λk hk=>⟨⟨(k:Int),GN tx (k:Int)⟩,CV _<|atA hk,aEz h<|Aa.2 J, ?_⟩;exact ar4 (aFb h) hk
def aFI{w:AA}(c:Cm w){i j:Nat}(hi:i<4)(hj:j<4){n:A3}(hn:n∈(sT w i).held)(hnx:BW i n.to=(j:Int)){b:Nat}(hb:b<(n.tx.size+3) / 4)(hp:Pr (kA w.A8 j).AJ n b):
  (n.un<=(sT w j).ti/\E6 (kA w.A8 j) (BB i n b)=(kA w.A8 j,[Dh 3 (BB i n b)]))\/
  (¬n.un<=(sT w j).ti/\ ∃k',E6 (kA w.A8 j) (BB i n b)=(k',[Dh 2 (BB i n b)])/\k'.up=Y/\(stT k').ti=(sT w j).ti/\ ∀x∈(stT k').held,x∈(sT w j).held\/x=n)\/
  (¬n.un<=(sT w j).ti/\b+1<(n.tx.size+3) / 4/\ ∃hv,E6 (kA w.A8 j) (BB i n b)=(Gj (kA w.A8 j) hv,[])/\Pr hv n (b+1)):=by
 have ok:=c.rv;have v:=c.inv;have hkn:=OU (FO ok hi) hn;rw[HF ok hi]at hkn;have hs:=Kn v ok hi hn;have nok:=ok.s n hs;have rn:=OZ nok;have htx:=M0 nok;have alU:=Aa.1 htx;have Ri:inB (b:Int) 0 999=Y:=Aa.2 J;have hf:C1 (BB i n b)=Y:=lc (HA hi) nok hkn.1 Ri;have hwn:=TJ (HA hi) rn.1 rn.2.1 hkn.1;rw[hnx]at hwn;have qw:=(ok.k j hj).1;have amm:=(ok.k j hj).2;have upj:=c.up j hj;unfold E6;by_cases hl:n.un<=(sT w j).ti
 .rw[A5<|show(BB i n b).un<=(stT<|kA w.A8 j).ti from hl];exact .inl ⟨hl,rfl⟩
 rw[A9<|show ¬(BB i n b).un<=(stT<|kA w.A8 j).ti from hl];by_cases hh:0<=AY (stT<|kA w.A8 j).held (BB i n b).fr (BB i n b).nu\/0<=Bp (stT<|kA w.A8 j).marks (BB i n b).fr (BB i n b).nu
 .rw[A5 hh];obtain⟨_,_,_,a3⟩:=ZU qw;exact .inr<|.inl ⟨hl,_,rfl,upj,by rw[a3],λx hx=>by rw[a3]at hx;exact .inl hx⟩
 rw[A9 hh,A9 (show ¬(BB i n b).fr=(kA w.A8 j).id by rw[amm];exact λe=>hwn.2.1 e.symm)];have d1:∀x∈(sT w j).held,¬(x.fr=n.fr/\x.nu=n.nu):=λx hx e=>hh<|.inl<|Ys hx e.1 e.2;have d3:∀x∈(sT w j).marks,¬(x.mf=n.fr/\x.mn=n.nu):=λx hx e=>hh<|.inr<|oU hx e.1 e.2;have d2:∀x∈(sT w j).inbox,¬(x.fr=n.fr/\x.nu=n.nu):=λx hx e=>by
  have hx2:=Io v.sp (v.bx j hj x hx).1 hs e.1 e.2;subst hx2;obtain⟨y,y1,y2,y3⟩:=(Xt (FO ok hj) hx).2.2 J;exact d3 y y1 ⟨y2,y3⟩
 obtain⟨p1,p2,p3⟩:=aav (w:=w) (v.hf j hj) (f:=BB i n b) hs rfl rfl rfl rfl rfl;have plt:=Og (hv:=(kA w.A8 j).AJ) (f:=BB i n b);obtain⟨q1,q2⟩:=abH v plt p1 hs (f:=BB i n b) rfl rfl rfl p2 p3;obtain⟨x,ex⟩:=avN qw (f:=BB i n b) (n:=n) rfl rfl hp;obtain⟨x',ex'⟩:=aqv x n.tx (b:=b) J;unfold JO;rw[A5<|avM v hj (f:=BB i n b) hs rfl rfl rfl rfl rfl];rw[ex,show Cu (x++F8 n.tx b) (BB i n b).mix (BB i n b).da=_ from ex'];rw[ex,show Cu (x++F8 n.tx b) (BB i n b).mix (BB i n b).da=_ from ex']at q2;rw[show(BB i n b).sz=(n.tx.size:Int) from rfl];obtain ht|ht:=tf (FC n.tx.size<|x'++F8 n.tx (b+1)).2
 .rw[A5 ht];have hte:=aGI htx q2 ht;rw[hte];rw[show(⟨(BB i n b).fr,(BB i n b).nu,(BB i n b).to,(BB i n b).un,(n.tx,Y).1⟩:A3)=n from rfl];have hdr:=aQ qw upj hf rfl;have hkk:=C0 hdr.ok;have est:stT (Gj (kA w.A8 j)<|FF (D3 (Aq (kA w.A8 j).AJ<|BB i n b).1 (Aq (kA w.A8 j).AJ<|BB i n b).2<|BB i n b) (Aq (kA w.A8 j).AJ<|BB i n b).2)=sT w j:=rfl;obtain⟨o,ho⟩:=asY (k:=sT w j) (FO ok hj) nok (by rw[HF ok hj];exact λe=>hwn.2.1 e.symm) J d1 d2 d3 (avH v ok hj hs d1 d3) (avI v ok hj hs d2) (λhne=>by
   rw[HF ok hj]at hne ⊢;exact hwn.2.2 λe=>hne e.symm)
  have qo:=mg hkk (by rw[est];exact ho);unfold Jz;rw[A5 (by rw[nok,qo.2];rfl)];obtain⟨kf,_⟩:=aaH (FO ok hj) nok ho;refine .inr (.inl ⟨hl,_,rfl,by rw[Ol];exact upj, ?_,λy hy=> ?_⟩)
  .rw[qo.1.is.stT];have tk:=abg (FO ok hj) nok ho;exact tk.ti
  .rw[qo.1.is.stT]at hy;obtain e|e|e:=kf.held y hy
   .exact .inl e
   .cases e
   .cases e;exact .inr rfl
 .rw[ht,A4];refine .inr (.inr ⟨hl, ?_,_,rfl, ?_⟩)
  .rcases GW (b+1) ((n.tx.size+3) / 4) with h|h
   .exact h
   .have e:b+1=(n.tx.size+3) / 4:=J
    rw[e]at ht q2;rw[asW htx q2]at ht;cases ht
  .have hm:∀(l:List AG) (m:Nat),m<l.length->(⟨(hA l m).fr,(hA l m).nu,(hA l m).to,(hA l m).un,(hA l m).sz,Cu (hA l m).got (BB i n b).mix (BB i n b).da⟩:AG)∈D3 l m (BB i n b):=λl m h=>by
    unfold D3;exact List.mem_set h _
   refine .inr ⟨_,hm _ _ plt,p2,p3,x', ?_⟩;show Cu (hA (Aq (kA w.A8 j).AJ<|BB i n b).1 (Aq (kA w.A8 j).AJ<|BB i n b).2).got (BB i n b).mix (BB i n b).da=_;rw[ex];exact ex'
def oe:∀(m:Nat) {w:AA},At w=Y->Inv w->At (dlv m w)=Y/\Inv (dlv m w)
 | 0,_,h,v=>⟨h,v⟩
 | m+1,w,h,v=>by
  unfold dlv;split
  .exact⟨h,v⟩
  .obtain⟨a,b⟩:=Mv h v eBr;exact oe m a b
def aFh{k:A7}(hk:Ae k=Y)(f:Frame):CC k (Dh 3 f)=(k,[]):=by
 rw[ZH hk];unfold HK;split
 .rw[A9 (show ¬U ((Dh 3 f).ki=1)=Y by show ¬U ((3:Int)=1)=Y;decide),show U ((Dh 3 f).ki=2)=A0 from rfl,AL,A4]
 .rfl
def aum{w:AA}(c:Cm w){i:Nat}(hi:i<4){n:A3}(hn:n∈(sT w i).held){b:Int}(hb:inB b 0 999=Y):
  ∃k',CC (kA w.A8 i) (Dh 2<|BB i n b)=(k',[])/\k'.up=Y/\(stT k').ti=(sT w i).ti/\(∀x∈(stT k').held,x∈(sT w i).held/\x≠n):=by
 have ok:=c.rv;have hk:=FO ok hi;have aE5:=(ok.k i hi).1;have hkn:=OU hk hn;rw[HF ok hi]at hkn;have hs:=Kn c.inv ok hi hn;have nok:=ok.s n hs;have hf:C1 (BB i n b)=Y:=lc (HA hi) nok hkn.1 hb;have hfa:=pv hf rfl (n:=2) (.inl rfl);have h0:=Ys hn rfl rfl;obtain⟨j0,_,j2,j3⟩:=FB h0;have e:=Io c.inv.sp (Kn c.inv ok hi<|Ev j0) hs j2 j3;have e:nA (stT<|kA w.A8 i).held (AY (stT<|kA w.A8 i).held n.fr n.nu).toNat=n:=e;have h0:0<=AY (stT<|kA w.A8 i).held n.fr n.nu:=h0;obtain⟨o,ho,hg⟩:=aul hk hn<|ayY c.inv ok hi;have r:=Sr nok;have hw2:(wrR (kA w.A8 i) (CX Bx n.fr n.nu n.un) A0).2=Y:=by
  unfold wrR;rw[show BK (stT<|kA w.A8 i) _=_ from ho]
 obtain⟨_,_,a2,_⟩:=aaf aE5 (c.inv.lo i hi) ⟨n.fr,n.nu,n.un,J,J,J,rfl⟩ hw2;have eo:o=stT (wrR (kA w.A8 i) (CX Bx n.fr n.nu n.un) A0).1:=Dc<|ho.symm.trans a2;have kf:=aam hk J J J ho;obtain⟨_,eo2⟩:=ZR hk J J J ho;refine⟨(wrR (kA w.A8 i) (CX Bx n.fr n.nu n.un) A0).1, ?_,by rw[Ol];exact c.up i hi,by rw[← eo,eo2],λx hx=> ?_⟩
 .rw[ZH aE5];unfold HK;rw[A5 (by rw[c.up i hi,hfa,AS,AS];exact AU (by rw[(ok.k i hi).2];rfl)),A9 (show ¬U ((Dh 2<|BB i n b).ki=1)=Y by show ¬U ((2:Int)=1)=Y;decide)];rw[A5 (by
   rw[show(Dh 2<|BB i n b).fr=n.fr from rfl,show(Dh 2<|BB i n b).nu=n.nu from rfl,e,BG (J:¬AY (stT<|kA w.A8 i).held n.fr n.nu<0)];rw[show(Dh 2<|BB i n b).to=n.to from rfl,show(Dh 2<|BB i n b).un=n.un from rfl,show U ((Dh 2<|BB i n b).ki=2)=Y from rfl,AU rfl,AU rfl];rfl)]
  rfl
 .rw[← eo]at hx;obtain h|h|h:=kf.held x hx
  .exact⟨h,λe=>hg x hx ⟨by rw[e],by rw[e]⟩⟩
  .cases h
  .cases h
structure Ofr (T:Nat) (w w':AA) (i j:Nat) (n:A3):Prop where
 cm:Cm w'
 ra:w'.AO=[]
 se:w'.AX=w.AX
 go:w'.got=w.got
 t0:w.ti<=w'.ti
 t1:w'.ti<=w.ti+T
 clk:∀k,k<4->(sT w' k).ti=(sT w k).ti
 hi:∀x∈(sT w' i).held,x∈(sT w i).held
 hj:∀x∈(sT w' j).held,x∈(sT w j).held\/x=n
 ot:∀k,k≠i->k≠j->kA w'.A8 k=kA w.A8 k
 st:n.un<=(sT w j).ti->w'.A8=w.A8
def Ofr.rfl{w:AA}(c:Cm w)(hr:w.AO=[])(i j:Nat)(n:A3):Ofr 0 w w i j n:=⟨c,hr,Gv _,Gv _,Cz _,J,λ_ _=>Gv _,λ_ h=>h,λ_ h=> .inl h,λ_ _ _=>Gv _,λ_=>Gv _⟩
def Ofr.trans{T S:Nat}{a b c:AA}{i j:Nat}{n:A3}(hj4:j<4)(h:Ofr T a b i j n)(g:Ofr S b c i j n):Ofr (T+S) a c i j n:=
 ⟨g.cm,g.ra,g.se.trans h.se,g.go.trans h.go,KM h.t0 g.t0,by have:=h.t1;have:=g.t1;omega,λk hk=>(g.clk k hk).trans<|h.clk k hk,λx hx=>h.hi x<|g.hi x hx,
  λx hx=>by obtain e|e:=g.hj x hx;exact h.hj x e;exact .inr e,λk h1 h2=>(g.ot k h1 h2).trans<|h.ot k h1 h2,λhs=>(g.st (by rw[h.clk j hj4];exact hs)).trans<|h.st hs⟩
def Ofr.up{T S:Nat}{w w':AA}{i j:Nat}{n:A3}(h:Ofr T w w' i j n)(hS:T<=S):Ofr S w w' i j n:=⟨h.cm,h.ra,h.se,h.go,h.t0,by have:=h.t1;omega,h.clk,h.hi,h.hj,h.ot,h.st⟩
def ayb{w:AA}(ok:B9 w){i j:Nat}(hi:i<4){n:A3}(nok:Ax n=Y)(hw:Eh (i:Int) n.fr n.to=Y)(hnx:BW i n.to=(j:Int)):i≠j:=by
 have:=mS (HA hi) (OZ nok).2.1 (by unfold Eh at hw;simp only[AD,C6,decide_eq_false_iff_not]at hw;exact hw.1);intro e;rw[hnx,e]at this;omega
def FE(i:Nat)(n:A3)(w:AA)(b:Nat):AA:=dlv 400<|Ay w<|eMx i n.fr n.nu b
def atp{w:AA}(c:Cm w)(hr:w.AO=[])(ht:w.ti+3<99999){i j:Nat}(hi:i<4)(hj:j<4){n:A3}(hn:n∈(sT w i).held)(hnx:BW i n.to=(j:Int)){b:Nat}(hb:b<(n.tx.size+3) / 4)(hp:Pr (kA w.A8 j).AJ n b):
  Ofr 3 w (FE i n w b) i j n/\(n.un<=(sT w j).ti\/n ∉ (sT (FE i n w b) i).held\/(n∈(sT (FE i n w b) i).held/\b+1<(n.tx.size+3) / 4/\Pr (kA (FE i n w b).A8 j).AJ n (b+1))):=by
 have ok:=c.rv;have kl:=ok.kl;have hkn:=OU (FO ok hi) hn;rw[HF ok hi]at hkn;have nok:=ok.s n<|Kn c.inv ok hi hn;have htx:=Aa.1<|M0 nok;have Ri:inB (b:Int) 0 999=Y:=Aa.2 J;have hij:=ayb ok hi nok hkn.1 hnx;have EN:=(fun(e:Event)=>Mv c.ok c.inv e)<|eMx i n.fr n.nu b;have EN:=oe 400 EN.1 EN.2;unfold FE;obtain⟨w',e0,ha,ew⟩|⟨w',x,e0,hx,ha,ew⟩:=aF2 c ht hr hi hj hn hnx Ri
 .rw[e0]at EN ⊢;obtain⟨_,e⟩|⟨_,k',e,_⟩|⟨hl,hb2,hv,e,hpr⟩:=aFI c hi hj hn hnx hb hp
  .rw[e]at ha;cases ha
  .rw[e]at ha;cases ha
  .rw[e]at ew;subst ew;have kj:kA (w.A8.set j<|Gj (kA w.A8 j) hv) j=Gj (kA w.A8 j) hv:=by rw[GI J,A5 rfl]
   have kk:∀k,k≠j->kA (w.A8.set j<|Gj (kA w.A8 j) hv) k=kA w.A8 k:=λk hk=>TS _ hk;have sts:∀k,stT (kA (w.A8.set j<|Gj (kA w.A8 j) hv) k)=stT (kA w.A8 k):=λk=>by
    by_cases h:k=j
    .rw[h,kj];rfl
    .rw[kk k h]
   refine⟨⟨⟨EN.1,EN.2,c.li,λk hk=> ?_⟩,rfl,rfl,rfl,by show w.ti<=w.ti+2;omega,by show w.ti+2<=w.ti+(3:Nat);omega,λk _=>by unfold sT;rw[sts],λy hy=>by unfold sT at hy ⊢; rw[sts]at hy;exact hy,
    λy hy=> .inl (by unfold sT at hy ⊢; rw[sts]at hy;exact hy),λk _ h2=>kk k h2,λhs=>absurd hs hl⟩,.inr<|.inr ⟨?_,hb2, ?_⟩⟩
   .show(kA (w.A8.set j _) k).up=Y;by_cases h:k=j
    .rw[h,kj];exact c.up j hj
    .rw[kk k h];exact c.up k hk
   .unfold sT at hn ⊢;rw[sts];exact hn
   .show Pr (kA (w.A8.set j _) j).AJ n (b+1);rw[kj];exact hpr
 .rw[e0]at EN ⊢;obtain⟨hl,e⟩|⟨hl,k',e,u1,u2,u3⟩|⟨_,_,hv,e,_⟩:=aFI c hi hj hn hnx hb hp
  .rw[e]at ha;have hx3:x=3:=by
    have:=congrArg Frame.ki (o8 ha).1;exact this.symm
   subst hx3;rw[e,aFh (ok.k i hi).1,Kw,Kw]at ew;subst ew;exact⟨⟨⟨EN.1,EN.2,c.li,c.up⟩,rfl,rfl,rfl,by show w.ti<=w.ti+3;omega,Cz _,λ_ _=>rfl,λ_ h=>h,λ_ h=> .inl h,λ_ _ _=>rfl,λ_=>rfl⟩,.inl hl⟩
  .rw[e]at ha;have hx2:x=2:=by
    have:=congrArg Frame.ki (o8 ha).1;exact this.symm
   subst hx2;obtain⟨k1,l0,l1,l2,l3⟩:=aum c hi hn Ri;rw[e,l0]at ew;subst ew;have ki:kA ((w.A8.set j k').set i k1) i=k1:=by rw[GI y8,A5 rfl]
   have kj:kA ((w.A8.set j k').set i k1) j=k':=by rw[TS _ λh=>hij h.symm,GI J,A5 rfl]
   have kk:∀k,k≠i->k≠j->kA ((w.A8.set j k').set i k1) k=kA w.A8 k:=λk h1 h2=>by rw[TS _ h1,TS _ h2]
   refine⟨⟨⟨EN.1,EN.2,c.li,λk hk=> ?_⟩,rfl,rfl,rfl,by show w.ti<=w.ti+3;omega,Cz _,λk hk=> ?_,λy hy=> ?_,λy hy=> ?_,kk,λhs=>absurd hs hl⟩,.inr<|.inl λh=> ?_⟩
   .show(kA ((w.A8.set j k').set i k1) k).up=Y;by_cases h1:k=i
    .rw[h1,ki];exact l1
    .by_cases h2:k=j
     .rw[h2,kj];exact u1
     .rw[kk k h1 h2];exact c.up k hk
   .show(stT<|kA ((w.A8.set j k').set i k1) k).ti=_;by_cases h1:k=i
    .rw[h1,ki];exact l2
    .by_cases h2:k=j
     .rw[h2,kj];exact u2
     .rw[kk k h1 h2]
   .have hy:y∈(stT<|kA ((w.A8.set j k').set i k1) i).held:=hy;rw[ki]at hy;exact(l3 y hy).1
   .have hy:y∈(stT<|kA ((w.A8.set j k').set i k1) j).held:=hy;rw[kj]at hy;exact u3 y hy
   .have h:n∈(stT<|kA ((w.A8.set j k').set i k1) i).held:=h;rw[ki]at h;exact(l3 n h).2 rfl
  .rw[e]at ha;cases ha
def ayD{w:AA}(c:Cm w){i:Nat}(hi:i<4){n:A3}(hs:n∈w.AX)(hn:n ∉ (sT w i).held)(b:Int):Ay w (eMx i n.fr n.nu b)=w:=by
 have ok:=c.rv;refine Qc c.ok ?_;have:(EI (kA w.A8 i) n.fr n.nu b).2=A0:=by
  unfold EI;split
  .rename_i hc;simp only[AD,C6,decide_eq_false_iff_not]at hc;obtain⟨j0,_,j2,j3⟩:=FB<|Qz.1 hc.2.1;have hm:=Ev j0;have e:=Io c.inv.sp (Kn c.inv ok hi hm) hs j2 j3;rw[e]at hm;exact absurd hm hn
  .rfl
 unfold doM;rw[A9 (by show ¬((3:Int)=4\/(3:Int)=5\/(3:Int)=6);omega),A9 (by show ¬((3:Int)=9\/(3:Int)=10);omega),A5<|show isN (eMx i n.fr n.nu b).at_=Y from HA hi];unfold I7;rw[A9 (by show ¬(3:Int)=1;omega),A9 (by show ¬(3:Int)=2;omega),A5<|show(eMx i n.fr n.nu b).ki=3 from rfl];rw[A9 (by rw[show(EI (kA w.A8 (eMx i n.fr n.nu b).at_.toNat) (eMx i n.fr n.nu b).fr (eMx i n.fr n.nu b).nu (eMx i n.fr n.nu b).mix).2=A0 from this];exact CW)]
def KB(i:Nat)(w:AA)(n:A3):AA:=(B8<|(n.tx.size+3) / 4).foldl (FE i n) w
def atq{w:AA}(c:Cm w)(hr:w.AO=[])(ht:w.ti+18<99999){i j:Nat}(hi:i<4)(hj:j<4){n:A3}(hs:n∈w.AX)(hnx:BW i n.to=(j:Int)):
  Ofr 18 w (KB i w n) i j n/\(n.un<=(sT w j).ti\/n ∉ (sT (KB i w n) i).held):=by
 have ok:=c.rv;have nok:=ok.s n hs;have htx:=Aa.1<|M0 nok;have key:∀m,m<=(n.tx.size+3) / 4->Ofr (3 * m) w ((B8 m).foldl (FE i n) w) i j n/\(n.un<=(sT w j).ti\/n ∉ (sT ((B8 m).foldl (FE i n) w) i).held\/
   (n∈(sT ((B8 m).foldl (FE i n) w) i).held/\m<(n.tx.size+3) / 4/\Pr (kA ((B8 m).foldl (FE i n) w).A8 j).AJ n m)):=by
  intro m
  induction m with
  | zero=>
   intro _;refine⟨Ofr.rfl c hr i j n, ?_⟩;by_cases h:n∈(sT w i).held
   .exact .inr (.inr ⟨h,J,.inl rfl⟩)
   .exact .inr<|.inl h
  | succ m ih=>
   intro hm;obtain⟨o,g⟩:=ih J;rw[IK,GY];generalize (B8 m).foldl (FE i n) w=x at o g;show Ofr (3 * (m+1)) w (FE i n x m) i j n/\(_\/n ∉ (sT (FE i n x m) i).held\/(n∈(sT (FE i n x m) i).held/\_/\Pr (kA (FE i n x m).A8 j).AJ n (m+1)));have hxs:n∈x.AX:=by rw[o.se];exact hs
   by_cases hh:n∈(sT x i).held
   .have t1:=o.t1;by_cases hp:Pr (kA x.A8 j).AJ n m
    .obtain⟨o2,g2⟩:=atp o.cm o.ra J hi hj hh hnx (b:=m) J hp;refine⟨(o.trans hj o2).up J, ?_⟩;obtain g2|g2|g2:=g2
     .rw[o.clk j hj]at g2;exact .inl g2
     .exact .inr (.inl g2)
     .exact .inr<|.inr g2
    ·
     have hst:n.un<=(sT w j).ti:=by
      obtain g|g|g:=g
      .exact g
      .exact absurd hh g
      .exact absurd g.2.2 hp
     have o2:Ofr 3 x (FE i n x m) i j n:=by
      have hkn:=OU (FO o.cm.rv hi) hh;rw[HF o.cm.rv hi]at hkn;have hl:n.un<=(sT x j).ti:=by rw[o.clk j hj];exact hst
      have Ri:inB (m:Int) 0 999=Y:=Aa.2 J;have okx:=o.cm.rv;have EN:=Mv o.cm.ok o.cm.inv<|eMx i n.fr n.nu m;have EN:=oe 400 EN.1 EN.2;have hpm:E6 (kA x.A8 j) (BB i n m)=(kA x.A8 j,[Dh 3 (BB i n m)]):=by
       unfold E6;rw[A5<|show(BB i n m).un<=(stT<|kA x.A8 j).ti from hl]
      unfold FE;obtain⟨w',e0,ha,_⟩|⟨w',y,e0,hy,ha,ew⟩:=aF2 o.cm J o.ra hi hj hh hnx Ri
      .rw[hpm]at ha;cases ha
      .rw[e0]at EN ⊢;rw[hpm]at ha;have hy3:y=3:=(congrArg Frame.ki (o8 ha).1).symm;subst hy3;rw[hpm,aFh (okx.k i hi).1,Kw,Kw]at ew;subst ew;exact⟨⟨EN.1,EN.2,o.cm.li,o.cm.up⟩,rfl,rfl,rfl,by show x.ti<=x.ti+3;omega,Cz _,λ_ _=>rfl,λ_ h=>h,λ_ h=> .inl h,λ_ _ _=>rfl,λ_=>rfl⟩
     exact⟨(o.trans hj o2).up J,.inl hst⟩
   .have e:FE i n x m=x:=by
     unfold FE;rw[ayD o.cm hi hxs hh,Lu o.ra]
    rw[e];exact⟨o.up J,.inr<|.inl hh⟩
 obtain⟨o,g⟩:=key _<|Au _;refine⟨o.up J, ?_⟩;obtain g|g|g:=g
 .exact .inl g
 .exact .inr g
 .omega
def stk(w:AA)(n:A3)(i:Nat):Prop:=n.un<=(sT w (BW i n.to).toNat).ti
structure Cal (T:Nat) (w w':AA):Prop where
 cm:Cm w'
 ra:w'.AO=[]
 se:w'.AX=w.AX
 go:w'.got=w.got
 t0:w.ti<=w'.ti
 t1:w'.ti<=w.ti+T
 clk:∀k,k<4->(sT w' k).ti=(sT w k).ti
def Cal.rfl{w:AA}(c:Cm w)(hr:w.AO=[]):Cal 0 w w:=⟨c,hr,Gv _,Gv _,Cz _,J,λ_ _=>Gv _⟩
def Cal.trans{T S:Nat}{a b c:AA}(h:Cal T a b)(g:Cal S b c):Cal (T+S) a c:=
 ⟨g.cm,g.ra,g.se.trans h.se,g.go.trans h.go,KM h.t0 g.t0,by have:=h.t1;have:=g.t1;omega,λk hk=>(g.clk k hk).trans<|h.clk k hk⟩
def Cal.up{T S:Nat}{w w':AA}(h:Cal T w w')(hS:T<=S):Cal S w w':=⟨h.cm,h.ra,h.se,h.go,h.t0,by have:=h.t1;omega,h.clk⟩
def Zk{w w':AA}(h:∀k,k<4->(sT w' k).ti=(sT w k).ti){n:A3}{i:Nat}(hn:isN (BW i n.to)=Y):stk w' n i↔stk w n i:=by
 have:=ER hn;unfold stk;rw[h _ J]
structure Trn (T:Nat) (w w':AA) (i:Nat) (L:List A3):Prop where
 ca:Cal T w w'
 hi:∀x∈(sT w' i).held,x∈(sT w i).held
 ot:∀k,k<4->k≠i->∀x∈(sT w' k).held,x∈(sT w k).held\/(x∈L/\BW i x.to=(k:Int))
 dn:∀n∈L,n ∉ (sT w' i).held\/stk w n i
 st:(∀n∈L,stk w n i)->w'.A8=w.A8
def aF3{i:Nat}(hi:i<4):∀(L:List A3) {w:AA},Cm w->w.AO=[]->w.ti+18 * (L.length:Int)<99999->(∀n∈L,n∈w.AX/\Eh (i:Int) n.fr n.to=Y)->Trn (18 * L.length) w (L.foldl (KB i) w) i L
 | [],w,c,hr,_,_=>⟨Cal.rfl c hr,λ_ h=>h,λ_ _ _ _ h=> .inl h,λ_ h=>(by cases h),λ_=>rfl⟩
 | n::L,w,c,hr,ht,hL=>by
  obtain⟨hs,hw⟩:=hL n<|.head _;have rn:=OZ<|c.rv.s n hs;obtain⟨x1,_,_⟩:=TJ (HA hi) rn.1 rn.2.1 hw;have xr:=ER x1;obtain⟨j,hj⟩:∃j:Nat,BW i n.to=(j:Int):=⟨(BW i n.to).toNat,J⟩;have hj4:j<4:=J
  have hjn:(BW (i:Int) n.to).toNat=j:=J
  rw[Bf]at ht;obtain⟨o,g⟩:=atq c hr J hi hj4 hs hj;have t1:=o.t1;have ih:=aF3 hi L o.cm o.ra J (λm hm=>by rw[o.se];exact hL m<|.tail _ hm);have nx:∀m∈L,isN (BW i m.to)=Y:=λm hm=>by
   obtain⟨a,b⟩:=hL m<|.tail _ hm;have rm:=OZ<|c.rv.s m a;exact(TJ (HA hi) rm.1 rm.2.1 b).1
  have co:Cal 18 w (KB i w n):=⟨o.cm,o.ra,o.se,o.go,o.t0,o.t1,o.clk⟩;show Trn _ w (L.foldl (KB i)<|KB i w n) i (n::L);refine⟨(co.trans ih.ca).up (by rw[Bf];omega),λx hx=>o.hi x<|ih.hi x hx,λk hk hki x hx=> ?_,λm hm=> ?_,λhst=> ?_⟩
  .rcases ih.ot k hk hki x hx with h|⟨h1,h2⟩
   .by_cases hkj:k=j
    .subst hkj;obtain h|h:=o.hj x h
     .exact .inl h
     .rw[h];exact .inr ⟨.head _,hj⟩
    .left;unfold sT at h ⊢;rw[o.ot k hki hkj]at h;exact h
   .exact .inr ⟨.tail _ h1,h2⟩
  .cases hm with
   | head=>
    obtain g|g:=g
    .right;unfold stk;rw[hjn];exact g
    .exact .inl λh=>g<|ih.hi _ h
   | tail _ hm=>
    obtain h|h:=ih.dn m hm
    .exact .inl h
    .exact .inr ((Zk o.clk<|nx m hm).1 h)
  .have h0:=hst n<|.head _;unfold stk at h0;rw[hjn]at h0;exact(ih.st λm hm=>(Zk o.clk<|nx m hm).2<|hst m<|.tail _ hm).trans<|o.st h0
def IW(w:AA)(i:Nat):AA:=(sT w i).held.foldl (KB i) w
def aFx{w:AA}(c:Cm w){i:Nat}(hi:i<4):∀n∈(sT w i).held,n∈w.AX/\Eh (i:Int) n.fr n.to=Y:=λn hn=>by
 have:=(OU (FO c.rv hi) hn).1;rw[HF c.rv hi]at this;exact⟨Kn c.inv c.rv hi hn,this⟩
def Tq{w:AA}(c:Cm w)(hr:w.AO=[])(ht:w.ti+108<99999){i:Nat}(hi:i<4):Trn 108 w (IW w i) i (sT w i).held:=by
 have hl:=(Bz<|FO c.rv hi).hl;have t:=aF3 hi (sT w i).held c hr J<|aFx c hi;exact⟨t.ca.up J,t.hi,t.ot,t.dn,t.st⟩
def Stl(w:AA):Prop:=∀k,k<4->∀n∈(sT w k).held,stk w n k
def NZ(m:Nat)(w:AA):Prop:=∀k:Nat,k<4->∀n∈(sT w k).held,stk w n k\/(n.to<(k:Int)/\k+m<=3)\/(m=0/\(k:Int)<n.to)
def TI(m i:Nat)(w:AA):Prop:=∀k:Nat,k<4->∀n∈(sT w k).held,stk w n k\/(n.to<(k:Int)/\(k<i->k+m+1<=3)/\k+m<=3)\/((k:Int)<n.to/\i<=k)
def Zg{w:AA}(c:Cm w)(hr:w.AO=[])(ht:w.ti+108<99999){i m:Nat}(hi:i<4)(h:TI m i w):TI m (i+1) (IW w i):=by
 have t:=Tq c hr ht hi;intro k hk n hn;have okx:=t.ca.cm.rv;have nx:∀ {k:Nat} {x:A3},k<4->x∈(sT w k).held->isN (BW k x.to)=Y:=fun {k x} hk hx=>by
  obtain⟨a,b⟩:=aFx c hk x hx;have rm:=OZ<|c.rv.s x a;exact(TJ (HA hk) rm.1 rm.2.1 b).1
 by_cases hki:k=i
 .subst hki;have hn':=t.hi n hn;obtain g|g:=t.dn n hn'
  .exact absurd hn g
  .exact .inl ((Zk t.ca.clk<|nx hk hn').2 g)
 .rcases t.ot k hk hki n hn with g|⟨g1,g2⟩
  .rcases h k hk n g with a|⟨a,b,d⟩|⟨a,b⟩
   .exact .inl ((Zk t.ca.clk<|nx hk g).2 a)
   .exact .inr (.inl ⟨a,λe=>b J,d⟩)
   .exact .inr (.inr ⟨a,J⟩)
  .have hw:=OU (FO okx hk) hn;rw[HF okx hk,t.ca.clk k hk]at hw;have hne:(k:Int)≠n.to:=λe=>by
    have:=hw.1;unfold Eh at this;rw[e]at this;simp at this
   have e1:BW (i:Int) n.to=if(i:Int)<n.to then(i:Int)+1 else(i:Int) - 1:=by
    have:=nx hi g1;unfold BW at this ⊢;split at this
    .exact absurd (ER this) J
    .rename_i hc;rw[A9 hc]
   rw[e1]at g2;obtain a|⟨a,b,d⟩|⟨a,b⟩:=h i hi n g1
   .exfalso;unfold stk at a;rw[e1,g2,BV]at a;omega
   .rw[A9 J]at g2;exact .inr (.inl ⟨J,λ_=>by omega,J⟩)
   .rw[A5 a]at g2;exact .inr<|.inr ⟨J,J⟩
def RF(w:AA):AA:=IW (IW (IW (IW w 0) 1) 2) 3
def aaD{w:AA}(c:Cm w)(hr:w.AO=[])(ht:w.ti+432<99999){m:Nat}(h:NZ m w):Cal 432 w (RF w)/\NZ (m+1) (RF w)/\(Stl w->(RF w).A8=w.A8):=by
 have s0:TI m 0 w:=λk hk n hn=>by
  obtain a|⟨a,b⟩|⟨_,a⟩:=h k hk n hn
  .exact .inl a
  .exact .inr (.inl ⟨a,λe=>by omega,b⟩)
  .exact .inr<|.inr ⟨a,J⟩
 have t0:=Tq c hr J (i:=0) J;have s1:=Zg c hr J J s0;have b0:=t0.ca.t1;have t1:=Tq t0.ca.cm t0.ca.ra J (i:=1) J;have s2:=Zg t0.ca.cm t0.ca.ra J J s1;have b1:=t1.ca.t1;have t2:=Tq t1.ca.cm t1.ca.ra J (i:=2) J;have s3:=Zg t1.ca.cm t1.ca.ra J J s2;have b2:=t2.ca.t1;have t3:=Tq t2.ca.cm t2.ca.ra J (i:=3) J;have s4:=Zg t2.ca.cm t2.ca.ra J J s3;refine⟨(((t0.ca.trans t1.ca).trans t2.ca).trans t3.ca).up J,λk hk n hn=> ?_,λhst=> ?_⟩
 .rcases s4 k hk n hn with a|⟨a,b,_⟩|⟨_,a⟩
  .exact .inl a
  .exact .inr (.inl ⟨a,by have:=b hk;omega⟩)
  .omega
 .have e0:=t0.st (λn hn=>hst 0 J n hn);have up:∀ {x:AA},x.A8=w.A8->Stl x:=fun {x} e k hk n hn=>by
   unfold sT at hn;rw[e]at hn;have:=hst k hk n hn;unfold stk sT at this ⊢;rw[e];exact this
  have e1:=(t1.st λn hn=>up e0 1 J n hn).trans e0;have e2:=(t2.st λn hn=>up e1 2 J n hn).trans e1;exact(t3.st λn hn=>up e2 3 J n hn).trans e2
def awa{w:AA}(c:Cm w)(h:NZ 3 w):Stl w:=λk hk n hn=>by
 obtain a|⟨a,b⟩|⟨a,_⟩:=h k hk n hn
 .exact a
 .have:=(aEt<|c.rv.s n<|Kn c.inv c.rv hk hn).2;omega
 .omega
def awb{w:AA}(c:Cm w):NZ 0 w:=λk hk n hn=>by
 have hw:=OU (FO c.rv hk) hn;rw[HF c.rv hk]at hw;have hne:(k:Int)≠n.to:=λe=>by
  have:=hw.1;unfold Eh at this;rw[e]at this;simp at this
 by_cases e:n.to<(k:Int)
 .exact .inr (.inl ⟨e,J⟩)
 .exact .inr<|.inr ⟨rfl,J⟩
def OL{w:AA}(c:Cm w)(i:Nat)(hi:i<4):Ay w (eRi i)=w/\Ay w (eOp i)=w:=by
 have ok:=c.rv;have ll:=ok.ll;refine⟨Qc c.ok ?_,Qc c.ok ?_⟩
 .unfold doM;rw[A9 (by show ¬((8:Int)=4\/(8:Int)=5\/(8:Int)=6);omega),A9 (by show ¬((8:Int)=9\/(8:Int)=10);omega),A5<|show isN (eRi i).at_=Y from HA hi];unfold I7;rw[A9 (by show ¬(8:Int)=1;omega),A9 (by show ¬(8:Int)=2;omega),A9 (by show ¬(8:Int)=3;omega),A9 (by show ¬(8:Int)=7;omega),A5<|show(eRi i).ki=8 from rfl];show(!(kA w.A8 i).up)=A0;rw[c.up i hi];rfl
 .unfold doM;rw[A9 (by show ¬((9:Int)=4\/(9:Int)=5\/(9:Int)=6);omega),A5 (by show((9:Int)=9\/(9:Int)=10);omega)];unfold Ey;split
  .rename_i hc;rw[AD,Aa]at hc;have h0:(0:Int)<=(i:Int)/\(i:Int)<=(w.Al.length:Int) - 1:=hc.1;have hb:bA w.Al (eOp i).at_.toNat=Y:=c.li i J;have:=hc.2;rw[hb,show U ((eOp (i:Int)).ki=9)=Y from rfl]at this;cases this
  .rfl
structure Pre (T:Nat) (w w':AA):Prop where
 ok:At w'=Y
 inv:Inv w'
 se:w'.AX=w.AX
 go:w'.got=w.got
 t0:w.ti<=w'.ti
 t1:w'.ti<=w.ti+T
 st:∀k,sT w' k=sT w k
 up:∀k,(kA w.A8 k).up=Y->(kA w'.A8 k).up=Y
 li:∀i,i<3->bA w.Al i=Y->bA w'.Al i=Y
def Pre.trans{T S:Nat}{a b c:AA}(h:Pre T a b)(g:Pre S b c):Pre (T+S) a c:=
 ⟨g.ok,g.inv,g.se.trans h.se,g.go.trans h.go,KM h.t0 g.t0,by have:=h.t1;have:=g.t1;omega,λk=>(g.st k).trans<|h.st k,λk x=>g.up k<|h.up k x,λi hi x=>g.li i hi<|h.li i hi x⟩
def asU{w:AA}(h:At w=Y)(v:Inv w)(ht:w.ti<99999){i:Nat}(hi:i<4):Pre 1 w (Ay w<|eRi i)/\(kA (Ay w<|eRi i).A8 i).up=Y:=by
 have ok:=(DY h).1;have kl:=ok.kl;have EN:=Mv h v<|eRi i;have hd:doM w (eRi i)=(Gc w i<|riM<|kA w.A8 i,!(kA w.A8 i).up):=by
  unfold doM;rw[A9 (by show ¬((8:Int)=4\/(8:Int)=5\/(8:Int)=6);omega),A9 (by show ¬((8:Int)=9\/(8:Int)=10);omega),A5<|show isN (eRi i).at_=Y from HA hi];unfold I7;rw[A9 (by show ¬(8:Int)=1;omega),A9 (by show ¬(8:Int)=2;omega),A9 (by show ¬(8:Int)=3;omega),A9 (by show ¬(8:Int)=7;omega),A5<|show(eRi i).ki=8 from rfl];rfl
 obtain e|e:=tf (kA w.A8 i).up
 .have:Ay w (eRi i)=w:=Qc h (by rw[hd,e];rfl);rw[this]at EN ⊢;exact⟨⟨h,v,rfl,rfl,Cz _,J,λ_=>rfl,λ_ x=>x,λ_ _ x=>x⟩,e⟩
 .have es:=Qd h ht (e:=eRi i) (by rw[hd,e];rfl);rw[hd]at es;have ks:∀k,kA (Ay w<|eRi i).A8 k=if k=i then riM (kA w.A8 i) else kA w.A8 k:=λk=>by
   rw[es];show kA (w.A8.set i _) k=_;rw[GI J]
  refine⟨⟨EN.1,EN.2,by rw[es];rfl,by rw[es];rfl,by rw[es];show w.ti<=w.ti+1;omega,by rw[es];exact Cz _,λk=> ?_,λk x=> ?_,λj _ x=>by rw[es];exact x⟩,by rw[ks,A5 rfl];rfl⟩
  .unfold sT;rw[ks];split
   .rename_i c;rw[c];rfl
   .rfl
  .rw[ks];split
   .rfl
   .exact x
def atn{w:AA}(h:At w=Y)(v:Inv w)(ht:w.ti<99999){i:Nat}(hi:i<4):Pre 1 w (Ay w<|eOp i)/\(i<3->bA (Ay w<|eOp i).Al i=Y):=by
 have ok:=(DY h).1;have ll:=ok.ll;have EN:=Mv h v<|eOp i;have hd:doM w (eOp i)=Ey w (eOp i):=by
  unfold doM;rw[A9 (by show ¬((9:Int)=4\/(9:Int)=5\/(9:Int)=6);omega),A5 (by show((9:Int)=9\/(9:Int)=10);omega)]
 have e9:U ((eOp (i:Int)).ki=9)=Y:=rfl;obtain e|e:=tf (doM w<|eOp i).2
 .have es:=Qd h ht e;rw[hd]at es e;have el:Ey w (eOp i)=(⟨w.ti,w.A8,w.Al.set i Y,w.AO,w.AX,w.got⟩,Y):=by
   unfold Ey at e ⊢;split at e
   .rename_i hc;rw[A5 hc,e9];rfl
   .cases e
  rw[el]at es;have hin:i<3:=by
   unfold Ey at e;split at e
   .rename_i hc;rw[AD,Aa]at hc;have:(i:Int)<=(w.Al.length:Int) - 1:=hc.1.2;omega
   .cases e
  have bl:∀j,bA (Ay w<|eOp i).Al j=if j=i then Y else bA w.Al j:=λj=>by
   rw[es];show bA (w.Al.set i Y) j=_;unfold bA;rw[BA,P4,BA];by_cases c:i=j
   .rw[A5 c,A5 J,A5 c.symm];rfl
   .rw[A9 c,A9 λx=>c x.symm]
  refine⟨⟨EN.1,EN.2,by rw[es],by rw[es],by rw[es];show w.ti<=w.ti+1;omega,by rw[es];exact Cz _,λk=>by rw[es],λk x=>by rw[es];exact x,λj _ x=> ?_⟩,λ_=>by rw[bl,A5 rfl]⟩;rw[bl];split
  .rfl
  .exact x
 .have:Ay w (eOp i)=w:=Qc h e;rw[this]at EN ⊢;refine⟨⟨h,v,rfl,rfl,Cz _,J,λ_=>rfl,λ_ x=>x,λ_ _ x=>x⟩,λhi3=> ?_⟩;rw[hd]at e;unfold Ey at e;split at e
  .cases e
  .rename_i hn;obtain c|c:=tf (bA w.Al i)
   .exact c
   .exfalso;refine hn ?_;rw[AD,Aa];refine⟨⟨by show(0:Int)<=(i:Int);omega,by show(i:Int)<=(w.Al.length:Int) - 1;omega⟩, ?_⟩;rw[e9,show bA w.Al (eOp i).at_.toNat=A0 from c];rfl
def opn(w:AA):AA:=[0,1,2,3].foldl (λw (i:Nat)=>Ay (Ay w<|eRi i)<|eOp i) w
def YP{w:AA}(h:At w=Y)(v:Inv w)(ht:w.ti+2<99999){i:Nat}(hi:i<4):Pre 2 w (Ay (Ay w<|eRi i)<|eOp i)/\(kA (Ay (Ay w<|eRi i)<|eOp i).A8 i).up=Y/\(i<3->bA (Ay (Ay w<|eRi i)<|eOp i).Al i=Y):=by
 obtain⟨a,b⟩:=asU h v J hi;have t:=a.t1;obtain⟨c,d⟩:=atn a.ok a.inv J hi;exact⟨a.trans c,c.up _ b,d⟩
def aya{w:AA}(h:At w=Y)(v:Inv w)(ht:w.ti+8<99999):Pre 8 w (opn w)/\(∀k,k<4->(kA (opn w).A8 k).up=Y)/\ ∀i,i<3->bA (opn w).Al i=Y:=by
 obtain⟨a0,a1,a2⟩:=YP h v J (i:=0) J;have ta:=a0.t1;obtain⟨b0,b1,b2⟩:=YP a0.ok a0.inv J (i:=1) J;have tb:=b0.t1;obtain⟨c0,c1,c2⟩:=YP b0.ok b0.inv J (i:=2) J;have tc:=c0.t1;obtain⟨d0,d1,_⟩:=YP c0.ok c0.inv J (i:=3) J;refine⟨((a0.trans b0).trans c0).trans d0,λk hk=> ?_,λi hi=> ?_⟩
 .match k,hk with
  | 0,_=>exact d0.up 0<|c0.up 0<|b0.up 0 a1
  | 1,_=>exact d0.up 1<|c0.up 1 b1
  | 2,_=>exact d0.up 2 c1
  | 3,_=>exact d1
 .match i,hi with
  | 0,_=>exact d0.li 0 J<|c0.li 0 J<|b0.li 0 J<|a2 J
  | 1,_=>exact d0.li 1 J<|c0.li 1 J<|b2 J
  | 2,_=>exact d0.li 2 J<|c2 J
def pt(p:AK):Nat:=if(Cs<|BC p.data).1.ki=1 then 2 else 1
def pot(l:List AK):Nat:=(l.map pt).sum
def aaw(p:AK):1<=pt p:=by unfold pt;split<;>omega
def mr(p:AK)(l:List AK):pot (p::l)=pt p+pot l:=by unfold pot;simp
def awf(a b:List AK):pot (a++b)=pot a+pot b:=by unfold pot;simp
def pj:∀l:List AK,pot l<=2 * l.length
 | []=>Au _
 | p::l=>by
  have:=pj l;have:pt p<=2:=by unfold pt;split<;>omega
  rw[mr,Bf];omega
def avO{ps:List AK}{a:Frame}(hf:C1 a=Y)(h1:a.ki≠1):pot (C3 ps [a])<=pot ps+1:=by
 have:pt (pcF a)=1:=by
  unfold pt;rw[show BC (pcF a).data=Ce a from OF<|OQ a,Xb hf,A9 h1]
 unfold C3;rw[awf];obtain c|c:=UE (30 - ps.length)
 .rw[c];simp[pot]
 .obtain⟨n,hn⟩:∃n,30 - ps.length=n+1:=⟨30 - ps.length - 1,J⟩;rw[hn];simp[pot,this]
def aFa{w:AA}(ok:B9 w){p:AK}{ps:List AK}(hp:Ds p=Y):pot (E7 w p ps).AO<pt p+pot ps/\(E7 w p ps).Al=w.Al/\(E7 w p ps).AX=w.AX/\(E7 w p ps).got=w.got/\(∀k,(kA (E7 w p ps).A8 k).up=(kA w.A8 k).up)/\ ∀k,k<4->tiK (kA (E7 w p ps).A8 k)=tiK (kA w.A8 k):=by
 have Rt:=aaw p;have hr:=Lm hp;have kl:=ok.kl;unfold E7;split
 .rename_i hc;have hd:p.dst.toNat<4:=J
  refine⟨?_,rfl,rfl,rfl,λk=> ?_,λk hk=> ?_⟩
  .show pot (C3 ps _)<_;obtain h|⟨hf,h1,_,x,hx,h⟩:=mV (kA w.A8 p.dst.toNat) (Cs<|BC p.data).1
   .rw[h];have:C3 ps []=ps:=by unfold C3;simp
    rw[this];omega
   .rw[h];have h2:pt p=2:=by unfold pt;rw[A5 h1]
    have:=avO (ps:=ps) (pv hf h1 hx) (by show x≠1;omega);omega
  .show(kA (w.A8.set p.dst.toNat _) k).up=_;rw[GI J];split
   .rename_i e;rw[e];exact aa5 (ok.k _ hd).1 _
   .rfl
  .show tiK (kA (w.A8.set p.dst.toNat _) k)=_;rw[GI J];split
   .rename_i e;rw[e];exact awz (ok.k _ hd).1 _
   .rfl
 .exact⟨by show pot ps<_;omega,rfl,rfl,rfl,λ_=>rfl,λ_ _=>rfl⟩
structure Dlv (T:Nat) (w w':AA):Prop where
 ok:At w'=Y
 inv:Inv w'
 se:w'.AX=w.AX
 go:w'.got=w.got
 t0:w.ti<=w'.ti
 t1:w'.ti<=w.ti+T
 clk:∀k,k<4->(sT w' k).ti=(sT w k).ti
 up:∀k,(kA w'.A8 k).up=(kA w.A8 k).up
 li:w'.Al=w.Al
def q8:∀(m:Nat) {w:AA},At w=Y->Inv w->(∀i,i<3->bA w.Al i=Y)->w.ti+(m:Int)<99999->Dlv m w (dlv m w)/\(pot w.AO<=m->(dlv m w).AO=[])
 | 0,w,h,v,_,_=>⟨⟨h,v,rfl,rfl,Cz _,by show w.ti<=w.ti+((0:Nat):Int);omega,λ_ _=>rfl,λ_=>rfl,rfl⟩,λhp=>by
  show w.AO=[];cases hr:w.AO with
  | nil=>rfl
  | cons p ps=>
   rw[hr,mr]at hp;have:=aaw p;omega⟩
 | m+1,w,h,v,hl,ht=>by
  have ok:=(DY h).1;cases hr:w.AO with
  | nil=>
   rw[Lu hr];exact⟨⟨h,v,rfl,rfl,Cz _,J,λ_ _=>rfl,λ_=>rfl,rfl⟩,λ_=>hr⟩
  | cons p ps=>
   rw[Td hr];have hd:=qC ok hr hl;have es:=Qd h J (e:=eBr) (by rw[hd]);rw[hd]at es;obtain⟨g1,g2⟩:=Mv h v eBr;obtain⟨b1,b2,b3,b4,b5,b6⟩:=aFa ok (p:=p) (ps:=ps) (ok.p p (by rw[hr];exact .head _));have et:(Ay w eBr).ti=w.ti+1:=by rw[es]
   obtain⟨r1,r2⟩:=q8 m g1 g2 (λi hi=>by rw[es];show bA (E7 w p ps).Al i=Y;rw[b2];exact hl i hi) J;refine⟨⟨r1.ok,r1.inv,r1.se.trans (by rw[es];exact b3),r1.go.trans (by rw[es];exact b4),by have:=r1.t0;omega,by have:=r1.t1;omega,λk hk=>(r1.clk k hk).trans ?_,λk=>(r1.up k).trans ?_,r1.li.trans (by rw[es];exact b2)⟩,λhp=>r2 ?_⟩
   .rw[es];exact b6 k hk
   .rw[es];exact b5 k
   .rw[es];rw[mr]at hp;show pot (E7 w p ps).AO<=m;omega
def Fh(w:AA):AA:=RF<|dlv 400<|opn w
def asS{w:AA}(h:At w=Y)(v:Inv w)(ht:w.ti+840<99999):Cal 840 w (Fh w)/\NZ 1 (Fh w):=by
 obtain⟨a,b,c⟩:=aya h v J;have t1:=a.t1;obtain⟨d,e⟩:=q8 400 a.ok a.inv c J;have hr:(dlv 400<|opn w).AO=[]:=e (by
  have:=pj (opn w).AO;have:=(DY a.ok).1.rl;omega)
 have cm:Cm (dlv 400<|opn w):=⟨d.ok,d.inv,λi hi=>by rw[d.li];exact c i hi,λk hk=>by rw[d.up];exact b k hk⟩;have t2:=d.t1;obtain⟨f,g,_⟩:=aaD cm hr J<|awb cm;refine⟨⟨f.cm,f.ra,f.se.trans<|d.se.trans a.se,f.go.trans<|d.go.trans a.go,KM a.t0<|KM d.t0 f.t0,by have:=f.t1;show(RF<|dlv 400<|opn w).ti<=w.ti+((840:Nat):Int);omega,λk hk=>(f.clk k hk).trans<|(d.clk k hk).trans<|by rw[a.st]⟩,g⟩
def aur{w:AA}(c:Cm w):opn w=w:=by
 unfold opn;simp only[Dy,KK];rw[(OL c 0 J).1,(OL c 0 J).2,(OL c 1 J).1,(OL c 1 J).2,(OL c 2 J).1,(OL c 2 J).2,(OL c 3 J).1,(OL c 3 J).2]
def nH{w:AA}(c:Cm w)(hr:w.AO=[])(ht:w.ti+840<99999){m:Nat}(h:NZ m w):Cal 840 w (Fh w)/\NZ (m+1) (Fh w)/\(Stl w->(Fh w).A8=w.A8):=by
 unfold Fh;rw[aur c,Lu hr];obtain⟨f,g,k⟩:=aaD c hr J h;exact⟨f.up J,g,k⟩
def Gm:Nat->AA->AA
 | 0,w=>w
 | n+1,w=>if w.ti<79999 then Gm n (Fh w) else w
def T8{w:AA}(ht:w.ti<79999)(n:Nat):Gm (n+1) w=Gm n (Fh w):=by
 show(if w.ti<79999 then Gm n (Fh w) else w)=_;rw[A5 ht]
def avK{w:AA}(c:Cm w){m:Nat}(hm:3<=m)(h:NZ m w):Stl w:=awa c λk hk n hn=>by
 obtain a|⟨a,b⟩|⟨a,_⟩:=h k hk n hn
 .exact .inl a
 .exact .inr (.inl ⟨a,J⟩)
 .omega
def abd{w:AA}(h:At w=Y)(v:Inv w)(ht:w.ti+3360<79999):Cal 3360 w (Gm 4 w)/\Stl (Gm 4 w):=by
 obtain⟨a0,a1⟩:=asS h v J;have ta:=a0.t1;obtain⟨b0,b1,_⟩:=nH a0.cm a0.ra J a1;have tb:=b0.t1;obtain⟨c0,c1,_⟩:=nH b0.cm b0.ra J b1;have tc:=c0.t1;obtain⟨d0,d1,_⟩:=nH c0.cm c0.ra J c1;have e:Gm 4 w=Fh (Fh<|Fh<|Fh w):=by
  rw[T8 J,T8 J,T8 J,T8 J];rfl
 rw[e];exact⟨((a0.trans b0).trans c0).trans d0,avK d0.cm J d1⟩
def J7{w:AA}(h:At w=Y)(e:Event):At (Ay w e)=Y:=by
 unfold Ay;obtain⟨h0,_⟩|⟨_,h0⟩|⟨_,h1,h2,h0⟩:=T4 w e
 .rw[h]at h0;cases h0
 .rw[h0];exact h
 .rw[h0];exact aGT h h1 h2
def aGN{w:AA}(h:At w=Y)(e:Event):w.ti<=(Ay w e).ti/\(Ay w e).ti<=w.ti+1:=by
 have t0:=(DY h).2.1;unfold Ay;obtain⟨h0,_⟩|⟨_,h0⟩|⟨_,h1,h2,h0⟩:=T4 w e
 .rw[h]at h0;cases h0
 .rw[h0];show w.ti<=w.ti/\w.ti<=w.ti+1;omega
 .rw[h0];show w.ti<=(Cl w e).ti/\(Cl w e).ti<=w.ti+1;rw[pH h2,AZ J J];omega
def mM:∀(l:List Event) {w:AA},At w=Y->At (Dn w l)=Y/\w.ti<=(Dn w l).ti/\(Dn w l).ti<=w.ti+l.length
 | [],w,h=>⟨h,Cz _,by show w.ti<=w.ti+((0:Nat):Int);omega⟩
 | e::l,w,h=>by
  obtain⟨a,b⟩:=aGN h e;obtain⟨c,d,f⟩:=mM l<|J7 h e;have f:(Dn w<|e::l).ti<=(Ay w e).ti+l.length:=f;exact⟨c,KM a d,by rw[Bf];omega⟩
def mv(ev:List Event):0<=(De ev).ti/\(De ev).ti<=2000:=by
 refine⟨(DY<|OY ev).2.1, ?_⟩;unfold De;split
 .decide
 .have:=(mM ev Zm).2.2;have t0:rv0.ti=0:=rfl;omega
def Bu(w w':AA):Prop:=∃l:List Event,(∀e∈l,e.tx.size<=1048576)/\w'=Dn w l
def Bu.rfl(w:AA):Bu w w:=⟨[],λ_ h=>(by cases h),Gv _⟩
def Bu.trans{a b c:AA}(h:Bu a b)(g:Bu b c):Bu a c:=by
 obtain⟨l,hl,rfl⟩:=h;obtain⟨m,hm,rfl⟩:=g;exact⟨l++m,λe he=>(by obtain he|he:=BM.1 he;exact hl e he;exact hm e he),(aFH a l m).symm⟩
def Bu.one(w:AA)(e:Event)(h:e.tx.size<=1048576):Bu w (Ay w e):=⟨[e],λx hx=>by rw[C9.1 hx];exact h,Gv _⟩
def L3:noB.size<=1048576:=by decide
def Bu.dlv:∀(m:Nat) (w:AA),Bu w<|dlv m w
 | 0,w=>Bu.rfl w
 | m+1,w=>by
  unfold Go.VS.dlv;split
  .exact Bu.rfl w
  .exact(Bu.one w eBr L3).trans<|Bu.dlv m _
def Bu.fold{α:Type}{f:AA->α->AA}(h:∀w a,Bu w<|f w a):∀(l:List α) (w:AA),Bu w<|l.foldl f w
 | [],w=>Bu.rfl w
 | a::l,w=>(h w a).trans (Bu.fold h l _)
def Bu.IW(w:AA)(i:Nat):Bu w (IW w i):=Bu.fold (λw n=>Bu.fold (λw b=>(Bu.one w _ L3).trans<|Bu.dlv 400 _) _ w) _ w
def Bu.rnd(w:AA):Bu w (Fh w):=by
 unfold Fh opn RF;refine Bu.trans (Bu.fold (λw (i:Nat)=>(Bu.one w (eRi i) L3).trans<|Bu.one _ (eOp i) L3) [0,1,2,3] w) ?_;exact((((Bu.dlv 400 _).trans<|Bu.IW _ 0).trans<|Bu.IW _ 1).trans<|Bu.IW _ 2).trans<|Bu.IW _ 3
def Bu.rok{w w':AA}(r:Bu w w')(h:At w=Y):At w'=Y:=by
 obtain⟨l,_,rfl⟩:=r;exact(mM l h).1
def Bu.ind{P:AA->Prop}{w w':AA}(r:Bu w w')(h:At w=Y)(v:Inv w)(hp:P w)(hs:∀x e,At x=Y->Inv x->P x->(doM x e).2=Y->P (Cl x e)):P w':=by
 obtain⟨l,_,rfl⟩:=r;exact((la (P:=λx=>Inv x/\P x) (Q:=λ_=>True) (λx e h v _ hd=>⟨v.1.sim (DY h).1 e,hs x e h v.1 v.2 hd⟩) l h ⟨v,hp⟩ λ_ _=>trivial).2).2
def Kps(k k':AE):Prop:=(∀m∈k.marks,m∈k'.marks)/\ ∀n∈k.inbox,n∈k'.inbox
def Kps.rfl(k:AE):Kps k k:=⟨λ_ h=>h,λ_ h=>h⟩
structure Kpt (x y:AA):Prop where
 cm:Cm y
 ra:y.AO=[]
 se:y.AX=x.AX
 go:y.got=x.got
 t0:x.ti<=y.ti
 bey:∀n∈x.AX,∀i,Bey x i n->Bey y i n
 kp:∀k,k<4->Kps (sT x k) (sT y k)
def Kps.trans{a b c:AE}(h:Kps a b)(g:Kps b c):Kps a c:=⟨λm hm=>g.1 m<|h.1 m hm,λn hn=>g.2 n<|h.2 n hn⟩
def Kpt.rfl{x:AA}(c:Cm x)(hr:x.AO=[]):Kpt x x:=⟨c,hr,Gv _,Gv _,Cz _,λ_ _ _ h=>h,λ_ _=>Kps.rfl _⟩
structure Gd (x w:AA):Prop where
 ok:At w=Y
 inv:Inv w
 ra:w.AO=x.AO
 li:w.Al=x.Al
 t1:x.ti<=w.ti
 st:∀k,k<4->sT w k=sT x k
def ao{w:AA}(h:At w=Y){e:Event}(ht:e.tx.size<=1048576):I1 (tR w,tE e,())=I ((tR<|Ay w e,(El w e).2,()),()):=by
 obtain⟨a,b,c⟩:=DY h;rw[j9 a b c ht];unfold Ay El;rw[A5 h]
def ayr{w:AA}(h:At w=Y):I1 (tR w,(4,0,0,0,0,0,0,0,0,noB,()),())=I ((tR<|Ay w eBr,(El w eBr).2,()),()):=ao h (e:=eBr) L3
def ayq{w:AA}(h:At w=Y)(i fr nu b:Int):I1 (tR w,(3,i,fr,nu,0,b,0,0,0,noB,()),())=I ((tR<|Ay w<|eMx i fr nu b,(El w<|eMx i fr nu b).2,()),()):=ao h (e:=eMx i fr nu b) L3
def ayo{w:AA}(h:At w=Y)(i:Int):I1 (tR w,(8,i,0,0,0,0,0,0,0,noB,()),())=I ((tR<|Ay w<|eRi i,(El w<|eRi i).2,()),()):=ao h (e:=eRi i) L3
def ayp{w:AA}(h:At w=Y)(i:Int):I1 (tR w,(9,i,0,0,0,0,0,0,0,noB,()),())=I ((tR<|Ay w<|eOp i,(El w<|eOp i).2,()),()):=ao h (e:=eOp i) L3
def asT{w:AA}(h:At w=Y){e:Event}(hr:(El w e).2=A0):Ay w e=w:=by
 unfold Ay;obtain⟨h0,_⟩|⟨_,h0⟩|⟨_,_,_,h0⟩:=T4 w e
 .rw[h]at h0;cases h0
 .rw[h0]
 .rw[h0]at hr;cases hr
def aaO{w:AA}(h:Ay w eBr=w):∀m,dlv m w=w
 | 0=>rfl
 | m+1=>by
  unfold dlv;rw[h,aaO h m];split<;>rfl
def abA:∀(m:Nat) {w:AA},At w=Y->m<=400->VE (tR w,tR zR,((400 - m:Nat):Int),())=I (.inr (tR<|dlv m w,tR zR,()))
 | 0,w,_,_=>BF (by
  unfold S3;rw[A9 (by show ¬(U (((400 - 0:Nat):Int)<400)&&_)=Y;rw[show U (((400 - 0:Nat):Int)<400)=A0 from rfl,AL];exact CW)];rfl)
 | m+1,w,h,hm=>by
  have hlt:U (((400 - (m+1):Nat):Int)<400)=Y:=AU J;by_cases hr:w.AO.length=0
  .refine BF ?_;unfold S3;have:U ((0:Int)<(w.AO.length:Int))=A0:=BG J;rw[A9 (by show ¬(_&&U ((0:Int)<(w.AO.length:Int)))=Y;rw[this,Ba];exact CW)];rw[Lu<|Dz hr]
  .have Rt:U ((0:Int)<(w.AO.length:Int))=Y:=AU J;have hh:=ayr h;have hdl:dlv (m+1) w=dlv m (Ay w eBr):=by
    show(if w.AO.length=0 then w else dlv m (Ay w eBr))=_;rw[A9 hr]
   have hb:∀(b:Bool),(El w eBr).2=b->S3 (tR w,tR zR,((400 - (m+1):Nat):Int),())=if b then I (.inl (tR<|Ay w eBr,tR zR,((400 - m:Nat):Int),())) else I (.inr<|.inr (tR w,tR zR,())):=λb hb=>by
    unfold S3;rw[A5 (by show(U (((400 - (m+1):Nat):Int)<400)&&U ((0:Int)<(w.AO.length:Int)))=Y;rw[hlt,Rt];rfl)];simp only[hh,A6,hb];have ew:w64 (((400 - (m+1):Nat):Int)+1)=((400 - m:Nat):Int):=by rw[AZ J J];omega
    simp only[ew];cases b<;>rfl
   obtain c|c:=tf (El w eBr).2
   .rw[hdl];exact As (by have:=hb Y c;simpa using this) (abA m (J7 h eBr) J)
   .have hf:=asT h c;rw[hdl,hf,aaO hf];exact BF (by have:=hb A0 c;simpa using this)
def yz{w:AA}(h:At w=Y):SC (tR w,())=I ((tR<|dlv 400 w,()),()):=by
 have:VE (tR w,tR zR,0,())=_:=abA 400 h<|Au _;unfold SC;rw[show VE _=_ from this];rfl
def aap{w:AA}(h:At w=Y)(i:Nat)(n:A3)(b:Nat):At (FE i n w b)=Y:=(Bu.dlv 400<|Ay w<|eMx i n.fr n.nu b).rok<|J7 h _
def TT{α:Type}{f:AA->α->AA}(hf:∀w a,At w=Y->At (f w a)=Y):∀(l:List α) {w:AA},At w=Y->At (l.foldl f w)=Y
 | [],_,h=>h
 | a::l,w,h=>TT hf l (hf w a h)
def aH5{w:AA}(h:At w=Y)(i:Nat)(n:A3):At (KB i w n)=Y:=TT (λw b h=>aap h i n b) _ h
def az7{w:AA}(h:At w=Y)(i:Nat)(n:A3)(L:List A3)(a b:Int){B:Nat}(hB:B<=1000):
  eh (tR w,tR zR,(i:Int),(n.fr,n.nu,n.to,n.un,n.tx,()),L,a,b,(B:Int),0,())=I (.inr (tR<|(B8 B).foldl (FE i n) w,tR zR,(i:Int),L,a,b,())):=
 CG (λj=>(tR<|(B8 j).foldl (FE i n) w,tR zR,(i:Int),(n.fr,n.nu,n.to,n.un,n.tx,()),L,a,b,(B:Int),(j:Int),())) B (λj hj=>by
  have hx:=TT (λw b h=>aap h i n b) (B8 j) h;have h1:=ayq hx i n.fr n.nu j;have h2:=yz<|J7 hx<|eMx i n.fr n.nu j;unfold iR;simp only[B5 hj,A2,h1,h2,A6,B2 hj (by omega:B<=9223372036854775807)];rw[IK,GY];rfl) (by
  unfold iR;simp only[QP,A4])
def az8{w:AA}(h:At w=Y)(i:Nat)(L:List A3)(hL:L.length<=1000)(hn:∀n∈L,Ax n=Y):
  eu (tR w,tR zR,(i:Int),L,(L.length:Int),0,())=I (.inr (tR<|L.foldl (KB i) w,tR zR,(i:Int),())):=by
 have:=CG (b:=Wu) (y:= .inr (tR<|(L.take L.length).foldl (KB i) w,tR zR,(i:Int),())) (λj=>(tR<|(L.take j).foldl (KB i) w,tR zR,(i:Int),L,(L.length:Int),(j:Int),())) L.length (λj hj=>by
  have hx:=TT (λw n h=>aH5 h i n) (L.take j) h;have hm:=Ev hj;have htx:=M0<|hn _ hm;have hc:=ab0 htx;have alU:=Aa.1 htx;have h3:=az7 hx i (nA L j) L (L.length:Int) (j:Int) (B:=((nA L j).tx.size+3) / 4) J;unfold Wu;simp only[B5 hj,AR hj,A2,Co,aBa,A6,hc];rw[show eh _=_ from h3];simp only[CD,B2 hj (by omega:L.length<=9223372036854775807)];rw[show L.take (j+1)=L.take j++[nA L j] by rw[Iw,Ap hj,DA<|Ap hj];rfl,GY];rfl) (by
  unfold Wu;simp only[QP,A4])
 rw[E0]at this;exact this
def n8{w:AA}(h:At w=Y)(i:Nat):At (IW w i)=Y:=TT (λw n h=>aH5 h i n) _ h
def bL{w:AA}(h:At w=Y){i:Nat}(hi:i<4):Wv (tR w,tR zR,(i:Int),())=I (.inl (tR<|IW w i,tR zR,((i+1:Nat):Int),())):=by
 have ok:=(DY h).1;have kl:=ok.kl;have kf:=Bz<|FO ok hi;have h2:=az8 h i (stT<|kA w.A8 i).held (by have:=kf.hl;unfold sT at this;omega) (λn hn=>QC kf.h hn);unfold Wv;simp only[AU<|show(i:Int)<4 by omega,A2,AR (J:i<w.A8.length),aDQ,La (ok.k i hi).1,A6];rw[show eu _=_ from h2];simp only[CD,AZ (n:=(i:Int)+1) J J];rfl
def bM{w:AA}(h:At w=Y){i:Nat}(hi:i<4):Ww (tR w,tR zR,(i:Int),())=I (.inl (tR<|Ay (Ay w<|eRi i)<|eOp i,tR zR,((i+1:Nat):Int),())):=by
 have h1:=ayo h i;have h2:=ayp (J7 h<|eRi i) i;unfold Ww;simp only[AU<|show(i:Int)<4 by omega,A2,h1,h2,A6,AZ (n:=(i:Int)+1) J J];rfl
def aqS{w:AA}(h:At w=Y):XC (tR w,())=I ((tR<|Fh w,()),()):=by
 have st:∀(w:AA) (i:Nat),At w=Y->At (Ay (Ay w<|eRi i)<|eOp i)=Y:=λw i h=>J7 (J7 h _) _;have o0:=st _ 0 h;have o1:=st _ 1 o0;have o2:=st _ 2 o1;have o3:=st _ 3 o2;have e0:ez (tR w,tR zR,0,())=I (.inr (tR<|opn w,tR zR,())):=
  As (bM h (i:=0) J) (As (bM o0 (i:=1) J)<|As (bM o1 (i:=2) J)<|As (bM o2 (i:=3) J)<|BF (by unfold Ww;rfl))
 have d:=yz (w:=opn w) o3;have od:At (dlv 400<|opn w)=Y:=(Bu.dlv 400<|opn w).rok o3;have k0:=n8 od 0;have k1:=n8 k0 1;have k2:=n8 k1 2;have e1:ey (tR<|dlv 400<|opn w,tR zR,0,())=I (.inr (tR<|Fh w,tR zR,())):=
  As (bL od (i:=0) J) (As (bL k0 (i:=1) J)<|As (bL k1 (i:=2) J)<|As (bL k2 (i:=3) J)<|BF (by unfold Wv;rfl))
 unfold XC;rw[show ez _=_ from e0];simp only[CD];rw[show SC _=_ from d];simp only[A6];rw[show ey _=_ from e1];rfl
def avL{w:AA}(h:At w=Y):At (Fh w)=Y:=(Bu.rnd w).rok h
def aaT(r:Nat)(hr:r<=20):∀(m:Nat) {w:AA},At w=Y->m<=r->VA ((r:Int),tR zR,tR w,((r - m:Nat):Int),())=I (.inr (tR zR,tR<|Gm m w,()))
 | 0,w,_,_=>BF (by
  unfold Vm;have:U (((r - 0:Nat):Int)<(if(20:Int)<(r:Int) then 20 else(r:Int)))=A0:=by
   rw[A9 J];exact BG J
  rw[A9 (by show ¬(U (((r - 0:Nat):Int)<(if(20:Int)<(r:Int) then 20 else(r:Int)))&&_)=Y;rw[this,AL];exact CW)];rfl)
 | m+1,w,h,hm=>by
  have hlt:U (((r - (m+1):Nat):Int)<(if(20:Int)<(r:Int) then 20 else(r:Int)))=Y:=by
   rw[A9 J];exact AU J
  by_cases ht:w.ti<79999
  .rw[T8 ht];refine As (x':=((r:Int),tR zR,tR<|Fh w,((r - m:Nat):Int),())) ?_<|aaT r hr m (avL h) J;unfold Vm;rw[A5 (by show(U (((r - (m+1):Nat):Int)<(if(20:Int)<(r:Int) then 20 else(r:Int)))&&U (w.ti<79999))=Y;rw[hlt,AU ht];rfl)];rw[show XC _=_ from aqS h];simp only[A6];have ew:w64 (((r - (m+1):Nat):Int)+1)=((r - m:Nat):Int):=by rw[AZ J J];omega
   simp only[ew]
  .have e:Gm (m+1) w=w:=by
    show(if w.ti<79999 then Gm m (Fh w) else w)=w;rw[A9 ht]
   rw[e];refine BF ?_;unfold Vm;rw[A9 (by show ¬(_&&U (w.ti<79999))=Y;rw[BG ht,Ba];exact CW)]
def aih{w:AA}(h:At w=Y){r:Nat}(hr:r<=20):Pq (tR w,(r:Int),())=I ((tR<|Gm r w,()),()):=by
 have sm:=(DY h).1.sm;have g:=aaT r hr r h<|Au _;rw[PE]at g;have g:VA ((r:Int),tR zR,tR w,0,())=_:=g;unfold Pq;rw[show Ml (tR w,())=_ from gr sm];simp only[A6,show GH w.ti w.A8 w.Al w.AO w.AX w.got=Y from h,AB,A4];rw[show Jm (tR w,())=_ from SB sm];simp only[A6];rw[show VA _=_ from g];rfl
def pC{w:AA}(h:At w=Y)(v:Inv w):Nv (tR w,())=I ((Y,()),()):=by
 have:=aif (ti:=w.ti) (DY h).1.sm;rw[avp h v]at this;exact this
def pW{w:AA}(h:At w=Y):Pq (tR w,4,())=I ((tR<|Gm 4 w,()),()):=aih h (r:=4) J
end Go.VS
end
