/- Part 21. -/
import Derived.Test.YtgjljlpdfceilaaGreatDoorQAT
open Bool renaming and_eq_true->AG,and_false->Bc,false->A3,false_and->AS,false_ne_true->Ca,not_eq_true'->C1,not_true->AF,or_eq_true->Br,true->U
open Decidable renaming decide->A1
open Eq renaming refl->HD
open Int renaming le_refl->Ct,le_trans->J7,toNat_natCast->BZ
open List renaming eq_nil_of_length_eq_zero->E7,foldl_append->Gg,getD_eq_getElem?_getD->BC,getElem?_eq_getElem->Au,getElem_mem->CV,length_cons->Bh,length_singleton->Jq,mem_append->BN,mem_append_left->By,mem_filter->FW,mem_of_mem_drop->Jr,mem_or_eq_of_mem_set->Rj,mem_singleton->CA,range->BB,range_succ->IU,replicate->BV,take_add_one->JC,take_length->E8
open Nat renaming le_refl->Az,lt_trans->bU,sub_self->Pm
open Option renaming bind_some->A9,some->I
open Option.some renaming inj->Cn
open Prod.mk renaming inj->J8
set_option linter.all false
noncomputable section
namespace Go.VS
open Go
def aIB{w w':AE}{f:Frame}(h:C4 f=U->O4 (λn=>n∈w'.AQ) f/\HvF w' f):RaN w w' (pcF f):=by
 refine .inr ⟨PcI.send λe=>(h e).1,λg hg=> ?_⟩;have hg:D2 (BF<|BK<|Ck f)=(g,U):=hg;rcases tf (C4 f) with e|e
 .rw[Ok<|Oy f,YY e]at hg;rw[← (J8 hg).1];exact(h e).2
 .unfold Ck at hg;rw[e,A7]at hg;have:=aFZ;rw[hg]at this;cases this
def Ri(e:Event)(w w':AE):Prop:=∃i k' a,OH w w' i k' a/\((∃m,a= .lets m)->e.ki=4)/\((∃n,a= .own n)->e.ki=1)
def Ol{e:Event}{w w':AE}(v:Inv w)(ok:B7 w)(ek:w'.AB=w.AB)(es:w'.AQ=w.AQ)(eg:w'.got=w.got)(hr:∀p∈w'.AT,RaN w w' p):Ri e w w':=
 ⟨0,kA w.AB 0,.non,⟨J,PK (ok.k 0 J).1<|v.lo 0 J,by rw[ek,LU],.inl ⟨es,λ_ e=>by cases e⟩,.inl ⟨eg,λ_ e=>by cases e⟩,
  λ_ e=>(by cases e),λ_ e=>(by cases e),hr,λh hh=>(by rw[es];exact v.hf 0 J h hh)⟩,fun⟨_,e⟩=>(by cases e),fun⟨_,e⟩=>(by cases e)⟩
def MJ{e:Event}{w:AE}(v:Inv w)(ok:B7 w):Ri e w w:=Ol v ok rfl rfl rfl λ_ h=> .inl h
def arj{a t:Int}(h:isN (BT a t)=U)(n:A6)(ht:n.to=t):dsN n (BT a t)<dsN n a:=by
 have h0:=EB h;revert h0;unfold BT dsN;split
 .omega
 .rename_i h1;intro _;simp only[Br,C1,not_or,Bool.not_eq_false,decide_eq_true_eq]at h1;have:=h1.2.2;split<;>omega
def arf{f:Frame}(h:C4 f=U)(h1:f.ki=1){n:A6}(ht:f.to=n.to):dsN n f.dst<dsN n f.src:=by
 obtain⟨_,r2,_,_,_,_,r7⟩:=P5 h;unfold JX at r7;rw[A8<|AZ h1]at r7;simp only[AG,decide_eq_true_eq]at r7;have e:=r7.2.2.2;rw[e]at r2 ⊢;exact arj r2 n ht.symm
def avk{got:List AX}{mix:Int}{da:A4}{m:AX}(h:m∈D4 got mix da):m∈got\/m=⟨mix,da⟩:=by
 unfold D4 at h;rcases BN.1 h with h|h
 .left;split at h
  .exact(FW.1<|Jr h).1
  .exact(FW.1 h).1
 .exact .inr<|CA.1 h
def aaW{w:AE}{hv:List AJ}{f:Frame}{n:A6}(g:∀h∈hv,HfG w.AQ h)(hn:n∈w.AQ)(h1:f.fr=n.fr)(h2:f.nu=n.nu)(h3:f.to=n.to)(h4:f.un=n.un)(h5:f.sz=n.tx.size):
  (∀h∈(Aw hv f).1,HfG w.AQ h)/\(hA (Aw hv f).1 (Aw hv f).2).fr=f.fr/\(hA (Aw hv f).1 (Aw hv f).2).nu=f.nu:=by
 rcases nc hv f with⟨i,e,hi,e1,e2,_⟩|⟨_,l,sub,e⟩
 .rw[e];exact⟨g,e1,e2⟩
 .rw[e];refine⟨λh hh=> ?_,by rw[bk],by rw[bk]⟩;rcases BN.1 hh with hh|hh
  .exact g h (sub.subset hh)
  .rw[CA.1 hh];exact⟨n,hn,h1,h2,h3,h4,h5,λm hm=>by cases hm⟩
def rZ{l:List AJ}{i:Nat}(h:i<l.length):hA l i∈l:=by
 rw[IN h];exact CV h
def aan{w:AE}(v:Inv w){hv:List AJ}{i:Nat}(hi:i<hv.length){f:Frame}{n:A6}(g:∀h∈hv,HfG w.AQ h)(hn:n∈w.AQ)(h1:f.fr=n.fr)(h2:f.nu=n.nu)(h6:f.da=Gb n.tx f.mix)
  (e1:(hA hv i).fr=f.fr)(e2:(hA hv i).nu=f.nu):(∀h∈DA hv i f,HfG w.AQ h)/\Pw n.tx (D4 (hA hv i).got f.mix f.da):=by
 obtain⟨x,x1,x2,x3,x4,x5,x6,x7⟩:=g _<|rZ hi;have e:x=n:=Ix v.sp x1 hn (by rw[← x2,e1,h1]) (by rw[← x3,e2,h2]);subst e;have ht:Pw x.tx (D4 (hA hv i).got f.mix f.da):=λm hm fit=>by
  rcases avk hm with c|c
  .exact x7 m c fit
  .rw[c];exact h6
 refine⟨λh hh=> ?_,ht⟩;unfold DA at hh;rcases Rj hh with c|c
 .exact g h c
 .rw[c];exact⟨x,x1,x2,x3,x4,x5,x6,ht⟩
def azK{w w':AE}(hg:w'.got=w.got){n:A6}{i:Int}(hT:∀j,sT w' j=sT w j)(hD:∀j,sD w' j=sD w j\/sD w' j=sT w j)(h:Bey w i n):Bey w' i n:=by
 obtain h|⟨j,h1,h2,h3⟩|⟨j,⟨h1,h2,h3⟩,h4⟩:=h
 .exact .inl (by unfold Ew;rw[hg,hT];exact h)
 .exact .inr (.inl ⟨j,h1,h2,by rw[hT];exact h3⟩)
 .refine .inr (.inr ⟨j,⟨h1,by rw[hT];exact h2, ?_⟩,h4⟩);rcases hD j with e|e<;>rw[e]<;>assumption
def Mvd.ofH{k k':AA}{hv:List AJ}{a:Act}(m:Mvd (Gx k hv) k' a):Mvd k k' a:=⟨m.lo,m.id,m.ti,m.nx,m.hold,m.held,m.box,m.OE,m.mrk,m.mks,m.new,m.eat,m.lets⟩
def avb{w:AE}(v:Inv w)(ok:B7 w){i:Nat}(hi:i<4){f:Frame}(hf:C4 f=U)(hd:f.dst=(i:Int))(g:O4 (λn=>n∈w.AQ) f)(hv:HvF w f){ra:List AO}(hra:∀p∈ra,p∈w.AT):
  ∃a,OH w ⟨w.ti,w.AB.set i (CH (kA w.AB i) f).1,w.Aq,C6 ra (CH (kA w.AB i) f).2,w.AQ,w.got⟩ i (CH (kA w.AB i) f).1 a/\ ∀n,a≠ .own n:=by
 have hok:=(ok.k i hi).1;have hid:=(ok.k i hi).2;have kl:=ok.kl;have lo:=v.lo i hi;have mkS:∀(k':AA) (fs:List Frame) (a:Act),Mvd (kA w.AB i) k' a->(∀n,a≠ .own n)->(∀n,a≠ .eat n)->(∀n,a= .take n->n∈w.AQ)->(∀m,a= .lets m->∃n∈w.AQ,n.fr=m.mf/\n.nu=m.mn/\Bey w i n)->(∀h∈k'.AM,HfG w.AQ h)->
   (∀x∈fs,O4 (λn=>n∈w.AQ) x/\HvF ⟨w.ti,w.AB.set i k',w.Aq,C6 ra fs,w.AQ,w.got⟩ x)->∃a,OH w ⟨w.ti,w.AB.set i k',w.Aq,C6 ra fs,w.AQ,w.got⟩ i k' a/\ ∀n,a≠ .own n:=λk' fs a m n1 n2 n3 n4 n5 n6=>
  ⟨a,⟨hi,m,rfl,.inl ⟨rfl,n1⟩,.inl ⟨rfl,n2⟩,n3,n4,λp hp=>by
   rcases aI0 hp with hp|⟨x,hx,rfl⟩
   .exact .inl (hra p hp)
   .exact aIB λ_=>n6 x hx,n5⟩,n1⟩
 have stay:∃a,OH w ⟨w.ti,w.AB.set i<|kA w.AB i,w.Aq,C6 ra [],w.AQ,w.got⟩ i (kA w.AB i) a/\ ∀n,a≠ .own n:=mkS _ _ .non (PK hok lo) (λ_ e=>by cases e) (λ_ e=>by cases e) (λ_ e=>by cases e) (λ_ e=>by cases e) (v.hf i hi) (λx hx=>by cases hx);have non:∀(k':AA) (fs:List Frame),Mvd (kA w.AB i) k' .non->(∀h∈k'.AM,HfG w.AQ h)->(∀x∈fs,O4 (λn=>n∈w.AQ) x/\HvF ⟨w.ti,w.AB.set i k',w.Aq,C6 ra fs,w.AQ,w.got⟩ x)->∃a,OH w ⟨w.ti,w.AB.set i k',w.Aq,C6 ra fs,w.AQ,w.got⟩ i k' a/\ ∀n,a≠ .own n:=
  λk' fs m h1 h2=>mkS k' fs .non m (λ_ e=>by cases e) (λ_ e=>by cases e) (λ_ e=>by cases e) (λ_ e=>by cases e) h1 h2
 rw[aE hok];unfold HS;split
 .rename_i hc;simp only[AG]at hc;split
  .rename_i h1;have h1:f.ki=1:=BX h1;obtain⟨n,hn,nok,g1,g2,g3,g4,g5,g6⟩:=g h1;have hds:=arf hf h1 g3;rw[hd]at hds;unfold ED;split
   .exact non _ _ (PK hok lo) (v.hf i hi) (λx hx=>by
     rw[CA.1 hx];exact⟨λe=>(by cases e),λe=>(by cases e)⟩)
   split
   .rename_i hh;obtain⟨_,a1,a2,a3⟩:=UJ hok;refine non _ _ (Qx hok lo a1 a3<|.inr a2) (v.hf i hi) (λx hx=> ?_);rw[CA.1 hx];refine⟨λe=>(by cases e),λ_=>⟨n,hn,g1.symm,g2.symm, ?_⟩⟩;obtain hh|hh:=hh
    .obtain⟨j0,_,j2,j3⟩:=FM hh;have hm:=EZ j0;have hs:=v.hs i hi _<|(lo.lf hok).held _ hm;have e:=Ix v.sp hs hn (by rw[j2,g1]) (by rw[j3,g2]);rw[e]at hm;refine .inr (.inr ⟨i,⟨hi, ?_, ?_⟩,hds⟩)
     .show n∈(stT<|kA (w.AB.set i _) i).held;rw[FO J,A8 rfl,a3];exact hm
     .show n∈(stD<|kA (w.AB.set i _) i).held;rw[FO J,A8 rfl,a2];exact hm
    .obtain⟨j0,_,j2,j3⟩:=bf hh;have hm:mA (stT<|kA w.AB i).marks (Bt (stT<|kA w.AB i).marks f.fr f.nu).toNat∈(stT<|kA w.AB i).marks:=by
      rw[mA,BC,Au j0];exact CV j0
     obtain⟨z,z1,z2,z3⟩:=v.mrk i hi _ hm;have e:=Ix v.sp z1 hn (by rw[← g1,← j2,z2]) (by rw[← g2,← j3,z2]);subst e;have z4:=azK (w:=w) (w':=⟨w.ti,w.AB.set i<|foM<|kA w.AB i,w.Aq,C6 ra [Dp 2 f],w.AQ,w.got⟩) rfl (n:=z) (i:=(i:Int)) (λj=>by
       show stT (kA (w.AB.set i _) j)=_;rw[FO J];split
       .rename_i e;rw[e,a3]
       .rfl) (λj=>by
       show stD (kA (w.AB.set i _) j)=_\/stD (kA (w.AB.set i _) j)=_;rw[FO J];split
       .rename_i e;rw[e,a2];exact .inr rfl
       .exact .inl rfl) z3
     obtain c|c|⟨j,c1,c2⟩:=z4
     .exact .inl c
     .exact .inr (.inl c)
     .exact .inr<|.inr ⟨j,c1,bU c2 hds⟩
   split
   .exact stay
   .obtain⟨p1,p2,p3⟩:=aaW (v.hf i hi) hn g1 g2 g3 g4 g5;have plt:=PB (hv:=(kA w.AB i).AM) (f:=f);obtain⟨q1,q2⟩:=aan v plt p1 hn g1 g2 g6 p2 p3;have mH:∀hv,Mvd (kA w.AB i) (Gx (kA w.AB i) hv) .non:=λhv=>Qx hok lo lo rfl (.inl rfl);unfold Jc;split
    .split
     .rename_i ht;rw[g5]at ht;have ht:=aHH (MQ nok) q2 ht;have e:(⟨f.fr,f.nu,f.to,f.un,(FQ f.sz<|D4 (hA (Aw (kA w.AB i).AM f).1 (Aw (kA w.AB i).AM f).2).got f.mix f.da).1⟩:A6)=n:=by
       rw[g5,ht,g1,g2,g3,g4]
      rw[e];have hdr:=(cP hok hc.1 hc.2.1 h1).ok;have hh:∀h∈FU (DA (Aw (kA w.AB i).AM f).1 (Aw (kA w.AB i).AM f).2 f) (Aw (kA w.AB i).AM f).2,HfG w.AQ h:=λh hh=>q1 h<|ay0 hh;unfold JV;split
      .rename_i hw;rw[AG]at hw;have mt:=(cD hdr (show LO (Gx (kA w.AB i) _) from lo) hw.2 (a:= .take n) (λo ho=>(aJD (Bu hdr).kok nok ho).1) λ_ e=>by cases e).2;have mt:=mt.ofH;refine mkS _ _ (.take n) mt (λ_ e=>by cases e) (λ_ e=>by cases e) (λx e=>by cases e;exact hn) (λ_ e=>by cases e) (λh hx=>hh h (by rw[V8]at hx;exact hx)) (λx hx=> ?_);rw[CA.1 hx];refine⟨λe=>(by cases e),λ_=>⟨n,hn,g1.symm,g2.symm, ?_⟩⟩;obtain⟨_,_,hnw⟩:=mt.new n<|.inr rfl;rw[Gz ok hi]at hnw;split at hnw
       .rename_i hto;refine .inl<|.inr ?_;show n∈(stT<|kA (w.AB.set i _) n.to.toNat).inbox;rw[hto,BZ,FO J,A8 rfl];exact hnw
       .refine .inr (.inr ⟨i,⟨hi, ?_, ?_⟩,hds⟩)
        .show n∈(stT<|kA (w.AB.set i _) i).held;rw[FO J,A8 rfl];exact hnw.1
        .show n∈(stD<|kA (w.AB.set i _) i).held;rw[FO J,A8 rfl];exact hnw.2
      .exact non _ _ (mH _) hh (λx hx=>by cases hx)
     .exact non _ _ (mH _) q1 (λx hx=>by cases hx)
    .exact non _ _ (mH _) p1 (λx hx=>by cases hx)
  .split
   .rename_i h2;rw[AG]at h2;have h2:f.ki=2:=BX h2.1;obtain⟨r1,r2,r3⟩:=ZP hf;rcases tf (wrR (kA w.AB i) (Cc C2 f.fr f.nu f.un) A3).2 with e|e
    .refine mkS _ _ _ (awv hok lo r1 r2 r3 e) (λ_ e=>by cases e) (λ_ e=>by cases e) (λ_ e=>by cases e) (λm em=> ?_) (λh hx=>v.hf i hi h (by rw[V8]at hx;exact hx)) (λx hx=>by cases hx);cases em;obtain⟨n,n1,n2,n3,n4⟩:=hv h2;rw[hd]at n4;exact⟨n,n1,n2,n3,n4⟩
    .have:=RF e;simp only[this];exact stay
   .exact stay
 .exact stay
def ayL{k:AA}{fr nu mix:Int}(hb:(EM k fr nu mix).2=U):(EM k fr nu mix).1.ki=1:=by
 unfold EM at hb ⊢;split at hb
 .rename_i hc;rw[A8 hc]
 .cases hb
def U5{w:AE}(v:Inv w)(ok:B7 w)(e:Event):Ri e w (doM w e).1:=by
 have kl:=ok.kl;have old:∀ {w':AE} {p:AO},p∈w.AT->RaN w w' p:=λh=> .inl h;unfold doM;split
 .rename_i hk;unfold EY;split
  .rename_i h2;have h2:=Ad.1 h2;have hlt:e.wo.toNat<w.AT.length:=J
   have hpc:=v.ra _<|rN hlt;split
   .split
    .rename_i h3;simp only[AG,C1]at h3;refine Ol v ok rfl rfl rfl (λp hp=> ?_);rcases Rj hp with h4|h4
     .exact old h4
     .rw[h4];have:=hpc.al8 h3.1 h3.2.1 h3.2.2;refine .inr ⟨this,λf hu=> ?_⟩;have hb:=this.bad rfl;rw[hu]at hb;cases hb
    .exact MJ v ok
   .split
    .exact Ol v ok rfl rfl rfl (λp hp=>old<|aHt hp)
    .split
     .have hra:∀p∈(if e.kp=0 then JY w.AT e.wo.toNat else w.AT),p∈w.AT:=by
       intro p hp;split at hp
       .exact aHt hp
       .exact hp
      unfold EE;split
      .rename_i hc;simp only[AG,decide_eq_true_eq]at hc;obtain⟨f,hu,hfo,_,hd,hg,_⟩:=hpc.frame hc.1;have hv:=v.hv _ (rN hlt) f hu;obtain⟨_,⟨d0,d1⟩,_⟩:=MF<|R0 ok hlt;rw[hu];obtain⟨a,s,na⟩:=avb v ok (i:=(pA w.AT e.wo.toNat).dst.toNat) J hfo (by rw[← hd];omega) hg hv hra;exact⟨_,_,a,s,λ_=>by omega,fun⟨n,e⟩=>absurd e<|na n⟩
      .exact Ol v ok rfl rfl rfl (λp hp=>old<|hra p hp)
     .exact MJ v ok
  .exact MJ v ok
 split
 .unfold F7;split
  .exact Ol v ok rfl rfl rfl (λp hp=>old hp)
  .exact MJ v ok
 split
 .rename_i ha;have ha:=EB ha;have hi:e.at_.toNat<4:=J
  have hok:=(ok.k _ hi).1;have lo:=v.lo _ hi;have one:∀ {k':AA},Mvd (kA w.AB e.at_.toNat) k' .non->(∀h∈k'.AM,h∈(kA w.AB e.at_.toNat).AM)->Ri e w (GM w e.at_.toNat k'):=λm hh=>
   ⟨_,_,_,⟨hi,m,rfl,.inl ⟨rfl,λ_ e=>(by cases e)⟩,.inl ⟨rfl,λ_ e=>(by cases e)⟩,λ_ e=>(by cases e),λ_ e=>(by cases e),λp hp=>old hp,λh hx=>v.hf _ hi h<|hh h hx⟩,fun⟨_,e⟩=>(by cases e),fun⟨_,e⟩=>(by cases e)⟩
  unfold Gu;split
  .rename_i h1;unfold O1;split
   .exact MJ v ok
   .split
    .exact MJ v ok
    .rename_i h0;have hid:=(ok.k _ hi).2;have hn:=aH1 (k:=kA w.AB e.at_.toNat) h0;have m:=awu hok lo (tt:=e.to) (un:=e.un) (tx:=e.tx) h0;have eid:(kA w.AB e.at_.toNat).id=e.at_:=J
     rw[eid]at hn m;refine⟨_,_,_,⟨hi,m,rfl,.inr ⟨_,rfl,rfl,hn⟩,.inl ⟨rfl,λ_ e=>(by cases e)⟩,λ_ e=>(by cases e),λ_ e=>(by cases e),λp hp=>old hp,λh hx=> ?_⟩,fun⟨_,e⟩=>(by cases e),λ_=>h1⟩;rw[ayw]at hx;exact(v.hf _ hi h hx).up (λn hn=>By _ hn)
  .split
   .exact one (aug hok lo) (λh hx=>by rw[awF]at hx;exact hx)
   .split
    .split
     .rename_i hb;refine Ol v ok rfl rfl rfl (λp hp=> ?_);rcases aI0 hp with hp|⟨x,hx,rfl⟩
      .exact old hp
      .rw[CA.1 hx];exact aIB λ_=>⟨awx hok (λn hn=>v.hs _ hi n<|(lo.lf hok).held n hn) hb,λe=>by rw[ayL hb]at e;cases e⟩
     .exact MJ v ok
    .split
     .exact one (avp hok lo _).2 (λh hx=>by cases hx)
     .split
      .exact one (auh hok lo) (λh hx=>hx)
      .split
       .unfold OB;split
        .rename_i hc;rw[AG]at hc;exact⟨_,_,_,⟨hi,aww hok lo hc.1,rfl,.inl ⟨rfl,λ_ e=>(by cases e)⟩,.inr ⟨_,rfl,rfl⟩,λ_ e=>(by cases e),λ_ e=>(by cases e),λp hp=>old hp,λh hx=>v.hf _ hi h (by rw[aya]at hx;exact hx)⟩,fun⟨_,e⟩=>(by cases e),fun⟨_,e⟩=>(by cases e)⟩
        .exact MJ v ok
       .split
        .exact one (aui hok lo) (λh hx=>by rw[axV]at hx;exact hx)
        .split
         .exact one (atH hok lo) (λh hx=>by rw[avS]at hx;exact hx)
         .exact MJ v ok
 .exact MJ v ok
def Inv.doM{w:AE}(v:Inv w)(ok:B7 w)(e:Event):Inv (doM w e).1:=by
 obtain⟨_,_,_,s,_⟩:=U5 v ok e;exact v.step ok s
def Inv.tick{w:AE}(v:Inv w)(ok:B7 w)(b:Bool):Inv (tick w b):=by
 unfold Go.VS.tick;cases b
 .exact v
 .obtain⟨_,_,_,s,_⟩:=Ol (e:=⟨0,0,0,0,0,0,0,0,0,noB⟩) (w':=⟨w64<|w.ti+1,w.AB,w.Aq,w.AT,w.AQ,w.got⟩) v ok rfl rfl rfl (λp hp=> .inl hp);exact v.step ok s
def Inv.sim{w:AE}(v:Inv w)(ok:B7 w)(e:Event):Inv (CZ w e):=(v.doM ok e).tick (rQ ok e) _
def cJ{i:Nat}(hi:i<4):stT (kA rv0.AB i)=⟨(i:Int),0,1,[],[],[]⟩/\LO (kA rv0.AB i)/\stD (kA rv0.AB i)=⟨(i:Int),0,1,[],[],[]⟩:=by
 have hk:=(dE.k i hi).1;have e:=cT hi;have hf:(kA rv0.AB i).fo=((kA rv0.AB i).log.size:Int):=by rw[e];rfl
 have h1:=UI hk hf;have h2:stT (kA rv0.AB i)=⟨(i:Int),0,1,[],[],[]⟩:=by
  have l:CF (kA rv0.AB i).log (kA rv0.AB i).fo [] []:=by
   rw[e];exact⟨λr hr=>(by cases hr),(by show noB.size<=2400;decide),rfl,rfl⟩
  have:=(Ds hk).st;rw[l.state]at this;rw[e]at this;unfold Ci kp0 at this;rw[A8<|Fg hi]at this;rw[e];exact(Cn this).symm
 exact⟨h2,h1.1,h1.2.trans h2⟩
def rz:Inv rv0:=by
 refine⟨λi hi=>(cJ hi).2.1,λi hi n hn=> ?_,λi hi n hn=> ?_,λn hn=>(by cases hn),.nil,.nil,λg hg=>(by cases hg),λn hn=>(by cases hn),λi hi m hm=> ?_,λp hp=>(by cases hp),λp hp=>(by cases hp),λi hi h hh=> ?_⟩
 .unfold sD at hn;rw[(cJ hi).2.2]at hn;cases hn
 .unfold sT at hn;rw[(cJ hi).1]at hn;cases hn
 .unfold sT at hm;rw[(cJ hi).1]at hm;cases hm
 .rw[cT hi]at hh;cases hh
def Ae(w:AE)(e:Event):AE:=(Ek w e).1
def DZ(w:AE)(l:List Event):AE:=l.foldl Ae w
def C7(l:List Event):AE:=if 2000<l.length then rv0 else DZ rv0 l
def aW:At rv0=U:=qi dE (by decide)<|by decide
def nh{P:AE->Prop}{Q:Event->Prop}(hs:∀w e,At w=U->P w->Q e->(doM w e).2=U->P (CZ w e)):∀(l:List Event) {w:AE},At w=U->P w->(∀e∈l,Q e)->At (DZ w l)=U/\P (DZ w l)
 | [],w,h,p,_=>⟨h,p⟩
 | e::l,w,h,p,q=>by
  have hq:=q e<|.head _;refine nh hs l (w:=Ae w e) ?_ ?_ λx hx=>q x<|.tail _ hx
  all_goals
   unfold Ae;rcases Tf w e with⟨h0,_⟩|⟨_,h0⟩|⟨_,h1,h2,h0⟩
   .rw[h]at h0;cases h0
   .rw[h0];assumption
   .rw[h0]
    first|exact aHz h h1 h2|exact hs w e h p hq h2
def ni(w:AE)(l m:List Event):DZ w (l++m)=DZ (DZ w l) m:=Gg
def ng{l:List Event}{w:AE}(h:At w=U)(v:Inv w):At (DZ w l)=U/\Inv (DZ w l):=
 nh (Q:=λ_=>True) (λw e h v _ _=>v.sim (Cz h).1 e) l h v (λ_ _=>trivial)
def Ts(l:List Event):At (C7 l)=U/\Inv (C7 l):=by
 unfold C7;split
 .exact⟨aW,rz⟩
 .exact ng aW rz
def ab5(w w':AE):Prop:=∀i,(sT w i).ti<=(sT w' i).ti/\(sT w i).nx<=(sT w' i).nx
def Ri.later{e:Event}{w w':AE}(ok:B7 w)(s:Ri e w w'):ab5 w w':=by
 obtain⟨i,k',a,s,_⟩:=s;have kl:=ok.kl;have hi:=s.hi;intro j;unfold sT;rw[s.ek,FO J];split
 .rename_i e;subst e;refine⟨s.m.ti, ?_⟩;obtain⟨h,_⟩|⟨_,_,_,_,h⟩:=s.m.nx<;>omega
 .exact⟨Ct _,Ct _⟩
def ag4:fP ()=I ((tR rv0,()),()):=by
 have h0:dh (tR zR,tR zR,0,())=I (.inr (tR zR,tR rv0,())):=by
  have st:∀(n:Nat) (l:List AA) (m:List Bool),n<4->l.length<=4->m.length<=4->WJ (tR zR,tR ⟨0,l,m,[],[],[]⟩,(n:Int),())=I (.inl (tR zR,tR ⟨0,l++[kp0 n],if n=0 then m else m++[U],[],[],[]⟩,((n+1:Nat):Int),())):=by
   intro n l m hn hl hm;unfold WJ vG;have e1:Af (l.length+1)=U:=BG J;have e2:Af (m.length+1)=U:=BG J;have e3:w64 ((n:Int)+1)=((n+1:Nat):Int):=Ac J J;simp only[AZ<|show(n:Int)<4 by omega,A5,K7,A9,Fg hn,AF,A7,Jq,e1,e2,e3];by_cases c:n=0
   .subst c;rfl
   .rw[AZ<|show(0:Int)<(n:Int) by omega,A8 rfl,AD c];rfl
  have fin:WJ (tR zR,tR rv0,4,())=I (.inr<|.inr (tR zR,tR rv0,())):=rfl;exact Ap (st 0 [] [] (by decide) (by decide)<|by decide)<|Ap (st 1 _ _ (by decide) (by decide)<|by decide)<|Ap (st 2 _ _ (by decide) (by decide)<|by decide)<|Ap (st 3 _ _ (by decide) (by decide)<|by decide)<|BE fin
 unfold fP;rw[show dh _=_ from h0];simp only[AP,So dE.sm,A9]
def afk:Si ()=I ((tR rv0,()),()):=aJa
def evA(l:List Event)(i:Nat):Event:=l.getD i<|dfl .CO
def aI9(l:List Event)(i:Nat): @rd Event (dfl .CO) l (i:Int)=evA l i:=rfl
def aas{l:List Event}{i:Nat}(h:i<l.length):evA l i=l[i]:=by
 unfold evA;rw[BC,Au h];rfl
def aFo{w:AE}{l:List Event}{i:Nat}(h:i<l.length):DZ w (l.take<|i+1)=Ae (DZ w<|l.take i) (evA l i):=by
 rw[aas h,JC,Au h,ni];rfl
def aIG(l:List Event):At (DZ rv0 l)=U:=(ng aW rz (l:=l)).1
def axS(l:List Event):SmR (DZ rv0 l):=(Cz<|aIG l).1.sm
def aar{l:List Event}(h:∀e∈l,e.tx.size<=1048576){i:Nat}(hi:i<l.length):(evA l i).tx.size<=1048576:=by
 rw[aas hi];exact h _<|CV hi
def Sn{l:List Event}(hl:l.length<=4294967296)(h:∀e∈l,e.tx.size<=1048576):N9 (l,())=I ((tR<|C7 l,()),()):=by
 unfold N9 C7;rw[afk];simp only[A9];by_cases c:2000<l.length
 .rw[A8 c,AZ<|show(2000:Int)<(l.length:Int) by omega,A8 rfl]
 .rw[AD c,BI<|show ¬(2000:Int)<(l.length:Int) by omega,A7];have h0:dY (l,tR zR,tR rv0,0,())=I (.inr (tR zR,tR<|DZ rv0<|l.take l.length,())):=
   CG (λi=>(l,tR zR,tR<|DZ rv0<|l.take i,(i:Int),())) l.length (λi hi=>by
    unfold fI;have hd:=ams (axS<|l.take i) (e:=evA l i)<|aar h hi;simp only[B9 hi,AU hi,A5,aI9];rw[show OW (tR<|DZ rv0<|l.take i,tE<|evA l i,())=_ from hd];simp only[A9,B4 hi (by omega:l.length<=9223372036854775807),aFo hi];rfl) (by simp[fI])
  rw[show dY _=_ from h0,E8];rfl
def QH{l:List Event}(hl:l.length<=4294967296)(h:∀e∈l,e.tx.size<=1048576):M0 (l,())=I ((tR<|C7 l,()),()):=by
 unfold M0 C7;rw[ag4];simp only[A9];by_cases c:2000<l.length
 .rw[A8 c,AZ<|show(2000:Int)<(l.length:Int) by omega,A8 rfl]
 .rw[AD c,BI<|show ¬(2000:Int)<(l.length:Int) by omega,A7];have h0:dy (tR zR,tR rv0,l,(l.length:Int),0,())=I (.inr (tR zR,tR<|DZ rv0<|l.take l.length,())):=
   CG (λi=>(tR zR,tR<|DZ rv0<|l.take i,l,(l.length:Int),(i:Int),())) l.length (λi hi=>by
    unfold fV;have hr:=aIG<|l.take i;have hw:=Cz hr;have hd:=kr hw.1 hw.2.1 hw.2.2 (e:=evA l i)<|aar h hi;simp only[B9 hi,AU hi,A5,aI9];rw[show I8 (tR<|DZ rv0<|l.take i,tE<|evA l i,())=_ from hd];have e:Ae (DZ rv0<|l.take i) (evA l i)=(if A1 (99999<=(DZ rv0<|l.take i).ti) then(DZ rv0<|l.take i,A3) else if(doM (DZ rv0<|l.take i)<|evA l i).2 then(CZ (DZ rv0<|l.take i)<|evA l i,U) else(DZ rv0<|l.take i,A3)).1:=by
     unfold Ae Ek;rw[A8 hr]
    simp only[A9,B4 hi (by omega:l.length<=9223372036854775807),aFo hi,e]) (by simp[fV])
  rw[show dy _=_ from h0,E8];rfl
def LQ(l:List Event):At (C7 l)=U:=(Ts l).1
def R3(l:List Event):SmR (C7 l):=(Cz<|LQ l).1.sm
def Reach.tx{ev:List Event}{w:AE}(h:Reach ev w):∀e∈ev,e.tx.size<=1048576:=by
 induction h with
 | nil=>exact λe he=>by cases he
 | snoc _ _ ht ih=>exact qB ih ht
def TV{l:List Int}(hb:BOk l):∃ev:List Event,Lx (l,())=I ((ev,()),())/\ev.length<=1048576/\ ∀e∈ev,e.tx.size<=1048576:=by
 have key:Tot (Lx (l,())) λa=>a.1.1.length<=1048576/\ ∀e∈a.1.1,e.tx.size<=1048576:=by
  unfold Lx;refine Tot.bind (ayG hb) λr1 h1=>Tot.bind (D3 h1<|by decide) λr4 h4=>Tot.ite (λ_=> ?_) (λ_=> ?_)
  .refine Tot.bind (D3 h4.1<|by decide) λr5 h5=> ?_;have h50:=h5.2.1;have h51:r5.1.1<2:=h5.2.2 (show(1:Int)<=2 by decide);rw[Ac J J];refine Tot.pos (by rw[AG,decide_eq_true_eq,decide_eq_true_eq];omega) (Tot.ret ⟨?_,λe he=> ?_⟩)
   .show(BV _ _).length<=_;rw[List.length_replicate];omega
   .rw[(List.mem_replicate.1 he).2];show noB.size<=_;decide
  .exact Tot.bind (ayt (M:=26) h4.1 (by decide) (by decide)<|by decide) λr6 h6=>Tot.ret (by
    obtain⟨w,ev,e1,e2,e3⟩:=h6.2;have e4:r6.1.1.2.2.2.2.2.2.2=(ev,()):=by rw[e1]
    rw[e4];exact⟨by show ev.length<=1048576;omega,e2.reach.tx⟩)
 obtain⟨⟨⟨ev,_⟩,_⟩,e,h1,h2⟩:=key;exact⟨ev,e,h1,h2⟩
def Yj(l:List AA)(i:Nat): @rd AA (dfl .AN) l (i:Int)=kA l i:=rfl
def P7(n:Nat):A1 ((n:Int)<(n:Int))=A3:=by simp
def eBr:Event:=⟨4,0,0,0,0,0,0,0,0,noB⟩
def eMx(i fr nu b:Int):Event:=⟨3,i,fr,nu,0,b,0,0,0,noB⟩
def eRi(i:Int):Event:=⟨8,i,0,0,0,0,0,0,0,noB⟩
def eOp(i:Int):Event:=⟨9,i,0,0,0,0,0,0,0,noB⟩
def dlv:Nat->AE->AE
 | 0,w=>w
 | n+1,w=>if w.AT.length=0 then w else dlv n (Ae w eBr)
def MT{w:AE}(h:w.AT=[])(n:Nat):dlv n w=w:=by
 cases n with
 | zero=>rfl
 | succ n=>unfold dlv;rw[A8 (by rw[h];rfl)]
structure Cm (w:AE):Prop where
 ok:At w=U
 inv:Inv w
 li:∀i,i<3->bA w.Aq i=U
 up:∀i,i<4->(kA w.AB i).up=U
structure Ofr (T:Nat) (w w':AE) (i j:Nat) (n:A6):Prop where
 cm:Cm w'
 ra:w'.AT=[]
 se:w'.AQ=w.AQ
 go:w'.got=w.got
 t0:w.ti<=w'.ti
 t1:w'.ti<=w.ti+T
 clk:∀k,k<4->(sT w' k).ti=(sT w k).ti
 hi:∀x∈(sT w' i).held,x∈(sT w i).held
 hj:∀x∈(sT w' j).held,x∈(sT w j).held\/x=n
 ot:∀k,k≠i->k≠j->kA w'.AB k=kA w.AB k
 st:n.un<=(sT w j).ti->w'.AB=w.AB
def Ofr.rfl{w:AE}(c:Cm w)(hr:w.AT=[])(i j:Nat)(n:A6):Ofr 0 w w i j n:=⟨c,hr,HD _,HD _,Ct _,J,λ_ _=>HD _,λ_ h=>h,λ_ h=> .inl h,λ_ _ _=>HD _,λ_=>HD _⟩
def Ofr.trans{T S:Nat}{a b c:AE}{i j:Nat}{n:A6}(hj4:j<4)(h:Ofr T a b i j n)(g:Ofr S b c i j n):Ofr (T+S) a c i j n:=
 ⟨g.cm,g.ra,g.se.trans h.se,g.go.trans h.go,J7 h.t0 g.t0,by have:=h.t1;have:=g.t1;omega,λk hk=>(g.clk k hk).trans<|h.clk k hk,λx hx=>h.hi x<|g.hi x hx,
  λx hx=>by rcases g.hj x hx with e|e;exact h.hj x e;exact .inr e,λk h1 h2=>(g.ot k h1 h2).trans<|h.ot k h1 h2,λhs=>(g.st (by rw[h.clk j hj4];exact hs)).trans<|h.st hs⟩
def Ofr.up{T S:Nat}{w w':AE}{i j:Nat}{n:A6}(h:Ofr T w w' i j n)(hS:T<=S):Ofr S w w' i j n:=⟨h.cm,h.ra,h.se,h.go,h.t0,by have:=h.t1;omega,h.clk,h.hi,h.hj,h.ot,h.st⟩
def FT(i:Nat)(n:A6)(w:AE)(b:Nat):AE:=dlv 400<|Ae w<|eMx i n.fr n.nu b
def Ko(i:Nat)(w:AE)(n:A6):AE:=(BB<|(n.tx.size+3) / 4).foldl (FT i n) w
def stk(w:AE)(n:A6)(i:Nat):Prop:=n.un<=(sT w (BT i n.to).toNat).ti
structure Cal (T:Nat) (w w':AE):Prop where
 cm:Cm w'
 ra:w'.AT=[]
 se:w'.AQ=w.AQ
 go:w'.got=w.got
 t0:w.ti<=w'.ti
 t1:w'.ti<=w.ti+T
 clk:∀k,k<4->(sT w' k).ti=(sT w k).ti
def Cal.rfl{w:AE}(c:Cm w)(hr:w.AT=[]):Cal 0 w w:=⟨c,hr,HD _,HD _,Ct _,J,λ_ _=>HD _⟩
def Cal.trans{T S:Nat}{a b c:AE}(h:Cal T a b)(g:Cal S b c):Cal (T+S) a c:=
 ⟨g.cm,g.ra,g.se.trans h.se,g.go.trans h.go,J7 h.t0 g.t0,by have:=h.t1;have:=g.t1;omega,λk hk=>(g.clk k hk).trans<|h.clk k hk⟩
def Cal.up{T S:Nat}{w w':AE}(h:Cal T w w')(hS:T<=S):Cal S w w':=⟨h.cm,h.ra,h.se,h.go,h.t0,by have:=h.t1;omega,h.clk⟩
structure Trn (T:Nat) (w w':AE) (i:Nat) (L:List A6):Prop where
 ca:Cal T w w'
 hi:∀x∈(sT w' i).held,x∈(sT w i).held
 ot:∀k,k<4->k≠i->∀x∈(sT w' k).held,x∈(sT w k).held\/(x∈L/\BT i x.to=(k:Int))
 dn:∀n∈L,n ∉ (sT w' i).held\/stk w n i
 st:(∀n∈L,stk w n i)->w'.AB=w.AB
def Ii(w:AE)(i:Nat):AE:=(sT w i).held.foldl (Ko i) w
def S7(w:AE):AE:=Ii (Ii (Ii (Ii w 0) 1) 2) 3
structure Pre (T:Nat) (w w':AE):Prop where
 ok:At w'=U
 inv:Inv w'
 se:w'.AQ=w.AQ
 go:w'.got=w.got
 t0:w.ti<=w'.ti
 t1:w'.ti<=w.ti+T
 st:∀k,sT w' k=sT w k
 up:∀k,(kA w.AB k).up=U->(kA w'.AB k).up=U
 li:∀i,i<3->bA w.Aq i=U->bA w'.Aq i=U
def Pre.trans{T S:Nat}{a b c:AE}(h:Pre T a b)(g:Pre S b c):Pre (T+S) a c:=
 ⟨g.ok,g.inv,g.se.trans h.se,g.go.trans h.go,J7 h.t0 g.t0,by have:=h.t1;have:=g.t1;omega,λk=>(g.st k).trans<|h.st k,λk x=>g.up k<|h.up k x,λi hi x=>g.li i hi<|h.li i hi x⟩
def opn(w:AE):AE:=[0,1,2,3].foldl (λw (i:Nat)=>Ae (Ae w<|eRi i)<|eOp i) w
structure Dlv (T:Nat) (w w':AE):Prop where
 ok:At w'=U
 inv:Inv w'
 se:w'.AQ=w.AQ
 go:w'.got=w.got
 t0:w.ti<=w'.ti
 t1:w'.ti<=w.ti+T
 clk:∀k,k<4->(sT w' k).ti=(sT w k).ti
 up:∀k,(kA w'.AB k).up=(kA w.AB k).up
 li:w'.Aq=w.Aq
def G0(w:AE):AE:=S7<|dlv 400<|opn w
def F8:Nat->AE->AE
 | 0,w=>w
 | n+1,w=>if w.ti<79999 then F8 n (G0 w) else w
def Tl{w:AE}(ht:w.ti<79999)(n:Nat):F8 (n+1) w=F8 n (G0 w):=by
 show(if w.ti<79999 then F8 n (G0 w) else w)=_;rw[A8 ht]
def JN{w:AE}(h:At w=U)(e:Event):At (Ae w e)=U:=by
 unfold Ae;rcases Tf w e with⟨h0,_⟩|⟨_,h0⟩|⟨_,h1,h2,h0⟩
 .rw[h]at h0;cases h0
 .rw[h0];exact h
 .rw[h0];exact aHz h h1 h2
def pz{w:AE}(h:At w=U)(e:Event):w.ti<=(Ae w e).ti/\(Ae w e).ti<=w.ti+1:=by
 have t0:=(Cz h).2.1;unfold Ae;rcases Tf w e with⟨h0,_⟩|⟨_,h0⟩|⟨_,h1,h2,h0⟩
 .rw[h]at h0;cases h0
 .rw[h0];show w.ti<=w.ti/\w.ti<=w.ti+1;omega
 .rw[h0];show w.ti<=(CZ w e).ti/\(CZ w e).ti<=w.ti+1;rw[qw h2,Ac J J];omega
def nf:∀(l:List Event) {w:AE},At w=U->At (DZ w l)=U/\w.ti<=(DZ w l).ti/\(DZ w l).ti<=w.ti+l.length
 | [],w,h=>⟨h,Ct _,by show w.ti<=w.ti+((0:Nat):Int);omega⟩
 | e::l,w,h=>by
  obtain⟨a,b⟩:=pz h e;obtain⟨c,d,f⟩:=nf l<|JN h e;have f:(DZ w<|e::l).ti<=(Ae w e).ti+l.length:=f;exact⟨c,J7 a d,by rw[Bh];omega⟩
def Bk(w w':AE):Prop:=∃l:List Event,(∀e∈l,e.tx.size<=1048576)/\w'=DZ w l
def Bk.rfl(w:AE):Bk w w:=⟨[],λ_ h=>(by cases h),HD _⟩
def Bk.trans{a b c:AE}(h:Bk a b)(g:Bk b c):Bk a c:=by
 obtain⟨l,hl,rfl⟩:=h;obtain⟨m,hm,rfl⟩:=g;exact⟨l++m,λe he=>(by rcases BN.1 he with he|he;exact hl e he;exact hm e he),(ni a l m).symm⟩
def Bk.one(w:AE)(e:Event)(h:e.tx.size<=1048576):Bk w (Ae w e):=⟨[e],λx hx=>by rw[CA.1 hx];exact h,HD _⟩
def LX:noB.size<=1048576:=by decide
def Bk.dlv:∀(m:Nat) (w:AE),Bk w<|dlv m w
 | 0,w=>Bk.rfl w
 | m+1,w=>by
  unfold Go.VS.dlv;split
  .exact Bk.rfl w
  .exact(Bk.one w eBr LX).trans<|Bk.dlv m _
def Bk.fold{α:Type}{f:AE->α->AE}(h:∀w a,Bk w<|f w a):∀(l:List α) (w:AE),Bk w<|l.foldl f w
 | [],w=>Bk.rfl w
 | a::l,w=>(h w a).trans (Bk.fold h l _)
def Bk.Ii(w:AE)(i:Nat):Bk w (Ii w i):=Bk.fold (λw n=>Bk.fold (λw b=>(Bk.one w _ LX).trans<|Bk.dlv 400 _) _ w) _ w
def Bk.rnd(w:AE):Bk w (G0 w):=by
 unfold G0 opn S7;refine Bk.trans (Bk.fold (λw (i:Nat)=>(Bk.one w (eRi i) LX).trans<|Bk.one _ (eOp i) LX) [0,1,2,3] w) ?_;exact((((Bk.dlv 400 _).trans<|Bk.Ii _ 0).trans<|Bk.Ii _ 1).trans<|Bk.Ii _ 2).trans<|Bk.Ii _ 3
def Bk.rok{w w':AE}(r:Bk w w')(h:At w=U):At w'=U:=by
 obtain⟨l,_,rfl⟩:=r;exact(nf l h).1
def Bk.ind{P:AE->Prop}{w w':AE}(r:Bk w w')(h:At w=U)(v:Inv w)(hp:P w)(hs:∀x e,At x=U->Inv x->P x->(doM x e).2=U->P (CZ x e)):P w':=by
 obtain⟨l,_,rfl⟩:=r;exact((nh (P:=λx=>Inv x/\P x) (Q:=λ_=>True) (λx e h v _ hd=>⟨v.1.sim (Cz h).1 e,hs x e h v.1 v.2 hd⟩) l h ⟨v,hp⟩ λ_ _=>trivial).2).2
def Kps(k k':AH):Prop:=(∀m∈k.marks,m∈k'.marks)/\ ∀n∈k.inbox,n∈k'.inbox
def Kps.rfl(k:AH):Kps k k:=⟨λ_ h=>h,λ_ h=>h⟩
structure Kpt (x y:AE):Prop where
 cm:Cm y
 ra:y.AT=[]
 se:y.AQ=x.AQ
 go:y.got=x.got
 t0:x.ti<=y.ti
 bey:∀n∈x.AQ,∀i,Bey x i n->Bey y i n
 kp:∀k,k<4->Kps (sT x k) (sT y k)
def Kps.trans{a b c:AH}(h:Kps a b)(g:Kps b c):Kps a c:=⟨λm hm=>g.1 m<|h.1 m hm,λn hn=>g.2 n<|h.2 n hn⟩
def Kpt.rfl{x:AE}(c:Cm x)(hr:x.AT=[]):Kpt x x:=⟨c,hr,HD _,HD _,Ct _,λ_ _ _ h=>h,λ_ _=>Kps.rfl _⟩
structure Gd (x w:AE):Prop where
 ok:At w=U
 inv:Inv w
 ra:w.AT=x.AT
 li:w.Aq=x.Aq
 t1:x.ti<=w.ti
 st:∀k,k<4->sT w k=sT x k
def cZ{w:AE}(h:At w=U){e:Event}(ht:e.tx.size<=1048576):I8 (tR w,tE e,())=I ((tR<|Ae w e,(Ek w e).2,()),()):=by
 obtain⟨a,b,c⟩:=Cz h;rw[kr a b c ht];unfold Ae Ek;rw[A8 h]
def ayW{w:AE}(h:At w=U):I8 (tR w,(4,0,0,0,0,0,0,0,0,noB,()),())=I ((tR<|Ae w eBr,(Ek w eBr).2,()),()):=cZ h (e:=eBr) LX
def ayV{w:AE}(h:At w=U)(i fr nu b:Int):I8 (tR w,(3,i,fr,nu,0,b,0,0,0,noB,()),())=I ((tR<|Ae w<|eMx i fr nu b,(Ek w<|eMx i fr nu b).2,()),()):=cZ h (e:=eMx i fr nu b) LX
def ayT{w:AE}(h:At w=U)(i:Int):I8 (tR w,(8,i,0,0,0,0,0,0,0,noB,()),())=I ((tR<|Ae w<|eRi i,(Ek w<|eRi i).2,()),()):=cZ h (e:=eRi i) LX
def ayU{w:AE}(h:At w=U)(i:Int):I8 (tR w,(9,i,0,0,0,0,0,0,0,noB,()),())=I ((tR<|Ae w<|eOp i,(Ek w<|eOp i).2,()),()):=cZ h (e:=eOp i) LX
def atk{w:AE}(h:At w=U){e:Event}(hr:(Ek w e).2=A3):Ae w e=w:=by
 unfold Ae;rcases Tf w e with⟨h0,_⟩|⟨_,h0⟩|⟨_,_,_,h0⟩
 .rw[h]at h0;cases h0
 .rw[h0]
 .rw[h0]at hr;cases hr
def aaF{w:AE}(h:Ae w eBr=w):∀m,dlv m w=w
 | 0=>rfl
 | m+1=>by
  unfold dlv;rw[h,aaF h m];split<;>rfl
def aav:∀(m:Nat) {w:AE},At w=U->m<=400->Vn (tR w,tR zR,((400 - m:Nat):Int),())=I (.inr (tR<|dlv m w,tR zR,()))
 | 0,w,_,_=>BE (by
  unfold Sj;rw[AD (by show ¬(A1 (((400 - 0:Nat):Int)<400)&&_)=U;rw[show A1 (((400 - 0:Nat):Int)<400)=A3 from rfl,AS];exact Ca)];rfl)
 | m+1,w,h,hm=>by
  have hlt:A1 (((400 - (m+1):Nat):Int)<400)=U:=AZ J;by_cases hr:w.AT.length=0
  .refine BE ?_;unfold Sj;have:A1 ((0:Int)<(w.AT.length:Int))=A3:=BI J;rw[AD (by show ¬(_&&A1 ((0:Int)<(w.AT.length:Int)))=U;rw[this,Bc];exact Ca)];rw[MT<|E7 hr]
  .have Rf:A1 ((0:Int)<(w.AT.length:Int))=U:=AZ J;have hh:=ayW h;have hdl:dlv (m+1) w=dlv m (Ae w eBr):=by
    show(if w.AT.length=0 then w else dlv m (Ae w eBr))=_;rw[AD hr]
   have hb:∀(b:Bool),(Ek w eBr).2=b->Sj (tR w,tR zR,((400 - (m+1):Nat):Int),())=if b then I (.inl (tR<|Ae w eBr,tR zR,((400 - m:Nat):Int),())) else I (.inr<|.inr (tR w,tR zR,())):=λb hb=>by
    unfold Sj;rw[A8 (by show(A1 (((400 - (m+1):Nat):Int)<400)&&A1 ((0:Int)<(w.AT.length:Int)))=U;rw[hlt,Rf];rfl)];simp only[hh,A9,hb];have ew:w64 (((400 - (m+1):Nat):Int)+1)=((400 - m:Nat):Int):=by rw[Ac J J];omega
    simp only[ew];cases b<;>rfl
   rcases tf (Ek w eBr).2 with c|c
   .rw[hdl];exact Ap (by have:=hb U c;simpa using this) (aav m (JN h eBr) J)
   .have hf:=atk h c;rw[hdl,hf,aaF hf];exact BE (by have:=hb A3 c;simpa using this)
def aAC{w:AE}(h:At w=U):Sp (tR w,())=I ((tR<|dlv 400 w,()),()):=by
 have:Vn (tR w,tR zR,0,())=_:=aav 400 h<|Az _;unfold Sp;rw[show Vn _=_ from this];rfl
def aab{w:AE}(h:At w=U)(i:Nat)(n:A6)(b:Nat):At (FT i n w b)=U:=(Bk.dlv 400<|Ae w<|eMx i n.fr n.nu b).rok<|JN h _
def U8{α:Type}{f:AE->α->AE}(hf:∀w a,At w=U->At (f w a)=U):∀(l:List α) {w:AE},At w=U->At (l.foldl f w)=U
 | [],_,h=>h
 | a::l,w,h=>U8 hf l (hf w a h)
def aHf{w:AE}(h:At w=U)(i:Nat)(n:A6):At (Ko i w n)=U:=U8 (λw b h=>aab h i n b) _ h
def az9{w:AE}(h:At w=U)(i:Nat)(n:A6)(L:List A6)(a b:Int){B:Nat}(hB:B<=1000):
  gY (tR w,tR zR,(i:Int),(n.fr,n.nu,n.to,n.un,n.tx,()),L,a,b,(B:Int),0,())=I (.inr (tR<|(BB B).foldl (FT i n) w,tR zR,(i:Int),L,a,b,())):=
 CG (λj=>(tR<|(BB j).foldl (FT i n) w,tR zR,(i:Int),(n.fr,n.nu,n.to,n.un,n.tx,()),L,a,b,(B:Int),(j:Int),())) B (λj hj=>by
  have hx:=U8 (λw b h=>aab h i n b) (BB j) h;have h1:=ayV hx i n.fr n.nu j;have h2:=aAC<|JN hx<|eMx i n.fr n.nu j;unfold je;simp only[B9 hj,A5,h1,h2,A9,B4 hj (by omega:B<=9223372036854775807)];rw[IU,Gg];rfl) (by
  unfold je;simp only[P7,A7])
def azA{w:AE}(h:At w=U)(i:Nat)(L:List A6)(hL:L.length<=1000)(hn:∀n∈L,B1 n=U):
  ff (tR w,tR zR,(i:Int),L,(L.length:Int),0,())=I (.inr (tR<|L.foldl (Ko i) w,tR zR,(i:Int),())):=by
 have:=CG (b:=XY) (y:= .inr (tR<|(L.take L.length).foldl (Ko i) w,tR zR,(i:Int),())) (λj=>(tR<|(L.take j).foldl (Ko i) w,tR zR,(i:Int),L,(L.length:Int),(j:Int),())) L.length (λj hj=>by
  have hx:=U8 (λw n h=>aHf h i n) (L.take j) h;have hm:=EZ hj;have htx:=MQ<|hn _ hm;have hc:=aaw htx;have als:=Ad.1 htx;have h3:=az9 hx i (nA L j) L (L.length:Int) (j:Int) (B:=((nA L j).tx.size+3) / 4) J;unfold XY;simp only[B9 hj,AU hj,A5,Ch,aDK,A9,hc];rw[show gY _=_ from h3];simp only[CB,B4 hj (by omega:L.length<=9223372036854775807)];rw[show L.take (j+1)=L.take j++[nA L j] by rw[JC,Au hj,DH<|Au hj];rfl,Gg];rfl) (by
  unfold XY;simp only[P7,A7])
 rw[E8]at this;exact this
def qM{w:AE}(h:At w=U)(i:Nat):At (Ii w i)=U:=U8 (λw n h=>aHf h i n) _ h
def cr{w:AE}(h:At w=U){i:Nat}(hi:i<4):XZ (tR w,tR zR,(i:Int),())=I (.inl (tR<|Ii w i,tR zR,((i+1:Nat):Int),())):=by
 have ok:=(Cz h).1;have kl:=ok.kl;have kf:=Bx<|FN ok hi;have h2:=azA h i (stT<|kA w.AB i).held (by have:=kf.hl;unfold sT at this;omega) (λn hn=>Qi kf.h hn);unfold XZ;simp only[AZ<|show(i:Int)<4 by omega,A5,AU<|show i<w.AB.length by omega,Yj,Hj (ok.k i hi).1,A9];rw[show ff _=_ from h2];simp only[CB,Ac (n:=(i:Int)+1) J J];rfl
def ct{w:AE}(h:At w=U){i:Nat}(hi:i<4):Xa (tR w,tR zR,(i:Int),())=I (.inl (tR<|Ae (Ae w<|eRi i)<|eOp i,tR zR,((i+1:Nat):Int),())):=by
 have h1:=ayT h i;have h2:=ayU (JN h<|eRi i) i;unfold Xa;simp only[AZ<|show(i:Int)<4 by omega,A5,h1,h2,A9,Ac (n:=(i:Int)+1) J J];rfl
def aqK{w:AE}(h:At w=U):Xv (tR w,())=I ((tR<|G0 w,()),()):=by
 have st:∀(w:AE) (i:Nat),At w=U->At (Ae (Ae w<|eRi i)<|eOp i)=U:=λw i h=>JN (JN h _) _;have o0:=st _ 0 h;have o1:=st _ 1 o0;have o2:=st _ 2 o1;have o3:=st _ 3 o2;have e0:fh (tR w,tR zR,0,())=I (.inr (tR<|opn w,tR zR,())):=
  Ap (ct h (i:=0) J) (Ap (ct o0 (i:=1) J)<|Ap (ct o1 (i:=2) J)<|Ap (ct o2 (i:=3) J)<|BE (by unfold Xa;rfl))
 have d:=aAC (w:=opn w) o3;have od:At (dlv 400<|opn w)=U:=(Bk.dlv 400<|opn w).rok o3;have k0:=qM od 0;have k1:=qM k0 1;have k2:=qM k1 2;have e1:fg (tR<|dlv 400<|opn w,tR zR,0,())=I (.inr (tR<|G0 w,tR zR,())):=
  Ap (cr od (i:=0) J) (Ap (cr k0 (i:=1) J)<|Ap (cr k1 (i:=2) J)<|Ap (cr k2 (i:=3) J)<|BE (by unfold XZ;rfl))
 unfold Xv;rw[show fh _=_ from e0];simp only[CB];rw[show Sp _=_ from d];simp only[A9];rw[show fg _=_ from e1];rfl
def aum{w:AE}(h:At w=U):At (G0 w)=U:=(Bk.rnd w).rok h
def aJq(r:Nat)(hr:r<=20):∀(m:Nat) {w:AE},At w=U->m<=r->Vo ((r:Int),tR zR,tR w,((r - m:Nat):Int),())=I (.inr (tR zR,tR<|F8 m w,()))
 | 0,w,_,_=>BE (by
  unfold WQ;have:A1 (((r - 0:Nat):Int)<(if(20:Int)<(r:Int) then 20 else(r:Int)))=A3:=by
   rw[AD J];exact BI J
  rw[AD (by show ¬(A1 (((r - 0:Nat):Int)<(if(20:Int)<(r:Int) then 20 else(r:Int)))&&_)=U;rw[this,AS];exact Ca)];rfl)
 | m+1,w,h,hm=>by
  have hlt:A1 (((r - (m+1):Nat):Int)<(if(20:Int)<(r:Int) then 20 else(r:Int)))=U:=by
   rw[AD J];exact AZ J
  by_cases ht:w.ti<79999
  .rw[Tl ht];refine Ap (x':=((r:Int),tR zR,tR<|G0 w,((r - m:Nat):Int),())) ?_<|aJq r hr m (aum h) J;unfold WQ;rw[A8 (by show(A1 (((r - (m+1):Nat):Int)<(if(20:Int)<(r:Int) then 20 else(r:Int)))&&A1 (w.ti<79999))=U;rw[hlt,AZ ht];rfl)];rw[show Xv _=_ from aqK h];simp only[A9];have ew:w64 (((r - (m+1):Nat):Int)+1)=((r - m:Nat):Int):=by rw[Ac J J];omega
   simp only[ew]
  .have e:F8 (m+1) w=w:=by
    show(if w.ti<79999 then F8 m (G0 w) else w)=w;rw[AD ht]
   rw[e];refine BE ?_;unfold WQ;rw[AD (by show ¬(_&&A1 (w.ti<79999))=U;rw[BI ht,Bc];exact Ca)]
def aAI{w:AE}(h:At w=U){r:Nat}(hr:r<=20):L8 (tR w,(r:Int),())=I ((tR<|F8 r w,()),()):=by
 have sm:=(Cz h).1.sm;have g:=aJq r hr r h<|Az _;rw[Pm]at g;have g:Vo ((r:Int),tR zR,tR w,0,())=_:=g;unfold L8;rw[show NH (tR w,())=_ from jA sm];simp only[A9,show GU w.ti w.AB w.Aq w.AT w.AQ w.got=U from h,AF,A7];rw[show K6 (tR w,())=_ from So sm];simp only[A9];rw[show Vo _=_ from g];rfl
end Go.VS
end
