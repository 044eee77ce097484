/- Part 10. -/
import Derived.Test.YtgjljlpdfceilaaGreatDoorQAT
open Bool renaming and_eq_true->AD,and_false->Ba,false->A0,false_and->AP,false_ne_true->CY,not_eq_true'->Bz,not_true->AB,or_eq_true->Bp,true->Y
open Decidable renaming decide->U
open Eq renaming refl->HC
open Int renaming le_refl->Cr,le_trans->J7,toNat_natCast->BX
open List renaming eq_nil_of_length_eq_zero->E5,foldl_append->Gf,getD_eq_getElem?_getD->BA,getElem?_eq_getElem->Ar,getElem_mem->CS,length->j8,length_cons->Bf,length_singleton->Jq,mem_append->BL,mem_append_left->Bw,mem_filter->FU,mem_of_mem_drop->Jr,mem_or_eq_of_mem_set->Rj,mem_singleton->C8,range->B9,range_succ->IU,replicate->BT,take_add_one->JC,take_length->E6
open Nat renaming le_refl->Aw,lt_trans->bU,sub_self->Pm
open Option renaming bind_some->A6,some->I
open Option.some renaming inj->Ck
open Prod.mk renaming inj->J8
set_option linter.all false
noncomputable section
namespace Go.VS
open Go
def aIB{w w':AA}{f:Frame}(h:C2 f=Y->O4 (λn=>n∈w'.AN) f/\HvF w' f):RaN w w' (pcF f):=by
 refine .inr ⟨PcI.send λe=>(h e).1,λg hg=> ?_⟩;have hg:D0 (BD<|BI<|Ci f)=(g,Y):=hg;obtain e|e:=tf (C2 f)
 .rw[Ok<|Oy f,YY e]at hg;rw[← (J8 hg).1];exact(h e).2
 .unfold Ci at hg;rw[e,A4]at hg;have:=aFZ;rw[hg]at this;cases this
def Ri(e:Event)(w w':AA):Prop:=∃i k' a,OH w w' i k' a/\((∃m,a= .lets m)->e.ki=4)/\((∃n,a= .own n)->e.ki=1)
def Ol{e:Event}{w w':AA}(v:Inv w)(ok:B4 w)(ek:w'.A8=w.A8)(es:w'.AN=w.AN)(eg:w'.got=w.got)(hr:∀p∈w'.AQ,RaN w w' p):Ri e w w':=
 ⟨0,kA w.A8 0,.non,⟨J,PK (ok.k 0 J).1<|v.lo 0 J,by rw[ek,LU],.inl ⟨es,λ_ e=>by cases e⟩,.inl ⟨eg,λ_ e=>by cases e⟩,
  λ_ e=>(by cases e),λ_ e=>(by cases e),hr,λh hh=>(by rw[es];exact v.hf 0 J h hh)⟩,fun⟨_,e⟩=>(by cases e),fun⟨_,e⟩=>(by cases e)⟩
def MJ{e:Event}{w:AA}(v:Inv w)(ok:B4 w):Ri e w w:=Ol v ok rfl rfl rfl λ_ h=> .inl h
def arj{a t:Int}(h:isN (BR a t)=Y)(n:A3)(ht:n.to=t):dsN n (BR a t)<dsN n a:=by
 have h0:=E9 h;revert h0;unfold BR dsN;split
 .omega
 .rename_i h1;intro _;simp only[Bp,Bz,not_or,Bool.not_eq_false,decide_eq_true_eq]at h1;have:=h1.2.2;split<;>omega
def arf{f:Frame}(h:C2 f=Y)(h1:f.ki=1){n:A3}(ht:f.to=n.to):dsN n f.dst<dsN n f.src:=by
 obtain⟨_,r2,_,_,_,_,r7⟩:=P5 h;unfold JX at r7;rw[A5<|AW h1]at r7;simp only[AD,decide_eq_true_eq]at r7;have e:=r7.2.2.2;rw[e]at r2 ⊢;exact arj r2 n ht.symm
def avk{got:List AT}{mix:Int}{da:A1}{m:AT}(h:m∈D2 got mix da):m∈got\/m=⟨mix,da⟩:=by
 unfold D2 at h;obtain h|h:=BL.1 h
 .left;split at h
  .exact(FU.1<|Jr h).1
  .exact(FU.1 h).1
 .exact .inr<|C8.1 h
def aaW{w:AA}{hv:List AG}{f:Frame}{n:A3}(g:∀h∈hv,HfG w.AN h)(hn:n∈w.AN)(h1:f.fr=n.fr)(h2:f.nu=n.nu)(h3:f.to=n.to)(h4:f.un=n.un)(h5:f.sz=n.tx.size):
  (∀h∈(At hv f).1,HfG w.AN h)/\(hA (At hv f).1 (At hv f).2).fr=f.fr/\(hA (At hv f).1 (At hv f).2).nu=f.nu:=by
 obtain⟨i,e,hi,e1,e2,_⟩|⟨_,l,sub,e⟩:=nc hv f
 .rw[e];exact⟨g,e1,e2⟩
 .rw[e];refine⟨λh hh=> ?_,by rw[bk],by rw[bk]⟩;obtain hh|hh:=BL.1 hh
  .exact g h (sub.subset hh)
  .rw[C8.1 hh];exact⟨n,hn,h1,h2,h3,h4,h5,λm hm=>by cases hm⟩
def rZ{l:List AG}{i:Nat}(h:i<l.length):hA l i∈l:=by
 rw[IN h];exact CS h
def aan{w:AA}(v:Inv w){hv:List AG}{i:Nat}(hi:i<hv.length){f:Frame}{n:A3}(g:∀h∈hv,HfG w.AN h)(hn:n∈w.AN)(h1:f.fr=n.fr)(h2:f.nu=n.nu)(h6:f.da=GZ n.tx f.mix)
  (e1:(hA hv i).fr=f.fr)(e2:(hA hv i).nu=f.nu):(∀h∈D8 hv i f,HfG w.AN h)/\Pw n.tx (D2 (hA hv i).got f.mix f.da):=by
 obtain⟨x,x1,x2,x3,x4,x5,x6,x7⟩:=g _<|rZ hi;have e:x=n:=Ix v.sp x1 hn (by rw[← x2,e1,h1]) (by rw[← x3,e2,h2]);subst e;have ht:Pw x.tx (D2 (hA hv i).got f.mix f.da):=λm hm fit=>by
  obtain c|c:=avk hm
  .exact x7 m c fit
  .rw[c];exact h6
 refine⟨λh hh=> ?_,ht⟩;unfold D8 at hh;obtain c|c:=Rj hh
 .exact g h c
 .rw[c];exact⟨x,x1,x2,x3,x4,x5,x6,ht⟩
def azK{w w':AA}(hg:w'.got=w.got){n:A3}{i:Int}(hT:∀j,sT w' j=sT w j)(hD:∀j,sD w' j=sD w j\/sD w' j=sT w j)(h:Bey w i n):Bey w' i n:=by
 obtain h|⟨j,h1,h2,h3⟩|⟨j,⟨h1,h2,h3⟩,h4⟩:=h
 .exact .inl (by unfold Eu;rw[hg,hT];exact h)
 .exact .inr (.inl ⟨j,h1,h2,by rw[hT];exact h3⟩)
 .refine .inr (.inr ⟨j,⟨h1,by rw[hT];exact h2, ?_⟩,h4⟩);obtain e|e:=hD j<;>rw[e]<;>assumption
def Mvd.ofH{k k':A7}{hv:List AG}{a:Act}(m:Mvd (Gw k hv) k' a):Mvd k k' a:=⟨m.lo,m.id,m.ti,m.nx,m.hold,m.held,m.box,m.OE,m.mrk,m.mks,m.new,m.eat,m.lets⟩
def avb{w:AA}(v:Inv w)(ok:B4 w){i:Nat}(hi:i<4){f:Frame}(hf:C2 f=Y)(hd:f.dst=(i:Int))(g:O4 (λn=>n∈w.AN) f)(hv:HvF w f){ra:List AL}(hra:∀p∈ra,p∈w.AQ):
  ∃a,OH w ⟨w.ti,w.A8.set i (CF (kA w.A8 i) f).1,w.An,C4 ra (CF (kA w.A8 i) f).2,w.AN,w.got⟩ i (CF (kA w.A8 i) f).1 a/\ ∀n,a≠ .own n:=by
 have hok:=(ok.k i hi).1;have hid:=(ok.k i hi).2;have kl:=ok.kl;have lo:=v.lo i hi;have mkS:∀(k':A7) (fs:List Frame) (a:Act),Mvd (kA w.A8 i) k' a->(∀n,a≠ .own n)->(∀n,a≠ .eat n)->(∀n,a= .take n->n∈w.AN)->(∀m,a= .lets m->∃n∈w.AN,n.fr=m.mf/\n.nu=m.mn/\Bey w i n)->(∀h∈k'.AJ,HfG w.AN h)->
   (∀x∈fs,O4 (λn=>n∈w.AN) x/\HvF ⟨w.ti,w.A8.set i k',w.An,C4 ra fs,w.AN,w.got⟩ x)->∃a,OH w ⟨w.ti,w.A8.set i k',w.An,C4 ra fs,w.AN,w.got⟩ i k' a/\ ∀n,a≠ .own n:=λk' fs a m n1 n2 n3 n4 n5 n6=>
  ⟨a,⟨hi,m,rfl,.inl ⟨rfl,n1⟩,.inl ⟨rfl,n2⟩,n3,n4,λp hp=>by
   obtain hp|⟨x,hx,rfl⟩:=aI0 hp
   .exact .inl (hra p hp)
   .exact aIB λ_=>n6 x hx,n5⟩,n1⟩
 have stay:∃a,OH w ⟨w.ti,w.A8.set i<|kA w.A8 i,w.An,C4 ra [],w.AN,w.got⟩ i (kA w.A8 i) a/\ ∀n,a≠ .own n:=mkS _ _ .non (PK hok lo) (λ_ e=>by cases e) (λ_ e=>by cases e) (λ_ e=>by cases e) (λ_ e=>by cases e) (v.hf i hi) (λx hx=>by cases hx);have non:∀(k':A7) (fs:List Frame),Mvd (kA w.A8 i) k' .non->(∀h∈k'.AJ,HfG w.AN h)->(∀x∈fs,O4 (λn=>n∈w.AN) x/\HvF ⟨w.ti,w.A8.set i k',w.An,C4 ra fs,w.AN,w.got⟩ x)->∃a,OH w ⟨w.ti,w.A8.set i k',w.An,C4 ra fs,w.AN,w.got⟩ i k' a/\ ∀n,a≠ .own n:=
  λk' fs m h1 h2=>mkS k' fs .non m (λ_ e=>by cases e) (λ_ e=>by cases e) (λ_ e=>by cases e) (λ_ e=>by cases e) h1 h2
 rw[aE hok];unfold HS;split
 .rename_i hc;simp only[AD]at hc;split
  .rename_i h1;have h1:f.ki=1:=BV h1;obtain⟨n,hn,nok,g1,g2,g3,g4,g5,g6⟩:=g h1;have hds:=arf hf h1 g3;rw[hd]at hds;unfold EB;split
   .exact non _ _ (PK hok lo) (v.hf i hi) (λx hx=>by
     rw[C8.1 hx];exact⟨λe=>(by cases e),λe=>(by cases e)⟩)
   split
   .rename_i hh;obtain⟨_,a1,a2,a3⟩:=UJ hok;refine non _ _ (Qx hok lo a1 a3<|.inr a2) (v.hf i hi) (λx hx=> ?_);rw[C8.1 hx];refine⟨λe=>(by cases e),λ_=>⟨n,hn,g1.symm,g2.symm, ?_⟩⟩;obtain hh|hh:=hh
    .obtain⟨j0,_,j2,j3⟩:=FK hh;have hm:=EX j0;have hs:=v.hs i hi _<|(lo.lf hok).held _ hm;have e:=Ix v.sp hs hn (by rw[j2,g1]) (by rw[j3,g2]);rw[e]at hm;refine .inr (.inr ⟨i,⟨hi, ?_, ?_⟩,hds⟩)
     .show n∈(stT<|kA (w.A8.set i _) i).held;rw[FM J,A5 rfl,a3];exact hm
     .show n∈(stD<|kA (w.A8.set i _) i).held;rw[FM J,A5 rfl,a2];exact hm
    .obtain⟨j0,_,j2,j3⟩:=bf hh;have hm:mA (stT<|kA w.A8 i).marks (Br (stT<|kA w.A8 i).marks f.fr f.nu).toNat∈(stT<|kA w.A8 i).marks:=by
      rw[mA,BA,Ar j0];exact CS j0
     obtain⟨z,z1,z2,z3⟩:=v.mrk i hi _ hm;have e:=Ix v.sp z1 hn (by rw[← g1,← j2,z2]) (by rw[← g2,← j3,z2]);subst e;have z4:=azK (w:=w) (w':=⟨w.ti,w.A8.set i<|foM<|kA w.A8 i,w.An,C4 ra [Dm 2 f],w.AN,w.got⟩) rfl (n:=z) (i:=(i:Int)) (λj=>by
       show stT (kA (w.A8.set i _) j)=_;rw[FM J];split
       .rename_i e;rw[e,a3]
       .rfl) (λj=>by
       show stD (kA (w.A8.set i _) j)=_\/stD (kA (w.A8.set i _) j)=_;rw[FM J];split
       .rename_i e;rw[e,a2];exact .inr rfl
       .exact .inl rfl) z3
     obtain c|c|⟨j,c1,c2⟩:=z4
     .exact .inl c
     .exact .inr (.inl c)
     .exact .inr<|.inr ⟨j,c1,bU c2 hds⟩
   split
   .exact stay
   .obtain⟨p1,p2,p3⟩:=aaW (v.hf i hi) hn g1 g2 g3 g4 g5;have plt:=PB (hv:=(kA w.A8 i).AJ) (f:=f);obtain⟨q1,q2⟩:=aan v plt p1 hn g1 g2 g6 p2 p3;have mH:∀hv,Mvd (kA w.A8 i) (Gw (kA w.A8 i) hv) .non:=λhv=>Qx hok lo lo rfl (.inl rfl);unfold Jc;split
    .split
     .rename_i ht;rw[g5]at ht;have ht:=aHH (MQ nok) q2 ht;have e:(⟨f.fr,f.nu,f.to,f.un,(FO f.sz<|D2 (hA (At (kA w.A8 i).AJ f).1 (At (kA w.A8 i).AJ f).2).got f.mix f.da).1⟩:A3)=n:=by
       rw[g5,ht,g1,g2,g3,g4]
      rw[e];have hdr:=(cP hok hc.1 hc.2.1 h1).ok;have hh:∀h∈FR (D8 (At (kA w.A8 i).AJ f).1 (At (kA w.A8 i).AJ f).2 f) (At (kA w.A8 i).AJ f).2,HfG w.AN h:=λh hh=>q1 h<|ay0 hh;unfold JV;split
      .rename_i hw;rw[AD]at hw;have mt:=(cD hdr (show LO (Gw (kA w.A8 i) _) from lo) hw.2 (a:= .take n) (λo ho=>(aJD (Bs hdr).kok nok ho).1) λ_ e=>by cases e).2;have mt:=mt.ofH;refine mkS _ _ (.take n) mt (λ_ e=>by cases e) (λ_ e=>by cases e) (λx e=>by cases e;exact hn) (λ_ e=>by cases e) (λh hx=>hh h (by rw[V8]at hx;exact hx)) (λx hx=> ?_);rw[C8.1 hx];refine⟨λe=>(by cases e),λ_=>⟨n,hn,g1.symm,g2.symm, ?_⟩⟩;obtain⟨_,_,hnw⟩:=mt.new n<|.inr rfl;rw[Gy ok hi]at hnw;split at hnw
       .rename_i hto;refine .inl<|.inr ?_;show n∈(stT<|kA (w.A8.set i _) n.to.toNat).inbox;rw[hto,BX,FM J,A5 rfl];exact hnw
       .refine .inr (.inr ⟨i,⟨hi, ?_, ?_⟩,hds⟩)
        .show n∈(stT<|kA (w.A8.set i _) i).held;rw[FM J,A5 rfl];exact hnw.1
        .show n∈(stD<|kA (w.A8.set i _) i).held;rw[FM J,A5 rfl];exact hnw.2
      .exact non _ _ (mH _) hh (λx hx=>by cases hx)
     .exact non _ _ (mH _) q1 (λx hx=>by cases hx)
    .exact non _ _ (mH _) p1 (λx hx=>by cases hx)
  .split
   .rename_i h2;rw[AD]at h2;have h2:f.ki=2:=BV h2.1;obtain⟨r1,r2,r3⟩:=ZP hf;obtain e|e:=tf (wrR (kA w.A8 i) (Ca C0 f.fr f.nu f.un) A0).2
    .refine mkS _ _ _ (awv hok lo r1 r2 r3 e) (λ_ e=>by cases e) (λ_ e=>by cases e) (λ_ e=>by cases e) (λm em=> ?_) (λh hx=>v.hf i hi h (by rw[V8]at hx;exact hx)) (λx hx=>by cases hx);cases em;obtain⟨n,n1,n2,n3,n4⟩:=hv h2;rw[hd]at n4;exact⟨n,n1,n2,n3,n4⟩
    .have:=RF e;simp only[this];exact stay
   .exact stay
 .exact stay
def ayL{k:A7}{fr nu mix:Int}(hb:(EK k fr nu mix).2=Y):(EK k fr nu mix).1.ki=1:=by
 unfold EK at hb ⊢;split at hb
 .rename_i hc;rw[A5 hc]
 .cases hb
def U5{w:AA}(v:Inv w)(ok:B4 w)(e:Event):Ri e w (doM w e).1:=by
 have kl:=ok.kl;have old:∀ {w':AA} {p:AL},p∈w.AQ->RaN w w' p:=λh=> .inl h;unfold doM;split
 .rename_i hk;unfold EW;split
  .rename_i h2;have h2:=Aa.1 h2;have hlt:e.wo.toNat<w.AQ.length:=J
   have hpc:=v.ra _<|rN hlt;split
   .split
    .rename_i h3;simp only[AD,Bz]at h3;refine Ol v ok rfl rfl rfl (λp hp=> ?_);obtain h4|h4:=Rj hp
     .exact old h4
     .rw[h4];have:=hpc.al8 h3.1 h3.2.1 h3.2.2;refine .inr ⟨this,λf hu=> ?_⟩;have hb:=this.bad rfl;rw[hu]at hb;cases hb
    .exact MJ v ok
   .split
    .exact Ol v ok rfl rfl rfl (λp hp=>old<|aHt hp)
    .split
     .have hra:∀p∈(if e.kp=0 then JY w.AQ e.wo.toNat else w.AQ),p∈w.AQ:=by
       intro p hp;split at hp
       .exact aHt hp
       .exact hp
      unfold EC;split
      .rename_i hc;simp only[AD,decide_eq_true_eq]at hc;obtain⟨f,hu,hfo,_,hd,hg,_⟩:=hpc.frame hc.1;have hv:=v.hv _ (rN hlt) f hu;obtain⟨_,⟨d0,d1⟩,_⟩:=MF<|R0 ok hlt;rw[hu];obtain⟨a,s,na⟩:=avb v ok (i:=(pA w.AQ e.wo.toNat).dst.toNat) J hfo (by rw[← hd];omega) hg hv hra;exact⟨_,_,a,s,λ_=>by omega,fun⟨n,e⟩=>absurd e<|na n⟩
      .exact Ol v ok rfl rfl rfl (λp hp=>old<|hra p hp)
     .exact MJ v ok
  .exact MJ v ok
 split
 .unfold F5;split
  .exact Ol v ok rfl rfl rfl (λp hp=>old hp)
  .exact MJ v ok
 split
 .rename_i ha;have ha:=E9 ha;have hi:e.at_.toNat<4:=J
  have hok:=(ok.k _ hi).1;have lo:=v.lo _ hi;have one:∀ {k':A7},Mvd (kA w.A8 e.at_.toNat) k' .non->(∀h∈k'.AJ,h∈(kA w.A8 e.at_.toNat).AJ)->Ri e w (GK w e.at_.toNat k'):=λm hh=>
   ⟨_,_,_,⟨hi,m,rfl,.inl ⟨rfl,λ_ e=>(by cases e)⟩,.inl ⟨rfl,λ_ e=>(by cases e)⟩,λ_ e=>(by cases e),λ_ e=>(by cases e),λp hp=>old hp,λh hx=>v.hf _ hi h<|hh h hx⟩,fun⟨_,e⟩=>(by cases e),fun⟨_,e⟩=>(by cases e)⟩
  unfold Gt;split
  .rename_i h1;unfold O1;split
   .exact MJ v ok
   .split
    .exact MJ v ok
    .rename_i h0;have hid:=(ok.k _ hi).2;have hn:=aH1 (k:=kA w.A8 e.at_.toNat) h0;have m:=awu hok lo (tt:=e.to) (un:=e.un) (tx:=e.tx) h0;have eid:(kA w.A8 e.at_.toNat).id=e.at_:=J
     rw[eid]at hn m;refine⟨_,_,_,⟨hi,m,rfl,.inr ⟨_,rfl,rfl,hn⟩,.inl ⟨rfl,λ_ e=>(by cases e)⟩,λ_ e=>(by cases e),λ_ e=>(by cases e),λp hp=>old hp,λh hx=> ?_⟩,fun⟨_,e⟩=>(by cases e),λ_=>h1⟩;rw[ayw]at hx;exact(v.hf _ hi h hx).up (λn hn=>Bw _ hn)
  .split
   .exact one (aug hok lo) (λh hx=>by rw[awF]at hx;exact hx)
   .split
    .split
     .rename_i hb;refine Ol v ok rfl rfl rfl (λp hp=> ?_);obtain hp|⟨x,hx,rfl⟩:=aI0 hp
      .exact old hp
      .rw[C8.1 hx];exact aIB λ_=>⟨awx hok (λn hn=>v.hs _ hi n<|(lo.lf hok).held n hn) hb,λe=>by rw[ayL hb]at e;cases e⟩
     .exact MJ v ok
    .split
     .exact one (avp hok lo _).2 (λh hx=>by cases hx)
     .split
      .exact one (auh hok lo) (λh hx=>hx)
      .split
       .unfold OB;split
        .rename_i hc;rw[AD]at hc;exact⟨_,_,_,⟨hi,aww hok lo hc.1,rfl,.inl ⟨rfl,λ_ e=>(by cases e)⟩,.inr ⟨_,rfl,rfl⟩,λ_ e=>(by cases e),λ_ e=>(by cases e),λp hp=>old hp,λh hx=>v.hf _ hi h (by rw[aya]at hx;exact hx)⟩,fun⟨_,e⟩=>(by cases e),fun⟨_,e⟩=>(by cases e)⟩
        .exact MJ v ok
       .split
        .exact one (aui hok lo) (λh hx=>by rw[axV]at hx;exact hx)
        .split
         .exact one (atH hok lo) (λh hx=>by rw[avS]at hx;exact hx)
         .exact MJ v ok
 .exact MJ v ok
def Inv.doM{w:AA}(v:Inv w)(ok:B4 w)(e:Event):Inv (doM w e).1:=by
 obtain⟨_,_,_,s,_⟩:=U5 v ok e;exact v.step ok s
def Inv.tick{w:AA}(v:Inv w)(ok:B4 w)(b:Bool):Inv (tick w b):=by
 unfold Go.VS.tick;cases b
 .exact v
 .obtain⟨_,_,_,s,_⟩:=Ol (e:=⟨0,0,0,0,0,0,0,0,0,noB⟩) (w':=⟨w64<|w.ti+1,w.A8,w.An,w.AQ,w.AN,w.got⟩) v ok rfl rfl rfl (λp hp=> .inl hp);exact v.step ok s
def Inv.sim{w:AA}(v:Inv w)(ok:B4 w)(e:Event):Inv (CX w e):=(v.doM ok e).tick (rQ ok e) _
def cJ{i:Nat}(hi:i<4):stT (kA rv0.A8 i)=⟨(i:Int),0,1,[],[],[]⟩/\LO (kA rv0.A8 i)/\stD (kA rv0.A8 i)=⟨(i:Int),0,1,[],[],[]⟩:=by
 have hk:=(dE.k i hi).1;have e:=cT hi;have hf:(kA rv0.A8 i).fo=((kA rv0.A8 i).log.size:Int):=by rw[e];rfl
 have h1:=UI hk hf;have h2:stT (kA rv0.A8 i)=⟨(i:Int),0,1,[],[],[]⟩:=by
  have l:CD (kA rv0.A8 i).log (kA rv0.A8 i).fo [] []:=by
   rw[e];exact⟨λr hr=>(by cases hr),(by show noB.size<=2400;decide),rfl,rfl⟩
  have:=(Dq hk).st;rw[l.state]at this;rw[e]at this;unfold Cg kp0 at this;rw[A5<|Fe hi]at this;rw[e];exact(Ck this).symm
 exact⟨h2,h1.1,h1.2.trans h2⟩
def rz:Inv rv0:=by
 refine⟨λi hi=>(cJ hi).2.1,λi hi n hn=> ?_,λi hi n hn=> ?_,λn hn=>(by cases hn),.nil,.nil,λg hg=>(by cases hg),λn hn=>(by cases hn),λi hi m hm=> ?_,λp hp=>(by cases hp),λp hp=>(by cases hp),λi hi h hh=> ?_⟩
 .unfold sD at hn;rw[(cJ hi).2.2]at hn;cases hn
 .unfold sT at hn;rw[(cJ hi).1]at hn;cases hn
 .unfold sT at hm;rw[(cJ hi).1]at hm;cases hm
 .rw[cT hi]at hh;cases hh
def Ab(w:AA)(e:Event):AA:=(Ei w e).1
def DX(w:AA)(l:List Event):AA:=l.foldl Ab w
def C5(l:List Event):AA:=if 2000<l.length then rv0 else DX rv0 l
def aW:Aq rv0=Y:=qi dE aJT<|by decide
def nh{P:AA->Prop}{Q:Event->Prop}(hs:∀w e,Aq w=Y->P w->Q e->(doM w e).2=Y->P (CX w e)):∀(l:List Event) {w:AA},Aq w=Y->P w->(∀e∈l,Q e)->Aq (DX w l)=Y/\P (DX w l)
 | [],w,h,p,_=>⟨h,p⟩
 | e::l,w,h,p,q=>by
  have hq:=q e<|.head _;refine nh hs l (w:=Ab w e) ?_ ?_ λx hx=>q x<|.tail _ hx
  all_goals
   unfold Ab;obtain⟨h0,_⟩|⟨_,h0⟩|⟨_,h1,h2,h0⟩:=Tf w e
   .rw[h]at h0;cases h0
   .rw[h0];assumption
   .rw[h0]
    first|exact aHz h h1 h2|exact hs w e h p hq h2
def ni(w:AA)(l m:List Event):DX w (l++m)=DX (DX w l) m:=Gf
def ng{l:List Event}{w:AA}(h:Aq w=Y)(v:Inv w):Aq (DX w l)=Y/\Inv (DX w l):=
 nh (Q:=λ_=>True) (λw e h v _ _=>v.sim (Cw h).1 e) l h v (λ_ _=>trivial)
def Ts(l:List Event):Aq (C5 l)=Y/\Inv (C5 l):=by
 unfold C5;split
 .exact⟨aW,rz⟩
 .exact ng aW rz
def ab5(w w':AA):Prop:=∀i,(sT w i).ti<=(sT w' i).ti/\(sT w i).nx<=(sT w' i).nx
def Ri.later{e:Event}{w w':AA}(ok:B4 w)(s:Ri e w w'):ab5 w w':=by
 obtain⟨i,k',a,s,_⟩:=s;have kl:=ok.kl;have hi:=s.hi;intro j;unfold sT;rw[s.ek,FM J];split
 .rename_i e;subst e;refine⟨s.m.ti, ?_⟩;obtain⟨h,_⟩|⟨_,_,_,_,h⟩:=s.m.nx<;>omega
 .exact⟨Cr _,Cr _⟩
def ag4:fP ()=I ((tR rv0,()),()):=by
 have h0:dh (tR zR,tR zR,0,())=I (.inr (tR zR,tR rv0,())):=by
  have st:∀(n:Nat) (l:List A7) (m:List Bool),n<4->l.length<=4->m.length<=4->WJ (tR zR,tR ⟨0,l,m,[],[],[]⟩,(n:Int),())=I (.inl (tR zR,tR ⟨0,l++[kp0 n],if n=0 then m else m++[Y],[],[],[]⟩,((n+1:Nat):Int),())):=by
   intro n l m hn hl hm;unfold WJ vG;have e1:Ac (l.length+1)=Y:=BE J;have e2:Ac (m.length+1)=Y:=BE J;have e3:w64 ((n:Int)+1)=((n+1:Nat):Int):=AZ J J;simp only[AW<|show(n:Int)<4 by omega,A2,K7,A6,Fe hn,AB,A4,Jq,e1,e2,e3];by_cases c:n=0
   .subst c;rfl
   .rw[AW<|show(0:Int)<(n:Int) by omega,A5 rfl,A9 c];rfl
  have fin:WJ (tR zR,tR rv0,4,())=I (.inr<|.inr (tR zR,tR rv0,())):=rfl;exact Am (st 0 [] [] aJT aJT aJT)<|Am (st 1 _ _ aJT aJT aJT)<|Am (st 2 _ _ aJT aJT aJT)<|Am (st 3 _ _ aJT aJT aJT)<|BC fin
 unfold fP;rw[show dh _=_ from h0];simp only[AM,So dE.sm,A6]
def afk:Si ()=I ((tR rv0,()),()):=aJa
def evA(l:List Event)(i:Nat):Event:=l.getD i<|dfl .CM
def aI9(l:List Event)(i:Nat): @rd Event aJ1 l (i:Int)=evA l i:=rfl
def aas{l:List Event}{i:Nat}(h:i<l.length):evA l i=l[i]:=by
 unfold evA;rw[BA,Ar h];rfl
def aFo{w:AA}{l:List Event}{i:Nat}(h:i<l.length):DX w (l.take<|i+1)=Ab (DX w<|l.take i) (evA l i):=by
 rw[aas h,JC,Ar h,ni];rfl
def aIG(l:List Event):Aq (DX rv0 l)=Y:=(ng aW rz (l:=l)).1
def axS(l:List Event):SmR (DX rv0 l):=(Cw<|aIG l).1.sm
def aar{l:List Event}(h:∀e∈l,e.tx.size<=1048576){i:Nat}(hi:i<l.length):(evA l i).tx.size<=1048576:=by
 rw[aas hi];exact h _<|CS hi
def Sn{l:List Event}(hl:l.length<=4294967296)(h:∀e∈l,e.tx.size<=1048576):N9 (l,())=I ((tR<|C5 l,()),()):=by
 unfold N9 C5;rw[afk];simp only[A6];by_cases c:2000<l.length
 .rw[A5 c,AW<|show(2000:Int)<(j8 l:Int) by omega,A5 rfl]
 .rw[A9 c,BG (J:¬(2000:Int)<(j8 l:Int)),A4];have h0:dY (l,tR zR,tR rv0,0,())=I (.inr (tR zR,tR<|DX rv0<|l.take l.length,())):=
   CE (λi=>(l,tR zR,tR<|DX rv0<|l.take i,(i:Int),())) l.length (λi hi=>by
    unfold fI;have hd:=ams (axS<|l.take i) (e:=evA l i)<|aar h hi;simp only[B6 hi,AR hi,A2,aI9];rw[show OW (tR<|DX rv0<|l.take i,tE<|evA l i,())=_ from hd];simp only[A6,B1 hi (by omega:l.length<=9223372036854775807),aFo hi];rfl) (by simp[fI])
  rw[show dY _=_ from h0,E6];rfl
def QH{l:List Event}(hl:l.length<=4294967296)(h:∀e∈l,e.tx.size<=1048576):M0 (l,())=I ((tR<|C5 l,()),()):=by
 unfold M0 C5;rw[ag4];simp only[A6];by_cases c:2000<l.length
 .rw[A5 c,AW<|show(2000:Int)<(j8 l:Int) by omega,A5 rfl]
 .rw[A9 c,BG (J:¬(2000:Int)<(j8 l:Int)),A4];have h0:dy (tR zR,tR rv0,l,(j8 l:Int),0,())=I (.inr (tR zR,tR<|DX rv0<|l.take l.length,())):=
   CE (λi=>(tR zR,tR<|DX rv0<|l.take i,l,(j8 l:Int),(i:Int),())) l.length (λi hi=>by
    unfold fV;have hr:=aIG<|l.take i;have hw:=Cw hr;have hd:=kr hw.1 hw.2.1 hw.2.2 (e:=evA l i)<|aar h hi;simp only[B6 hi,AR hi,A2,aI9];rw[show I8 (tR<|DX rv0<|l.take i,tE<|evA l i,())=_ from hd];have e:Ab (DX rv0<|l.take i) (evA l i)=(if U (99999<=(DX rv0<|l.take i).ti) then(DX rv0<|l.take i,A0) else if(doM (DX rv0<|l.take i)<|evA l i).2 then(CX (DX rv0<|l.take i)<|evA l i,Y) else(DX rv0<|l.take i,A0)).1:=by
     unfold Ab Ei;rw[A5 hr]
    simp only[A6,B1 hi (by omega:l.length<=9223372036854775807),aFo hi,e]) (by simp[fV])
  rw[show dy _=_ from h0,E6];rfl
def LQ(l:List Event):Aq (C5 l)=Y:=(Ts l).1
def R3(l:List Event):SmR (C5 l):=(Cw<|LQ l).1.sm
def Reach.tx{ev:List Event}{w:AA}(h:Reach ev w):∀e∈ev,e.tx.size<=1048576:=by
 induction h with
 | nil=>exact λe he=>by cases he
 | snoc _ _ ht ih=>exact qB ih ht
def TV{l:List Int}(hb:BOk l):∃ev:List Event,Lx (l,())=I ((ev,()),())/\ev.length<=1048576/\ ∀e∈ev,e.tx.size<=1048576:=by
 have key:Tot (Lx (l,())) λa=>a.1.1.length<=1048576/\ ∀e∈a.1.1,e.tx.size<=1048576:=by
  unfold Lx;refine Tot.bind (ayG hb) λr1 h1=>Tot.bind (D1 h1 aJT) λr4 h4=>Tot.ite (λ_=> ?_) (λ_=> ?_)
  .refine Tot.bind (D1 h4.1 aJT) λr5 h5=> ?_;have h50:=h5.2.1;have h51:r5.1.1<2:=h5.2.2 (show(1:Int)<=2 by decide);rw[AZ J J];refine Tot.pos (by rw[AD,decide_eq_true_eq,decide_eq_true_eq];omega) (Tot.ret ⟨?_,λe he=> ?_⟩)
   .show(BT _ _).length<=_;rw[List.length_replicate];omega
   .rw[(List.mem_replicate.1 he).2];show noB.size<=_;decide
  .exact Tot.bind (ayt (M:=26) h4.1 aJT aJT aJT) λr6 h6=>Tot.ret (by
    obtain⟨w,ev,e1,e2,e3⟩:=h6.2;have e4:r6.1.1.2.2.2.2.2.2.2=(ev,()):=by rw[e1]
    rw[e4];exact⟨by show ev.length<=1048576;omega,e2.reach.tx⟩)
 obtain⟨⟨⟨ev,_⟩,_⟩,e,h1,h2⟩:=key;exact⟨ev,e,h1,h2⟩
def Yj(l:List A7)(i:Nat): @rd A7 aJN l (i:Int)=kA l i:=rfl
def P7(n:Nat):U ((n:Int)<(n:Int))=A0:=by simp
def eBr:Event:=⟨4,0,0,0,0,0,0,0,0,noB⟩
def eMx(i fr nu b:Int):Event:=⟨3,i,fr,nu,0,b,0,0,0,noB⟩
def eRi(i:Int):Event:=⟨8,i,0,0,0,0,0,0,0,noB⟩
def eOp(i:Int):Event:=⟨9,i,0,0,0,0,0,0,0,noB⟩
def dlv:Nat->AA->AA
 | 0,w=>w
 | n+1,w=>if w.AQ.length=0 then w else dlv n (Ab w eBr)
def MT{w:AA}(h:w.AQ=[])(n:Nat):dlv n w=w:=by
 cases n with
 | zero=>rfl
 | succ n=>unfold dlv;rw[A5 (by rw[h];rfl)]
structure Cm (w:AA):Prop where
 ok:Aq w=Y
 inv:Inv w
 li:∀i,i<3->bA w.An i=Y
 up:∀i,i<4->(kA w.A8 i).up=Y
structure Ofr (T:Nat) (w w':AA) (i j:Nat) (n:A3):Prop where
 cm:Cm w'
 ra:w'.AQ=[]
 se:w'.AN=w.AN
 go:w'.got=w.got
 t0:w.ti<=w'.ti
 t1:w'.ti<=w.ti+T
 clk:∀k,k<4->(sT w' k).ti=(sT w k).ti
 hi:∀x∈(sT w' i).held,x∈(sT w i).held
 hj:∀x∈(sT w' j).held,x∈(sT w j).held\/x=n
 ot:∀k,k≠i->k≠j->kA w'.A8 k=kA w.A8 k
 st:n.un<=(sT w j).ti->w'.A8=w.A8
def Ofr.rfl{w:AA}(c:Cm w)(hr:w.AQ=[])(i j:Nat)(n:A3):Ofr 0 w w i j n:=⟨c,hr,HC _,HC _,Cr _,J,λ_ _=>HC _,λ_ h=>h,λ_ h=> .inl h,λ_ _ _=>HC _,λ_=>HC _⟩
def Ofr.trans{T S:Nat}{a b c:AA}{i j:Nat}{n:A3}(hj4:j<4)(h:Ofr T a b i j n)(g:Ofr S b c i j n):Ofr (T+S) a c i j n:=
 ⟨g.cm,g.ra,g.se.trans h.se,g.go.trans h.go,J7 h.t0 g.t0,by have:=h.t1;have:=g.t1;omega,λk hk=>(g.clk k hk).trans<|h.clk k hk,λx hx=>h.hi x<|g.hi x hx,
  λx hx=>by obtain e|e:=g.hj x hx;exact h.hj x e;exact .inr e,λk h1 h2=>(g.ot k h1 h2).trans<|h.ot k h1 h2,λhs=>(g.st (by rw[h.clk j hj4];exact hs)).trans<|h.st hs⟩
def Ofr.up{T S:Nat}{w w':AA}{i j:Nat}{n:A3}(h:Ofr T w w' i j n)(hS:T<=S):Ofr S w w' i j n:=⟨h.cm,h.ra,h.se,h.go,h.t0,by have:=h.t1;omega,h.clk,h.hi,h.hj,h.ot,h.st⟩
def FQ(i:Nat)(n:A3)(w:AA)(b:Nat):AA:=dlv 400<|Ab w<|eMx i n.fr n.nu b
def Ko(i:Nat)(w:AA)(n:A3):AA:=(B9<|(n.tx.size+3) / 4).foldl (FQ i n) w
def stk(w:AA)(n:A3)(i:Nat):Prop:=n.un<=(sT w (BR i n.to).toNat).ti
structure Cal (T:Nat) (w w':AA):Prop where
 cm:Cm w'
 ra:w'.AQ=[]
 se:w'.AN=w.AN
 go:w'.got=w.got
 t0:w.ti<=w'.ti
 t1:w'.ti<=w.ti+T
 clk:∀k,k<4->(sT w' k).ti=(sT w k).ti
def Cal.rfl{w:AA}(c:Cm w)(hr:w.AQ=[]):Cal 0 w w:=⟨c,hr,HC _,HC _,Cr _,J,λ_ _=>HC _⟩
def Cal.trans{T S:Nat}{a b c:AA}(h:Cal T a b)(g:Cal S b c):Cal (T+S) a c:=
 ⟨g.cm,g.ra,g.se.trans h.se,g.go.trans h.go,J7 h.t0 g.t0,by have:=h.t1;have:=g.t1;omega,λk hk=>(g.clk k hk).trans<|h.clk k hk⟩
def Cal.up{T S:Nat}{w w':AA}(h:Cal T w w')(hS:T<=S):Cal S w w':=⟨h.cm,h.ra,h.se,h.go,h.t0,by have:=h.t1;omega,h.clk⟩
structure Trn (T:Nat) (w w':AA) (i:Nat) (L:List A3):Prop where
 ca:Cal T w w'
 hi:∀x∈(sT w' i).held,x∈(sT w i).held
 ot:∀k,k<4->k≠i->∀x∈(sT w' k).held,x∈(sT w k).held\/(x∈L/\BR i x.to=(k:Int))
 dn:∀n∈L,n ∉ (sT w' i).held\/stk w n i
 st:(∀n∈L,stk w n i)->w'.A8=w.A8
def Ii(w:AA)(i:Nat):AA:=(sT w i).held.foldl (Ko i) w
def S7(w:AA):AA:=Ii (Ii (Ii (Ii w 0) 1) 2) 3
structure Pre (T:Nat) (w w':AA):Prop where
 ok:Aq w'=Y
 inv:Inv w'
 se:w'.AN=w.AN
 go:w'.got=w.got
 t0:w.ti<=w'.ti
 t1:w'.ti<=w.ti+T
 st:∀k,sT w' k=sT w k
 up:∀k,(kA w.A8 k).up=Y->(kA w'.A8 k).up=Y
 li:∀i,i<3->bA w.An i=Y->bA w'.An i=Y
def Pre.trans{T S:Nat}{a b c:AA}(h:Pre T a b)(g:Pre S b c):Pre (T+S) a c:=
 ⟨g.ok,g.inv,g.se.trans h.se,g.go.trans h.go,J7 h.t0 g.t0,by have:=h.t1;have:=g.t1;omega,λk=>(g.st k).trans<|h.st k,λk x=>g.up k<|h.up k x,λi hi x=>g.li i hi<|h.li i hi x⟩
def opn(w:AA):AA:=[0,1,2,3].foldl (λw (i:Nat)=>Ab (Ab w<|eRi i)<|eOp i) w
structure Dlv (T:Nat) (w w':AA):Prop where
 ok:Aq w'=Y
 inv:Inv w'
 se:w'.AN=w.AN
 go:w'.got=w.got
 t0:w.ti<=w'.ti
 t1:w'.ti<=w.ti+T
 clk:∀k,k<4->(sT w' k).ti=(sT w k).ti
 up:∀k,(kA w'.A8 k).up=(kA w.A8 k).up
 li:w'.An=w.An
def Fy(w:AA):AA:=S7<|dlv 400<|opn w
def F6:Nat->AA->AA
 | 0,w=>w
 | n+1,w=>if w.ti<79999 then F6 n (Fy w) else w
def Tl{w:AA}(ht:w.ti<79999)(n:Nat):F6 (n+1) w=F6 n (Fy w):=by
 show(if w.ti<79999 then F6 n (Fy w) else w)=_;rw[A5 ht]
def JN{w:AA}(h:Aq w=Y)(e:Event):Aq (Ab w e)=Y:=by
 unfold Ab;obtain⟨h0,_⟩|⟨_,h0⟩|⟨_,h1,h2,h0⟩:=Tf w e
 .rw[h]at h0;cases h0
 .rw[h0];exact h
 .rw[h0];exact aHz h h1 h2
def pz{w:AA}(h:Aq w=Y)(e:Event):w.ti<=(Ab w e).ti/\(Ab w e).ti<=w.ti+1:=by
 have t0:=(Cw h).2.1;unfold Ab;obtain⟨h0,_⟩|⟨_,h0⟩|⟨_,h1,h2,h0⟩:=Tf w e
 .rw[h]at h0;cases h0
 .rw[h0];show w.ti<=w.ti/\w.ti<=w.ti+1;omega
 .rw[h0];show w.ti<=(CX w e).ti/\(CX w e).ti<=w.ti+1;rw[qw h2,AZ J J];omega
def nf:∀(l:List Event) {w:AA},Aq w=Y->Aq (DX w l)=Y/\w.ti<=(DX w l).ti/\(DX w l).ti<=w.ti+l.length
 | [],w,h=>⟨h,Cr _,by show w.ti<=w.ti+((0:Nat):Int);omega⟩
 | e::l,w,h=>by
  obtain⟨a,b⟩:=pz h e;obtain⟨c,d,f⟩:=nf l<|JN h e;have f:(DX w<|e::l).ti<=(Ab w e).ti+l.length:=f;exact⟨c,J7 a d,by rw[Bf];omega⟩
def Bi(w w':AA):Prop:=∃l:List Event,(∀e∈l,e.tx.size<=1048576)/\w'=DX w l
def Bi.rfl(w:AA):Bi w w:=⟨[],λ_ h=>(by cases h),HC _⟩
def Bi.trans{a b c:AA}(h:Bi a b)(g:Bi b c):Bi a c:=by
 obtain⟨l,hl,rfl⟩:=h;obtain⟨m,hm,rfl⟩:=g;exact⟨l++m,λe he=>(by obtain he|he:=BL.1 he;exact hl e he;exact hm e he),(ni a l m).symm⟩
def Bi.one(w:AA)(e:Event)(h:e.tx.size<=1048576):Bi w (Ab w e):=⟨[e],λx hx=>by rw[C8.1 hx];exact h,HC _⟩
def LX:noB.size<=1048576:=by decide
def Bi.dlv:∀(m:Nat) (w:AA),Bi w<|dlv m w
 | 0,w=>Bi.rfl w
 | m+1,w=>by
  unfold Go.VS.dlv;split
  .exact Bi.rfl w
  .exact(Bi.one w eBr LX).trans<|Bi.dlv m _
def Bi.fold{α:Type}{f:AA->α->AA}(h:∀w a,Bi w<|f w a):∀(l:List α) (w:AA),Bi w<|l.foldl f w
 | [],w=>Bi.rfl w
 | a::l,w=>(h w a).trans (Bi.fold h l _)
def Bi.Ii(w:AA)(i:Nat):Bi w (Ii w i):=Bi.fold (λw n=>Bi.fold (λw b=>(Bi.one w _ LX).trans<|Bi.dlv 400 _) _ w) _ w
def Bi.rnd(w:AA):Bi w (Fy w):=by
 unfold Fy opn S7;refine Bi.trans (Bi.fold (λw (i:Nat)=>(Bi.one w (eRi i) LX).trans<|Bi.one _ (eOp i) LX) [0,1,2,3] w) ?_;exact((((Bi.dlv 400 _).trans<|Bi.Ii _ 0).trans<|Bi.Ii _ 1).trans<|Bi.Ii _ 2).trans<|Bi.Ii _ 3
def Bi.rok{w w':AA}(r:Bi w w')(h:Aq w=Y):Aq w'=Y:=by
 obtain⟨l,_,rfl⟩:=r;exact(nf l h).1
def Bi.ind{P:AA->Prop}{w w':AA}(r:Bi w w')(h:Aq w=Y)(v:Inv w)(hp:P w)(hs:∀x e,Aq x=Y->Inv x->P x->(doM x e).2=Y->P (CX x e)):P w':=by
 obtain⟨l,_,rfl⟩:=r;exact((nh (P:=λx=>Inv x/\P x) (Q:=λ_=>True) (λx e h v _ hd=>⟨v.1.sim (Cw h).1 e,hs x e h v.1 v.2 hd⟩) l h ⟨v,hp⟩ λ_ _=>trivial).2).2
def Kps(k k':AE):Prop:=(∀m∈k.marks,m∈k'.marks)/\ ∀n∈k.inbox,n∈k'.inbox
def Kps.rfl(k:AE):Kps k k:=⟨λ_ h=>h,λ_ h=>h⟩
structure Kpt (x y:AA):Prop where
 cm:Cm y
 ra:y.AQ=[]
 se:y.AN=x.AN
 go:y.got=x.got
 t0:x.ti<=y.ti
 bey:∀n∈x.AN,∀i,Bey x i n->Bey y i n
 kp:∀k,k<4->Kps (sT x k) (sT y k)
def Kps.trans{a b c:AE}(h:Kps a b)(g:Kps b c):Kps a c:=⟨λm hm=>g.1 m<|h.1 m hm,λn hn=>g.2 n<|h.2 n hn⟩
def Kpt.rfl{x:AA}(c:Cm x)(hr:x.AQ=[]):Kpt x x:=⟨c,hr,HC _,HC _,Cr _,λ_ _ _ h=>h,λ_ _=>Kps.rfl _⟩
structure Gd (x w:AA):Prop where
 ok:Aq w=Y
 inv:Inv w
 ra:w.AQ=x.AQ
 li:w.An=x.An
 t1:x.ti<=w.ti
 st:∀k,k<4->sT w k=sT x k
def cZ{w:AA}(h:Aq w=Y){e:Event}(ht:e.tx.size<=1048576):I8 (tR w,tE e,())=I ((tR<|Ab w e,(Ei w e).2,()),()):=by
 obtain⟨a,b,c⟩:=Cw h;rw[kr a b c ht];unfold Ab Ei;rw[A5 h]
def ayW{w:AA}(h:Aq w=Y):I8 (tR w,(4,0,0,0,0,0,0,0,0,noB,()),())=I ((tR<|Ab w eBr,(Ei w eBr).2,()),()):=cZ h (e:=eBr) LX
def ayV{w:AA}(h:Aq w=Y)(i fr nu b:Int):I8 (tR w,(3,i,fr,nu,0,b,0,0,0,noB,()),())=I ((tR<|Ab w<|eMx i fr nu b,(Ei w<|eMx i fr nu b).2,()),()):=cZ h (e:=eMx i fr nu b) LX
def ayT{w:AA}(h:Aq w=Y)(i:Int):I8 (tR w,(8,i,0,0,0,0,0,0,0,noB,()),())=I ((tR<|Ab w<|eRi i,(Ei w<|eRi i).2,()),()):=cZ h (e:=eRi i) LX
def ayU{w:AA}(h:Aq w=Y)(i:Int):I8 (tR w,(9,i,0,0,0,0,0,0,0,noB,()),())=I ((tR<|Ab w<|eOp i,(Ei w<|eOp i).2,()),()):=cZ h (e:=eOp i) LX
def atk{w:AA}(h:Aq w=Y){e:Event}(hr:(Ei w e).2=A0):Ab w e=w:=by
 unfold Ab;obtain⟨h0,_⟩|⟨_,h0⟩|⟨_,_,_,h0⟩:=Tf w e
 .rw[h]at h0;cases h0
 .rw[h0]
 .rw[h0]at hr;cases hr
def aaF{w:AA}(h:Ab w eBr=w):∀m,dlv m w=w
 | 0=>rfl
 | m+1=>by
  unfold dlv;rw[h,aaF h m];split<;>rfl
def aav:∀(m:Nat) {w:AA},Aq w=Y->m<=400->Vn (tR w,tR zR,((400 - m:Nat):Int),())=I (.inr (tR<|dlv m w,tR zR,()))
 | 0,w,_,_=>BC (by
  unfold Sj;rw[A9 (by show ¬(U (((400 - 0:Nat):Int)<400)&&_)=Y;rw[show U (((400 - 0:Nat):Int)<400)=A0 from rfl,AP];exact CY)];rfl)
 | m+1,w,h,hm=>by
  have hlt:U (((400 - (m+1):Nat):Int)<400)=Y:=AW J;by_cases hr:w.AQ.length=0
  .refine BC ?_;unfold Sj;have:U ((0:Int)<(w.AQ.length:Int))=A0:=BG J;rw[A9 (by show ¬(_&&U ((0:Int)<(w.AQ.length:Int)))=Y;rw[this,Ba];exact CY)];rw[MT<|E5 hr]
  .have Rf:U ((0:Int)<(w.AQ.length:Int))=Y:=AW J;have hh:=ayW h;have hdl:dlv (m+1) w=dlv m (Ab w eBr):=by
    show(if w.AQ.length=0 then w else dlv m (Ab w eBr))=_;rw[A9 hr]
   have hb:∀(b:Bool),(Ei w eBr).2=b->Sj (tR w,tR zR,((400 - (m+1):Nat):Int),())=if b then I (.inl (tR<|Ab w eBr,tR zR,((400 - m:Nat):Int),())) else I (.inr<|.inr (tR w,tR zR,())):=λb hb=>by
    unfold Sj;rw[A5 (by show(U (((400 - (m+1):Nat):Int)<400)&&U ((0:Int)<(w.AQ.length:Int)))=Y;rw[hlt,Rf];rfl)];simp only[hh,A6,hb];have ew:w64 (((400 - (m+1):Nat):Int)+1)=((400 - m:Nat):Int):=by rw[AZ J J];omega
    simp only[ew];cases b<;>rfl
   obtain c|c:=tf (Ei w eBr).2
   .rw[hdl];exact Am (by have:=hb Y c;simpa using this) (aav m (JN h eBr) J)
   .have hf:=atk h c;rw[hdl,hf,aaF hf];exact BC (by have:=hb A0 c;simpa using this)
def aAC{w:AA}(h:Aq w=Y):Sp (tR w,())=I ((tR<|dlv 400 w,()),()):=by
 have:Vn (tR w,tR zR,0,())=_:=aav 400 h<|Aw _;unfold Sp;rw[show Vn _=_ from this];rfl
def aab{w:AA}(h:Aq w=Y)(i:Nat)(n:A3)(b:Nat):Aq (FQ i n w b)=Y:=(Bi.dlv 400<|Ab w<|eMx i n.fr n.nu b).rok<|JN h _
def U8{α:Type}{f:AA->α->AA}(hf:∀w a,Aq w=Y->Aq (f w a)=Y):∀(l:List α) {w:AA},Aq w=Y->Aq (l.foldl f w)=Y
 | [],_,h=>h
 | a::l,w,h=>U8 hf l (hf w a h)
def aHf{w:AA}(h:Aq w=Y)(i:Nat)(n:A3):Aq (Ko i w n)=Y:=U8 (λw b h=>aab h i n b) _ h
def az9{w:AA}(h:Aq w=Y)(i:Nat)(n:A3)(L:List A3)(a b:Int){B:Nat}(hB:B<=1000):
  gY (tR w,tR zR,(i:Int),(n.fr,n.nu,n.to,n.un,n.tx,()),L,a,b,(B:Int),0,())=I (.inr (tR<|(B9 B).foldl (FQ i n) w,tR zR,(i:Int),L,a,b,())):=
 CE (λj=>(tR<|(B9 j).foldl (FQ i n) w,tR zR,(i:Int),(n.fr,n.nu,n.to,n.un,n.tx,()),L,a,b,(B:Int),(j:Int),())) B (λj hj=>by
  have hx:=U8 (λw b h=>aab h i n b) (B9 j) h;have h1:=ayV hx i n.fr n.nu j;have h2:=aAC<|JN hx<|eMx i n.fr n.nu j;unfold je;simp only[B6 hj,A2,h1,h2,A6,B1 hj (by omega:B<=9223372036854775807)];rw[IU,Gf];rfl) (by
  unfold je;simp only[P7,A4])
def azA{w:AA}(h:Aq w=Y)(i:Nat)(L:List A3)(hL:L.length<=1000)(hn:∀n∈L,Ay n=Y):
  ff (tR w,tR zR,(i:Int),L,(L.length:Int),0,())=I (.inr (tR<|L.foldl (Ko i) w,tR zR,(i:Int),())):=by
 have:=CE (b:=XY) (y:= .inr (tR<|(L.take L.length).foldl (Ko i) w,tR zR,(i:Int),())) (λj=>(tR<|(L.take j).foldl (Ko i) w,tR zR,(i:Int),L,(L.length:Int),(j:Int),())) L.length (λj hj=>by
  have hx:=U8 (λw n h=>aHf h i n) (L.take j) h;have hm:=EX hj;have htx:=MQ<|hn _ hm;have hc:=aaw htx;have als:=Aa.1 htx;have h3:=az9 hx i (nA L j) L (L.length:Int) (j:Int) (B:=((nA L j).tx.size+3) / 4) J;unfold XY;simp only[B6 hj,AR hj,A2,Cf,aDK,A6,hc];rw[show gY _=_ from h3];simp only[C9,B1 hj (by omega:L.length<=9223372036854775807)];rw[show L.take (j+1)=L.take j++[nA L j] by rw[JC,Ar hj,DF<|Ar hj];rfl,Gf];rfl) (by
  unfold XY;simp only[P7,A4])
 rw[E6]at this;exact this
def qM{w:AA}(h:Aq w=Y)(i:Nat):Aq (Ii w i)=Y:=U8 (λw n h=>aHf h i n) _ h
def cr{w:AA}(h:Aq w=Y){i:Nat}(hi:i<4):XZ (tR w,tR zR,(i:Int),())=I (.inl (tR<|Ii w i,tR zR,((i+1:Nat):Int),())):=by
 have ok:=(Cw h).1;have kl:=ok.kl;have kf:=Bv<|FL ok hi;have h2:=azA h i (stT<|kA w.A8 i).held (by have:=kf.hl;unfold sT at this;omega) (λn hn=>Qi kf.h hn);unfold XZ;simp only[AW<|show(i:Int)<4 by omega,A2,AR (J:i<w.A8.length),Yj,Hj (ok.k i hi).1,A6];rw[show ff _=_ from h2];simp only[C9,AZ (n:=(i:Int)+1) J J];rfl
def ct{w:AA}(h:Aq w=Y){i:Nat}(hi:i<4):Xa (tR w,tR zR,(i:Int),())=I (.inl (tR<|Ab (Ab w<|eRi i)<|eOp i,tR zR,((i+1:Nat):Int),())):=by
 have h1:=ayT h i;have h2:=ayU (JN h<|eRi i) i;unfold Xa;simp only[AW<|show(i:Int)<4 by omega,A2,h1,h2,A6,AZ (n:=(i:Int)+1) J J];rfl
def aqK{w:AA}(h:Aq w=Y):Xv (tR w,())=I ((tR<|Fy w,()),()):=by
 have st:∀(w:AA) (i:Nat),Aq w=Y->Aq (Ab (Ab w<|eRi i)<|eOp i)=Y:=λw i h=>JN (JN h _) _;have o0:=st _ 0 h;have o1:=st _ 1 o0;have o2:=st _ 2 o1;have o3:=st _ 3 o2;have e0:fh (tR w,tR zR,0,())=I (.inr (tR<|opn w,tR zR,())):=
  Am (ct h (i:=0) J) (Am (ct o0 (i:=1) J)<|Am (ct o1 (i:=2) J)<|Am (ct o2 (i:=3) J)<|BC (by unfold Xa;rfl))
 have d:=aAC (w:=opn w) o3;have od:Aq (dlv 400<|opn w)=Y:=(Bi.dlv 400<|opn w).rok o3;have k0:=qM od 0;have k1:=qM k0 1;have k2:=qM k1 2;have e1:fg (tR<|dlv 400<|opn w,tR zR,0,())=I (.inr (tR<|Fy w,tR zR,())):=
  Am (cr od (i:=0) J) (Am (cr k0 (i:=1) J)<|Am (cr k1 (i:=2) J)<|Am (cr k2 (i:=3) J)<|BC (by unfold XZ;rfl))
 unfold Xv;rw[show fh _=_ from e0];simp only[C9];rw[show Sp _=_ from d];simp only[A6];rw[show fg _=_ from e1];rfl
def aum{w:AA}(h:Aq w=Y):Aq (Fy w)=Y:=(Bi.rnd w).rok h
def aJq(r:Nat)(hr:r<=20):∀(m:Nat) {w:AA},Aq w=Y->m<=r->Vo ((r:Int),tR zR,tR w,((r - m:Nat):Int),())=I (.inr (tR zR,tR<|F6 m w,()))
 | 0,w,_,_=>BC (by
  unfold WQ;have:U (((r - 0:Nat):Int)<(if(20:Int)<(r:Int) then 20 else(r:Int)))=A0:=by
   rw[A9 J];exact BG J
  rw[A9 (by show ¬(U (((r - 0:Nat):Int)<(if(20:Int)<(r:Int) then 20 else(r:Int)))&&_)=Y;rw[this,AP];exact CY)];rfl)
 | m+1,w,h,hm=>by
  have hlt:U (((r - (m+1):Nat):Int)<(if(20:Int)<(r:Int) then 20 else(r:Int)))=Y:=by
   rw[A9 J];exact AW J
  by_cases ht:w.ti<79999
  .rw[Tl ht];refine Am (x':=((r:Int),tR zR,tR<|Fy w,((r - m:Nat):Int),())) ?_<|aJq r hr m (aum h) J;unfold WQ;rw[A5 (by show(U (((r - (m+1):Nat):Int)<(if(20:Int)<(r:Int) then 20 else(r:Int)))&&U (w.ti<79999))=Y;rw[hlt,AW ht];rfl)];rw[show Xv _=_ from aqK h];simp only[A6];have ew:w64 (((r - (m+1):Nat):Int)+1)=((r - m:Nat):Int):=by rw[AZ J J];omega
   simp only[ew]
  .have e:F6 (m+1) w=w:=by
    show(if w.ti<79999 then F6 m (Fy w) else w)=w;rw[A9 ht]
   rw[e];refine BC ?_;unfold WQ;rw[A9 (by show ¬(_&&U (w.ti<79999))=Y;rw[BG ht,Ba];exact CY)]
def aAI{w:AA}(h:Aq w=Y){r:Nat}(hr:r<=20):L8 (tR w,(r:Int),())=I ((tR<|F6 r w,()),()):=by
 have sm:=(Cw h).1.sm;have g:=aJq r hr r h<|Aw _;rw[Pm]at g;have g:Vo ((r:Int),tR zR,tR w,0,())=_:=g;unfold L8;rw[show NH (tR w,())=_ from jA sm];simp only[A6,show GR w.ti w.A8 w.An w.AQ w.AN w.got=Y from h,AB,A4];rw[show K6 (tR w,())=_ from So sm];simp only[A6];rw[show Vo _=_ from g];rfl
end Go.VS
end
