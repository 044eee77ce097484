/- Part 13. -/
import Derived.HandedShaped
import Derived.LaidSub
import Derived.MakeChecks
import Derived.Carry
import Derived.Test.YtadnafhbeojhoaaGreatDoorQAL
open Array renaming getElem?_eq_some_iff->HV,replicate->Ra
open Bool renaming and_eq_true->AI,false->A3,false_or->BY,not_eq_true'->DR,not_eq_true->Ha,not_true->AD,or_eq_true->Ci,true->A1
open Decidable renaming decide->A0
open Go.Code renaming region->QX
open Go.Lib renaming TabIs->M0,pow10Tab->O3
open Go.MakeChecks renaming laidMetH_plain->MN
open Go.OpenSpec renaming ofChange->Kl
open Go.Region renaming binds->Fq,ready->PX
open Go.Value renaming okWide->Ky
open List renaming all_eq_true->Cr,any_eq_true->I5,append_nil->CH,eq_nil_of_length_eq_zero->EE,getElem?_append_left->G0,getElem?_append_right->EC,getElem?_eq_getElem->Ax,getElem?_eq_none->I7,getElem?_eq_none_iff->XW,getElem?_eq_some_iff->BP,getElem_mem->CQ,mem_append->Br,mem_append_left->CE,mem_append_right->Cy,mem_cons->Bk,mem_cons_of_mem->Al,mem_cons_self->Ap,mem_filter->Gy,mem_filterMap->GZ,mem_iff_getElem?->gN,mem_of_getElem?->Cg,mem_range->DV,mem_singleton->DB,nodup_append->L7,nodup_cons->Lc,nodup_range->kY,pairwise_append->QP,pairwise_cons->Og,pairwise_iff_getElem->qw,pairwise_lt_range->S4,range->BN,reverse_reverse->pg
open Nat renaming beq->Aj,beq_eq->HU,blt->I9,blt_eq->Pa,le_of_ble_eq_true->DQ,le_refl->As,lt_trichotomy->I8,ne_of_lt->P4,zero_add->DJ,zero_le->Cw
open Ne renaming symm->LQ
open Option renaming bind_eq_some_iff->An,map_eq_some_iff->DL,none->U,some->I
open Option.some renaming inj->EI
open Prod.mk renaming injEq->CM
set_option linter.all false
noncomputable section
namespace Go.VS
open Go
section
variable {P:Program} {W:World}
def mF(P:Program)(name:String)(k:IntKind):Bool:=
 match P.globalNamed name with
 | some g=>match (P.globals[g]?).map (·.type) with
  | some t=>match P.underlying t with
   | some (.array n e)=>(match P.underlying e with|some (.int k')=>A0 (k'=k)|_=>A3)&&A0 (P.cellsOf e=1)&&A0 (P.cellsOf t=n)
   | _=>A3
  | _=>A3
 | _=>A3
def as8{name:String}{k:IntKind}{zs:List Int}(h:mF P name k=A1)(hl:laidMet P [(name,Lib.tabData k zs)] W):M0 P W name k zs:=by
 unfold mF at h;split at h
 case h_2=>cases h
 rename_i g hg;split at h
 case h_2=>cases h
 rename_i t ht;split at h
 case h_2=>cases h
 rename_i n e hu;simp only[AI,decide_eq_true_eq]at h;obtain⟨⟨h1,h2⟩,h3⟩:=h;split at h1
 case h_2=>cases h1
 rename_i k' hk;have h1:=BT h1;subst h1;exact Lib.tabIs_of_head hg ht hu hk h2 h3 hl
def VW:String:= "internal/strconv.uint64pow10"
def Yu{laid:List (String×DataW A2)}(hsh:W.ShapedOpen P)(arS:I9 P.globals.size (begin P (λ_ _=>0) default).world.heap.size=A1)(aEl:laidMetH P laid W)
  (ajy:(laid.all λx=>x.2.handleName?.isNone)=A1)
  (ft:P.globalNamed VW≠U->(laid.filter λx=>x.1 == VW)=[(VW,Lib.tabData .u64 O3)]/\mF P VW .u64=A1):NB P W (λ_=>False):=by
 have hlt:P.globals.size<W.heap.size:=by
  obtain⟨o,o0,h1,_⟩:=hsh.2 P.globals.size (As _) (by simpa[Pa] using arS);exact(HV.1 h1).1
 refine⟨W,⟨hsh,λhn=> ?_⟩,λb hb=>⟨id,J,rfl⟩⟩;obtain⟨h1,h2⟩:=ft hn;rw[MN _ _ _ ajy]at aEl;have h3:=laidMet.filter (λx=>x.1 == VW) aEl;rw[h1]at h3;exact as8 h2 h3
end
end Go.VS
namespace Go.VS
open Go
def ass:Oper:={ dst:=U,op:= .move<|.const<|.bool A3,type:=0,pos:= "",after:= #[],guard:=U }
def iG(zs:List Nat)(e:Edge):Option Edge:=(zs.idxOf? e.on).map λj=>{ e with on:=j }
def RP(zs:List Nat)(o:Oper):Oper:={ o with after:=(o.after.toList.filterMap<|iG zs).toArray }
def FD(ops:Array Oper)(zs:List Nat):Array Oper:=(zs.map λi=>RP zs<|(ops[i]?).getD ass).toArray
def aui{ops:Array Oper}{zs:List Nat}{j i:Nat}{o:Oper}(hz:zs[j]? =I i)(ho:ops[i]? =I o):(FD ops zs)[j]? =I (RP zs o):=by
 simp[FD,hz,ho]
def mB(ops:Array Oper)(zs:List Nat):(FD ops zs).size=zs.length:=by simp[FD]
def ahv{zs:List Nat}{o:Oper}{e:Edge}(h:e∈(RP zs o).after):∃e0∈o.after,Fq .any e0=Fq .any e/\zs[e.on]? =I e0.on:=by
 have h:e∈o.after.toList.filterMap (iG zs):=by simpa[RP] using h
 obtain⟨e0,h0,h1⟩:=GZ.1 h;unfold iG at h1;obtain⟨j,h2,h3⟩:=DL.1 h1;refine⟨e0,by simpa using h0,by rw[← h3];rfl, ?_⟩;rw[← h3];obtain⟨hlt,h4,_⟩:=List.idxOf?_eq_some_iff.1 h2;show zs[j]? =I e0.on;rw[Ax hlt];simpa using h4
section
variable {P:Program} {ops:Array Oper} {Q:Exit->Act->World->Prop}
def aky(Good:(Nat->Prop)->Act->World->Prop)(anw:∀(i:Nat) (o:Oper) (e:Edge),ops[i]? =I o->e∈o.after->Fq .any e=A1->e.on<i)
  (iL:∀(D:Nat->Prop) a w,(∀i,¬D i)->Good D a w->Q .normal a w)
  (oL:∀(D:Nat->Prop) (i:Nat) (a:Act) (w:World) (o:Oper),Good D a w->(∀j,D j->j<ops.size)->(∀j oj,ops[j]? =I oj->¬D j->∀e∈oj.after,Fq .any e=A1->¬D e.on)->D i->ops[i]? =I o->
   (∀e∈o.after,Fq .any e=A1->¬D e.on)->wpOp P ops Q i (λa w=>Good (λk=>D k/\k≠i) a w) a w):
  ∀(n:Nat) (Bc:List Nat) (listed:Array Bool) (a:Act) (w:World),Bc.length=n->Bc.Nodup->(∀j,j∈Bc↔j<ops.size/\listed.getD j A1=A3)->listed.size=ops.size->
   (∀j oj,ops[j]? =I oj->j ∉ Bc->∀e∈oj.after,Fq .any e=A1->e.on ∉ Bc)->Good (λk=>k∈Bc) a w->wpAny P .any ops Q n listed a w:=by
 intro n
 induction n with
 | zero=>
  intro Bc listed a w hl hnd hU hs hcl hg;have:Bc=[]:=EE hl;subst this;refine⟨?_,iL _ a w (λi h=>by cases h) hg⟩;cases hrd:PX .any ops listed with
  | nil=>rfl
  | cons j l=>
   have hj:j∈PX .any ops listed:=by rw[hrd];exact Ap
   obtain⟨h1,o,ho,_⟩:=mem_ready.1 hj;have:=(hU j).2 ⟨(HV.1 ho).1,h1⟩;cases this
 | succ n ih=>
  intro Bc listed a w hl hnd hU hs hcl hg;have done:∀x,x<ops.size->x ∉ Bc->listed.getD x A3=A1:=λx hx hn=>by
   refine ac6 J ?_;cases hb':listed.getD x A1 with
   | true=>rfl
   | false=>exact absurd ((hU x).2 ⟨hx,hb'⟩) hn
  refine⟨λqT=> ?_,λi hi=> ?_⟩
  .exfalso;obtain⟨i0,h0,lS⟩:=jr (λk=>k∈Bc) (by
    cases Bc with
    | nil=>simp at hl
    | cons x l=>exact⟨x,Ap⟩)
   obtain⟨hlt,hun⟩:=(hU i0).1 h0;obtain⟨o,ho⟩:∃o,ops[i0]? =I o:=⟨ops[i0],by simp[hlt]⟩;have hr0:i0∈PX .any ops listed:=mem_ready.2 ⟨hun,o,ho,λe he hb=>by
    have X5:=anw i0 o e ho he hb;exact done e.on J λhm=>by have:=lS _ hm;omega⟩
   rw[qT]at hr0;cases hr0
  .obtain⟨hun,oi,hoi,F3⟩:=mem_ready.1 hi;have hlt:i<ops.size:=(HV.1 hoi).1;have hiU:i∈Bc:=(hU i).2 ⟨hlt,hun⟩;have Jj:∀e∈oi.after,Fq .any e=A1->e.on ∉ Bc:=λe he hb hm=>by
    have h2:=((hU e.on).1 hm).2;have hsz:=((hU e.on).1 hm).1;have hel:=F3 e he hb;have:listed.getD e.on A1=A1:=by simp[show e.on<listed.size by omega]at hel ⊢; exact hel
    rw[this]at h2;cases h2
   have Eu:∀k,k∈Bc.erase i↔k∈Bc/\k≠i:=λk=>by
    rw[hnd.mem_erase_iff];exact and_comm
   refine wpOp_mono ?_ (oL (λk=>k∈Bc) i a w oi hg (λj hj=>((hU j).1 hj).1) hcl hiU hoi Jj);intro a' w' hg';refine ih (Bc.erase i) _ a' w' (by rw[List.length_erase_of_mem hiU,hl];rfl) (hnd.erase i) (λj=> ?_) (by simpa using hs) ?_ ?_
   .rw[Eu,hU];by_cases e:j=i
    .subst e;simp
    .rw[getD_set_ne A1<|LQ e];simp[e]
   .intro j oj hoj hj e he hb hm;have hmU:=((Eu _).1 hm).1;by_cases e':j=i
    .subst e';rw[hoi]at hoj;cases hoj;exact Jj e he hb hmU
    .exact hcl j oj hoj (λh=>hj<|(Eu j).2 ⟨h,e'⟩) e he hb hmU
   .have:(λk=>k∈Bc.erase i)=λk=>k∈Bc/\k≠i:=funext λk=>propext<|Eu k;rw[this];exact hg'
end
section
variable {C:Cx} {B:Be} {ops S0:Array Oper} {L:Lb} {stk:List (Array Value)} {Ω:Type} {q:Ω} {s s':S}
structure PaR (C:Cx) (S0:Array Oper) (L:Lb) (Bc:List Nat) (s s':S):Prop where
 run:Run C S0 L Bc s s'
 azy:Bc.Pairwise (· < ·)
 lt:∀j∈Bc,j<S0.size
 cl:∀i x,i<S0.size->i ∉ Bc->L.R x i->x ∉ Bc
 fit:∀j∈Bc,Fit S0 L Bc s j
def PaR.pick(hn:P9 S0 L){Bc:List Nat}(h:PaR C S0 L Bc s s'){i:Nat}(hiU:i∈Bc){oi:Oper}(hoi:S0[i]? =I oi)(Jj:∀e∈oi.after,Fq .any e=A1->e.on ∉ Bc):
  ∃s1 U',ev1 C S0 oi (L.b i) s=I s1/\(∀id,L.b i<=id->id<L.b i+16->s.H id=U)/\PaR C S0 L U' s1 s'/\ ∀k,k∈U'↔k∈Bc/\k≠i:=by
 obtain⟨hr,hp,hlt,hd,hf⟩:=h;obtain⟨l1,l2,rfl⟩:=List.append_of_mem hiU;have hRn:∀j∈l1++i::l2,¬L.R j i:=by
  intro j hj hR;obtain⟨e,he,hb,PI⟩:=hn.anc j i oi hoi hR;have heU:=Jj e he hb;obtain h|h:=PI
  .exact heU (h▸hj)
  .have X5:=hn.dir i oi e hoi he hb;exact hd e.on j (by have:=hlt i hiU;omega) heU h hj
 have Cf:=Run.first hn l1 s hr hp hRn hf
 cases Cf with
 | cons VN U3 t=>
  rename_i o' s1;rw[hoi]at VN;cases VN;have hnd:(l1++i::l2).Nodup:=hp.imp λh=>P4 h;have Eu:∀j,j∈l1++l2↔j∈l1++i::l2/\j≠i:=by
   intro j;have Jf:=L7.1 hnd;constructor
   .intro hj;refine⟨?_, ?_⟩
    .rcases Br.1 hj with h|h
     .exact CE _ h
     .exact Cy _ (Al _ h)
    .rintro rfl;rcases Br.1 hj with h|h
     .exact Jf.2.2 j h j Ap rfl
     .exact(Lc.1 Jf.2.1).1 h
   .rintro⟨hj,hne⟩;rcases Br.1 hj with h|h
    .exact CE _ h
    .rcases Bk.1 h with h|h
     .exact absurd h hne
     .exact Cy _ h
  refine⟨s1,l1++l2,U3.ev,λid h1 h2=>(hf i hiU oi hoi).2.2 id h1 h2,⟨t, ?_,λj hj=>hlt j ((Eu j).1 hj).1, ?_, ?_⟩,Eu⟩
  .have p2:=QP.1 hp;exact QP.2 ⟨p2.1,(Og.1 p2.2.1).2,λx hx y hy=>p2.2.2 x hx y<|Al _ hy⟩
  .intro k x hk hkU hR hx;have hxU:=((Eu x).1 hx).1;by_cases e:k=i
   .subst e;exact hRn x hxU hR
   .exact hd k x hk (λh=>hkU<|(Eu k).2 ⟨h,e⟩) hR hxU
  .intro j hj;obtain⟨hjU,hne⟩:=(Eu j).1 hj;refine(hf j hjU).step hn hoi (LQ hne) (hRn j hjU) U3 λk hk=> ?_;by_cases e:k=i
   .exact .inl e
   .exact .inr<|(Eu k).2 ⟨hk,e⟩
structure JP (C:Cx) (ops:Array Oper) (zs:List Nat) (L:Lb) (D:Nat->Prop) (s s':S):Prop where
 nice:P9 (FD ops zs) L
 ex:∃Bc,PaR C (FD ops zs) L Bc s s'/\ ∀j x,zs[j]? =I x->(j∈Bc↔D x)
def ao7{zs:List Nat}{o:Oper}(hg:o.guard=U)(b:Nat)(s:S):ev1 C (FD ops zs) (RP zs o) b s=CI C (AF S) o b s I:=by
 unfold ev1 evG;have:(RP zs o).guard=U:=hg;rw[this];rfl
def ae8{o:Oper}(hg:o.guard=U)(b:Nat)(s:S):ev1 C ops o b s=CI C (AF S) o b s I:=by
 unfold ev1 evG;rw[hg]
def JP.pick{zs:List Nat}{D:Nat->Prop}(h:JP C ops zs L D s s')(hz:zs.Nodup){j i:Nat}(hj:zs[j]? =I i)(hD:D i){o:Oper}(ho:ops[i]? =I o)(hg:o.guard=U)
  (Jj:∀e∈o.after,Fq .any e=A1->¬D e.on):
  ∃s1,CI C (AF S) o (L.b j) s I=I s1/\(∀id,L.b j<=id->id<L.b j+16->s.H id=U)/\JP C ops zs L (λk=>D k/\k≠i) s1 s':=by
 obtain⟨hn,Bc,hp,hU⟩:=h;obtain⟨s1,U',h1,h2,h3,h4⟩:=hp.pick hn ((hU j i hj).2 hD) (aui hj ho) λe he hb hm=>by
  obtain⟨e0,he0,hb0,hz0⟩:=ahv he;exact Jj e0 he0 (by rw[hb0];exact hb)<|(hU _ _ hz0).1 hm
 refine⟨s1,by rw[← ao7 hg];exact h1,h2,hn,U',h3,λk x hk=> ?_⟩;rw[h4,hU k x hk];refine and_congr_right λ_=>not_congr ⟨λe=> ?_,λe=> ?_⟩
 .subst e;rw[hk]at hj;cases hj;rfl
 .subst e;have hk1:=(BP.1 hk);have hj1:=(BP.1 hj);obtain⟨a1,a2⟩:=hk1;obtain⟨b1,b2⟩:=hj1;have hpw:=qw.1 hz;rcases I8 k j with h|h|h
  .exact absurd (a2.trans b2.symm) (hpw k j a1 b1 h)
  .exact h
  .exact absurd (b2.trans a2.symm)<|hpw j k b1 a1 h
def JP.done{zs:List Nat}{D:Nat->Prop}(h:JP C ops zs L D s s')(hD:∀x∈zs,¬D x):s=s':=by
 obtain⟨hn,Bc,hp,hU⟩:=h;have:Bc=[]:=by
  cases Bc with
  | nil=>rfl
  | cons j l=>
   exfalso;have hlt:=hp.lt j Ap;rw[mB]at hlt;have hz:zs[j]? =I zs[j]:=Ax hlt;exact hD _ (CQ hlt)<|(hU j _ hz).1 Ap
 subst this;have:=hp.run;cases this;rfl
def gx{zs:List Nat}{k:S->Option Ω}(he:evD C (FD ops zs) s (FD ops zs).toList 0 s.nid [] s k=I q)(hfr:Fr s)(D:Nat->Prop)(hD:∀x∈zs,D x):
  ∃L s',JP C ops zs L D s s'/\(∀j,L.b j=s.nid+16 * j)/\Fr { s' with nid:=s.nid+16 * zs.length } /\s'.n=s.n/\s'.pins=s.pins/\k { s' with nid:=s.nid+16 * zs.length } =I q:=by
 obtain⟨rs,s',h1,h2,h3,h4⟩:=gU (b0:=s.nid) (FD ops zs).toList 0 s.nid [] s he trivial rfl rfl (by simp);simp only[CH,DJ]at h2 h4;have hn:rs.reverse.length=(FD ops zs).size:=by simpa using h3
 have hpl:=h2.places;rw[pg,hn]at hpl;have Jc:∀j,Fit (FD ops zs) (Bz rs.reverse s.nid) (BN (FD ops zs).size) s j:=λj=>h2.fit hn hfr;have Cf:=lZ h2 hn rs s s' h1 (λr hr=>by simpa using hr) (by rw[hpl];exact S4) (λr hr=>by rw[hpl];exact Jc _);rw[hpl]at Cf;have hlen:(FD ops zs).toList.length=zs.length:=by simp[FD]
 have P6:BG (λj=>j<s.nid+16 * zs.length) s s':=kq rs s s' _ h1 λr hr=>by
  have hr':r∈rs.reverse:=by simpa using hr
  have e1:=(h2.Mi hr').1;have e2:=h2.lt r hr';rw[hn,mB]at e2;omega
 rw[hlen]at h4;refine⟨Bz rs.reverse s.nid,s',⟨h2.nice hn,BN (FD ops zs).size,⟨Cf,S4,λj hj=>DV.1 hj,λi x hi hiU _=>absurd (DV.2 hi) hiU,λj _=>Jc j⟩,λj x hj=> ?_⟩,
  λj=>rfl,λj hj=> ?_,P6.n,P6.pins,h4⟩
 .rw[DV,mB];exact⟨λ_=>hD x<|Cg hj,λ_=>(BP.1 hj).1⟩
 .have hj:s.nid+16 * zs.length<=j:=hj;exact P6.nn j J<|hfr j J
end
end Go.VS
namespace Go.VS
open Go
def evX{Ω:Type}(C:Cx)(inl:Inl Ω)(ops:Array Oper)(ys:List Nat)(m:Nat)(zs:List Nat)(s:S)(k:S->Option Ω):Option Ω:=
 evD C (FD ops ys) s (FD ops ys).toList 0 s.nid [] s λs1=>match ops[m]? with
  | some om=>evG C inl ops om s1.nid s1 λs2=>evD C (FD ops zs) { s2 with nid:=s2.nid+16 } (FD ops zs).toList 0 (s2.nid+16) [] { s2 with nid:=s2.nid+16 } k
  | none=>U
structure XOk (ops:Array Oper) (m f:Nat):Prop where
 mf:m<f
 sz:f<ops.size
 guard:∀(i:Nat) (o:Oper),ops[i]? =I o->o.guard=U
 dir:∀(i:Nat) (o:Oper) (e:Edge),ops[i]? =I o->e∈o.after->Fq .any e=A1->e.on<i
 cov:∀i,i<m->∃j o e,i<j/\j<=m/\ops[j]? =I o/\e∈o.after/\Fq .any e=A1/\e.on=i
 late:∀i,m<i->i<ops.size->i≠f->∃o e,ops[i]? =I o/\e∈o.after/\Fq .any e=A1/\(e.on=m\/(m<e.on/\e.on≠f))
abbrev aft(m n:Nat):List Nat:=List.range' (m+1)<|n - (m+1)
abbrev K9(m n f:Nat):List Nat:=(aft m n).filter λx=> !(Aj x f)
section
variable {C:Cx} {B:Be} {ops:Array Oper} {stk:List (Array Value)} {Ω:Type} {q:Ω} {inl:(Ω:Type)->Inl Ω}
def nD{m n x:Nat}:x∈aft m n↔m<x/\x<n:=by
 rw[List.mem_range'_1];omega
def Na{m n f x:Nat}:x∈K9 m n f↔(m<x/\x<n)/\x≠f:=by
 rw[Gy,nD];refine and_congr_right λ_=> ?_;rw[DR,← Ha,HU]
def aC1{m j:Nat}(h:j<m):(BN m)[j]? =I j:=by simp[h]
def aDN{m f j:Nat}(h:j<m):(BN m++[f])[j]? =I j:=by
 rw[G0<|by simpa using h];exact aC1 h
def ajC{m f:Nat}:(BN m++[f])[m]? =I f:=by
 rw[EC<|by simp];simp
def K2(C:Cx)(ops:Array Oper)(zs:List Nat)(k:S->Option Ω)(s2:S):Option Ω:=
 evD C (FD ops zs) { s2 with nid:=s2.nid+16 } (FD ops zs).toList 0 (s2.nid+16) [] { s2 with nid:=s2.nid+16 } k
inductive Way (C:Cx) (ops:Array Oper) (m f:Nat) (inl:Inl Ω) (k:S->Option Ω) (q:Ω) (s0:S) (D:Nat->Prop) (s:S):Prop
 | one (hm:D m) (hf:D f) (hz:∀x∈K9 m ops.size f,D x) (L1 L2:Lb) (s1 s2:S) (b1:∀j,L1.b j=s0.nid+16 * j) (b2:∀j,L2.b j=s0.nid+16 * j)
   (p1:JP C ops (BN m) L1 D s s1) (p2:JP C ops (BN m++[f]) L2 D s s2)
   (f1:Fr { s1 with nid:=s0.nid+16 * m }) (f2:Fr { s2 with nid:=s0.nid+16 * (m+1) })
   (n1:s1.n=s0.n/\s1.pins=s0.pins) (n2:s2.n=s0.n/\s2.pins=s0.pins)
   (k1:∀om,ops[m]? =I om->evG C inl ops om (s0.nid+16 * m) { s1 with nid:=s0.nid+16 * m } (K2 C ops (aft m ops.size) k)=I q)
   (k2:∀om,ops[m]? =I om->evG C inl ops om (s0.nid+16 * (m+1)) { s2 with nid:=s0.nid+16 * (m+1) } (K2 C ops (K9 m ops.size f) k)=I q):Way C ops m f inl k q s0 D s
 | two (hm:D m) (hf:¬D f) (hz:∀x∈K9 m ops.size f,D x) (L2:Lb) (s2:S)
   (p2:JP C ops (BN m++[f]) L2 D s s2)
   (f2:Fr { s2 with nid:=s0.nid+16 * (m+1) })
   (n2:s2.n=s0.n/\s2.pins=s0.pins)
   (k2:∀om,ops[m]? =I om->evG C inl ops om (s0.nid+16 * (m+1)) { s2 with nid:=s0.nid+16 * (m+1) } (K2 C ops (K9 m ops.size f) k)=I q):Way C ops m f inl k q s0 D s
 | fin (hm:¬D m) (ha:∀x,x<m->¬D x) (zs:List Nat) (hn:zs.Nodup) (hD:∀x,D x->x∈zs) (L:Lb) (s':S) (p:JP C ops zs L D s s')
   (N:Nat) (f2:Fr { s' with nid:=N }) (n2:s'.n=s0.n/\s'.pins=s0.pins) (k2:k { s' with nid:=N } =I q):Way C ops m f inl k q s0 D s
def St.nR{β:Beta}{s:S}{a:Act}{w:World}(h:St B β stk s a w)(N:Nat):St B β stk { s with nid:=N } a w:=⟨h.T,h.stack,h.n,h.defers,h.pins,h.gs,h.hs⟩
def ah4(hP:C.P=B.P)(hm:B.P.follows .mixedOrders=A1)(hC:H9 C B)(hI:JG C B inl){m f:Nat}(hX:XOk ops m f){k:S->Option Ω}{s0:S}
  (he1:evX C (inl Ω) ops (BN m) m (aft m ops.size) s0 k=I q)(he2:evX C (inl Ω) ops (BN m++[f]) m (K9 m ops.size f) s0 k=I q)(hfr:Fr s0)
  {β:Beta}{a:Act}{w:World}(hst:St B β stk s0 a w){id:Nat}{Q:Exit->Act->World->Prop}
  (hQ:∀β a w s',St B β stk s' a w->Fr s'->s'.n=s0.n->s'.pins=s0.pins->k s'=I q->Q .normal a w):(QX id ops A1).wp B.P Q a w:=by
 have hmf:=hX.mf;have hsz:=hX.sz;have MY:St B β stk s0 a { w with drawn:=w.drawn+1 } :=by
  have hk:Kp w β { w with drawn:=w.drawn+1 } β:=Kp.heap rfl;exact hst.keep hk (H':=s0.H)<|hst.hs.drew
 refine wp_region_any hm ?_;refine aky (λD a w=>∃β s,St B β stk s a w/\Way C ops m f (inl Ω) k q s0 D s) hX.dir ?_ ?_ ops.size (BN ops.size) _ a _ (by simp) kY (λj=> ?_) (by simp) (λj oj hoj hj=>absurd (DV.2 (HV.1 hoj).1) hj) ?_
 ·
  rintro D a w hD ⟨β,s,hs,hW⟩;cases hW with
  | one hm'=>exact absurd hm'<|hD _
  | two hm'=>exact absurd hm'<|hD _
  | fin _ _ zs hn _ L s' p N f2 n2 k2=>
   have:=p.done λx _=>hD x;subst this;exact hQ β a w _ (hs.nR N) f2 n2.1 n2.2 k2
 ·
  rintro D i a w o ⟨β,s,hs,hW⟩ hlt hcl hDi ho Jj;have hg:=hX.guard i o ho;have C5:∀ {zs:List Nat} {L:Lb} {s':S} {j:Nat},JP C ops zs L D s s'->zs.Nodup->zs[j]? =I i->(∀s1,CI C (AF S) o (L.b j) s I=I s1->JP C ops zs L (λk=>D k/\k≠i) s1 s'->Way C ops m f (inl Ω) k q s0 (λk=>D k/\k≠i) s1)->
    wpOp B.P ops Q i (λa w=>∃β s,St B β stk s a w/\Way C ops m f (inl Ω) k q s0 (λk=>D k/\k≠i) s) a w:=by
   intro zs L s' j hp hz hj Ls;obtain⟨s1,h1,h2,h3⟩:=hp.pick hz hj hDi ho hg Jj;refine nZ hP hC ho hs (b:=L.b j) h2 (show ev1 C ops o (L.b j) s=I s1 by rw[ae8 hg];exact h1) ?_;intro β' u w' MY;exact⟨β',s1,MY,Ls s1 h1 h3⟩
  have ndA:(BN m++[f]).Nodup:=by
   rw[L7];refine⟨kY,by simp,λx hx y hy e=> ?_⟩;have:=DV.1 hx;have:=DB.1 hy;omega
  have zf:D m->(∀x∈K9 m ops.size f,D x)->¬(m<i/\i≠f):=by
   rintro hm' hz ⟨h1,h2⟩;obtain⟨o',e,ho',he,hb,PI⟩:=hX.late i h1 (hlt i hDi) h2;rw[ho]at ho';cases ho';refine Jj e he hb ?_;obtain h|⟨h3,h4⟩:=PI
   .rw[h];exact hm'
   .exact hz _<|Na.2 ⟨⟨h3,by have:=hX.dir i o e ho he hb;have:=hlt i hDi;omega⟩,h4⟩
  have Sp:i=m->∀x,x<m->¬D x:=by
   intro e x hx;have:∀n x,m - x=n->x<m->¬D x:=by
    intro n
    induction n using Nat.strongRecOn with
    | ind n ih=>
     intro x hn hx;obtain⟨j,oj,e',h1,h2,h3,h4,h5,h6⟩:=hX.cov x hx;rcases Nat.lt_or_eq_of_le h2 with h7|h7
     .have:=hcl j oj h3 (ih (m - j) J j rfl h7) e' h4 h5;rw[h6]at this;exact this
     .subst h7;rw[← e,ho]at h3;cases h3;have:=Jj e' h4 h5;rw[h6]at this;exact this
   exact this _ x rfl hx
  have yN:∀ {b:Nat} {s1:S} {zs:List Nat},i=m->s=s1->Fr { s1 with nid:=b } ->(s1.n=s0.n/\s1.pins=s0.pins)->(∀x∈zs,D x/\x≠i)->zs.Nodup->(∀x,D x/\x≠i->x∈zs)->
    (∀om,ops[m]? =I om->evG C (inl Ω) ops om b { s1 with nid:=b } (K2 C ops zs k)=I q)->
    wpOp B.P ops Q i (λa w=>∃β s,St B β stk s a w/\Way C ops m f (inl Ω) k q s0 (λk=>D k/\k≠i) s) a w:=by
   intro b s1 zs e1 e2 hf1 hn1 hz hnd hin hk;subst e1;subst e2;refine aAJ hP hC hI ho (s:={ s with nid:=b }) (hk o ho) (hs.nR b) hf1 ?_;intro β' u w' s' hs' hf' hn' hp' hk';obtain⟨L,s2,p,_,arX,hn2,hp2,hk2⟩:=gx (s:={ s' with nid:=s'.nid+16 }) hk' (λj hj=>hf' j hj) (λk=>D k/\k≠i) hz;exact⟨β',_,hs'.nR _,.fin (λh=>h.2 rfl) (λx hx h=>Sp rfl x hx h.1) zs hnd hin L s2 p _ arX ⟨hn2.trans<|hn'.trans hn1.1,hp2.trans<|hp'.trans hn1.2⟩ hk2⟩
  have nd1:(aft m ops.size).Nodup:=List.nodup_range';have nd2:(K9 m ops.size f).Nodup:=nd1.filter _;cases hW with
  | one hm' hf' hz L1 L2 s1 s2 b1 b2 p1 p2 f1 f2 n1 n2 k1 k2=>
   rcases I8 i m with h|h|h
   .refine C5 p1 kY (aC1 h) λt1 e1 q1=> ?_;obtain⟨t2,e2,_,q2⟩:=p2.pick ndA (aDN h) hDi ho hg Jj;rw[b2,← b1,e1]at e2;cases e2;exact .one ⟨hm',J⟩ ⟨hf',J⟩ (λx hx=>⟨hz x hx,by have:=(Na.1 hx).1.1;omega⟩) L1 L2 s1 s2 b1 b2 q1 q2 f1 f2 n1 n2 k1 k2
   .have e:=p1.done λx hx=>Sp h x<|DV.1 hx;refine yN h e f1 n1 (λx hx=> ?_) nd1 (λx hx=> ?_) k1
    .have hx:=nD.1 hx;refine⟨?_,J⟩;by_cases e':x=f
     .rw[e'];exact hf'
     .exact hz x (Na.2 ⟨hx,e'⟩)
    .refine nD.2 ⟨?_,hlt x hx.1⟩;rcases I8 x m with h2|h2|h2
     .exact absurd hx.1 (Sp h x h2)
     .exact absurd (h2.trans h.symm) hx.2
     .exact h2
   .by_cases e:i=f
    .refine C5 p2 ndA (j:=m) (by rw[e];exact ajC) λt1 e1 q1=> ?_;exact .two ⟨hm',J⟩ (λh=>h.2 e.symm) (λx hx=>⟨hz x hx,by have:=(Na.1 hx).2;omega⟩) L2 s2 q1 f2 n2 k2
    .exact absurd ⟨h,e⟩<|zf hm' hz
  | two hm' hf' hz L2 s2 p2 f2 n2 k2=>
   rcases I8 i m with h|h|h
   .refine C5 p2 ndA (aDN h) λt1 e1 q1=> ?_;exact .two ⟨hm',J⟩ (λh=>hf' h.1) (λx hx=>⟨hz x hx,by have:=(Na.1 hx).1.1;omega⟩) L2 s2 q1 f2 n2 k2
   .have e:=p2.done λx hx=>by
     rcases Br.1 hx with hx|hx
     .exact Sp h x (DV.1 hx)
     .rw[DB.1 hx];exact hf'
    refine yN h e f2 n2 (λx hx=>⟨hz x hx,by have:=(Na.1 hx).1.1;omega⟩) nd2 (λx hx=>Na.2 ⟨⟨?_,hlt x hx.1⟩,λe'=>hf'<|e'▸hx.1⟩) k2;rcases I8 x m with h2|h2|h2
    .exact absurd hx.1 (Sp h x h2)
    .exact absurd (h2.trans h.symm) hx.2
    .exact h2
   .by_cases e:i=f
    .exact absurd (e▸hDi) hf'
    .exact absurd ⟨h,e⟩<|zf hm' hz
  | fin hm' ha zs hn hD L s' p N f2 n2 k2=>
   obtain⟨j,hj⟩:=gN.1<|hD i hDi;refine C5 p hn hj λt1 e1 q1=> ?_;exact .fin (λh=>hm' h.1) (λx hx h=>ha x hx h.1) zs hn (λx hx=>hD x hx.1) L s' q1 N f2 n2 k2
 .rw[DV];constructor
  .intro h;exact⟨h,by simp[h]⟩
  .exact λh=>h.1
 ·
  obtain⟨om,hom⟩:∃o,ops[m]? =I o:=⟨ops[m],by simp[show m<ops.size by omega]⟩;unfold evX at he1 he2;obtain⟨L1,s1,p1,b1,fr1,n1,pn1,k1⟩:=gx he1 hfr (λk=>k∈BN ops.size) (λx hx=>DV.2 (by have:=DV.1 hx;omega));obtain⟨L2,s2,p2,b2,fr2,n2,pn2,k2⟩:=gx he2 hfr (λk=>k∈BN ops.size) (λx hx=>DV.2 (by
   rcases Br.1 hx with h|h
   .have:=DV.1 h;omega
   .rw[DB.1 h];exact hsz))
  have l1:(BN m).length=m:=by simp
  have l2:(BN m++[f]).length=m+1:=by simp
  rw[l1]at fr1 k1;rw[l2]at fr2 k2;simp only[hom]at k1 k2;exact⟨β,s0,MY,.one (DV.2 J) (DV.2 hsz) (λx hx=>DV.2 (Na.1 hx).1.2) L1 L2 s1 s2 b1 b2 p1 p2 fr1 fr2 ⟨n1,pn1⟩ ⟨n2,pn2⟩
   (λo h=>by rw[hom]at h;cases h;exact k1) (λo h=>by rw[hom]at h;cases h;exact k2)⟩
end
end Go.VS
namespace Go.VS
open Go
section
variable {C:Cx} {B:Be} {β:Beta} {H:Hp} {w w':World} {M:Nat->Prop} {stk:List (Array Value)} {s s':S} {a:Act} {P:Program} {e e':Nat->Value} {inl:(Ω:Type)->Inl Ω}
def ahd{P:Program}(hP:C.P=P){f:FuncId}{fn:Func}{body:Code}(hf:P.funcs[f]? =I fn)(K7:(fn.name == "runtime.NumGoroutine")=A3)
  (hb:fn.body=I body){m:Da}(hok:okM m fn.ntmps=A1)
  (hw:∀(x:LTs m.ps) (r:LTs m.rs×LTs (B6 m.ps)),m.g x=I r->∀(B:Be),B.P=P->∀(β:Beta) (a:Act) (w:World) (Q:Exit->Act->World->Prop),St B β [] (Q6 fn.ntmps m.ps x) a w->Fr (Q6 fn.ntmps m.ps x)->
   KOK B [] fn.ntmps (Dz 0 m.ps) { nrm:=fin C.P fn m,ret:=fin C.P fn m,ext:=λ_ _=>U } r Q->body.wp B.P Q a w):Gt P f m:=by
 refine⟨NZ hf K7 hb,λx r hx w Z args os hr hnd hbl hZ hgl=> ?_⟩;have hw:=hw x r hx;have U7:=hok;simp only[okM,AI]at U7;obtain⟨⟨⟨hps,hrs⟩,hn⟩,_⟩:=U7;have hn:=DQ hn;have hlen:=hr.length
 let B:Be:={ P:=P,w0:=w,O:=λb=>b∈Az os,tm0:=ar args,Z:=Z,gl:=hgl }
 have QM:Num (I0 Z os) 0 os:=s9 Z os;obtain⟨k1,k2,k3⟩:=dO (β:=I0 Z os) (E:=λ_=> .un) (M:=λb=>b∈Az os\/Z b) (P:=P) (w:=w) (e:=ar args) (λb hb=>iV (B:=B) hb) m.ps (λ_=>U) 0 x args os hps hr QM (λt _=>trivial);have hi:Q6 fn.ntmps m.ps x=(match Ak (λ_=> .un) (λ_=>U) 0 m.ps x with
  | (vs,H,b)=>{ n:=fn.ntmps,T:=λt=>(vs[t]?).getD Dp,H:=H,nid:=b,st:=[],pins:=Dz 0 m.ps,gs:=λ_=>A3 }):=rfl
 rw[hi]at hw;generalize Ak (λ_=> .un) (λ_=>U) 0 m.ps x=q at *;obtain⟨vs,H,b⟩:=q;simp only at hw k1 k2 k3;have hH:Hs B (I0 Z os) H w:={
  ER:=λid ob ho=>by
   by_cases h:id<os.length
   .obtain⟨ob',h1,h2⟩:=k3.2 id (Cw _) J;rw[h1]at ho;cases ho;exact h2
   .rw[k3.1 id J]at ho;cases ho
  dom:=λid p hp=>by
   have h:id<os.length:=(BP.1<|show os[id]? =I p from hp).1;obtain⟨ob',h1,_⟩:=k3.2 id (Cw _) J;exact⟨ob',h1⟩
  inj:=λi j p q a a' hi hj=>cI hnd i j p q a a' hi hj
  old:=λb hb=>⟨.inl<|NU hb,(hbl b<|NU hb).1⟩
  os:=rfl
  tape:=rfl
  output:=rfl
  size:=As _
  block:=λ_ _ _=>rfl
  z:=rfl
  zn:=λid p a hp ha=>(hbl _<|NU (Z:=Z) ⟨id,p.1,p.2,a,hp,ha,rfl⟩).2
  zl:=hZ
  pk:=Pk.refl _ _ }
 refine calls_of_wp hf hb ?_;have hst:St B (I0 Z os) [] { n:=fn.ntmps,T:=λt=>(vs[t]?).getD Dp,H:=H,nid:=b,st:=[],pins:=Dz 0 m.ps,gs:=λ_=>A3 } { tmps:=args.toArray++Ra (fn.ntmps - args.toArray.size) undef,defers:=[] } w:=by
  refine⟨λt=> ?_,⟨rfl,λi T' tm h=>by simp at h⟩, ?_,rfl,λt _=>U2 args _ t,λt g want y hy=> ?_,hH⟩
  .rw[U2];show RT w _ _ ((vs[t]?).getD Dp) _;cases hv:vs[t]? with
   | none=>
    have:args.length<=t:=by
     rw[k1.1];exact XW.1 hv
    show RT w _ _ Dp (ar args t);have e0:ar args t=undef:=by simp[ar,I7 this]
    rw[e0];rfl
   | some c=>
    have hlt:t<args.length:=by rw[k1.1];exact(BP.1 hv).1
    have hu:args[t]? =I (ar args t):=by simp[ar,hlt]
    exact(k1.2 t c _ hv hu).Zt
  .simp;omega
  .have hy:(vs[t]?).getD Dp= .gd g want y:=hy;cases hv:vs[t]? with
   | none=>rw[hv]at hy;cases hy
   | some c=>
    rw[hv]at hy;have hy:c= .gd g want y:=hy;have hlt:t<args.length:=by rw[k1.1];exact(BP.1 hv).1
    have hu:args[t]? =I (ar args t):=by simp[ar,hlt]
    have:=k1.2 t c _ hv hu;rw[hy]at this;exact this.elim
 refine hw B rfl _ _ _ _ hst (λj hj=>k3.1 j<|.inr (by have hj:b<=j:=hj;omega)) ⟨?_, ?_, ?_⟩
 .intro β' a' w' s' h1 h2 h3 h4 h5;obtain⟨v',i1,i2⟩:=X8 (B:=B) h1 rfl rfl hlen h4 hok (show fin P fn m s'=I r by rw[← hP];exact h5);exact⟨h1.defers,v',i1,v',rfl,i2⟩
 .intro β' a' w' s' h1 h2 h3 h4 h5;obtain⟨v',i1,i2⟩:=X8 (B:=B) h1 rfl rfl hlen h4 hok (show fin P fn m s'=I r by rw[← hP];exact h5);exact⟨h1.defers,v',i1,v',rfl,i2⟩
 .intro id β' a' w' s' h1 h2 h3 h4 h5;cases h5
def Ol(C:Cx)(inl:(Ω:Type)->Inl Ω)(fn:Func)(ys:List Nat)(l:Nat)(zs:List Nat)(m:Da)(x:LTs m.ps):Option (LTs m.rs×LTs (B6 m.ps)):=
 match fn.body with
 | some (.seq (.region _ o0 A3) (.seq (.region _ ops A1) rest))=>
  (Ot C (inl S) o0 o0.toList (Q6 fn.ntmps m.ps x) I).bind λs1=>evX C (inl _) ops ys l zs s1 λs'=>evk C inl rest _ .nil { nrm:=fin C.P fn m,ret:=fin C.P fn m,ext:=λ_ _=>U } s'
 | _=>U
def bnd(e:Edge):Bool:=Fq .any e
def X2(ops:Array Oper)(m f:Nat):Bool:=
 I9 m f&&I9 f ops.size&&(BN ops.size).all (λi=>match ops[i]? with
  | some o=>o.guard.isNone&&o.after.toList.all (λe=> !(bnd e)||I9 e.on i)&&
   (!(I9 m i)||Aj i f||o.after.toList.any (λe=>bnd e&&(Aj e.on m||(I9 m e.on&& !(Aj e.on f)))))
  | none=>A1)&&
 (BN m).all (λi=>(BN<|m+1).any λj=>I9 i j&&match ops[j]? with
  | some o=>o.after.toList.any λe=>bnd e&&Aj e.on i
  | none=>A3)
def asi{ops:Array Oper}{m f:Nat}(h:X2 ops m f=A1):XOk ops m f:=by
 simp only[X2,AI,Cr]at h;obtain⟨⟨⟨h1,h2⟩,h3⟩,h4⟩:=h;have h1:m<f:=by simpa[Pa] using h1
 have h2:f<ops.size:=by simpa[Pa] using h2
 have at_:∀(i:Nat) (o:Oper),ops[i]? =I o->(o.guard.isNone=A1/\ ∀e∈o.after.toList,(!(bnd e)||I9 e.on i)=A1)/\
   (!(I9 m i)||Aj i f||o.after.toList.any (λe=>bnd e&&(Aj e.on m||(I9 m e.on&& !(Aj e.on f)))))=A1:=by
  intro i o ho;have:=h3 i<|DV.2 (HV.1 ho).1;rw[ho]at this;simp only[AI,Cr]at this;exact this
 refine⟨h1,h2,λi o ho=> ?_,λi o e ho he hb=> ?_,λi hi=> ?_,λi hi1 hi2 hi3=> ?_⟩
 .simpa using (at_ i o ho).1.1
 .have:=(at_ i o ho).1.2 e (by simpa using he);rw[show bnd e=A1 from hb]at this;simpa[Pa] using this
 .have:=h4 i<|DV.2 hi;obtain⟨j,hj,hc⟩:=I5.1 this;rw[AI]at hc;obtain⟨c1,c2⟩:=hc;cases ho:ops[j]? with
  | none=>rw[ho]at c2;cases c2
  | some o=>
   rw[ho]at c2;obtain⟨e,he,hc⟩:=I5.1 c2;rw[AI]at hc;exact⟨j,o,e,by simpa[Pa] using c1,by have:=DV.1 hj;omega,ho,by simpa using he,hc.1,by simpa using hc.2⟩
 .obtain⟨o,ho⟩:∃o,ops[i]? =I o:=⟨ops[i],by simp[hi2]⟩;have:=(at_ i o ho).2;have e1:I9 m i=A1:=by simpa[Pa] using hi1
  have e2:Aj i f=A3:=by rw[← Ha,HU];exact hi3
  rw[e1,e2]at this;simp only[AD,BY]at this;obtain⟨e,he,hc⟩:=I5.1 this;rw[AI,Ci,AI]at hc;refine⟨o,e,ho,by simpa using he,hc.1, ?_⟩;obtain h|h:=hc.2
  .exact .inl (by simpa using h)
  .refine .inr ⟨by simpa[Pa] using h.1,λh'=> ?_⟩;rw[h']at h;simp at h
def ax5{P:Program}(hP:C.P=P)(hm:P.follows .mixedOrders=A1)(hC:∀B:Be,B.P=P->H9 C B)(hI:∀B:Be,B.P=P->JG C B inl){f:FuncId}{fn:Func}
  (hf:P.funcs[f]? =I fn)(K7:(fn.name == "runtime.NumGoroutine")=A3){i0 i1:Nat}{o0 ops:Array Oper}{rest:Code}
  (hb:fn.body=I (.seq (.region i0 o0 A3)<|.seq (.region i1 ops A1) rest)){m:Da}(hok:okM m fn.ntmps=A1){l g:Nat}(hx:X2 ops l g=A1)
  (h1:∀x,Ol C inl fn (BN l) l (aft l ops.size) m x=m.g x)(h2:∀x,Ol C inl fn (BN l++[g]) l (K9 l ops.size g) m x=m.g x):Gt P f m:=by
 refine ahd hP hf K7 hb hok λx r hr B hB β a w Q hst hfr hk=> ?_;have e1:=h1 x;have e2:=h2 x;rw[hr]at e1 e2;unfold Ol at e1 e2;rw[hb]at e1 e2;simp only at e1 e2;obtain⟨s1,a1,a2⟩:=An.1 e1;obtain⟨s1',b1,b2⟩:=An.1 e2;rw[a1]at b1;cases b1;have hPB:C.P=B.P:=by rw[hP,hB]
 have hmB:B.P.follows .mixedOrders=A1:=by rw[hB];exact hm
 have hCB:=hC B hB;have hIB:=hI B hB;refine wp_seq ?_;refine aFr hPB hCB hIB a1 hfr hst ?_;intro β' a' w' s' k1 k2 k3 k4 k5;cases k5;refine wp_seq ?_;refine ah4 hPB hmB hCB hIB (asi hx) a2 b2 k2 k1 ?_;intro β2 a2' w2 s2 j1 j2 j3 j4 j5;exact YW hPB hmB hCB hIB rest .nil _ s2 r j5 j1 j2 (Fw _ _) (by rw[j3,j4,k3,k4];exact hk)
def soX{P:Program}{C:Cx}{inl:(Ω:Type)->Inl Ω}{f:Nat}{d:Option Nat}{fn:Func}{m:Da}(hC:OKC P C inl){i0 i1:Nat}{o0 ops:Array Oper}{rest:Code}
  (hf:fnB P f fn m=(I fn,A3,A1,A1))(hb:fn.body=I (.seq (.region i0 o0 A3)<|.seq (.region i1 ops A1) rest)){l g:Nat}(hx:X2 ops l g=A1)
  (h1:∀x,Ol C inl fn (BN l) l (aft l ops.size) m x=m.g x)(h2:∀x,Ol C inl fn (BN l++[g]) l (K9 l ops.size g) m x=m.g x):SQ P (f,d,m):=by
 simp only[fnB,CM]at hf;exact⟨ax5 hC.p hC.m hC.c hC.i hf.1 hf.2.1 hb hf.2.2.1 hx h1 h2,hf.2.2.2⟩
end
end Go.VS
namespace Go.VS
open Go
section
variable {P:Program} {w:World} {H:Type} {Ee:TypeId×Value->H} {base:Nat} {spare:Nat->Bool} {held:Bool}
def W5{h:Sh}{c:CT}{t e:TypeId}{v:Value}{d:DataW H}{ps:List MemPlace}{r:Reach}{b0:Nat}(hs:kh h=I c)(hok:T9 P 60 t c=A1)(ht:P.underlying t=I (.slice e))(GB:Ky P w r b0 t v)
  (hd:DataW.Trod Ee P w base spare held t v d ps):∃x:LT h,Np h x/\ ∀(M:Nat->Prop) (e:Nat->Value),(∀b,¬M b)->Rel P w M e h x v []:=by
 obtain⟨a,len,cap,rfl⟩:=Go.WideShapes.okWide_slice ht GB;obtain⟨Bj,hf⟩:=hd;exact aq7 hs<|aFi 60 t c hok ⟨Bj,d,ps,hf⟩
end
def fF{H:Type}{enc:TypeId×Value->H}{a:Assume}{C:Checked}{os:Os}{f:FuncId}{fn:Func}{s:ChangeSpec}{conds:List PathCond}{apart fresh handsOn again:Bool}{X:World->Array Value->Prop}
  (hX:∀(w w':World) (args:Array Value),w.heap=w'.heap->X w args->X w' args)
  (own:ownKnob C.prog.godebug=U)(started:os.Started)(atA:C.prog.inits.idxOf? f=U)(hfn:C.prog.funcs[f]? =I fn)
  (witness:∃(w:World) (tape:Tape) (i:Input),w.os=os/\(w.forCall tape i).Shaped C.prog/\i.vars=[]/\Input.okWide C.prog (w.forCall tape i) .any w.heap.size f i/\
   ((s.pre enc C.prog fn conds apart (w.forCall tape i).memory i.args/\X (w.forCall tape i).memory i.args)/\sizedMet enc C.prog fn (Kl s) apart (w.forCall tape i).memory i.args)/\a.holds C.prog (lone (Frame.enter C.prog f i.args .normal) [] (w.forCall tape i)))
  (axE:∀(W:World) (args:Array Value) (b0:Nat) (ds gs:List (DataW H)) (before:List MemPlace),W.ShapedOpen C.prog->(∀(j:Nat) t v,fn.params[j]? =I t->args[j]? =I v->Ky C.prog W .any b0 t v)->
   DataW.Whole enc C.prog fn.params.toList s.vars apart W args.toList ds gs before->X W args->
   Calls C.prog f args W λe W'=>∃v,e= .returned v/\s.post enc C.prog fn apart fresh handsOn again W args v W'):
  ReturnsInHanded a C os f .any (λw args=>(s.pre enc C.prog fn conds apart w args/\X w args)/\sizedMet enc C.prog fn (Kl s) apart w args) (s.post enc C.prog fn apart fresh handsOn again):=by
 refine returnsInHanded_of_calls own started atA witness ?_;intro w tape i _ hsh _ hok aq1 _;obtain⟨_,_,_,fn',ae1,_,_,_,_,GB⟩:=hok;have e:fn'=fn:=EI<|ae1.symm.trans hfn;subst e;obtain⟨⟨⟨ds,gs,before,hw,_⟩,hx⟩,_⟩:=aq1;refine(axE (w.forCall tape i) i.args _ ds gs before hsh GB (DataW.Whole.of_heap (w':=w.forCall tape i) (by rfl) hw)<|hX _ _ _ (by rfl) hx).mono λe W' ⟨v,he,hp⟩=> ?_;subst he;exact ChangeSpec.post_blind hp
end Go.VS
end
