/- Part 13. -/
import Derived.HandedShaped
import Derived.LaidSub
import Derived.MakeChecks
import Derived.Carry
import Derived.Test.YtgjljlpdfceilaaGreatDoorQAL
open Array renaming getElem?_eq_some_iff->Ha,replicate->Rk
open Bool renaming and_eq_true->AG,false->A3,false_or->Bn,not_eq_true'->C1,not_eq_true->Gk,not_true->AF,or_eq_true->Br,true->U
open Decidable renaming decide->A1
open Go.Code renaming region->S1
open Go.Lib renaming TabIs->Mv,pow10Tab->Nv
open Go.MakeChecks renaming laidMetH_plain->JB
open Go.OpenSpec renaming ofChange->IW
open Go.Region renaming binds->G4,ready->PY
open Go.Value renaming okWide->Ia
open List renaming all_eq_true->Cb,any_eq_true->Hd,append_nil->CW,append_of_mem->Uu,eq_nil_of_length_eq_zero->E7,getElem?_append_left->IT,getElem?_append_right->Fo,getElem?_eq_getElem->Au,getElem?_eq_none->Hz,getElem?_eq_none_iff->bC,getElem?_eq_some_iff->BP,getElem_mem->CV,mem_append->BN,mem_append_left->By,mem_append_right->CU,mem_cons->Bo,mem_cons_of_mem->An,mem_cons_self->Av,mem_filter->FW,mem_filterMap->Gh,mem_iff_getElem?->p8,mem_of_getElem?->Cu,mem_range->D6,mem_singleton->CA,nodup_append->Jo,nodup_cons->IY,nodup_range->pF,pairwise_append->Nj,pairwise_cons->KW,pairwise_iff_getElem->Jj,pairwise_lt_range->Rr,range->BB,reverse_reverse->pU
open Nat renaming beq->Al,beq_eq->Hc,blt->Ib,blt_eq->PZ,le_of_ble_eq_true->Di,le_refl->Az,lt_trichotomy->IX,ne_of_lt->Pl,zero_add->DT,zero_le->D7
open Ne renaming symm->Li
open Option renaming bind_eq_some_iff->Am,map_eq_some_iff->DJ,none->A0,some->I
open Option.some renaming inj->Cn
open Prod.mk renaming injEq->CX
set_option linter.all false
noncomputable section
namespace Go.VS
open Go
section
variable {P:Program} {W:World}
def s8(P:Program)(name:String)(k:IntKind):Bool:=
 match P.globalNamed name with
 | some g=>match (P.globals[g]?).map (·.type) with
  | some t=>match P.underlying t with
   | some (.array n e)=>(match P.underlying e with|some (.int k')=>A1 (k'=k)|_=>A3)&&A1 (P.cellsOf e=1)&&A1 (P.cellsOf t=n)
   | _=>A3
  | _=>A3
 | _=>A3
def aqg{name:String}{k:IntKind}{zs:List Int}(h:s8 P name k=U)(hl:laidMet P [(name,Lib.tabData k zs)] W):Mv P W name k zs:=by
 unfold s8 at h;split at h
 case h_2=>cases h
 rename_i g hg;split at h
 case h_2=>cases h
 rename_i t ht;split at h
 case h_2=>cases h
 rename_i n e hu;simp only[AG,decide_eq_true_eq]at h;obtain⟨⟨h1,h2⟩,h3⟩:=h;split at h1
 case h_2=>cases h1
 rename_i k' hk;have h1:=BX h1;subst h1;exact Lib.tabIs_of_head hg ht hu hk h2 h3 hl
def VQ:String:= "internal/strconv.uint64pow10"
def Tb{laid:List (String×DataW A2)}(hsh:W.ShapedOpen P)(am8:Ib P.globals.size (begin P (λ_ _=>0) default).world.heap.size=U)(aEV:laidMetH P laid W)
  (aki:(laid.all λx=>x.2.handleName?.isNone)=U)
  (ak:P.globalNamed VQ≠A0->(laid.filter λx=>x.1 == VQ)=[(VQ,Lib.tabData .u64 Nv)]/\s8 P VQ .u64=U):O3 P W (λ_=>False):=by
 have hlt:P.globals.size<W.heap.size:=by
  obtain⟨o,o0,h1,_⟩:=hsh.2 P.globals.size (Az _) (by simpa[PZ] using am8);exact(Ha.1 h1).1
 refine⟨W,⟨hsh,λhn=> ?_⟩,λb hb=>⟨id,J,rfl⟩⟩;obtain⟨h1,h2⟩:=ak hn;rw[JB _ _ _ aki]at aEV;have h3:=laidMet.filter (λx=>x.1 == VQ) aEV;rw[h1]at h3;exact aqg h2 h3
end
end Go.VS
namespace Go.VS
open Go
def az6:Oper:={ dst:=A0,op:= .move<|.const<|.bool A3,type:=0,pos:= "",after:= #[],guard:=A0 }
def s9(zs:List Nat)(e:Edge):Option Edge:=(zs.idxOf? e.on).map λj=>{ e with on:=j }
def SH(zs:List Nat)(o:Oper):Oper:={ o with after:=(o.after.toList.filterMap<|s9 zs).toArray }
def Fh(ops:Array Oper)(zs:List Nat):Array Oper:=(zs.map λi=>SH zs<|(ops[i]?).getD az6).toArray
def asq{ops:Array Oper}{zs:List Nat}{j i:Nat}{o:Oper}(hz:zs[j]? =I i)(ho:ops[i]? =I o):(Fh ops zs)[j]? =I (SH zs o):=by
 simp[Fh,hz,ho]
def mT(ops:Array Oper)(zs:List Nat):(Fh ops zs).size=zs.length:=by simp[Fh]
def av5{zs:List Nat}{o:Oper}{e:Edge}(h:e∈(SH zs o).after):∃e0∈o.after,G4 .any e0=G4 .any e/\zs[e.on]? =I e0.on:=by
 have h:e∈o.after.toList.filterMap (s9 zs):=by simpa[SH] using h
 obtain⟨e0,h0,h1⟩:=Gh.1 h;unfold s9 at h1;obtain⟨j,h2,h3⟩:=DJ.1 h1;refine⟨e0,by simpa using h0,by rw[← h3];rfl, ?_⟩;rw[← h3];obtain⟨hlt,h4,_⟩:=List.idxOf?_eq_some_iff.1 h2;show zs[j]? =I e0.on;rw[Au hlt];simpa using h4
section
variable {P:Program} {ops:Array Oper} {Q:Exit->Act->World->Prop}
def asg(Good:(Nat->Prop)->Act->World->Prop)(alj:∀(i:Nat) (o:Oper) (e:Edge),ops[i]? =I o->e∈o.after->G4 .any e=U->e.on<i)
  (oP:∀(D:Nat->Prop) a w,(∀i,¬D i)->Good D a w->Q .normal a w)
  (sn:∀(D:Nat->Prop) (i:Nat) (a:Act) (w:World) (o:Oper),Good D a w->(∀j,D j->j<ops.size)->(∀j oj,ops[j]? =I oj->¬D j->∀e∈oj.after,G4 .any e=U->¬D e.on)->D i->ops[i]? =I o->
   (∀e∈o.after,G4 .any e=U->¬D e.on)->wpOp P ops Q i (λa w=>Good (λk=>D k/\k≠i) a w) a w):
  ∀(n:Nat) (Bf:List Nat) (listed:Array Bool) (a:Act) (w:World),Bf.length=n->Bf.Nodup->(∀j,j∈Bf↔j<ops.size/\listed.getD j U=A3)->listed.size=ops.size->
   (∀j oj,ops[j]? =I oj->j ∉ Bf->∀e∈oj.after,G4 .any e=U->e.on ∉ Bf)->Good (λk=>k∈Bf) a w->wpAny P .any ops Q n listed a w:=by
 intro n
 induction n with
 | zero=>
  intro Bf listed a w hl hnd hU hs hcl hg;have:Bf=[]:=E7 hl;subst this;refine⟨?_,oP _ a w (λi h=>by cases h) hg⟩;cases hrd:PY .any ops listed with
  | nil=>rfl
  | cons j l=>
   have hj:j∈PY .any ops listed:=by rw[hrd];exact Av
   obtain⟨h1,o,ho,_⟩:=mem_ready.1 hj;have:=(hU j).2 ⟨(Ha.1 ho).1,h1⟩;cases this
 | succ n ih=>
  intro Bf listed a w hl hnd hU hs hcl hg;have done:∀x,x<ops.size->x ∉ Bf->listed.getD x A3=U:=λx hx hn=>by
   refine xg J ?_;cases hb':listed.getD x U with
   | true=>rfl
   | false=>exact absurd ((hU x).2 ⟨hx,hb'⟩) hn
  refine⟨λoK=> ?_,λi hi=> ?_⟩
  .exfalso;obtain⟨i0,h0,oL⟩:=nI (λk=>k∈Bf) (by
    cases Bf with
    | nil=>simp at hl
    | cons x l=>exact⟨x,Av⟩)
   obtain⟨hlt,hun⟩:=(hU i0).1 h0;obtain⟨o,ho⟩:∃o,ops[i0]? =I o:=⟨ops[i0],by simp[hlt]⟩;have hr0:i0∈PY .any ops listed:=mem_ready.2 ⟨hun,o,ho,λe he hb=>by
    have aw:=alj i0 o e ho he hb;exact done e.on J λhm=>by have:=oL _ hm;omega⟩
   rw[oK]at hr0;cases hr0
  .obtain⟨hun,oi,hoi,EI⟩:=mem_ready.1 hi;have hlt:i<ops.size:=(Ha.1 hoi).1;have hiU:i∈Bf:=(hU i).2 ⟨hlt,hun⟩;have Ku:∀e∈oi.after,G4 .any e=U->e.on ∉ Bf:=λe he hb hm=>by
    have h2:=((hU e.on).1 hm).2;have hsz:=((hU e.on).1 hm).1;have hel:=EI e he hb;have:listed.getD e.on U=U:=by simp[show e.on<listed.size by omega]at hel ⊢; exact hel
    rw[this]at h2;cases h2
   have Fs:∀k,k∈Bf.erase i↔k∈Bf/\k≠i:=λk=>by
    rw[hnd.mem_erase_iff];exact and_comm
   refine wpOp_mono ?_ (sn (λk=>k∈Bf) i a w oi hg (λj hj=>((hU j).1 hj).1) hcl hiU hoi Ku);intro a' w' hg';refine ih (Bf.erase i) _ a' w' (by rw[List.length_erase_of_mem hiU,hl];rfl) (hnd.erase i) (λj=> ?_) (by simpa using hs) ?_ ?_
   .rw[Fs,hU];by_cases e:j=i
    .subst e;simp
    .rw[getD_set_ne U<|Li e];simp[e]
   .intro j oj hoj hj e he hb hm;have hmU:=((Fs _).1 hm).1;by_cases e':j=i
    .subst e';rw[hoi]at hoj;cases hoj;exact Ku e he hb hmU
    .exact hcl j oj hoj (λh=>hj<|(Fs j).2 ⟨h,e'⟩) e he hb hmU
   .have:(λk=>k∈Bf.erase i)=λk=>k∈Bf/\k≠i:=funext λk=>propext<|Fs k;rw[this];exact hg'
end
section
variable {C:Cx} {B:Bg} {ops S0:Array Oper} {L:Lb} {stk:List (Array Value)} {Ω:Type} {q:Ω} {s s':S}
structure PaR (C:Cx) (S0:Array Oper) (L:Lb) (Bf:List Nat) (s s':S):Prop where
 run:Run C S0 L Bf s s'
 azq:Bf.Pairwise (· < ·)
 lt:∀j∈Bf,j<S0.size
 cl:∀i x,i<S0.size->i ∉ Bf->L.R x i->x ∉ Bf
 fit:∀j∈Bf,Fit S0 L Bf s j
def PaR.pick(hn:Q9 S0 L){Bf:List Nat}(h:PaR C S0 L Bf s s'){i:Nat}(hiU:i∈Bf){oi:Oper}(hoi:S0[i]? =I oi)(Ku:∀e∈oi.after,G4 .any e=U->e.on ∉ Bf):
  ∃s1 U',ev1 C S0 oi (L.b i) s=I s1/\(∀id,L.b i<=id->id<L.b i+16->s.H id=A0)/\PaR C S0 L U' s1 s'/\ ∀k,k∈U'↔k∈Bf/\k≠i:=by
 obtain⟨hr,hp,hlt,hd,hf⟩:=h;obtain⟨l1,l2,rfl⟩:=Uu hiU;have hRn:∀j∈l1++i::l2,¬L.R j i:=by
  intro j hj hR;obtain⟨e,he,hb,Vc⟩:=hn.anc j i oi hoi hR;have heU:=Ku e he hb;obtain h|h:=Vc
  .exact heU (h▸hj)
  .have aw:=hn.dir i oi e hoi he hb;exact hd e.on j (by have:=hlt i hiU;omega) heU h hj
 have Cr:=Run.first hn l1 s hr hp hRn hf
 cases Cr with
 | cons UW Ug t=>
  rename_i o' s1;rw[hoi]at UW;cases UW;have hnd:(l1++i::l2).Nodup:=hp.imp λh=>Pl h;have Fs:∀j,j∈l1++l2↔j∈l1++i::l2/\j≠i:=by
   intro j;have Jx:=Jo.1 hnd;constructor
   .intro hj;refine⟨?_, ?_⟩
    .rcases BN.1 hj with h|h
     .exact By _ h
     .exact CU _ (An _ h)
    .rintro rfl;rcases BN.1 hj with h|h
     .exact Jx.2.2 j h j Av rfl
     .exact(IY.1 Jx.2.1).1 h
   .rintro⟨hj,hne⟩;rcases BN.1 hj with h|h
    .exact By _ h
    .rcases Bo.1 h with h|h
     .exact absurd h hne
     .exact CU _ h
  refine⟨s1,l1++l2,Ug.ev,λid h1 h2=>(hf i hiU oi hoi).2.2 id h1 h2,⟨t, ?_,λj hj=>hlt j ((Fs j).1 hj).1, ?_, ?_⟩,Fs⟩
  .have p2:=Nj.1 hp;exact Nj.2 ⟨p2.1,(KW.1 p2.2.1).2,λx hx y hy=>p2.2.2 x hx y<|An _ hy⟩
  .intro k x hk hkU hR hx;have hxU:=((Fs x).1 hx).1;by_cases e:k=i
   .subst e;exact hRn x hxU hR
   .exact hd k x hk (λh=>hkU<|(Fs k).2 ⟨h,e⟩) hR hxU
  .intro j hj;obtain⟨hjU,hne⟩:=(Fs j).1 hj;refine(hf j hjU).step hn hoi (Li hne) (hRn j hjU) Ug λk hk=> ?_;by_cases e:k=i
   .exact .inl e
   .exact .inr<|(Fs k).2 ⟨hk,e⟩
structure Jv (C:Cx) (ops:Array Oper) (zs:List Nat) (L:Lb) (D:Nat->Prop) (s s':S):Prop where
 nice:Q9 (Fh ops zs) L
 ex:∃Bf,PaR C (Fh ops zs) L Bf s s'/\ ∀j x,zs[j]? =I x->(j∈Bf↔D x)
def axt{zs:List Nat}{o:Oper}(hg:o.guard=A0)(b:Nat)(s:S):ev1 C (Fh ops zs) (SH zs o) b s=CS C (AI S) o b s I:=by
 unfold ev1 evG;have:(SH zs o).guard=A0:=hg;rw[this];rfl
def awZ{o:Oper}(hg:o.guard=A0)(b:Nat)(s:S):ev1 C ops o b s=CS C (AI S) o b s I:=by
 unfold ev1 evG;rw[hg]
def Jv.pick{zs:List Nat}{D:Nat->Prop}(h:Jv C ops zs L D s s')(hz:zs.Nodup){j i:Nat}(hj:zs[j]? =I i)(hD:D i){o:Oper}(ho:ops[i]? =I o)(hg:o.guard=A0)
  (Ku:∀e∈o.after,G4 .any e=U->¬D e.on):
  ∃s1,CS C (AI S) o (L.b j) s I=I s1/\(∀id,L.b j<=id->id<L.b j+16->s.H id=A0)/\Jv C ops zs L (λk=>D k/\k≠i) s1 s':=by
 obtain⟨hn,Bf,hp,hU⟩:=h;obtain⟨s1,U',h1,h2,h3,h4⟩:=hp.pick hn ((hU j i hj).2 hD) (asq hj ho) λe he hb hm=>by
  obtain⟨e0,he0,hb0,hz0⟩:=av5 he;exact Ku e0 he0 (by rw[hb0];exact hb)<|(hU _ _ hz0).1 hm
 refine⟨s1,by rw[← axt hg];exact h1,h2,hn,U',h3,λk x hk=> ?_⟩;rw[h4,hU k x hk];refine and_congr_right λ_=>not_congr ⟨λe=> ?_,λe=> ?_⟩
 .subst e;rw[hk]at hj;cases hj;rfl
 .subst e;have hk1:=(BP.1 hk);have hj1:=(BP.1 hj);obtain⟨a1,a2⟩:=hk1;obtain⟨b1,b2⟩:=hj1;have hpw:=Jj.1 hz;rcases IX k j with h|h|h
  .exact absurd (a2.trans b2.symm) (hpw k j a1 b1 h)
  .exact h
  .exact absurd (b2.trans a2.symm)<|hpw j k b1 a1 h
def Jv.done{zs:List Nat}{D:Nat->Prop}(h:Jv C ops zs L D s s')(hD:∀x∈zs,¬D x):s=s':=by
 obtain⟨hn,Bf,hp,hU⟩:=h;have:Bf=[]:=by
  cases Bf with
  | nil=>rfl
  | cons j l=>
   exfalso;have hlt:=hp.lt j Av;rw[mT]at hlt;have hz:zs[j]? =I zs[j]:=Au hlt;exact hD _ (CV hlt)<|(hU j _ hz).1 Av
 subst this;have:=hp.run;cases this;rfl
def qQ{zs:List Nat}{k:S->Option Ω}(he:evD C (Fh ops zs) s (Fh ops zs).toList 0 s.nid [] s k=I q)(hfr:Fr s)(D:Nat->Prop)(hD:∀x∈zs,D x):
  ∃L s',Jv C ops zs L D s s'/\(∀j,L.b j=s.nid+16 * j)/\Fr { s' with nid:=s.nid+16 * zs.length } /\s'.n=s.n/\s'.pins=s.pins/\k { s' with nid:=s.nid+16 * zs.length } =I q:=by
 obtain⟨rs,s',h1,h2,h3,h4⟩:=o6 (b0:=s.nid) (Fh ops zs).toList 0 s.nid [] s he trivial rfl rfl (by simp);simp only[CW,DT]at h2 h4;have hn:rs.reverse.length=(Fh ops zs).size:=by simpa using h3
 have hpl:=h2.places;rw[pU,hn]at hpl;have Lw:∀j,Fit (Fh ops zs) (C8 rs.reverse s.nid) (BB (Fh ops zs).size) s j:=λj=>h2.fit hn hfr;have Cr:=mK h2 hn rs s s' h1 (λr hr=>by simpa using hr) (by rw[hpl];exact Rr) (λr hr=>by rw[hpl];exact Lw _);rw[hpl]at Cr;have hlen:(Fh ops zs).toList.length=zs.length:=by simp[Fh]
 have Q4:BJ (λj=>j<s.nid+16 * zs.length) s s':=mg rs s s' _ h1 λr hr=>by
  have hr':r∈rs.reverse:=by simpa using hr
  have e1:=(h2.N6 hr').1;have e2:=h2.lt r hr';rw[hn,mT]at e2;omega
 rw[hlen]at h4;refine⟨C8 rs.reverse s.nid,s',⟨h2.nice hn,BB (Fh ops zs).size,⟨Cr,Rr,λj hj=>D6.1 hj,λi x hi hiU _=>absurd (D6.2 hi) hiU,λj _=>Lw j⟩,λj x hj=> ?_⟩,
  λj=>rfl,λj hj=> ?_,Q4.n,Q4.pins,h4⟩
 .rw[D6,mT];exact⟨λ_=>hD x<|Cu hj,λ_=>(BP.1 hj).1⟩
 .have hj:s.nid+16 * zs.length<=j:=hj;exact Q4.nn j J<|hfr j J
end
end Go.VS
namespace Go.VS
open Go
def evX{Ω:Type}(C:Cx)(inl:Inl Ω)(ops:Array Oper)(ys:List Nat)(m:Nat)(zs:List Nat)(s:S)(k:S->Option Ω):Option Ω:=
 evD C (Fh ops ys) s (Fh ops ys).toList 0 s.nid [] s λs1=>match ops[m]? with
  | some om=>evG C inl ops om s1.nid s1 λs2=>evD C (Fh ops zs) { s2 with nid:=s2.nid+16 } (Fh ops zs).toList 0 (s2.nid+16) [] { s2 with nid:=s2.nid+16 } k
  | none=>A0
structure XOk (ops:Array Oper) (m f:Nat):Prop where
 mf:m<f
 sz:f<ops.size
 guard:∀(i:Nat) (o:Oper),ops[i]? =I o->o.guard=A0
 dir:∀(i:Nat) (o:Oper) (e:Edge),ops[i]? =I o->e∈o.after->G4 .any e=U->e.on<i
 cov:∀i,i<m->∃j o e,i<j/\j<=m/\ops[j]? =I o/\e∈o.after/\G4 .any e=U/\e.on=i
 late:∀i,m<i->i<ops.size->i≠f->∃o e,ops[i]? =I o/\e∈o.after/\G4 .any e=U/\(e.on=m\/(m<e.on/\e.on≠f))
abbrev aft(m n:Nat):List Nat:=List.range' (m+1)<|n - (m+1)
abbrev Kq(m n f:Nat):List Nat:=(aft m n).filter λx=> !(Al x f)
section
variable {C:Cx} {B:Bg} {ops:Array Oper} {stk:List (Array Value)} {Ω:Type} {q:Ω} {inl:(Ω:Type)->Inl Ω}
def qn{m n x:Nat}:x∈aft m n↔m<x/\x<n:=by
 rw[List.mem_range'_1];omega
def P1{m n f x:Nat}:x∈Kq m n f↔(m<x/\x<n)/\x≠f:=by
 rw[FW,qn];refine and_congr_right λ_=> ?_;rw[C1,← Gk,Hc]
def aIQ{m j:Nat}(h:j<m):(BB m)[j]? =I j:=by simp[h]
def aGS{m f j:Nat}(h:j<m):(BB m++[f])[j]? =I j:=by
 rw[IT<|by simpa using h];exact aIQ h
def au9{m f:Nat}:(BB m++[f])[m]? =I f:=by
 rw[Fo<|by simp];simp
def K2(C:Cx)(ops:Array Oper)(zs:List Nat)(k:S->Option Ω)(s2:S):Option Ω:=
 evD C (Fh ops zs) { s2 with nid:=s2.nid+16 } (Fh ops zs).toList 0 (s2.nid+16) [] { s2 with nid:=s2.nid+16 } k
inductive Way (C:Cx) (ops:Array Oper) (m f:Nat) (inl:Inl Ω) (k:S->Option Ω) (q:Ω) (s0:S) (D:Nat->Prop) (s:S):Prop
 | one (hm:D m) (hf:D f) (hz:∀x∈Kq m ops.size f,D x) (L1 L2:Lb) (s1 s2:S) (b1:∀j,L1.b j=s0.nid+16 * j) (b2:∀j,L2.b j=s0.nid+16 * j)
   (p1:Jv C ops (BB m) L1 D s s1) (p2:Jv C ops (BB m++[f]) L2 D s s2)
   (f1:Fr { s1 with nid:=s0.nid+16 * m }) (f2:Fr { s2 with nid:=s0.nid+16 * (m+1) })
   (n1:s1.n=s0.n/\s1.pins=s0.pins) (n2:s2.n=s0.n/\s2.pins=s0.pins)
   (k1:∀om,ops[m]? =I om->evG C inl ops om (s0.nid+16 * m) { s1 with nid:=s0.nid+16 * m } (K2 C ops (aft m ops.size) k)=I q)
   (k2:∀om,ops[m]? =I om->evG C inl ops om (s0.nid+16 * (m+1)) { s2 with nid:=s0.nid+16 * (m+1) } (K2 C ops (Kq m ops.size f) k)=I q):Way C ops m f inl k q s0 D s
 | two (hm:D m) (hf:¬D f) (hz:∀x∈Kq m ops.size f,D x) (L2:Lb) (s2:S)
   (p2:Jv C ops (BB m++[f]) L2 D s s2)
   (f2:Fr { s2 with nid:=s0.nid+16 * (m+1) })
   (n2:s2.n=s0.n/\s2.pins=s0.pins)
   (k2:∀om,ops[m]? =I om->evG C inl ops om (s0.nid+16 * (m+1)) { s2 with nid:=s0.nid+16 * (m+1) } (K2 C ops (Kq m ops.size f) k)=I q):Way C ops m f inl k q s0 D s
 | fin (hm:¬D m) (ha:∀x,x<m->¬D x) (zs:List Nat) (hn:zs.Nodup) (hD:∀x,D x->x∈zs) (L:Lb) (s':S) (p:Jv C ops zs L D s s')
   (N:Nat) (f2:Fr { s' with nid:=N }) (n2:s'.n=s0.n/\s'.pins=s0.pins) (k2:k { s' with nid:=N } =I q):Way C ops m f inl k q s0 D s
def St.sa{β:Beta}{s:S}{a:Act}{w:World}(h:St B β stk s a w)(N:Nat):St B β stk { s with nid:=N } a w:=⟨h.T,h.stack,h.n,h.defers,h.pins,h.gs,h.hs⟩
def auV(hP:C.P=B.P)(hm:B.P.follows .mixedOrders=U)(hC:Hn C B)(hI:JZ C B inl){m f:Nat}(hX:XOk ops m f){k:S->Option Ω}{s0:S}
  (he1:evX C (inl Ω) ops (BB m) m (aft m ops.size) s0 k=I q)(he2:evX C (inl Ω) ops (BB m++[f]) m (Kq m ops.size f) s0 k=I q)(hfr:Fr s0)
  {β:Beta}{a:Act}{w:World}(hst:St B β stk s0 a w){id:Nat}{Q:Exit->Act->World->Prop}
  (hQ:∀β a w s',St B β stk s' a w->Fr s'->s'.n=s0.n->s'.pins=s0.pins->k s'=I q->Q .normal a w):(S1 id ops U).wp B.P Q a w:=by
 have hmf:=hX.mf;have hsz:=hX.sz;have N4:St B β stk s0 a { w with drawn:=w.drawn+1 } :=by
  have hk:Kp w β { w with drawn:=w.drawn+1 } β:=Kp.heap rfl;exact hst.keep hk (H':=s0.H)<|hst.hs.drew
 refine wp_region_any hm ?_;refine asg (λD a w=>∃β s,St B β stk s a w/\Way C ops m f (inl Ω) k q s0 D s) hX.dir ?_ ?_ ops.size (BB ops.size) _ a _ (by simp) pF (λj=> ?_) (by simp) (λj oj hoj hj=>absurd (D6.2 (Ha.1 hoj).1) hj) ?_
 ·
  rintro D a w hD ⟨β,s,hs,hW⟩;cases hW with
  | one hm'=>exact absurd hm'<|hD _
  | two hm'=>exact absurd hm'<|hD _
  | fin _ _ zs hn _ L s' p N f2 n2 k2=>
   have:=p.done λx _=>hD x;subst this;exact hQ β a w _ (hs.sa N) f2 n2.1 n2.2 k2
 ·
  rintro D i a w o ⟨β,s,hs,hW⟩ hlt hcl hDi ho Ku;have hg:=hX.guard i o ho;have CP:∀ {zs:List Nat} {L:Lb} {s':S} {j:Nat},Jv C ops zs L D s s'->zs.Nodup->zs[j]? =I i->(∀s1,CS C (AI S) o (L.b j) s I=I s1->Jv C ops zs L (λk=>D k/\k≠i) s1 s'->Way C ops m f (inl Ω) k q s0 (λk=>D k/\k≠i) s1)->
    wpOp B.P ops Q i (λa w=>∃β s,St B β stk s a w/\Way C ops m f (inl Ω) k q s0 (λk=>D k/\k≠i) s) a w:=by
   intro zs L s' j hp hz hj N2;obtain⟨s1,h1,h2,h3⟩:=hp.pick hz hj hDi ho hg Ku;refine qR hP hC ho hs (b:=L.b j) h2 (show ev1 C ops o (L.b j) s=I s1 by rw[awZ hg];exact h1) ?_;intro β' u w' N4;exact⟨β',s1,N4,N2 s1 h1 h3⟩
  have ndA:(BB m++[f]).Nodup:=by
   rw[Jo];refine⟨pF,by simp,λx hx y hy e=> ?_⟩;have:=D6.1 hx;have:=CA.1 hy;omega
  have abU:D m->(∀x∈Kq m ops.size f,D x)->¬(m<i/\i≠f):=by
   rintro hm' hz ⟨h1,h2⟩;obtain⟨o',e,ho',he,hb,Vc⟩:=hX.late i h1 (hlt i hDi) h2;rw[ho]at ho';cases ho';refine Ku e he hb ?_;obtain h|⟨h3,h4⟩:=Vc
   .rw[h];exact hm'
   .exact hz _<|P1.2 ⟨⟨h3,by have:=hX.dir i o e ho he hb;have:=hlt i hDi;omega⟩,h4⟩
  have VY:i=m->∀x,x<m->¬D x:=by
   intro e x hx;have:∀n x,m - x=n->x<m->¬D x:=by
    intro n
    induction n using Nat.strongRecOn with
    | ind n ih=>
     intro x hn hx;obtain⟨j,oj,e',h1,h2,h3,h4,h5,h6⟩:=hX.cov x hx;rcases Nat.lt_or_eq_of_le h2 with h7|h7
     .have:=hcl j oj h3 (ih (m - j) J j rfl h7) e' h4 h5;rw[h6]at this;exact this
     .subst h7;rw[← e,ho]at h3;cases h3;have:=Ku e' h4 h5;rw[h6]at this;exact this
   exact this _ x rfl hx
  have aEm:∀ {b:Nat} {s1:S} {zs:List Nat},i=m->s=s1->Fr { s1 with nid:=b } ->(s1.n=s0.n/\s1.pins=s0.pins)->(∀x∈zs,D x/\x≠i)->zs.Nodup->(∀x,D x/\x≠i->x∈zs)->
    (∀om,ops[m]? =I om->evG C (inl Ω) ops om b { s1 with nid:=b } (K2 C ops zs k)=I q)->
    wpOp B.P ops Q i (λa w=>∃β s,St B β stk s a w/\Way C ops m f (inl Ω) k q s0 (λk=>D k/\k≠i) s) a w:=by
   intro b s1 zs e1 e2 hf1 hn1 hz hnd hin hk;subst e1;subst e2;refine aIg hP hC hI ho (s:={ s with nid:=b }) (hk o ho) (hs.sa b) hf1 ?_;intro β' u w' s' hs' hf' hn' hp' hk';obtain⟨L,s2,p,_,amG,hn2,hp2,hk2⟩:=qQ (s:={ s' with nid:=s'.nid+16 }) hk' (λj hj=>hf' j hj) (λk=>D k/\k≠i) hz;exact⟨β',_,hs'.sa _,.fin (λh=>h.2 rfl) (λx hx h=>VY rfl x hx h.1) zs hnd hin L s2 p _ amG ⟨hn2.trans<|hn'.trans hn1.1,hp2.trans<|hp'.trans hn1.2⟩ hk2⟩
  have nd1:(aft m ops.size).Nodup:=List.nodup_range';have nd2:(Kq m ops.size f).Nodup:=nd1.filter _;cases hW with
  | one hm' hf' hz L1 L2 s1 s2 b1 b2 p1 p2 f1 f2 n1 n2 k1 k2=>
   rcases IX i m with h|h|h
   .refine CP p1 pF (aIQ h) λt1 e1 q1=> ?_;obtain⟨t2,e2,_,q2⟩:=p2.pick ndA (aGS h) hDi ho hg Ku;rw[b2,← b1,e1]at e2;cases e2;exact .one ⟨hm',J⟩ ⟨hf',J⟩ (λx hx=>⟨hz x hx,by have:=(P1.1 hx).1.1;omega⟩) L1 L2 s1 s2 b1 b2 q1 q2 f1 f2 n1 n2 k1 k2
   .have e:=p1.done λx hx=>VY h x<|D6.1 hx;refine aEm h e f1 n1 (λx hx=> ?_) nd1 (λx hx=> ?_) k1
    .have hx:=qn.1 hx;refine⟨?_,J⟩;by_cases e':x=f
     .rw[e'];exact hf'
     .exact hz x (P1.2 ⟨hx,e'⟩)
    .refine qn.2 ⟨?_,hlt x hx.1⟩;rcases IX x m with h2|h2|h2
     .exact absurd hx.1 (VY h x h2)
     .exact absurd (h2.trans h.symm) hx.2
     .exact h2
   .by_cases e:i=f
    .refine CP p2 ndA (j:=m) (by rw[e];exact au9) λt1 e1 q1=> ?_;exact .two ⟨hm',J⟩ (λh=>h.2 e.symm) (λx hx=>⟨hz x hx,by have:=(P1.1 hx).2;omega⟩) L2 s2 q1 f2 n2 k2
    .exact absurd ⟨h,e⟩<|abU hm' hz
  | two hm' hf' hz L2 s2 p2 f2 n2 k2=>
   rcases IX i m with h|h|h
   .refine CP p2 ndA (aGS h) λt1 e1 q1=> ?_;exact .two ⟨hm',J⟩ (λh=>hf' h.1) (λx hx=>⟨hz x hx,by have:=(P1.1 hx).1.1;omega⟩) L2 s2 q1 f2 n2 k2
   .have e:=p2.done λx hx=>by
     rcases BN.1 hx with hx|hx
     .exact VY h x (D6.1 hx)
     .rw[CA.1 hx];exact hf'
    refine aEm h e f2 n2 (λx hx=>⟨hz x hx,by have:=(P1.1 hx).1.1;omega⟩) nd2 (λx hx=>P1.2 ⟨⟨?_,hlt x hx.1⟩,λe'=>hf'<|e'▸hx.1⟩) k2;rcases IX x m with h2|h2|h2
    .exact absurd hx.1 (VY h x h2)
    .exact absurd (h2.trans h.symm) hx.2
    .exact h2
   .by_cases e:i=f
    .exact absurd (e▸hDi) hf'
    .exact absurd ⟨h,e⟩<|abU hm' hz
  | fin hm' ha zs hn hD L s' p N f2 n2 k2=>
   obtain⟨j,hj⟩:=p8.1<|hD i hDi;refine CP p hn hj λt1 e1 q1=> ?_;exact .fin (λh=>hm' h.1) (λx hx h=>ha x hx h.1) zs hn (λx hx=>hD x hx.1) L s' q1 N f2 n2 k2
 .rw[D6];constructor
  .intro h;exact⟨h,by simp[h]⟩
  .exact λh=>h.1
 ·
  obtain⟨om,hom⟩:∃o,ops[m]? =I o:=⟨ops[m],by simp[show m<ops.size by omega]⟩;unfold evX at he1 he2;obtain⟨L1,s1,p1,b1,fr1,n1,pn1,k1⟩:=qQ he1 hfr (λk=>k∈BB ops.size) (λx hx=>D6.2 (by have:=D6.1 hx;omega));obtain⟨L2,s2,p2,b2,fr2,n2,pn2,k2⟩:=qQ he2 hfr (λk=>k∈BB ops.size) (λx hx=>D6.2 (by
   rcases BN.1 hx with h|h
   .have:=D6.1 h;omega
   .rw[CA.1 h];exact hsz))
  have l1:(BB m).length=m:=by simp
  have l2:(BB m++[f]).length=m+1:=by simp
  rw[l1]at fr1 k1;rw[l2]at fr2 k2;simp only[hom]at k1 k2;exact⟨β,s0,N4,.one (D6.2 J) (D6.2 hsz) (λx hx=>D6.2 (P1.1 hx).1.2) L1 L2 s1 s2 b1 b2 p1 p2 fr1 fr2 ⟨n1,pn1⟩ ⟨n2,pn2⟩
   (λo h=>by rw[hom]at h;cases h;exact k1) (λo h=>by rw[hom]at h;cases h;exact k2)⟩
end
end Go.VS
namespace Go.VS
open Go
section
variable {C:Cx} {B:Bg} {β:Beta} {H:Hp} {w w':World} {M:Nat->Prop} {stk:List (Array Value)} {s s':S} {a:Act} {P:Program} {e e':Nat->Value} {inl:(Ω:Type)->Inl Ω}
def avK{P:Program}(hP:C.P=P){f:FuncId}{fn:Func}{body:Code}(hf:P.funcs[f]? =I fn)(Ks:(fn.name == "runtime.NumGoroutine")=A3)
  (hb:fn.body=I body){m:Dd}(hok:okM m fn.ntmps=U)
  (hw:∀(x:LTs m.ps) (r:LTs m.rs×LTs (B6 m.ps)),m.g x=I r->∀(B:Bg),B.P=P->∀(β:Beta) (a:Act) (w:World) (Q:Exit->Act->World->Prop),St B β [] (SJ fn.ntmps m.ps x) a w->Fr (SJ fn.ntmps m.ps x)->
   KOK B [] fn.ntmps (EC 0 m.ps) { nrm:=fin C.P fn m,ret:=fin C.P fn m,ext:=λ_ _=>A0 } r Q->body.wp B.P Q a w):H5 P f m:=by
 refine⟨Ow hf Ks hb,λx r hx w Z args os hr hnd hbl hZ hgl=> ?_⟩;have hw:=hw x r hx;have UU:=hok;simp only[okM,AG]at UU;obtain⟨⟨⟨hps,hrs⟩,hn⟩,_⟩:=UU;have hn:=Di hn;have hlen:=hr.length
 let B:Bg:={ P:=P,w0:=w,O:=λb=>b∈B3 os,tm0:=ar args,Z:=Z,gl:=hgl }
 have Rg:Num (Hx Z os) 0 os:=qN Z os;obtain⟨k1,k2,k3⟩:=aD (β:=Hx Z os) (E:=λ_=> .un) (M:=λb=>b∈B3 os\/Z b) (P:=P) (w:=w) (e:=ar args) (λb hb=>qk (B:=B) hb) m.ps (λ_=>A0) 0 x args os hps hr Rg (λt _=>trivial);have hi:SJ fn.ntmps m.ps x=(match Ao (λ_=> .un) (λ_=>A0) 0 m.ps x with
  | (vs,H,b)=>{ n:=fn.ntmps,T:=λt=>(vs[t]?).getD Dx,H:=H,nid:=b,st:=[],pins:=EC 0 m.ps,gs:=λ_=>A3 }):=rfl
 rw[hi]at hw;generalize Ao (λ_=> .un) (λ_=>A0) 0 m.ps x=q at *;obtain⟨vs,H,b⟩:=q;simp only at hw k1 k2 k3;have hH:Hs B (Hx Z os) H w:={
  EU:=λid ob ho=>by
   by_cases h:id<os.length
   .obtain⟨ob',h1,h2⟩:=k3.2 id (D7 _) J;rw[h1]at ho;cases ho;exact h2
   .rw[k3.1 id J]at ho;cases ho
  dom:=λid p hp=>by
   have h:id<os.length:=(BP.1<|show os[id]? =I p from hp).1;obtain⟨ob',h1,_⟩:=k3.2 id (D7 _) J;exact⟨ob',h1⟩
  inj:=λi j p q a a' hi hj=>aB hnd i j p q a a' hi hj
  old:=λb hb=>⟨.inl<|NY hb,(hbl b<|NY hb).1⟩
  os:=rfl
  tape:=rfl
  output:=rfl
  size:=Az _
  block:=λ_ _ _=>rfl
  z:=rfl
  zn:=λid p a hp ha=>(hbl _<|NY (Z:=Z) ⟨id,p.1,p.2,a,hp,ha,rfl⟩).2
  zl:=hZ
  pk:=Pk.refl _ _ }
 refine calls_of_wp hf hb ?_;have hst:St B (Hx Z os) [] { n:=fn.ntmps,T:=λt=>(vs[t]?).getD Dx,H:=H,nid:=b,st:=[],pins:=EC 0 m.ps,gs:=λ_=>A3 } { tmps:=args.toArray++Rk (fn.ntmps - args.toArray.size) undef,defers:=[] } w:=by
  refine⟨λt=> ?_,⟨rfl,λi T' tm h=>by simp at h⟩, ?_,rfl,λt _=>Tj args _ t,λt g want y hy=> ?_,hH⟩
  .rw[Tj];show RT w _ _ ((vs[t]?).getD Dx) _;cases hv:vs[t]? with
   | none=>
    have:args.length<=t:=by
     rw[k1.1];exact bC.1 hv
    show RT w _ _ Dx (ar args t);have e0:ar args t=undef:=by simp[ar,Hz this]
    rw[e0];rfl
   | some c=>
    have hlt:t<args.length:=by rw[k1.1];exact(BP.1 hv).1
    have hu:args[t]? =I (ar args t):=by simp[ar,hlt]
    exact(k1.2 t c _ hv hu).au
  .simp;omega
  .have hy:(vs[t]?).getD Dx= .gd g want y:=hy;cases hv:vs[t]? with
   | none=>rw[hv]at hy;cases hy
   | some c=>
    rw[hv]at hy;have hy:c= .gd g want y:=hy;have hlt:t<args.length:=by rw[k1.1];exact(BP.1 hv).1
    have hu:args[t]? =I (ar args t):=by simp[ar,hlt]
    have:=k1.2 t c _ hv hu;rw[hy]at this;exact this.elim
 refine hw B rfl _ _ _ _ hst (λj hj=>k3.1 j<|.inr (by have hj:b<=j:=hj;omega)) ⟨?_, ?_, ?_⟩
 .intro β' a' w' s' h1 h2 h3 h4 h5;obtain⟨v',i1,i2⟩:=bo (B:=B) h1 rfl rfl hlen h4 hok (show fin P fn m s'=I r by rw[← hP];exact h5);exact⟨h1.defers,v',i1,v',rfl,i2⟩
 .intro β' a' w' s' h1 h2 h3 h4 h5;obtain⟨v',i1,i2⟩:=bo (B:=B) h1 rfl rfl hlen h4 hok (show fin P fn m s'=I r by rw[← hP];exact h5);exact⟨h1.defers,v',i1,v',rfl,i2⟩
 .intro id β' a' w' s' h1 h2 h3 h4 h5;cases h5
def Py(C:Cx)(inl:(Ω:Type)->Inl Ω)(fn:Func)(ys:List Nat)(l:Nat)(zs:List Nat)(m:Dd)(x:LTs m.ps):Option (LTs m.rs×LTs (B6 m.ps)):=
 match fn.body with
 | some (.seq (.region _ o0 A3) (.seq (.region _ ops U) rest))=>
  (Pq C (inl S) o0 o0.toList (SJ fn.ntmps m.ps x) I).bind λs1=>evX C (inl _) ops ys l zs s1 λs'=>evk C inl rest _ .nil { nrm:=fin C.P fn m,ret:=fin C.P fn m,ext:=λ_ _=>A0 } s'
 | _=>A0
def bnd(e:Edge):Bool:=G4 .any e
def dC(ops:Array Oper)(m f:Nat):Bool:=
 Ib m f&&Ib f ops.size&&(BB ops.size).all (λi=>match ops[i]? with
  | some o=>o.guard.isNone&&o.after.toList.all (λe=> !(bnd e)||Ib e.on i)&&
   (!(Ib m i)||Al i f||o.after.toList.any (λe=>bnd e&&(Al e.on m||(Ib m e.on&& !(Al e.on f)))))
  | none=>U)&&
 (BB m).all (λi=>(BB<|m+1).any λj=>Ib i j&&match ops[j]? with
  | some o=>o.after.toList.any λe=>bnd e&&Al e.on i
  | none=>A3)
def ay6{ops:Array Oper}{m f:Nat}(h:dC ops m f=U):XOk ops m f:=by
 simp only[dC,AG,Cb]at h;obtain⟨⟨⟨h1,h2⟩,h3⟩,h4⟩:=h;have h1:m<f:=by simpa[PZ] using h1
 have h2:f<ops.size:=by simpa[PZ] using h2
 have at_:∀(i:Nat) (o:Oper),ops[i]? =I o->(o.guard.isNone=U/\ ∀e∈o.after.toList,(!(bnd e)||Ib e.on i)=U)/\
   (!(Ib m i)||Al i f||o.after.toList.any (λe=>bnd e&&(Al e.on m||(Ib m e.on&& !(Al e.on f)))))=U:=by
  intro i o ho;have:=h3 i<|D6.2 (Ha.1 ho).1;rw[ho]at this;simp only[AG,Cb]at this;exact this
 refine⟨h1,h2,λi o ho=> ?_,λi o e ho he hb=> ?_,λi hi=> ?_,λi hi1 hi2 hi3=> ?_⟩
 .simpa using (at_ i o ho).1.1
 .have:=(at_ i o ho).1.2 e (by simpa using he);rw[show bnd e=U from hb]at this;simpa[PZ] using this
 .have:=h4 i<|D6.2 hi;obtain⟨j,hj,hc⟩:=Hd.1 this;rw[AG]at hc;obtain⟨c1,c2⟩:=hc;cases ho:ops[j]? with
  | none=>rw[ho]at c2;cases c2
  | some o=>
   rw[ho]at c2;obtain⟨e,he,hc⟩:=Hd.1 c2;rw[AG]at hc;exact⟨j,o,e,by simpa[PZ] using c1,by have:=D6.1 hj;omega,ho,by simpa using he,hc.1,by simpa using hc.2⟩
 .obtain⟨o,ho⟩:∃o,ops[i]? =I o:=⟨ops[i],by simp[hi2]⟩;have:=(at_ i o ho).2;have e1:Ib m i=U:=by simpa[PZ] using hi1
  have e2:Al i f=A3:=by rw[← Gk,Hc];exact hi3
  rw[e1,e2]at this;simp only[AF,Bn]at this;obtain⟨e,he,hc⟩:=Hd.1 this;rw[AG,Br,AG]at hc;refine⟨o,e,ho,by simpa using he,hc.1, ?_⟩;obtain h|h:=hc.2
  .exact .inl (by simpa using h)
  .refine .inr ⟨by simpa[PZ] using h.1,λh'=> ?_⟩;rw[h']at h;simp at h
def axH{P:Program}(hP:C.P=P)(hm:P.follows .mixedOrders=U)(hC:∀B:Bg,B.P=P->Hn C B)(hI:∀B:Bg,B.P=P->JZ C B inl){f:FuncId}{fn:Func}
  (hf:P.funcs[f]? =I fn)(Ks:(fn.name == "runtime.NumGoroutine")=A3){i0 i1:Nat}{o0 ops:Array Oper}{rest:Code}
  (hb:fn.body=I (.seq (.region i0 o0 A3)<|.seq (.region i1 ops U) rest)){m:Dd}(hok:okM m fn.ntmps=U){l g:Nat}(hx:dC ops l g=U)
  (h1:∀x,Py C inl fn (BB l) l (aft l ops.size) m x=m.g x)(h2:∀x,Py C inl fn (BB l++[g]) l (Kq l ops.size g) m x=m.g x):H5 P f m:=by
 refine avK hP hf Ks hb hok λx r hr B hB β a w Q hst hfr hk=> ?_;have e1:=h1 x;have e2:=h2 x;rw[hr]at e1 e2;unfold Py at e1 e2;rw[hb]at e1 e2;simp only at e1 e2;obtain⟨s1,a1,a2⟩:=Am.1 e1;obtain⟨s1',b1,b2⟩:=Am.1 e2;rw[a1]at b1;cases b1;have hPB:C.P=B.P:=by rw[hP,hB]
 have hmB:B.P.follows .mixedOrders=U:=by rw[hB];exact hm
 have hCB:=hC B hB;have hIB:=hI B hB;refine wp_seq ?_;refine aEC hPB hCB hIB a1 hfr hst ?_;intro β' a' w' s' k1 k2 k3 k4 k5;cases k5;refine wp_seq ?_;refine auV hPB hmB hCB hIB (ay6 hx) a2 b2 k2 k1 ?_;intro β2 a2' w2 s2 j1 j2 j3 j4 j5;exact ZQ hPB hmB hCB hIB rest .nil _ s2 r j5 j1 j2 (GS _ _) (by rw[j3,j4,k3,k4];exact hk)
def soX{P:Program}{C:Cx}{inl:(Ω:Type)->Inl Ω}{f:Nat}{d:Option Nat}{fn:Func}{m:Dd}(hC:OKC P C inl){i0 i1:Nat}{o0 ops:Array Oper}{rest:Code}
  (hf:fnB P f fn m=(I fn,A3,U,U))(hb:fn.body=I (.seq (.region i0 o0 A3)<|.seq (.region i1 ops U) rest)){l g:Nat}(hx:dC ops l g=U)
  (h1:∀x,Py C inl fn (BB l) l (aft l ops.size) m x=m.g x)(h2:∀x,Py C inl fn (BB l++[g]) l (Kq l ops.size g) m x=m.g x):SQ P (f,d,m):=by
 simp only[fnB,CX]at hf;exact⟨axH hC.p hC.m hC.c hC.i hf.1 hf.2.1 hb hf.2.2.1 hx h1 h2,hf.2.2.2⟩
end
end Go.VS
namespace Go.VS
open Go
section
variable {P:Program} {w:World} {H:Type} {Ez:TypeId×Value->H} {base:Nat} {spare:Nat->Bool} {held:Bool}
def Qj{h:Sh}{c:CT}{t e:TypeId}{v:Value}{d:DataW H}{ps:List MemPlace}{r:Reach}{b0:Nat}(hs:sA h=I c)(hok:VB P 60 t c=U)(ht:P.underlying t=I (.slice e))(Er:Ia P w r b0 t v)
  (hd:DataW.Trod Ez P w base spare held t v d ps):∃x:LT h,Lj h x/\ ∀(M:Nat->Prop) (e:Nat->Value),(∀b,¬M b)->Rel P w M e h x v []:=by
 obtain⟨a,len,cap,rfl⟩:=Go.WideShapes.okWide_slice ht Er;obtain⟨Bm,hf⟩:=hd;exact atN hs<|aGM 60 t c hok ⟨Bm,d,ps,hf⟩
end
def TS{H:Type}{enc:TypeId×Value->H}{a:Assume}{C:Checked}{os:Os}{f:FuncId}{fn:Func}{s:ChangeSpec}{conds:List PathCond}{apart fresh handsOn again:Bool}{X:World->Array Value->Prop}
  (hX:∀(w w':World) (args:Array Value),w.heap=w'.heap->X w args->X w' args)
  (own:ownKnob C.prog.godebug=A0)(started:os.Started)(akp:C.prog.inits.idxOf? f=A0)(hfn:C.prog.funcs[f]? =I fn)
  (witness:∃(w:World) (tape:Tape) (i:Input),w.os=os/\(w.forCall tape i).Shaped C.prog/\i.vars=[]/\Input.okWide C.prog (w.forCall tape i) .any w.heap.size f i/\
   ((s.pre enc C.prog fn conds apart (w.forCall tape i).memory i.args/\X (w.forCall tape i).memory i.args)/\sizedMet enc C.prog fn (IW s) apart (w.forCall tape i).memory i.args)/\a.holds C.prog (lone (Frame.enter C.prog f i.args .normal) [] (w.forCall tape i)))
  (azo:∀(W:World) (args:Array Value) (b0:Nat) (ds gs:List (DataW H)) (before:List MemPlace),W.ShapedOpen C.prog->(∀(j:Nat) t v,fn.params[j]? =I t->args[j]? =I v->Ia C.prog W .any b0 t v)->
   DataW.Whole enc C.prog fn.params.toList s.vars apart W args.toList ds gs before->X W args->
   Calls C.prog f args W λe W'=>∃v,e= .returned v/\s.post enc C.prog fn apart fresh handsOn again W args v W'):
  ReturnsInHanded a C os f .any (λw args=>(s.pre enc C.prog fn conds apart w args/\X w args)/\sizedMet enc C.prog fn (IW s) apart w args) (s.post enc C.prog fn apart fresh handsOn again):=by
 refine returnsInHanded_of_calls own started akp witness ?_;intro w tape i _ hsh _ hok am2 _;obtain⟨_,_,_,fn',amI,_,_,_,_,Er⟩:=hok;have e:fn'=fn:=Cn<|amI.symm.trans hfn;subst e;obtain⟨⟨⟨ds,gs,before,hw,_⟩,hx⟩,_⟩:=am2;refine(azo (w.forCall tape i) i.args _ ds gs before hsh Er (DataW.Whole.of_heap (w':=w.forCall tape i) (by rfl) hw)<|hX _ _ _ (by rfl) hx).mono λe W' ⟨v,he,hp⟩=> ?_;subst he;exact ChangeSpec.post_blind hp
end Go.VS
end
