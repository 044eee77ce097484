/- Part 13. -/
import Derived.HandedShaped
import Derived.LaidSub
import Derived.MakeChecks
import Derived.Carry
import Derived.Test.YtplahhbealfpcaaGreatDoorQAL
open Array renaming getElem?_eq_some_iff->Gw,replicate->QU
open Bool renaming and_eq_true->AE,false->A3,false_or->Bi,not_eq_true'->CL,not_eq_true->GD,not_true->AB,or_eq_true->CB,true->A0
open Decidable renaming decide->A1
open Go.Code renaming region->Qd
open Go.Lib renaming TabIs->M8,pow10Tab->NN
open Go.MakeChecks renaming laidMetH_plain->Gb
open Go.OpenSpec renaming ofChange->GC
open Go.Region renaming binds->FT,ready->P6
open Go.Value renaming okWide->GF
open List renaming all_eq_true->C0,any_eq_true->Gz,append_nil->CM,eq_nil_of_length_eq_zero->E6,getElem?_append_left->I9,getElem?_append_right->FG,getElem?_eq_getElem->Av,getElem?_eq_none->HV,getElem?_eq_none_iff->YY,getElem?_eq_some_iff->BL,getElem_mem->CJ,mem_append->BM,mem_append_left->Bq,mem_append_right->CK,mem_cons->Bj,mem_cons_of_mem->Am,mem_cons_self->Ap,mem_filter->FF,mem_filterMap->G9,mem_iff_getElem?->l4,mem_of_getElem?->Cb,mem_range->DD,mem_singleton->C9,nodup_append->Kw,nodup_cons->Ks,nodup_range->lE,pairwise_append->NH,pairwise_cons->P2,pairwise_iff_getElem->Ou,pairwise_lt_range->Qa,range->BJ,reverse_reverse->lT
open Nat renaming beq->Ag,beq_eq->H4,blt->IA,blt_eq->P8,le_of_ble_eq_true->DX,le_refl->As,lt_trichotomy->Jv,ne_of_lt->P4,zero_add->DF,zero_le->Cu
open Ne renaming symm->Ky
open Option renaming bind_eq_some_iff->Aj,map_eq_some_iff->D4,none->U,some->I
open Option.some renaming inj->C8
open Prod.mk renaming injEq->CG
set_option linter.all false
noncomputable section
namespace Go.VS
open Go
section
variable {P:Program} {W:World}
def n7(P:Program)(name:String)(k:IntKind):Bool:=
 match P.globalNamed name with
 | some g=>match (P.globals[g]?).map (·.type) with
  | some t=>match P.underlying t with
   | some (.array n e)=>(match P.underlying e with|some (.int k')=>A1 (k'=k)|_=>A3)&&A1 (P.cellsOf e=1)&&A1 (P.cellsOf t=n)
   | _=>A3
  | _=>A3
 | _=>A3
def apT{name:String}{k:IntKind}{zs:List Int}(h:n7 P name k=A0)(hl:laidMet P [(name,Lib.tabData k zs)] W):M8 P W name k zs:=by
 unfold n7 at h;split at h
 case h_2=>cases h
 rename_i g hg;split at h
 case h_2=>cases h
 rename_i t ht;split at h
 case h_2=>cases h
 rename_i n e hu;simp only[AE,decide_eq_true_eq]at h;obtain⟨⟨h1,h2⟩,h3⟩:=h;split at h1
 case h_2=>cases h1
 rename_i k' hk;have h1:=BX h1;subst h1;exact Lib.tabIs_of_head hg ht hu hk h2 h3 hl
def Tt:String:= "internal/strconv.uint64pow10"
def OI{laid:List (String×DataW A2)}(hsh:W.ShapedOpen P)(ayd:IA P.globals.size (begin P (λ_ _=>0) default).world.heap.size=A0)(abi:laidMetH P laid W)
  (axw:(laid.all λx=>x.2.handleName?.isNone)=A0)
  (Zu:P.globalNamed Tt≠U->(laid.filter λx=>x.1 == Tt)=[(Tt,Lib.tabData .u64 NN)]/\n7 P Tt .u64=A0):Na P W (λ_=>False):=by
 have hlt:P.globals.size<W.heap.size:=by
  obtain⟨o,o0,h1,_⟩:=hsh.2 P.globals.size (As _) (by simpa[P8] using ayd);exact(Gw.1 h1).1
 refine⟨W,⟨hsh,λhn=> ?_⟩,λb hb=>⟨id,J,rfl⟩⟩;obtain⟨h1,h2⟩:=Zu hn;rw[Gb _ _ _ axw]at abi;have h3:=laidMet.filter (λx=>x.1 == Tt) abi;rw[h1]at h3;exact apT h2 h3
end
end Go.VS
namespace Go.VS
open Go
def axe:Oper:={ dst:=U,op:= .move<|.const<|.bool A3,type:=0,pos:= "",after:= #[],guard:=U }
def mw(zs:List Nat)(e:Edge):Option Edge:=(zs.idxOf? e.on).map λj=>{ e with on:=j }
def Qw(zs:List Nat)(o:Oper):Oper:={ o with after:=(o.after.toList.filterMap<|mw zs).toArray }
def F7(ops:Array Oper)(zs:List Nat):Array Oper:=(zs.map λi=>Qw zs<|(ops[i]?).getD axe).toArray
def art{ops:Array Oper}{zs:List Nat}{j i:Nat}{o:Oper}(hz:zs[j]? =I i)(ho:ops[i]? =I o):(F7 ops zs)[j]? =I (Qw zs o):=by
 simp[F7,hz,ho]
def ik(ops:Array Oper)(zs:List Nat):(F7 ops zs).size=zs.length:=by simp[F7]
def at6{zs:List Nat}{o:Oper}{e:Edge}(h:e∈(Qw zs o).after):∃e0∈o.after,FT .any e0=FT .any e/\zs[e.on]? =I e0.on:=by
 have h:e∈o.after.toList.filterMap (mw zs):=by simpa[Qw] using h
 obtain⟨e0,h0,h1⟩:=G9.1 h;unfold mw at h1;obtain⟨j,h2,h3⟩:=D4.1 h1;refine⟨e0,by simpa using h0,by rw[← h3];rfl, ?_⟩;rw[← h3];obtain⟨hlt,h4,_⟩:=List.idxOf?_eq_some_iff.1 h2;show zs[j]? =I e0.on;rw[Av hlt];simpa using h4
section
variable {P:Program} {ops:Array Oper} {Q:Exit->Act->World->Prop}
def arl(Good:(Nat->Prop)->Act->World->Prop)(azc:∀(i:Nat) (o:Oper) (e:Edge),ops[i]? =I o->e∈o.after->FT .any e=A0->e.on<i)
  (oK:∀(D:Nat->Prop) a w,(∀i,¬D i)->Good D a w->Q .normal a w)
  (nV:∀(D:Nat->Prop) (i:Nat) (a:Act) (w:World) (o:Oper),Good D a w->(∀j,D j->j<ops.size)->(∀j oj,ops[j]? =I oj->¬D j->∀e∈oj.after,FT .any e=A0->¬D e.on)->D i->ops[i]? =I o->
   (∀e∈o.after,FT .any e=A0->¬D e.on)->wpOp P ops Q i (λa w=>Good (λk=>D k/\k≠i) a w) a w):
  ∀(n:Nat) (BZ:List Nat) (listed:Array Bool) (a:Act) (w:World),BZ.length=n->BZ.Nodup->(∀j,j∈BZ↔j<ops.size/\listed.getD j A0=A3)->listed.size=ops.size->
   (∀j oj,ops[j]? =I oj->j ∉ BZ->∀e∈oj.after,FT .any e=A0->e.on ∉ BZ)->Good (λk=>k∈BZ) a w->wpAny P .any ops Q n listed a w:=by
 intro n
 induction n with
 | zero=>
  intro BZ listed a w hl hnd hU hs hcl hg;have:BZ=[]:=E6 hl;subst this;refine⟨?_,oK _ a w (λi h=>by cases h) hg⟩;cases hrd:P6 .any ops listed with
  | nil=>rfl
  | cons j l=>
   have hj:j∈P6 .any ops listed:=by rw[hrd];exact Ap
   obtain⟨h1,o,ho,_⟩:=mem_ready.1 hj;have:=(hU j).2 ⟨(Gw.1 ho).1,h1⟩;cases this
 | succ n ih=>
  intro BZ listed a w hl hnd hU hs hcl hg;have done:∀x,x<ops.size->x ∉ BZ->listed.getD x A3=A0:=λx hx hn=>by
   refine sG J ?_;cases hb':listed.getD x A0 with
   | true=>rfl
   | false=>exact absurd ((hU x).2 ⟨hx,hb'⟩) hn
  refine⟨λoF=> ?_,λi hi=> ?_⟩
  .exfalso;obtain⟨i0,h0,oG⟩:=jM (λk=>k∈BZ) (by
    cases BZ with
    | nil=>simp at hl
    | cons x l=>exact⟨x,Ap⟩)
   obtain⟨hlt,hun⟩:=(hU i0).1 h0;obtain⟨o,ho⟩:∃o,ops[i0]? =I o:=⟨ops[i0],by simp[hlt]⟩;have hr0:i0∈P6 .any ops listed:=mem_ready.2 ⟨hun,o,ho,λe he hb=>by
    have Zy:=azc i0 o e ho he hb;exact done e.on J λhm=>by have:=oG _ hm;omega⟩
   rw[oF]at hr0;cases hr0
  .obtain⟨hun,oi,hoi,DT⟩:=mem_ready.1 hi;have hlt:i<ops.size:=(Gw.1 hoi).1;have hiU:i∈BZ:=(hU i).2 ⟨hlt,hun⟩;have K4:∀e∈oi.after,FT .any e=A0->e.on ∉ BZ:=λe he hb hm=>by
    have h2:=((hU e.on).1 hm).2;have hsz:=((hU e.on).1 hm).1;have hel:=DT e he hb;have:listed.getD e.on A0=A0:=by simp[show e.on<listed.size by omega]at hel ⊢; exact hel
    rw[this]at h2;cases h2
   have FM:∀k,k∈BZ.erase i↔k∈BZ/\k≠i:=λk=>by
    rw[hnd.mem_erase_iff];exact and_comm
   refine wpOp_mono ?_ (nV (λk=>k∈BZ) i a w oi hg (λj hj=>((hU j).1 hj).1) hcl hiU hoi K4);intro a' w' hg';refine ih (BZ.erase i) _ a' w' (by rw[List.length_erase_of_mem hiU,hl];rfl) (hnd.erase i) (λj=> ?_) (by simpa using hs) ?_ ?_
   .rw[FM,hU];by_cases e:j=i
    .subst e;simp
    .rw[getD_set_ne A0<|Ky e];simp[e]
   .intro j oj hoj hj e he hb hm;have hmU:=((FM _).1 hm).1;by_cases e':j=i
    .subst e';rw[hoi]at hoj;cases hoj;exact K4 e he hb hmU
    .exact hcl j oj hoj (λh=>hj<|(FM j).2 ⟨h,e'⟩) e he hb hmU
   .have:(λk=>k∈BZ.erase i)=λk=>k∈BZ/\k≠i:=funext λk=>propext<|FM k;rw[this];exact hg'
end
section
variable {C:Cx} {B:Ba} {ops S0:Array Oper} {L:Lb} {stk:List (Array Value)} {Ω:Type} {q:Ω} {s s':S}
structure PaR (C:Cx) (S0:Array Oper) (L:Lb) (BZ:List Nat) (s s':S):Prop where
 run:Run C S0 L BZ s s'
 azq:BZ.Pairwise (· < ·)
 lt:∀j∈BZ,j<S0.size
 cl:∀i x,i<S0.size->i ∉ BZ->L.R x i->x ∉ BZ
 fit:∀j∈BZ,Fit S0 L BZ s j
def PaR.pick(hn:PS S0 L){BZ:List Nat}(h:PaR C S0 L BZ s s'){i:Nat}(hiU:i∈BZ){oi:Oper}(hoi:S0[i]? =I oi)(K4:∀e∈oi.after,FT .any e=A0->e.on ∉ BZ):
  ∃s1 U',ev1 C S0 oi (L.b i) s=I s1/\(∀id,L.b i<=id->id<L.b i+16->s.H id=U)/\PaR C S0 L U' s1 s'/\ ∀k,k∈U'↔k∈BZ/\k≠i:=by
 obtain⟨hr,hp,hlt,hd,hf⟩:=h;obtain⟨l1,l2,rfl⟩:=List.append_of_mem hiU;have hRn:∀j∈l1++i::l2,¬L.R j i:=by
  intro j hj hR;obtain⟨e,he,hb,U8⟩:=hn.anc j i oi hoi hR;have heU:=K4 e he hb;obtain h|h:=U8
  .exact heU (h▸hj)
  .have Zy:=hn.dir i oi e hoi he hb;exact hd e.on j (by have:=hlt i hiU;omega) heU h hj
 have CW:=Run.first hn l1 s hr hp hRn hf
 cases CW with
 | cons UH UD t=>
  rename_i o' s1;rw[hoi]at UH;cases UH;have hnd:(l1++i::l2).Nodup:=hp.imp λh=>P4 h;have FM:∀j,j∈l1++l2↔j∈l1++i::l2/\j≠i:=by
   intro j;have JR:=Kw.1 hnd;constructor
   .intro hj;refine⟨?_, ?_⟩
    .rcases BM.1 hj with h|h
     .exact Bq _ h
     .exact CK _ (Am _ h)
    .rintro rfl;rcases BM.1 hj with h|h
     .exact JR.2.2 j h j Ap rfl
     .exact(Ks.1 JR.2.1).1 h
   .rintro⟨hj,hne⟩;rcases BM.1 hj with h|h
    .exact Bq _ h
    .rcases Bj.1 h with h|h
     .exact absurd h hne
     .exact CK _ h
  refine⟨s1,l1++l2,UD.ev,λid h1 h2=>(hf i hiU oi hoi).2.2 id h1 h2,⟨t, ?_,λj hj=>hlt j ((FM j).1 hj).1, ?_, ?_⟩,FM⟩
  .have p2:=NH.1 hp;exact NH.2 ⟨p2.1,(P2.1 p2.2.1).2,λx hx y hy=>p2.2.2 x hx y<|Am _ hy⟩
  .intro k x hk hkU hR hx;have hxU:=((FM x).1 hx).1;by_cases e:k=i
   .subst e;exact hRn x hxU hR
   .exact hd k x hk (λh=>hkU<|(FM k).2 ⟨h,e⟩) hR hxU
  .intro j hj;obtain⟨hjU,hne⟩:=(FM j).1 hj;refine(hf j hjU).step hn hoi (Ky hne) (hRn j hjU) UD λk hk=> ?_;by_cases e:k=i
   .exact .inl e
   .exact .inr<|(FM k).2 ⟨hk,e⟩
structure JP (C:Cx) (ops:Array Oper) (zs:List Nat) (L:Lb) (D:Nat->Prop) (s s':S):Prop where
 nice:PS (F7 ops zs) L
 ex:∃BZ,PaR C (F7 ops zs) L BZ s s'/\ ∀j x,zs[j]? =I x->(j∈BZ↔D x)
def avC{zs:List Nat}{o:Oper}(hg:o.guard=U)(b:Nat)(s:S):ev1 C (F7 ops zs) (Qw zs o) b s=CE C (AF S) o b s I:=by
 unfold ev1 evG;have:(Qw zs o).guard=U:=hg;rw[this];rfl
def auz{o:Oper}(hg:o.guard=U)(b:Nat)(s:S):ev1 C ops o b s=CE C (AF S) o b s I:=by
 unfold ev1 evG;rw[hg]
def JP.pick{zs:List Nat}{D:Nat->Prop}(h:JP C ops zs L D s s')(hz:zs.Nodup){j i:Nat}(hj:zs[j]? =I i)(hD:D i){o:Oper}(ho:ops[i]? =I o)(hg:o.guard=U)
  (K4:∀e∈o.after,FT .any e=A0->¬D e.on):
  ∃s1,CE C (AF S) o (L.b j) s I=I s1/\(∀id,L.b j<=id->id<L.b j+16->s.H id=U)/\JP C ops zs L (λk=>D k/\k≠i) s1 s':=by
 obtain⟨hn,BZ,hp,hU⟩:=h;obtain⟨s1,U',h1,h2,h3,h4⟩:=hp.pick hn ((hU j i hj).2 hD) (art hj ho) λe he hb hm=>by
  obtain⟨e0,he0,hb0,hz0⟩:=at6 he;exact K4 e0 he0 (by rw[hb0];exact hb)<|(hU _ _ hz0).1 hm
 refine⟨s1,by rw[← avC hg];exact h1,h2,hn,U',h3,λk x hk=> ?_⟩;rw[h4,hU k x hk];refine and_congr_right λ_=>not_congr ⟨λe=> ?_,λe=> ?_⟩
 .subst e;rw[hk]at hj;cases hj;rfl
 .subst e;have hk1:=(BL.1 hk);have hj1:=(BL.1 hj);obtain⟨a1,a2⟩:=hk1;obtain⟨b1,b2⟩:=hj1;have hpw:=Ou.1 hz;rcases Jv k j with h|h|h
  .exact absurd (a2.trans b2.symm) (hpw k j a1 b1 h)
  .exact h
  .exact absurd (b2.trans a2.symm)<|hpw j k b1 a1 h
def JP.done{zs:List Nat}{D:Nat->Prop}(h:JP C ops zs L D s s')(hD:∀x∈zs,¬D x):s=s':=by
 obtain⟨hn,BZ,hp,hU⟩:=h;have:BZ=[]:=by
  cases BZ with
  | nil=>rfl
  | cons j l=>
   exfalso;have hlt:=hp.lt j Ap;rw[ik]at hlt;have hz:zs[j]? =I zs[j]:=Av hlt;exact hD _ (CJ hlt)<|(hU j _ hz).1 Ap
 subst this;have:=hp.run;cases this;rfl
def km{zs:List Nat}{k:S->Option Ω}(he:evD C (F7 ops zs) s (F7 ops zs).toList 0 s.nid [] s k=I q)(hfr:Fr s)(D:Nat->Prop)(hD:∀x∈zs,D x):
  ∃L s',JP C ops zs L D s s'/\(∀j,L.b j=s.nid+16 * j)/\Fr { s' with nid:=s.nid+16 * zs.length } /\s'.n=s.n/\s'.pins=s.pins/\k { s' with nid:=s.nid+16 * zs.length } =I q:=by
 obtain⟨rs,s',h1,h2,h3,h4⟩:=kE (b0:=s.nid) (F7 ops zs).toList 0 s.nid [] s he trivial rfl rfl (by simp);simp only[CM,DF]at h2 h4;have hn:rs.reverse.length=(F7 ops zs).size:=by simpa using h3
 have hpl:=h2.places;rw[lT,hn]at hpl;have LG:∀j,Fit (F7 ops zs) (Bv rs.reverse s.nid) (BJ (F7 ops zs).size) s j:=λj=>h2.fit hn hfr;have CW:=ic h2 hn rs s s' h1 (λr hr=>by simpa using hr) (by rw[hpl];exact Qa) (λr hr=>by rw[hpl];exact LG _);rw[hpl]at CW;have hlen:(F7 ops zs).toList.length=zs.length:=by simp[F7]
 have PM:BC (λj=>j<s.nid+16 * zs.length) s s':=jD rs s s' _ h1 λr hr=>by
  have hr':r∈rs.reverse:=by simpa using hr
  have e1:=(h2.MM hr').1;have e2:=h2.lt r hr';rw[hn,ik]at e2;omega
 rw[hlen]at h4;refine⟨Bv rs.reverse s.nid,s',⟨h2.nice hn,BJ (F7 ops zs).size,⟨CW,Qa,λj hj=>DD.1 hj,λi x hi hiU _=>absurd (DD.2 hi) hiU,λj _=>LG j⟩,λj x hj=> ?_⟩,
  λj=>rfl,λj hj=> ?_,PM.n,PM.pins,h4⟩
 .rw[DD,ik];exact⟨λ_=>hD x<|Cb hj,λ_=>(BL.1 hj).1⟩
 .have hj:s.nid+16 * zs.length<=j:=hj;exact PM.nn j J<|hfr j J
end
end Go.VS
namespace Go.VS
open Go
def evX{Ω:Type}(C:Cx)(inl:Inl Ω)(ops:Array Oper)(ys:List Nat)(m:Nat)(zs:List Nat)(s:S)(k:S->Option Ω):Option Ω:=
 evD C (F7 ops ys) s (F7 ops ys).toList 0 s.nid [] s λs1=>match ops[m]? with
  | some om=>evG C inl ops om s1.nid s1 λs2=>evD C (F7 ops zs) { s2 with nid:=s2.nid+16 } (F7 ops zs).toList 0 (s2.nid+16) [] { s2 with nid:=s2.nid+16 } k
  | none=>U
structure XOk (ops:Array Oper) (m f:Nat):Prop where
 mf:m<f
 sz:f<ops.size
 guard:∀(i:Nat) (o:Oper),ops[i]? =I o->o.guard=U
 dir:∀(i:Nat) (o:Oper) (e:Edge),ops[i]? =I o->e∈o.after->FT .any e=A0->e.on<i
 cov:∀i,i<m->∃j o e,i<j/\j<=m/\ops[j]? =I o/\e∈o.after/\FT .any e=A0/\e.on=i
 late:∀i,m<i->i<ops.size->i≠f->∃o e,ops[i]? =I o/\e∈o.after/\FT .any e=A0/\(e.on=m\/(m<e.on/\e.on≠f))
abbrev aft(m n:Nat):List Nat:=List.range' (m+1)<|n - (m+1)
abbrev Jz(m n f:Nat):List Nat:=(aft m n).filter λx=> !(Ag x f)
section
variable {C:Cx} {B:Ba} {ops:Array Oper} {stk:List (Array Value)} {Ω:Type} {q:Ω} {inl:(Ω:Type)->Inl Ω}
def lv{m n x:Nat}:x∈aft m n↔m<x/\x<n:=by
 rw[List.mem_range'_1];omega
def OR{m n f x:Nat}:x∈Jz m n f↔(m<x/\x<n)/\x≠f:=by
 rw[FF,lv];refine and_congr_right λ_=> ?_;rw[CL,← GD,H4]
def aEJ{m j:Nat}(h:j<m):(BJ m)[j]? =I j:=by simp[h]
def aC4{m f j:Nat}(h:j<m):(BJ m++[f])[j]? =I j:=by
 rw[I9<|by simpa using h];exact aEJ h
def atQ{m f:Nat}:(BJ m++[f])[m]? =I f:=by
 rw[FG<|by simp];simp
def K2(C:Cx)(ops:Array Oper)(zs:List Nat)(k:S->Option Ω)(s2:S):Option Ω:=
 evD C (F7 ops zs) { s2 with nid:=s2.nid+16 } (F7 ops zs).toList 0 (s2.nid+16) [] { s2 with nid:=s2.nid+16 } k
inductive Way (C:Cx) (ops:Array Oper) (m f:Nat) (inl:Inl Ω) (k:S->Option Ω) (q:Ω) (s0:S) (D:Nat->Prop) (s:S):Prop
 | one (hm:D m) (hf:D f) (hz:∀x∈Jz m ops.size f,D x) (L1 L2:Lb) (s1 s2:S) (b1:∀j,L1.b j=s0.nid+16 * j) (b2:∀j,L2.b j=s0.nid+16 * j)
   (p1:JP C ops (BJ m) L1 D s s1) (p2:JP C ops (BJ m++[f]) L2 D s s2)
   (f1:Fr { s1 with nid:=s0.nid+16 * m }) (f2:Fr { s2 with nid:=s0.nid+16 * (m+1) })
   (n1:s1.n=s0.n/\s1.pins=s0.pins) (n2:s2.n=s0.n/\s2.pins=s0.pins)
   (k1:∀om,ops[m]? =I om->evG C inl ops om (s0.nid+16 * m) { s1 with nid:=s0.nid+16 * m } (K2 C ops (aft m ops.size) k)=I q)
   (k2:∀om,ops[m]? =I om->evG C inl ops om (s0.nid+16 * (m+1)) { s2 with nid:=s0.nid+16 * (m+1) } (K2 C ops (Jz m ops.size f) k)=I q):Way C ops m f inl k q s0 D s
 | two (hm:D m) (hf:¬D f) (hz:∀x∈Jz m ops.size f,D x) (L2:Lb) (s2:S)
   (p2:JP C ops (BJ m++[f]) L2 D s s2)
   (f2:Fr { s2 with nid:=s0.nid+16 * (m+1) })
   (n2:s2.n=s0.n/\s2.pins=s0.pins)
   (k2:∀om,ops[m]? =I om->evG C inl ops om (s0.nid+16 * (m+1)) { s2 with nid:=s0.nid+16 * (m+1) } (K2 C ops (Jz m ops.size f) k)=I q):Way C ops m f inl k q s0 D s
 | fin (hm:¬D m) (ha:∀x,x<m->¬D x) (zs:List Nat) (hn:zs.Nodup) (hD:∀x,D x->x∈zs) (L:Lb) (s':S) (p:JP C ops zs L D s s')
   (N:Nat) (f2:Fr { s' with nid:=N }) (n2:s'.n=s0.n/\s'.pins=s0.pins) (k2:k { s' with nid:=N } =I q):Way C ops m f inl k q s0 D s
def St.ng{β:Beta}{s:S}{a:Act}{w:World}(h:St B β stk s a w)(N:Nat):St B β stk { s with nid:=N } a w:=⟨h.T,h.stack,h.n,h.defers,h.pins,h.gs,h.hs⟩
def asP(hP:C.P=B.P)(hm:B.P.follows .mixedOrders=A0)(hC:HE C B)(hI:J8 C B inl){m f:Nat}(hX:XOk ops m f){k:S->Option Ω}{s0:S}
  (he1:evX C (inl Ω) ops (BJ m) m (aft m ops.size) s0 k=I q)(he2:evX C (inl Ω) ops (BJ m++[f]) m (Jz m ops.size f) s0 k=I q)(hfr:Fr s0)
  {β:Beta}{a:Act}{w:World}(hst:St B β stk s0 a w){id:Nat}{Q:Exit->Act->World->Prop}
  (hQ:∀β a w s',St B β stk s' a w->Fr s'->s'.n=s0.n->s'.pins=s0.pins->k s'=I q->Q .normal a w):(Qd id ops A0).wp B.P Q a w:=by
 have hmf:=hX.mf;have hsz:=hX.sz;have MK:St B β stk s0 a { w with drawn:=w.drawn+1 } :=by
  have hk:Kp w β { w with drawn:=w.drawn+1 } β:=Kp.heap rfl;exact hst.keep hk (H':=s0.H)<|hst.hs.drew
 refine wp_region_any hm ?_;refine arl (λD a w=>∃β s,St B β stk s a w/\Way C ops m f (inl Ω) k q s0 D s) hX.dir ?_ ?_ ops.size (BJ ops.size) _ a _ (by simp) lE (λj=> ?_) (by simp) (λj oj hoj hj=>absurd (DD.2 (Gw.1 hoj).1) hj) ?_
 ·
  rintro D a w hD ⟨β,s,hs,hW⟩;cases hW with
  | one hm'=>exact absurd hm'<|hD _
  | two hm'=>exact absurd hm'<|hD _
  | fin _ _ zs hn _ L s' p N f2 n2 k2=>
   have:=p.done λx _=>hD x;subst this;exact hQ β a w _ (hs.ng N) f2 n2.1 n2.2 k2
 ·
  rintro D i a w o ⟨β,s,hs,hW⟩ hlt hcl hDi ho K4;have hg:=hX.guard i o ho;have Cr:∀ {zs:List Nat} {L:Lb} {s':S} {j:Nat},JP C ops zs L D s s'->zs.Nodup->zs[j]? =I i->(∀s1,CE C (AF S) o (L.b j) s I=I s1->JP C ops zs L (λk=>D k/\k≠i) s1 s'->Way C ops m f (inl Ω) k q s0 (λk=>D k/\k≠i) s1)->
    wpOp B.P ops Q i (λa w=>∃β s,St B β stk s a w/\Way C ops m f (inl Ω) k q s0 (λk=>D k/\k≠i) s) a w:=by
   intro zs L s' j hp hz hj MI;obtain⟨s1,h1,h2,h3⟩:=hp.pick hz hj hDi ho hg K4;refine ko hP hC ho hs (b:=L.b j) h2 (show ev1 C ops o (L.b j) s=I s1 by rw[auz hg];exact h1) ?_;intro β' u w' MK;exact⟨β',s1,MK,MI s1 h1 h3⟩
  have ndA:(BJ m++[f]).Nodup:=by
   rw[Kw];refine⟨lE,by simp,λx hx y hy e=> ?_⟩;have:=DD.1 hx;have:=C9.1 hy;omega
  have abV:D m->(∀x∈Jz m ops.size f,D x)->¬(m<i/\i≠f):=by
   rintro hm' hz ⟨h1,h2⟩;obtain⟨o',e,ho',he,hb,U8⟩:=hX.late i h1 (hlt i hDi) h2;rw[ho]at ho';cases ho';refine K4 e he hb ?_;obtain h|⟨h3,h4⟩:=U8
   .rw[h];exact hm'
   .exact hz _<|OR.2 ⟨⟨h3,by have:=hX.dir i o e ho he hb;have:=hlt i hDi;omega⟩,h4⟩
  have U5:i=m->∀x,x<m->¬D x:=by
   intro e x hx;have:∀n x,m - x=n->x<m->¬D x:=by
    intro n
    induction n using Nat.strongRecOn with
    | ind n ih=>
     intro x hn hx;obtain⟨j,oj,e',h1,h2,h3,h4,h5,h6⟩:=hX.cov x hx;rcases Nat.lt_or_eq_of_le h2 with h7|h7
     .have:=hcl j oj h3 (ih (m - j) J j rfl h7) e' h4 h5;rw[h6]at this;exact this
     .subst h7;rw[← e,ho]at h3;cases h3;have:=K4 e' h4 h5;rw[h6]at this;exact this
   exact this _ x rfl hx
  have abr:∀ {b:Nat} {s1:S} {zs:List Nat},i=m->s=s1->Fr { s1 with nid:=b } ->(s1.n=s0.n/\s1.pins=s0.pins)->(∀x∈zs,D x/\x≠i)->zs.Nodup->(∀x,D x/\x≠i->x∈zs)->
    (∀om,ops[m]? =I om->evG C (inl Ω) ops om b { s1 with nid:=b } (K2 C ops zs k)=I q)->
    wpOp B.P ops Q i (λa w=>∃β s,St B β stk s a w/\Way C ops m f (inl Ω) k q s0 (λk=>D k/\k≠i) s) a w:=by
   intro b s1 zs e1 e2 hf1 hn1 hz hnd hin hk;subst e1;subst e2;refine aDv hP hC hI ho (s:={ s with nid:=b }) (hk o ho) (hs.ng b) hf1 ?_;intro β' u w' s' hs' hf' hn' hp' hk';obtain⟨L,s2,p,_,ayj,hn2,hp2,hk2⟩:=km (s:={ s' with nid:=s'.nid+16 }) hk' (λj hj=>hf' j hj) (λk=>D k/\k≠i) hz;exact⟨β',_,hs'.ng _,.fin (λh=>h.2 rfl) (λx hx h=>U5 rfl x hx h.1) zs hnd hin L s2 p _ ayj ⟨hn2.trans<|hn'.trans hn1.1,hp2.trans<|hp'.trans hn1.2⟩ hk2⟩
  have nd1:(aft m ops.size).Nodup:=List.nodup_range';have nd2:(Jz m ops.size f).Nodup:=nd1.filter _;cases hW with
  | one hm' hf' hz L1 L2 s1 s2 b1 b2 p1 p2 f1 f2 n1 n2 k1 k2=>
   rcases Jv i m with h|h|h
   .refine Cr p1 lE (aEJ h) λt1 e1 q1=> ?_;obtain⟨t2,e2,_,q2⟩:=p2.pick ndA (aC4 h) hDi ho hg K4;rw[b2,← b1,e1]at e2;cases e2;exact .one ⟨hm',J⟩ ⟨hf',J⟩ (λx hx=>⟨hz x hx,by have:=(OR.1 hx).1.1;omega⟩) L1 L2 s1 s2 b1 b2 q1 q2 f1 f2 n1 n2 k1 k2
   .have e:=p1.done λx hx=>U5 h x<|DD.1 hx;refine abr h e f1 n1 (λx hx=> ?_) nd1 (λx hx=> ?_) k1
    .have hx:=lv.1 hx;refine⟨?_,J⟩;by_cases e':x=f
     .rw[e'];exact hf'
     .exact hz x (OR.2 ⟨hx,e'⟩)
    .refine lv.2 ⟨?_,hlt x hx.1⟩;rcases Jv x m with h2|h2|h2
     .exact absurd hx.1 (U5 h x h2)
     .exact absurd (h2.trans h.symm) hx.2
     .exact h2
   .by_cases e:i=f
    .refine Cr p2 ndA (j:=m) (by rw[e];exact atQ) λt1 e1 q1=> ?_;exact .two ⟨hm',J⟩ (λh=>h.2 e.symm) (λx hx=>⟨hz x hx,by have:=(OR.1 hx).2;omega⟩) L2 s2 q1 f2 n2 k2
    .exact absurd ⟨h,e⟩<|abV hm' hz
  | two hm' hf' hz L2 s2 p2 f2 n2 k2=>
   rcases Jv i m with h|h|h
   .refine Cr p2 ndA (aC4 h) λt1 e1 q1=> ?_;exact .two ⟨hm',J⟩ (λh=>hf' h.1) (λx hx=>⟨hz x hx,by have:=(OR.1 hx).1.1;omega⟩) L2 s2 q1 f2 n2 k2
   .have e:=p2.done λx hx=>by
     rcases BM.1 hx with hx|hx
     .exact U5 h x (DD.1 hx)
     .rw[C9.1 hx];exact hf'
    refine abr h e f2 n2 (λx hx=>⟨hz x hx,by have:=(OR.1 hx).1.1;omega⟩) nd2 (λx hx=>OR.2 ⟨⟨?_,hlt x hx.1⟩,λe'=>hf'<|e'▸hx.1⟩) k2;rcases Jv x m with h2|h2|h2
    .exact absurd hx.1 (U5 h x h2)
    .exact absurd (h2.trans h.symm) hx.2
    .exact h2
   .by_cases e:i=f
    .exact absurd (e▸hDi) hf'
    .exact absurd ⟨h,e⟩<|abV hm' hz
  | fin hm' ha zs hn hD L s' p N f2 n2 k2=>
   obtain⟨j,hj⟩:=l4.1<|hD i hDi;refine Cr p hn hj λt1 e1 q1=> ?_;exact .fin (λh=>hm' h.1) (λx hx h=>ha x hx h.1) zs hn (λx hx=>hD x hx.1) L s' q1 N f2 n2 k2
 .rw[DD];constructor
  .intro h;exact⟨h,by simp[h]⟩
  .exact λh=>h.1
 ·
  obtain⟨om,hom⟩:∃o,ops[m]? =I o:=⟨ops[m],by simp[show m<ops.size by omega]⟩;unfold evX at he1 he2;obtain⟨L1,s1,p1,b1,fr1,n1,pn1,k1⟩:=km he1 hfr (λk=>k∈BJ ops.size) (λx hx=>DD.2 (by have:=DD.1 hx;omega));obtain⟨L2,s2,p2,b2,fr2,n2,pn2,k2⟩:=km he2 hfr (λk=>k∈BJ ops.size) (λx hx=>DD.2 (by
   rcases BM.1 hx with h|h
   .have:=DD.1 h;omega
   .rw[C9.1 h];exact hsz))
  have l1:(BJ m).length=m:=by simp
  have l2:(BJ m++[f]).length=m+1:=by simp
  rw[l1]at fr1 k1;rw[l2]at fr2 k2;simp only[hom]at k1 k2;exact⟨β,s0,MK,.one (DD.2 J) (DD.2 hsz) (λx hx=>DD.2 (OR.1 hx).1.2) L1 L2 s1 s2 b1 b2 p1 p2 fr1 fr2 ⟨n1,pn1⟩ ⟨n2,pn2⟩
   (λo h=>by rw[hom]at h;cases h;exact k1) (λo h=>by rw[hom]at h;cases h;exact k2)⟩
end
end Go.VS
namespace Go.VS
open Go
section
variable {C:Cx} {B:Ba} {β:Beta} {H:Hp} {w w':World} {M:Nat->Prop} {stk:List (Array Value)} {s s':S} {a:Act} {P:Program} {e e':Nat->Value} {inl:(Ω:Type)->Inl Ω}
def atK{P:Program}(hP:C.P=P){f:FuncId}{fn:Func}{body:Code}(hf:P.funcs[f]? =I fn)(K3:(fn.name == "runtime.NumGoroutine")=A3)
  (hb:fn.body=I body){m:DU}(hok:okM m fn.ntmps=A0)
  (hw:∀(x:LTs m.ps) (r:LTs m.rs×LTs (B1 m.ps)),m.g x=I r->∀(B:Ba),B.P=P->∀(β:Beta) (a:Act) (w:World) (Q:Exit->Act->World->Prop),St B β [] (R4 fn.ntmps m.ps x) a w->Fr (R4 fn.ntmps m.ps x)->
   KOK B [] fn.ntmps (Dr 0 m.ps) { nrm:=fin C.P fn m,ret:=fin C.P fn m,ext:=λ_ _=>U } r Q->body.wp B.P Q a w):Gs P f m:=by
 refine⟨OM hf K3 hb,λx r hx w Z args os hr hnd hbl hZ hgl=> ?_⟩;have hw:=hw x r hx;have UG:=hok;simp only[okM,AE]at UG;obtain⟨⟨⟨hps,hrs⟩,hn⟩,_⟩:=UG;have hn:=DX hn;have hlen:=hr.length
 let B:Ba:={ P:=P,w0:=w,O:=λb=>b∈Az os,tm0:=ar args,Z:=Z,gl:=hgl }
 have RH:Num (HO Z os) 0 os:=ke Z os;obtain⟨k1,k2,k3⟩:=Xc (β:=HO Z os) (E:=λ_=> .un) (M:=λb=>b∈Az os\/Z b) (P:=P) (w:=w) (e:=ar args) (λb hb=>lp (B:=B) hb) m.ps (λ_=>U) 0 x args os hps hr RH (λt _=>trivial);have hi:R4 fn.ntmps m.ps x=(match Al (λ_=> .un) (λ_=>U) 0 m.ps x with
  | (vs,H,b)=>{ n:=fn.ntmps,T:=λt=>(vs[t]?).getD Dk,H:=H,nid:=b,st:=[],pins:=Dr 0 m.ps,gs:=λ_=>A3 }):=rfl
 rw[hi]at hw;generalize Al (λ_=> .un) (λ_=>U) 0 m.ps x=q at *;obtain⟨vs,H,b⟩:=q;simp only at hw k1 k2 k3;have hH:Hs B (HO Z os) H w:={
  EA:=λid ob ho=>by
   by_cases h:id<os.length
   .obtain⟨ob',h1,h2⟩:=k3.2 id (Cu _) J;rw[h1]at ho;cases ho;exact h2
   .rw[k3.1 id J]at ho;cases ho
  dom:=λid p hp=>by
   have h:id<os.length:=(BL.1<|show os[id]? =I p from hp).1;obtain⟨ob',h1,_⟩:=k3.2 id (Cu _) J;exact⟨ob',h1⟩
  inj:=λi j p q a a' hi hj=>Xa hnd i j p q a a' hi hj
  old:=λb hb=>⟨.inl<|My hb,(hbl b<|My hb).1⟩
  os:=rfl
  tape:=rfl
  output:=rfl
  size:=As _
  block:=λ_ _ _=>rfl
  z:=rfl
  zn:=λid p a hp ha=>(hbl _<|My (Z:=Z) ⟨id,p.1,p.2,a,hp,ha,rfl⟩).2
  zl:=hZ
  pk:=Pk.refl _ _ }
 refine calls_of_wp hf hb ?_;have hst:St B (HO Z os) [] { n:=fn.ntmps,T:=λt=>(vs[t]?).getD Dk,H:=H,nid:=b,st:=[],pins:=Dr 0 m.ps,gs:=λ_=>A3 } { tmps:=args.toArray++QU (fn.ntmps - args.toArray.size) undef,defers:=[] } w:=by
  refine⟨λt=> ?_,⟨rfl,λi T' tm h=>by simp at h⟩, ?_,rfl,λt _=>WO args _ t,λt g want y hy=> ?_,hH⟩
  .rw[WO];show RT w _ _ ((vs[t]?).getD Dk) _;cases hv:vs[t]? with
   | none=>
    have:args.length<=t:=by
     rw[k1.1];exact YY.1 hv
    show RT w _ _ Dk (ar args t);have e0:ar args t=undef:=by simp[ar,HV this]
    rw[e0];rfl
   | some c=>
    have hlt:t<args.length:=by rw[k1.1];exact(BL.1 hv).1
    have hu:args[t]? =I (ar args t):=by simp[ar,hlt]
    exact(k1.2 t c _ hv hu).aG
  .simp;omega
  .have hy:(vs[t]?).getD Dk= .gd g want y:=hy;cases hv:vs[t]? with
   | none=>rw[hv]at hy;cases hy
   | some c=>
    rw[hv]at hy;have hy:c= .gd g want y:=hy;have hlt:t<args.length:=by rw[k1.1];exact(BL.1 hv).1
    have hu:args[t]? =I (ar args t):=by simp[ar,hlt]
    have:=k1.2 t c _ hv hu;rw[hy]at this;exact this.elim
 refine hw B rfl _ _ _ _ hst (λj hj=>k3.1 j<|.inr (by have hj:b<=j:=hj;omega)) ⟨?_, ?_, ?_⟩
 .intro β' a' w' s' h1 h2 h3 h4 h5;obtain⟨v',i1,i2⟩:=YQ (B:=B) h1 rfl rfl hlen h4 hok (show fin P fn m s'=I r by rw[← hP];exact h5);exact⟨h1.defers,v',i1,v',rfl,i2⟩
 .intro β' a' w' s' h1 h2 h3 h4 h5;obtain⟨v',i1,i2⟩:=YQ (B:=B) h1 rfl rfl hlen h4 hok (show fin P fn m s'=I r by rw[← hP];exact h5);exact⟨h1.defers,v',i1,v',rfl,i2⟩
 .intro id β' a' w' s' h1 h2 h3 h4 h5;cases h5
def PE(C:Cx)(inl:(Ω:Type)->Inl Ω)(fn:Func)(ys:List Nat)(l:Nat)(zs:List Nat)(m:DU)(x:LTs m.ps):Option (LTs m.rs×LTs (B1 m.ps)):=
 match fn.body with
 | some (.seq (.region _ o0 A3) (.seq (.region _ ops A0) rest))=>
  (Ot C (inl S) o0 o0.toList (R4 fn.ntmps m.ps x) I).bind λs1=>evX C (inl _) ops ys l zs s1 λs'=>evk C inl rest _ .nil { nrm:=fin C.P fn m,ret:=fin C.P fn m,ext:=λ_ _=>U } s'
 | _=>U
def bnd(e:Edge):Bool:=FT .any e
def Zb(ops:Array Oper)(m f:Nat):Bool:=
 IA m f&&IA f ops.size&&(BJ ops.size).all (λi=>match ops[i]? with
  | some o=>o.guard.isNone&&o.after.toList.all (λe=> !(bnd e)||IA e.on i)&&
   (!(IA m i)||Ag i f||o.after.toList.any (λe=>bnd e&&(Ag e.on m||(IA m e.on&& !(Ag e.on f)))))
  | none=>A0)&&
 (BJ m).all (λi=>(BJ<|m+1).any λj=>IA i j&&match ops[j]? with
  | some o=>o.after.toList.any λe=>bnd e&&Ag e.on i
  | none=>A3)
def awR{ops:Array Oper}{m f:Nat}(h:Zb ops m f=A0):XOk ops m f:=by
 simp only[Zb,AE,C0]at h;obtain⟨⟨⟨h1,h2⟩,h3⟩,h4⟩:=h;have h1:m<f:=by simpa[P8] using h1
 have h2:f<ops.size:=by simpa[P8] using h2
 have at_:∀(i:Nat) (o:Oper),ops[i]? =I o->(o.guard.isNone=A0/\ ∀e∈o.after.toList,(!(bnd e)||IA e.on i)=A0)/\
   (!(IA m i)||Ag i f||o.after.toList.any (λe=>bnd e&&(Ag e.on m||(IA m e.on&& !(Ag e.on f)))))=A0:=by
  intro i o ho;have:=h3 i<|DD.2 (Gw.1 ho).1;rw[ho]at this;simp only[AE,C0]at this;exact this
 refine⟨h1,h2,λi o ho=> ?_,λi o e ho he hb=> ?_,λi hi=> ?_,λi hi1 hi2 hi3=> ?_⟩
 .simpa using (at_ i o ho).1.1
 .have:=(at_ i o ho).1.2 e (by simpa using he);rw[show bnd e=A0 from hb]at this;simpa[P8] using this
 .have:=h4 i<|DD.2 hi;obtain⟨j,hj,hc⟩:=Gz.1 this;rw[AE]at hc;obtain⟨c1,c2⟩:=hc;cases ho:ops[j]? with
  | none=>rw[ho]at c2;cases c2
  | some o=>
   rw[ho]at c2;obtain⟨e,he,hc⟩:=Gz.1 c2;rw[AE]at hc;exact⟨j,o,e,by simpa[P8] using c1,by have:=DD.1 hj;omega,ho,by simpa using he,hc.1,by simpa using hc.2⟩
 .obtain⟨o,ho⟩:∃o,ops[i]? =I o:=⟨ops[i],by simp[hi2]⟩;have:=(at_ i o ho).2;have e1:IA m i=A0:=by simpa[P8] using hi1
  have e2:Ag i f=A3:=by rw[← GD,H4];exact hi3
  rw[e1,e2]at this;simp only[AB,Bi]at this;obtain⟨e,he,hc⟩:=Gz.1 this;rw[AE,CB,AE]at hc;refine⟨o,e,ho,by simpa using he,hc.1, ?_⟩;obtain h|h:=hc.2
  .exact .inl (by simpa using h)
  .refine .inr ⟨by simpa[P8] using h.1,λh'=> ?_⟩;rw[h']at h;simp at h
def avi{P:Program}(hP:C.P=P)(hm:P.follows .mixedOrders=A0)(hC:∀B:Ba,B.P=P->HE C B)(hI:∀B:Ba,B.P=P->J8 C B inl){f:FuncId}{fn:Func}
  (hf:P.funcs[f]? =I fn)(K3:(fn.name == "runtime.NumGoroutine")=A3){i0 i1:Nat}{o0 ops:Array Oper}{rest:Code}
  (hb:fn.body=I (.seq (.region i0 o0 A3)<|.seq (.region i1 ops A0) rest)){m:DU}(hok:okM m fn.ntmps=A0){l g:Nat}(hx:Zb ops l g=A0)
  (h1:∀x,PE C inl fn (BJ l) l (aft l ops.size) m x=m.g x)(h2:∀x,PE C inl fn (BJ l++[g]) l (Jz l ops.size g) m x=m.g x):Gs P f m:=by
 refine atK hP hf K3 hb hok λx r hr B hB β a w Q hst hfr hk=> ?_;have e1:=h1 x;have e2:=h2 x;rw[hr]at e1 e2;unfold PE at e1 e2;rw[hb]at e1 e2;simp only at e1 e2;obtain⟨s1,a1,a2⟩:=Aj.1 e1;obtain⟨s1',b1,b2⟩:=Aj.1 e2;rw[a1]at b1;cases b1;have hPB:C.P=B.P:=by rw[hP,hB]
 have hmB:B.P.follows .mixedOrders=A0:=by rw[hB];exact hm
 have hCB:=hC B hB;have hIB:=hI B hB;refine wp_seq ?_;refine aAP hPB hCB hIB a1 hfr hst ?_;intro β' a' w' s' k1 k2 k3 k4 k5;cases k5;refine wp_seq ?_;refine asP hPB hmB hCB hIB (awR hx) a2 b2 k2 k1 ?_;intro β2 a2' w2 s2 j1 j2 j3 j4 j5;exact XA hPB hmB hCB hIB rest .nil _ s2 r j5 j1 j2 (G1 _ _) (by rw[j3,j4,k3,k4];exact hk)
def soX{P:Program}{C:Cx}{inl:(Ω:Type)->Inl Ω}{f:Nat}{d:Option Nat}{fn:Func}{m:DU}(hC:OKC P C inl){i0 i1:Nat}{o0 ops:Array Oper}{rest:Code}
  (hf:fnB P f fn m=(I fn,A3,A0,A0))(hb:fn.body=I (.seq (.region i0 o0 A3)<|.seq (.region i1 ops A0) rest)){l g:Nat}(hx:Zb ops l g=A0)
  (h1:∀x,PE C inl fn (BJ l) l (aft l ops.size) m x=m.g x)(h2:∀x,PE C inl fn (BJ l++[g]) l (Jz l ops.size g) m x=m.g x):SQ P (f,d,m):=by
 simp only[fnB,CG]at hf;exact⟨avi hC.p hC.m hC.c hC.i hf.1 hf.2.1 hb hf.2.2.1 hx h1 h2,hf.2.2.2⟩
end
end Go.VS
namespace Go.VS
open Go
section
variable {P:Program} {w:World} {H:Type} {Ed:TypeId×Value->H} {base:Nat} {spare:Nat->Bool} {held:Bool}
def LU{h:Sh}{c:CT}{t e:TypeId}{v:Value}{d:DataW H}{ps:List MemPlace}{r:Reach}{b0:Nat}(hs:my h=I c)(hok:TK P 60 t c=A0)(ht:P.underlying t=I (.slice e))(DH:GF P w r b0 t v)
  (hd:DataW.Trod Ed P w base spare held t v d ps):∃x:LT h,IZ h x/\ ∀(M:Nat->Prop) (e:Nat->Value),(∀b,¬M b)->Rel P w M e h x v []:=by
 obtain⟨a,len,cap,rfl⟩:=Go.WideShapes.okWide_slice ht DH;obtain⟨Bg,hf⟩:=hd;exact asj hs<|aCU 60 t c hok ⟨Bg,d,ps,hf⟩
end
def OF{H:Type}{enc:TypeId×Value->H}{a:Assume}{C:Checked}{os:Os}{f:FuncId}{fn:Func}{s:ChangeSpec}{conds:List PathCond}{apart fresh handsOn again:Bool}{X:World->Array Value->Prop}
  (hX:∀(w w':World) (args:Array Value),w.heap=w'.heap->X w args->X w' args)
  (own:ownKnob C.prog.godebug=U)(started:os.Started)(axr:C.prog.inits.idxOf? f=U)(hfn:C.prog.funcs[f]? =I fn)
  (witness:∃(w:World) (tape:Tape) (i:Input),w.os=os/\(w.forCall tape i).Shaped C.prog/\i.vars=[]/\Input.okWide C.prog (w.forCall tape i) .any w.heap.size f i/\
   ((s.pre enc C.prog fn conds apart (w.forCall tape i).memory i.args/\X (w.forCall tape i).memory i.args)/\sizedMet enc C.prog fn (GC s) apart (w.forCall tape i).memory i.args)/\a.holds C.prog (lone (Frame.enter C.prog f i.args .normal) [] (w.forCall tape i)))
  (axy:∀(W:World) (args:Array Value) (b0:Nat) (ds gs:List (DataW H)) (before:List MemPlace),W.ShapedOpen C.prog->(∀(j:Nat) t v,fn.params[j]? =I t->args[j]? =I v->GF C.prog W .any b0 t v)->
   DataW.Whole enc C.prog fn.params.toList s.vars apart W args.toList ds gs before->X W args->
   Calls C.prog f args W λe W'=>∃v,e= .returned v/\s.post enc C.prog fn apart fresh handsOn again W args v W'):
  ReturnsInHanded a C os f .any (λw args=>(s.pre enc C.prog fn conds apart w args/\X w args)/\sizedMet enc C.prog fn (GC s) apart w args) (s.post enc C.prog fn apart fresh handsOn again):=by
 refine returnsInHanded_of_calls own started axr witness ?_;intro w tape i _ hsh _ hok az6 _;obtain⟨_,_,_,fn',ayl,_,_,_,_,DH⟩:=hok;have e:fn'=fn:=C8<|ayl.symm.trans hfn;subst e;obtain⟨⟨⟨ds,gs,before,hw,_⟩,hx⟩,_⟩:=az6;refine(axy (w.forCall tape i) i.args _ ds gs before hsh DH (DataW.Whole.of_heap (w':=w.forCall tape i) (by rfl) hw)<|hX _ _ _ (by rfl) hx).mono λe W' ⟨v,he,hp⟩=> ?_;subst he;exact ChangeSpec.post_blind hp
end Go.VS
end
