/- Part 13. -/
import Derived.HandedShaped
import Derived.LaidSub
import Derived.MakeChecks
import Derived.Carry
import Derived.Test.YtimdnaklfelapaaGreatDoorQAL
open Array renaming getElem?_eq_some_iff→avO,replicate→axV
open Bool renaming and_eq_true→auF,false_or→ava,not_eq_true'→avw,not_eq_true→awo,not_true→auG,or_eq_true→avo
open Go.Code renaming region→ayR
open Go.Lib renaming pow10Tab→ayd
open Go.MakeChecks renaming laidMetH_plain→awc
open Go.OpenSpec renaming ofChange→awx
open Go.Region renaming binds→awg,ready→axZ
open Go.Value renaming okWide→aw2
open List renaming all_eq_true→avn,any_eq_true→awL,append_nil→avj,eq_nil_of_length_eq_zero→avi,getElem?_append_left→avQ,getElem?_append_right→avl,getElem?_eq_getElem→auO,getElem?_eq_none_iff→axW,getElem?_eq_none→awa,getElem?_eq_some_iff→auR,getElem_mem→avm,mem_append_left→auT,mem_append_right→auY,mem_append→auX,mem_cons_of_mem→auJ,mem_cons_self→auM,mem_cons→au5,mem_filterMap→avU,mem_filter→awd,mem_iff_getElem?→axI,mem_of_getElem?→au8,mem_range→avB,mem_singleton→avh,nodup_append→aw4,nodup_cons→aw0,nodup_range→ayK,pairwise_append→axm,pairwise_cons→axy,pairwise_iff_getElem→ayF,pairwise_lt_range→axF,range→au9,reverse_reverse→ay9
open Nat renaming beq_eq→awY,beq→auW,blt_eq→ax2,blt→axv,le_of_ble_eq_true→avg,le_refl→auS,lt_trichotomy→awl,ne_of_lt→ayk,zero_add→avV,zero_le→avM
open Ne renaming symm→axT
open Option renaming bind_eq_some_iff→auI,map_eq_some_iff→avc
open Option.some renaming inj→avD
open Prod.mk renaming injEq→avs
set_option linter.unusedVariables false
set_option linter.unusedSimpArgs false
set_option linter.defProp false
noncomputable section
namespace Go.VS
open Go
section
variable {P:Program} {W:World}
def amc(P:Program)(name:String)(k:IntKind):Bool:=
 match P.globalNamed name with
 | some g=>match (P.globals[g]?).map (·.type) with
  | some t=>match P.underlying t with
   | some (.array n e)=>(match P.underlying e with | some (.int k')=>decide (k'=k) | _=>false)&&decide (P.cellsOf e=1)&&decide (P.cellsOf t=n)
   | _=>false
  | _=>false
 | _=>false
def abk{name:String}{k:IntKind}{zs:List Int}(h:amc P name k=true)(hl:laidMet P [(name,Lib.tabData k zs)] W):Lib.TabIs P W name k zs:=by
 unfold amc at h;split at h
 case h_2=>cases h
 rename_i g hg;split at h
 case h_2=>cases h
 rename_i t ht;split at h
 case h_2=>cases h
 rename_i n e hu;simp only[auF,decide_eq_true_eq]at h;obtain⟨⟨h1,h2⟩,h3⟩:=h;split at h1
 case h_2=>cases h1
 rename_i k' hk;have h1:=auv h1;subst h1;exact Lib.tabIs_of_head hg ht hu hk h2 h3 hl
def ah2:String:= "internal/strconv.uint64pow10"
def nB{laid:List (String×DataW auC)}(hsh:W.ShapedOpen P)(atW:axv P.globals.size (begin P (fun _ _=>0) default).world.heap.size=true)(arh:laidMetH P laid W)
  (aq7:(laid.all fun x=>x.2.handleName?.isNone)=true)
  (arB:P.globalNamed ah2≠none→(laid.filter fun x=>x.1 == ah2)=[(ah2,Lib.tabData .u64 ayd)]∧amc P ah2 .u64=true):ac2 P W (fun _=>False):=by
 have hlt:P.globals.size < W.heap.size:=by
  obtain⟨o,o0,h1,_⟩:=hsh.2 P.globals.size (auS _) (by simpa[ax2] using atW);exact(avO.1 h1).1
 refine⟨W,⟨hsh,fun hn=> ?_⟩,fun b hb=>⟨id,by omega,rfl⟩⟩;obtain⟨h1,h2⟩:=arB hn;rw[awc _ _ _ aq7]at arh;have h3:=laidMet.filter (fun x=>x.1 == ah2) arh;rw[h1]at h3;exact abk h2 h3
end
end Go.VS
namespace Go.VS
open Go
def anq:Oper:={ dst:=none,op:= .move (.const (.bool false)),type:=0,pos:= "",after:= #[],guard:=none }
def amd(zs:List Nat)(e:Edge):Option Edge:=(zs.idxOf? e.on).map fun j=>{ e with on:=j }
def afJ(zs:List Nat)(o:Oper):Oper:={ o with after:=(o.after.toList.filterMap (amd zs)).toArray }
def ia(ops:Array Oper)(zs:List Nat):Array Oper:=(zs.map fun i=>afJ zs ((ops[i]?).getD anq)).toArray
def afI{ops:Array Oper}{zs:List Nat}{j i:Nat}{o:Oper}(hz:zs[j]? =some i)(ho:ops[i]? =some o):(ia ops zs)[j]? =some (afJ zs o):=by
 simp[ia,hz,ho]
def Ff(ops:Array Oper)(zs:List Nat):(ia ops zs).size=zs.length:=by simp[ia]
def ah3{zs:List Nat}{o:Oper}{e:Edge}(h:e∈(afJ zs o).after): ∃ e0∈o.after,awg .any e0=awg .any e∧zs[e.on]? =some e0.on:=by
 have h:e∈o.after.toList.filterMap (amd zs):=by simpa[afJ] using h
 obtain⟨e0,h0,h1⟩:=avU.1 h;unfold amd at h1;obtain⟨j,h2,h3⟩:=avc.1 h1;refine⟨e0,by simpa using h0,by rw[← h3];rfl, ?_⟩;rw[← h3];obtain⟨hlt,h4,_⟩:=List.idxOf?_eq_some_iff.1 h2;show zs[j]? =some e0.on;rw[auO hlt];simpa using h4
section
variable {P:Program} {ops:Array Oper} {Q:Exit→Act→World→Prop}
def afy(Good:(Nat→Prop)→Act→World→Prop)(at6: ∀ (i:Nat) (o:Oper) (e:Edge),ops[i]? =some o→e∈o.after→awg .any e=true→e.on < i)
  (ast: ∀ (D:Nat→Prop) a w,(∀ i,¬ D i)→Good D a w→Q .normal a w)
  (aqz: ∀ (D:Nat→Prop) (i:Nat) (a:Act) (w:World) (o:Oper),Good D a w→(∀ j,D j→j < ops.size)→(∀ j oj,ops[j]? =some oj→ ¬ D j→ ∀ e∈oj.after,awg .any e=true→ ¬ D e.on)→D i→ops[i]? =some o→
   (∀ e∈o.after,awg .any e=true→ ¬ D e.on)→wpOp P ops Q i (fun a w=>Good (fun k=>D k∧k≠i) a w) a w):
  ∀ (n:Nat) (U:List Nat) (listed:Array Bool) (a:Act) (w:World),U.length=n→U.Nodup→(∀ j,j∈U↔j < ops.size∧listed.getD j true=false)→listed.size=ops.size→
   (∀ j oj,ops[j]? =some oj→j ∉ U→ ∀ e∈oj.after,awg .any e=true→e.on ∉ U)→Good (fun k=>k∈U) a w→wpAny P .any ops Q n listed a w:=by
 intro n
 induction n with
 | zero=>
  intro U listed a w hl hnd hU hs hcl hg;have:U=[]:=avi hl;subst this;refine⟨?_,ast _ a w (fun i h=>by cases h) hg⟩;cases hrd:axZ .any ops listed with
  | nil=>rfl
  | cons j l=>
   have hj:j∈axZ .any ops listed:=by rw[hrd];exact auM
   obtain⟨h1,o,ho,_⟩:=mem_ready.1 hj;have:=(hU j).2 ⟨(avO.1 ho).1,h1⟩;cases this
 | succ n ih=>
  intro U listed a w hl hnd hU hs hcl hg;have done: ∀ x,x < ops.size→x ∉ U→listed.getD x false=true:=fun x hx hn=>by
   refine yx (by omega) ?_;cases hb':listed.getD x true with
   | true=>rfl
   | false=>exact absurd ((hU x).2 ⟨hx,hb'⟩) hn
  refine⟨fun asi=> ?_,fun i hi=> ?_⟩
  ·exfalso;obtain⟨i0,h0,asl⟩:=KO (fun k=>k∈U) (by
    cases U with
    | nil=>simp at hl
    | cons x l=>exact⟨x,auM⟩)
   obtain⟨hlt,hun⟩:=(hU i0).1 h0;obtain⟨o,ho⟩: ∃ o,ops[i0]? =some o:=⟨ops[i0],by simp[hlt]⟩;have hr0:i0∈axZ .any ops listed:=mem_ready.2 ⟨hun,o,ho,fun e he hb=>by
    have arE:=at6 i0 o e ho he hb;exact done e.on (by omega) fun hm=>by have:=asl _ hm;omega⟩
   rw[asi]at hr0;cases hr0
  ·obtain⟨hun,oi,hoi,aom⟩:=mem_ready.1 hi;have hlt:i < ops.size:=(avO.1 hoi).1;have hiU:i∈U:=(hU i).2 ⟨hlt,hun⟩;have aoB: ∀ e∈oi.after,awg .any e=true→e.on ∉ U:=fun e he hb hm=>by
    have h2:=((hU e.on).1 hm).2;have hsz:=((hU e.on).1 hm).1;have hel:=aom e he hb;have:listed.getD e.on true=true:=by simp[show e.on < listed.size by omega]at hel ⊢; exact hel
    rw[this]at h2;cases h2
   have aos: ∀ k,k∈U.erase i↔k∈U∧k≠i:=fun k=>by
    rw[hnd.mem_erase_iff];exact and_comm
   refine wpOp_mono ?_ (aqz (fun k=>k∈U) i a w oi hg (fun j hj=>((hU j).1 hj).1) hcl hiU hoi aoB);intro a' w' hg';refine ih (U.erase i) _ a' w' (by rw[List.length_erase_of_mem hiU,hl];rfl) (hnd.erase i) (fun j=> ?_) (by simpa using hs) ?_ ?_
   ·rw[aos,hU];by_cases e:j=i
    ·subst e;simp
    ·rw[getD_set_ne true (axT e)];simp[e]
   ·intro j oj hoj hj e he hb hm;have hmU:=((aos _).1 hm).1;by_cases e':j=i
    ·subst e';rw[hoi]at hoj;cases hoj;exact aoB e he hb hmU
    ·exact hcl j oj hoj (fun h=>hj ((aos j).2 ⟨h,e'⟩)) e he hb hmU
   ·have:(fun k=>k∈U.erase i)=fun k=>k∈U∧k≠i:=funext fun k=>propext (aos k);rw[this];exact hg'
end
section
variable {C:Cx} {B:anT} {ops S0:Array Oper} {L:Lb} {stk:List (Array Value)} {Ω:Type} {q:Ω} {s s':S}
structure PaR (C:Cx) (S0:Array Oper) (L:Lb) (U:List Nat) (s s':S):Prop where
 run:Run C S0 L U s s'
 asI:U.Pairwise (· < ·)
 lt: ∀ j∈U,j < S0.size
 cl: ∀ i x,i < S0.size→i ∉ U→L.R x i→x ∉ U
 fit: ∀ j∈U,Fit S0 L U s j
def PaR.pick(hn:aqM S0 L){U:List Nat}(h:PaR C S0 L U s s'){i:Nat}(hiU:i∈U){oi:Oper}(hoi:S0[i]? =some oi)(aoB: ∀ e∈oi.after,awg .any e=true→e.on ∉ U):
  ∃ s1 U',ev1 C S0 oi (L.b i) s=some s1∧(∀ id,L.b i≤id→id < L.b i+16→s.H id=none)∧PaR C S0 L U' s1 s'∧ ∀ k,k∈U'↔k∈U∧k≠i:=by
 obtain⟨hr,hp,hlt,hd,hf⟩:=h;obtain⟨l1,l2,rfl⟩:=List.append_of_mem hiU;have hRn: ∀ j∈l1++i::l2,¬ L.R j i:=by
  intro j hj hR;obtain⟨e,he,hb,apd⟩:=hn.anc j i oi hoi hR;have heU:=aoB e he hb;rcases apd with h | h
  ·exact heU (h▸hj)
  ·have arE:=hn.dir i oi e hoi he hb;exact hd e.on j (by have:=hlt i hiU;omega) heU h hj
 have an2:=Run.first hn l1 s hr hp hRn hf
 cases an2 with
 | cons ara aq0 t=>
  rename_i o' s1;rw[hoi]at ara;cases ara;have hnd:(l1++i::l2).Nodup:=hp.imp fun h=>ayk h;have aos: ∀ j,j∈l1++l2↔j∈l1++i::l2∧j≠i:=by
   intro j;have apy:=aw4.1 hnd;constructor
   ·intro hj;refine⟨?_, ?_⟩
    ·rcases auX.1 hj with h | h
     ·exact auT _ h
     ·exact auY _ (auJ _ h)
    ·rintro rfl;rcases auX.1 hj with h | h
     ·exact apy.2.2 j h j auM rfl
     ·exact(aw0.1 apy.2.1).1 h
   ·rintro⟨hj,hne⟩;rcases auX.1 hj with h | h
    ·exact auT _ h
    ·rcases au5.1 h with h | h
     ·exact absurd h hne
     ·exact auY _ h
  refine⟨s1,l1++l2,aq0.ev,fun id h1 h2=>(hf i hiU oi hoi).2.2 id h1 h2,⟨t, ?_,fun j hj=>hlt j ((aos j).1 hj).1, ?_, ?_⟩,aos⟩
  ·have p2:=axm.1 hp;exact axm.2 ⟨p2.1,(axy.1 p2.2.1).2,fun x hx y hy=>p2.2.2 x hx y (auJ _ hy)⟩
  ·intro k x hk hkU hR hx;have hxU:=((aos x).1 hx).1;by_cases e:k=i
   ·subst e;exact hRn x hxU hR
   ·exact hd k x hk (fun h=>hkU ((aos k).2 ⟨h,e⟩)) hR hxU
  ·intro j hj;obtain⟨hjU,hne⟩:=(aos j).1 hj;refine(hf j hjU).step hn hoi (axT hne) (hRn j hjU) aq0 fun k hk=> ?_;by_cases e:k=i
   ·exact .inl e
   ·exact .inr ((aos k).2 ⟨hk,e⟩)
structure aou (C:Cx) (ops:Array Oper) (zs:List Nat) (L:Lb) (D:Nat→Prop) (s s':S):Prop where
 nice:aqM (ia ops zs) L
 ex: ∃ U,PaR C (ia ops zs) L U s s'∧ ∀ j x,zs[j]? =some x→(j∈U↔D x)
def ali{zs:List Nat}{o:Oper}(hg:o.guard=none)(b:Nat)(s:S):ev1 C (ia ops zs) (afJ zs o) b s=jf C (af S) o b s some:=by
 unfold ev1 evG;have:(afJ zs o).guard=none:=hg;rw[this];rfl
def ajz{o:Oper}(hg:o.guard=none)(b:Nat)(s:S):ev1 C ops o b s=jf C (af S) o b s some:=by
 unfold ev1 evG;rw[hg]
def aou.pick{zs:List Nat}{D:Nat→Prop}(h:aou C ops zs L D s s')(hz:zs.Nodup){j i:Nat}(hj:zs[j]? =some i)(hD:D i){o:Oper}(ho:ops[i]? =some o)(hg:o.guard=none)
  (aoB: ∀ e∈o.after,awg .any e=true→ ¬ D e.on):
  ∃ s1,jf C (af S) o (L.b j) s some=some s1∧(∀ id,L.b j≤id→id < L.b j+16→s.H id=none)∧aou C ops zs L (fun k=>D k∧k≠i) s1 s':=by
 obtain⟨hn,U,hp,hU⟩:=h;obtain⟨s1,U',h1,h2,h3,h4⟩:=hp.pick hn ((hU j i hj).2 hD) (afI hj ho) fun e he hb hm=>by
  obtain⟨e0,he0,hb0,hz0⟩:=ah3 he;exact aoB e0 he0 (by rw[hb0];exact hb) ((hU _ _ hz0).1 hm)
 refine⟨s1,by rw[← ali hg];exact h1,h2,hn,U',h3,fun k x hk=> ?_⟩;rw[h4,hU k x hk];refine and_congr_right fun _=>not_congr ⟨fun e=> ?_,fun e=> ?_⟩
 ·subst e;rw[hk]at hj;cases hj;rfl
 ·subst e;have hk1:=(auR.1 hk);have hj1:=(auR.1 hj);obtain⟨a1,a2⟩:=hk1;obtain⟨b1,b2⟩:=hj1;have hpw:=ayF.1 hz;rcases awl k j with h | h | h
  ·exact absurd (a2.trans b2.symm) (hpw k j a1 b1 h)
  ·exact h
  ·exact absurd (b2.trans a2.symm) (hpw j k b1 a1 h)
def aou.done{zs:List Nat}{D:Nat→Prop}(h:aou C ops zs L D s s')(hD: ∀ x∈zs,¬ D x):s=s':=by
 obtain⟨hn,U,hp,hU⟩:=h;have:U=[]:=by
  cases U with
  | nil=>rfl
  | cons j l=>
   exfalso;have hlt:=hp.lt j auM;rw[Ff]at hlt;have hz:zs[j]? =some zs[j]:=auO hlt;exact hD _ (avm hlt) ((hU j _ hz).1 auM)
 subst this;have:=hp.run;cases this;rfl
def Vs{zs:List Nat}{k:S→Option Ω}(he:evD C (ia ops zs) s (ia ops zs).toList 0 s.nid [] s k=some q)(hfr:Fr s)(D:Nat→Prop)(hD: ∀ x∈zs,D x):
  ∃ L s',aou C ops zs L D s s'∧(∀ j,L.b j=s.nid+16 * j)∧Fr { s' with nid:=s.nid+16 * zs.length } ∧s'.n=s.n∧s'.pins=s.pins∧k { s' with nid:=s.nid+16 * zs.length } =some q:=by
 obtain⟨rs,s',h1,h2,h3,h4⟩:=Po (b0:=s.nid) (ia ops zs).toList 0 s.nid [] s he trivial rfl rfl (by simp);simp only[avj,avV]at h2 h4;have hn:rs.reverse.length=(ia ops zs).size:=by simpa using h3
 have hpl:=h2.places;rw[ay9,hn]at hpl;have apc: ∀ j,Fit (ia ops zs) (gy rs.reverse s.nid) (au9 (ia ops zs).size) s j:=fun j=>h2.fit hn hfr;have an2:=CZ h2 hn rs s s' h1 (fun r hr=>by simpa using hr) (by rw[hpl];exact axF) (fun r hr=>by rw[hpl];exact apc _);rw[hpl]at an2;have hlen:(ia ops zs).toList.length=zs.length:=by simp[ia]
 have apb:anG (fun j=>j < s.nid+16 * zs.length) s s':=G2 rs s s' _ h1 fun r hr=>by
  have hr':r∈rs.reverse:=by simpa using hr
  have e1:=(h2.aqa hr').1;have e2:=h2.lt r hr';rw[hn,Ff]at e2;omega
 rw[hlen]at h4;refine⟨gy rs.reverse s.nid,s',⟨h2.nice hn,au9 (ia ops zs).size,⟨an2,axF,fun j hj=>avB.1 hj,fun i x hi hiU _=>absurd (avB.2 hi) hiU,fun j _=>apc j⟩,fun j x hj=> ?_⟩,
  fun j=>rfl,fun j hj=> ?_,apb.n,apb.pins,h4⟩
 ·rw[avB,Ff];exact⟨fun _=>hD x (au8 hj),fun _=>(auR.1 hj).1⟩
 ·have hj:s.nid+16 * zs.length≤j:=hj;exact apb.nn j (by omega) (hfr j (by omega))
end
end Go.VS
namespace Go.VS
open Go
def evX{Ω:Type}(C:Cx)(inl:Inl Ω)(ops:Array Oper)(ys:List Nat)(m:Nat)(zs:List Nat)(s:S)(k:S→Option Ω):Option Ω:=
 evD C (ia ops ys) s (ia ops ys).toList 0 s.nid [] s fun s1=>match ops[m]? with
  | some om=>evG C inl ops om s1.nid s1 fun s2=>evD C (ia ops zs) { s2 with nid:=s2.nid+16 } (ia ops zs).toList 0 (s2.nid+16) [] { s2 with nid:=s2.nid+16 } k
  | none=>none
structure XOk (ops:Array Oper) (m f:Nat):Prop where
 mf:m < f
 sz:f < ops.size
 guard: ∀ (i:Nat) (o:Oper),ops[i]? =some o→o.guard=none
 dir: ∀ (i:Nat) (o:Oper) (e:Edge),ops[i]? =some o→e∈o.after→awg .any e=true→e.on < i
 cov: ∀ i,i < m→ ∃ j o e,i < j∧j≤m∧ops[j]? =some o∧e∈o.after∧awg .any e=true∧e.on=i
 late: ∀ i,m < i→i < ops.size→i≠f→ ∃ o e,ops[i]? =some o∧e∈o.after∧awg .any e=true∧(e.on=m∨(m < e.on∧e.on≠f))
abbrev aft(m n:Nat):List Nat:=List.range' (m+1) (n - (m+1))
abbrev WT(m n f:Nat):List Nat:=(aft m n).filter fun x=> !(auW x f)
section
variable {C:Cx} {B:anT} {ops:Array Oper} {stk:List (Array Value)} {Ω:Type} {q:Ω} {inl:(Ω:Type)→Inl Ω}
def aam{m n x:Nat}:x∈aft m n↔m < x∧x < n:=by
 rw[List.mem_range'_1];omega
def vK{m n f x:Nat}:x∈WT m n f↔(m < x∧x < n)∧x≠f:=by
 rw[awd,aam];refine and_congr_right fun _=> ?_;rw[avw,← awo,awY]
def acW{m j:Nat}(h:j < m):(au9 m)[j]? =some j:=by simp[h]
def Zz{m f j:Nat}(h:j < m):(au9 m++[f])[j]? =some j:=by
 rw[avQ (by simpa using h)];exact acW h
def ahA{m f:Nat}:(au9 m++[f])[m]? =some f:=by
 rw[avl (by simp)];simp
def K2(C:Cx)(ops:Array Oper)(zs:List Nat)(k:S→Option Ω)(s2:S):Option Ω:=
 evD C (ia ops zs) { s2 with nid:=s2.nid+16 } (ia ops zs).toList 0 (s2.nid+16) [] { s2 with nid:=s2.nid+16 } k
inductive Way (C:Cx) (ops:Array Oper) (m f:Nat) (inl:Inl Ω) (k:S→Option Ω) (q:Ω) (s0:S) (D:Nat→Prop) (s:S):Prop
 | one (hm:D m) (hf:D f) (hz: ∀ x∈WT m ops.size f,D x) (L1 L2:Lb) (s1 s2:S) (b1: ∀ j,L1.b j=s0.nid+16 * j) (b2: ∀ j,L2.b j=s0.nid+16 * j)
   (p1:aou C ops (au9 m) L1 D s s1) (p2:aou C ops (au9 m++[f]) L2 D s s2)
   (f1:Fr { s1 with nid:=s0.nid+16 * m }) (f2:Fr { s2 with nid:=s0.nid+16 * (m+1) })
   (n1:s1.n=s0.n∧s1.pins=s0.pins) (n2:s2.n=s0.n∧s2.pins=s0.pins)
   (k1: ∀ om,ops[m]? =some om→evG C inl ops om (s0.nid+16 * m) { s1 with nid:=s0.nid+16 * m } (K2 C ops (aft m ops.size) k)=some q)
   (k2: ∀ om,ops[m]? =some om→evG C inl ops om (s0.nid+16 * (m+1)) { s2 with nid:=s0.nid+16 * (m+1) } (K2 C ops (WT m ops.size f) k)=some q):Way C ops m f inl k q s0 D s
 | two (hm:D m) (hf: ¬ D f) (hz: ∀ x∈WT m ops.size f,D x) (L2:Lb) (s2:S)
   (p2:aou C ops (au9 m++[f]) L2 D s s2)
   (f2:Fr { s2 with nid:=s0.nid+16 * (m+1) })
   (n2:s2.n=s0.n∧s2.pins=s0.pins)
   (k2: ∀ om,ops[m]? =some om→evG C inl ops om (s0.nid+16 * (m+1)) { s2 with nid:=s0.nid+16 * (m+1) } (K2 C ops (WT m ops.size f) k)=some q):Way C ops m f inl k q s0 D s
 | fin (hm: ¬ D m) (ha: ∀ x,x < m→ ¬ D x) (zs:List Nat) (hn:zs.Nodup) (hD: ∀ x,D x→x∈zs) (L:Lb) (s':S) (p:aou C ops zs L D s s')
   (N:Nat) (f2:Fr { s' with nid:=N }) (n2:s'.n=s0.n∧s'.pins=s0.pins) (k2:k { s' with nid:=N } =some q):Way C ops m f inl k q s0 D s
def St.aql{β:Beta}{s:S}{a:Act}{w:World}(h:St B β stk s a w)(N:Nat):St B β stk { s with nid:=N } a w:=⟨h.T,h.stack,h.n,h.defers,h.pins,h.gs,h.hs⟩
def ag7(hP:C.P=B.P)(hm:B.P.follows .mixedOrders=true)(hC:oW C B)(hI:EQ C B inl){m f:Nat}(hX:XOk ops m f){k:S→Option Ω}{s0:S}
  (he1:evX C (inl Ω) ops (au9 m) m (aft m ops.size) s0 k=some q)(he2:evX C (inl Ω) ops (au9 m++[f]) m (WT m ops.size f) s0 k=some q)(hfr:Fr s0)
  {β:Beta}{a:Act}{w:World}(hst:St B β stk s0 a w){id:Nat}{Q:Exit→Act→World→Prop}
  (hQ: ∀ β a w s',St B β stk s' a w→Fr s'→s'.n=s0.n→s'.pins=s0.pins→k s'=some q→Q .normal a w):(ayR id ops true).wp B.P Q a w:=by
 have hmf:=hX.mf;have hsz:=hX.sz;have ap4:St B β stk s0 a { w with drawn:=w.drawn+1 } :=by
  have hk:Kp w β { w with drawn:=w.drawn+1 } β:=Kp.heap rfl;exact hst.keep hk (H':=s0.H) (hst.hs.drew)
 refine wp_region_any hm ?_;refine afy (fun D a w=> ∃ β s,St B β stk s a w∧Way C ops m f (inl Ω) k q s0 D s) hX.dir ?_ ?_ ops.size (au9 ops.size) _ a _ (by simp) ayK (fun j=> ?_) (by simp) (fun j oj hoj hj=>absurd (avB.2 (avO.1 hoj).1) hj) ?_
 ·
  rintro D a w hD ⟨β,s,hs,hW⟩;cases hW with
  | one hm'=>exact absurd hm' (hD _)
  | two hm'=>exact absurd hm' (hD _)
  | fin _ _ zs hn _ L s' p N f2 n2 k2=>
   have:=p.done fun x _=>hD x;subst this;exact hQ β a w _ (hs.aql N) f2 n2.1 n2.2 k2
 ·
  rintro D i a w o ⟨β,s,hs,hW⟩ hlt hcl hDi ho aoB;have hg:=hX.guard i o ho;have cW: ∀ {zs:List Nat} {L:Lb} {s':S} {j:Nat},aou C ops zs L D s s'→zs.Nodup→zs[j]? =some i→(∀ s1,jf C (af S) o (L.b j) s some=some s1→aou C ops zs L (fun k=>D k∧k≠i) s1 s'→Way C ops m f (inl Ω) k q s0 (fun k=>D k∧k≠i) s1)→
    wpOp B.P ops Q i (fun a w=> ∃ β s,St B β stk s a w∧Way C ops m f (inl Ω) k q s0 (fun k=>D k∧k≠i) s) a w:=by
   intro zs L s' j hp hz hj aoN;obtain⟨s1,h1,h2,h3⟩:=hp.pick hz hj hDi ho hg aoB;refine Vt hP hC ho hs (b:=L.b j) h2 (show ev1 C ops o (L.b j) s=some s1 by rw[ajz hg];exact h1) ?_;intro β' u w' ap4;exact⟨β',s1,ap4,aoN s1 h1 h3⟩
  have ndA:(au9 m++[f]).Nodup:=by
   rw[aw4];refine⟨ayK,by simp,fun x hx y hy e=> ?_⟩;have:=avB.1 hx;have:=avh.1 hy;omega
  have apB:D m→(∀ x∈WT m ops.size f,D x)→ ¬ (m < i∧i≠f):=by
   rintro hm' hz ⟨h1,h2⟩;obtain⟨o',e,ho',he,hb,apd⟩:=hX.late i h1 (hlt i hDi) h2;rw[ho]at ho';cases ho';refine aoB e he hb ?_;rcases apd with h | ⟨h3,h4⟩
   ·rw[h];exact hm'
   ·exact hz _ (vK.2 ⟨⟨h3,by have:=hX.dir i o e ho he hb;have:=hlt i hDi;omega⟩,h4⟩)
  have aoC:i=m→ ∀ x,x < m→ ¬ D x:=by
   intro e x hx;have: ∀ n x,m - x=n→x < m→ ¬ D x:=by
    intro n
    induction n using Nat.strongRecOn with
    | ind n ih=>
     intro x hn hx;obtain⟨j,oj,e',h1,h2,h3,h4,h5,h6⟩:=hX.cov x hx;rcases Nat.lt_or_eq_of_le h2 with h7 | h7
     ·have:=hcl j oj h3 (ih (m - j) (by omega) j rfl h7) e' h4 h5;rw[h6]at this;exact this
     ·subst h7;rw[← e,ho]at h3;cases h3;have:=aoB e' h4 h5;rw[h6]at this;exact this
   exact this _ x rfl hx
  have atd: ∀ {b:Nat} {s1:S} {zs:List Nat},i=m→s=s1→Fr { s1 with nid:=b } →(s1.n=s0.n∧s1.pins=s0.pins)→(∀ x∈zs,D x∧x≠i)→zs.Nodup→(∀ x,D x∧x≠i→x∈zs)→
    (∀ om,ops[m]? =some om→evG C (inl Ω) ops om b { s1 with nid:=b } (K2 C ops zs k)=some q)→
    wpOp B.P ops Q i (fun a w=> ∃ β s,St B β stk s a w∧Way C ops m f (inl Ω) k q s0 (fun k=>D k∧k≠i) s) a w:=by
   intro b s1 zs e1 e2 hf1 hn1 hz hnd hin hk;subst e1;subst e2;refine acA hP hC hI ho (s:={ s with nid:=b }) (hk o ho) (hs.aql b) hf1 ?_;intro β' u w' s' hs' hf' hn' hp' hk';obtain⟨L,s2,p,_,at2,hn2,hp2,hk2⟩:=Vs (s:={ s' with nid:=s'.nid+16 }) hk' (fun j hj=>hf' j hj) (fun k=>D k∧k≠i) hz;exact⟨β',_,hs'.aql _,.fin (fun h=>h.2 rfl) (fun x hx h=>aoC rfl x hx h.1) zs hnd hin L s2 p _ at2 ⟨hn2.trans (hn'.trans hn1.1),hp2.trans (hp'.trans hn1.2)⟩ hk2⟩
  have nd1:(aft m ops.size).Nodup:=List.nodup_range';have nd2:(WT m ops.size f).Nodup:=nd1.filter _;cases hW with
  | one hm' hf' hz L1 L2 s1 s2 b1 b2 p1 p2 f1 f2 n1 n2 k1 k2=>
   rcases awl i m with h | h | h
   ·refine cW p1 ayK (acW h) fun t1 e1 q1=> ?_;obtain⟨t2,e2,_,q2⟩:=p2.pick ndA (Zz h) hDi ho hg aoB;rw[b2,← b1,e1]at e2;cases e2;exact .one ⟨hm',by omega⟩ ⟨hf',by omega⟩ (fun x hx=>⟨hz x hx,by have:=(vK.1 hx).1.1;omega⟩) L1 L2 s1 s2 b1 b2 q1 q2 f1 f2 n1 n2 k1 k2
   ·have e:=p1.done fun x hx=>aoC h x (avB.1 hx);refine atd h e f1 n1 (fun x hx=> ?_) nd1 (fun x hx=> ?_) k1
    ·have hx:=aam.1 hx;refine⟨?_,by omega⟩;by_cases e':x=f
     ·rw[e'];exact hf'
     ·exact hz x (vK.2 ⟨hx,e'⟩)
    ·refine aam.2 ⟨?_,hlt x hx.1⟩;rcases awl x m with h2 | h2 | h2
     ·exact absurd hx.1 (aoC h x h2)
     ·exact absurd (h2.trans h.symm) hx.2
     ·exact h2
   ·by_cases e:i=f
    ·refine cW p2 ndA (j:=m) (by rw[e];exact ahA) fun t1 e1 q1=> ?_;exact .two ⟨hm',by omega⟩ (fun h=>h.2 e.symm) (fun x hx=>⟨hz x hx,by have:=(vK.1 hx).2;omega⟩) L2 s2 q1 f2 n2 k2
    ·exact absurd ⟨h,e⟩ (apB hm' hz)
  | two hm' hf' hz L2 s2 p2 f2 n2 k2=>
   rcases awl i m with h | h | h
   ·refine cW p2 ndA (Zz h) fun t1 e1 q1=> ?_;exact .two ⟨hm',by omega⟩ (fun h=>hf' h.1) (fun x hx=>⟨hz x hx,by have:=(vK.1 hx).1.1;omega⟩) L2 s2 q1 f2 n2 k2
   ·have e:=p2.done fun x hx=>by
     rcases auX.1 hx with hx | hx
     ·exact aoC h x (avB.1 hx)
     ·rw[avh.1 hx];exact hf'
    refine atd h e f2 n2 (fun x hx=>⟨hz x hx,by have:=(vK.1 hx).1.1;omega⟩) nd2 (fun x hx=>vK.2 ⟨⟨?_,hlt x hx.1⟩,fun e'=>hf' (e'▸hx.1)⟩) k2;rcases awl x m with h2 | h2 | h2
    ·exact absurd hx.1 (aoC h x h2)
    ·exact absurd (h2.trans h.symm) hx.2
    ·exact h2
   ·by_cases e:i=f
    ·exact absurd (e▸hDi) hf'
    ·exact absurd ⟨h,e⟩ (apB hm' hz)
  | fin hm' ha zs hn hD L s' p N f2 n2 k2=>
   obtain⟨j,hj⟩:=axI.1 (hD i hDi);refine cW p hn hj fun t1 e1 q1=> ?_;exact .fin (fun h=>hm' h.1) (fun x hx h=>ha x hx h.1) zs hn (fun x hx=>hD x hx.1) L s' q1 N f2 n2 k2
 ·rw[avB];constructor
  ·intro h;exact⟨h,by simp[h]⟩
  ·exact fun h=>h.1
 ·
  obtain⟨om,hom⟩: ∃ o,ops[m]? =some o:=⟨ops[m],by simp[show m < ops.size by omega]⟩;unfold evX at he1 he2;obtain⟨L1,s1,p1,b1,fr1,n1,pn1,k1⟩:=Vs he1 hfr (fun k=>k∈au9 ops.size) (fun x hx=>avB.2 (by have:=avB.1 hx;omega));obtain⟨L2,s2,p2,b2,fr2,n2,pn2,k2⟩:=Vs he2 hfr (fun k=>k∈au9 ops.size) (fun x hx=>avB.2 (by
   rcases auX.1 hx with h | h
   ·have:=avB.1 h;omega
   ·rw[avh.1 h];exact hsz))
  have l1:(au9 m).length=m:=by simp
  have l2:(au9 m++[f]).length=m+1:=by simp
  rw[l1]at fr1 k1;rw[l2]at fr2 k2;simp only[hom]at k1 k2;exact⟨β,s0,ap4,.one (avB.2 (by omega)) (avB.2 hsz) (fun x hx=>avB.2 (vK.1 hx).1.2) L1 L2 s1 s2 b1 b2 p1 p2 fr1 fr2 ⟨n1,pn1⟩ ⟨n2,pn2⟩
   (fun o h=>by rw[hom]at h;cases h;exact k1) (fun o h=>by rw[hom]at h;cases h;exact k2)⟩
end
end Go.VS
namespace Go.VS
open Go
section
variable {C:Cx} {B:anT} {β:Beta} {H:Hp} {w w':World} {M:Nat→Prop} {stk:List (Array Value)} {s s':S} {a:Act} {P:Program} {e e':Nat→Value} {inl:(Ω:Type)→Inl Ω}
def aif{P:Program}(hP:C.P=P){f:FuncId}{fn:Func}{body:Code}(hf:P.funcs[f]? =some fn)(aoA:(fn.name == "runtime.NumGoroutine")=false)
  (hb:fn.body=some body){m:aoi}(hok:okM m fn.ntmps=true)
  (hw: ∀ (x:LTs m.ps) (r:LTs m.rs×LTs (bg m.ps)),m.g x=some r→ ∀ (B:anT),B.P=P→ ∀ (β:Beta) (a:Act) (w:World) (Q:Exit→Act→World→Prop),St B β [] (agM fn.ntmps m.ps x) a w→Fr (agM fn.ntmps m.ps x)→
   KOK B [] fn.ntmps (eO 0 m.ps) { nrm:=fin C.P fn m,ret:=fin C.P fn m,ext:=fun _ _=>none } r Q→body.wp B.P Q a w):we P f m:=by
 refine⟨qQ hf aoA hb,fun x r hx w Z args os hr hnd hbl hZ hgl=> ?_⟩;have hw:=hw x r hx;have aq9:=hok;simp only[okM,auF]at aq9;obtain⟨⟨⟨hps,hrs⟩,hn⟩,_⟩:=aq9;have hn:=avg hn;have hlen:=hr.length
 let B:anT:={ P:=P,w0:=w,O:=fun b=>b∈bX os,tm0:=ar args,Z:=Z,gl:=hgl }
 have aqS:Num (Kj Z os) 0 os:=TZ Z os;obtain⟨k1,k2,k3⟩:=Mh (β:=Kj Z os) (E:=fun _=> .un) (M:=fun b=>b∈bX os∨Z b) (P:=P) (w:=w) (e:=ar args) (fun b hb=>aag (B:=B) hb) m.ps (fun _=>none) 0 x args os hps hr aqS (fun t _=>trivial);have hi:agM fn.ntmps m.ps x=(match aC (fun _=> .un) (fun _=>none) 0 m.ps x with
  | (vs,H,b)=>{ n:=fn.ntmps,T:=fun t=>(vs[t]?).getD qU,H:=H,nid:=b,st:=[],pins:=eO 0 m.ps,gs:=fun _=>false }):=rfl
 rw[hi]at hw;generalize aC (fun _=> .un) (fun _=>none) 0 m.ps x=q at *;obtain⟨vs,H,b⟩:=q;simp only at hw k1 k2 k3;have hH:Hs B (Kj Z os) H w:={
  aoq:=fun id ob ho=>by
   by_cases h:id < os.length
   ·obtain⟨ob',h1,h2⟩:=k3.2 id (avM _) (by omega);rw[h1]at ho;cases ho;exact h2
   ·rw[k3.1 id (by omega)]at ho;cases ho
  dom:=fun id p hp=>by
   have h:id < os.length:=(auR.1 (show os[id]? =some p from hp)).1;obtain⟨ob',h1,_⟩:=k3.2 id (avM _) (by omega);exact⟨ob',h1⟩
  inj:=fun i j p q a a' hi hj=>Me hnd i j p q a a' hi hj
  old:=fun b hb=>⟨.inl (zL hb),(hbl b (zL hb)).1⟩
  os:=rfl
  tape:=rfl
  output:=rfl
  size:=auS _
  block:=fun _ _ _=>rfl
  z:=rfl
  zn:=fun id p a hp ha=>(hbl _ (zL (Z:=Z) ⟨id,p.1,p.2,a,hp,ha,rfl⟩)).2
  zl:=hZ
  pk:=Pk.refl _ _ }
 refine calls_of_wp hf hb ?_;have hst:St B (Kj Z os) [] { n:=fn.ntmps,T:=fun t=>(vs[t]?).getD qU,H:=H,nid:=b,st:=[],pins:=eO 0 m.ps,gs:=fun _=>false } { tmps:=args.toArray++axV (fn.ntmps - args.toArray.size) undef,defers:=[] } w:=by
  refine⟨fun t=> ?_,⟨rfl,fun i T' tm h=>by simp at h⟩, ?_,rfl,fun t _=>xG args _ t,fun t g want y hy=> ?_,hH⟩
  ·rw[xG];show RT w _ _ ((vs[t]?).getD qU) _;cases hv:vs[t]? with
   | none=>
    have:args.length≤t:=by
     rw[k1.1];exact axW.1 hv
    show RT w _ _ qU (ar args t);have e0:ar args t=undef:=by simp[ar,awa this]
    rw[e0];rfl
   | some c=>
    have hlt:t < args.length:=by rw[k1.1];exact(auR.1 hv).1
    have hu:args[t]? =some (ar args t):=by simp[ar,hlt]
    exact(k1.2 t c _ hv hu).arw
  ·simp;omega
  ·have hy:(vs[t]?).getD qU= .gd g want y:=hy;cases hv:vs[t]? with
   | none=>rw[hv]at hy;cases hy
   | some c=>
    rw[hv]at hy;have hy:c= .gd g want y:=hy;have hlt:t < args.length:=by rw[k1.1];exact(auR.1 hv).1
    have hu:args[t]? =some (ar args t):=by simp[ar,hlt]
    have:=k1.2 t c _ hv hu;rw[hy]at this;exact this.elim
 refine hw B rfl _ _ _ _ hst (fun j hj=>k3.1 j (.inr (by have hj:b≤j:=hj;omega))) ⟨?_, ?_, ?_⟩
 ·intro β' a' w' s' h1 h2 h3 h4 h5;obtain⟨v',i1,i2⟩:=S6 (B:=B) h1 rfl rfl hlen h4 hok (show fin P fn m s'=some r by rw[← hP];exact h5);exact⟨h1.defers,v',i1,v',rfl,i2⟩
 ·intro β' a' w' s' h1 h2 h3 h4 h5;obtain⟨v',i1,i2⟩:=S6 (B:=B) h1 rfl rfl hlen h4 hok (show fin P fn m s'=some r by rw[← hP];exact h5);exact⟨h1.defers,v',i1,v',rfl,i2⟩
 ·intro id β' a' w' s' h1 h2 h3 h4 h5;cases h5
def aea(C:Cx)(inl:(Ω:Type)→Inl Ω)(fn:Func)(ys:List Nat)(l:Nat)(zs:List Nat)(m:aoi)(x:LTs m.ps):Option (LTs m.rs×LTs (bg m.ps)):=
 match fn.body with
 | some (.seq (.region _ o0 false) (.seq (.region _ ops true) rest))=>
  (Vq C (inl S) o0 o0.toList (agM fn.ntmps m.ps x) some).bind fun s1=>evX C (inl _) ops ys l zs s1 fun s'=>evk C inl rest _ .nil { nrm:=fin C.P fn m,ret:=fin C.P fn m,ext:=fun _ _=>none } s'
 | _=>none
def bnd(e:Edge):Bool:=awg .any e
def alx(ops:Array Oper)(m f:Nat):Bool:=
 axv m f&&axv f ops.size&&(au9 ops.size).all (fun i=>match ops[i]? with
  | some o=>o.guard.isNone&&o.after.toList.all (fun e=> !(bnd e)||axv e.on i)&&
   (!(axv m i)||auW i f||o.after.toList.any (fun e=>bnd e&&(auW e.on m||(axv m e.on&& !(auW e.on f)))))
  | none=>true)&&
 (au9 m).all (fun i=>(au9 (m+1)).any fun j=>axv i j&&match ops[j]? with
  | some o=>o.after.toList.any fun e=>bnd e&&auW e.on i
  | none=>false)
def alw{ops:Array Oper}{m f:Nat}(h:alx ops m f=true):XOk ops m f:=by
 simp only[alx,auF,avn]at h;obtain⟨⟨⟨h1,h2⟩,h3⟩,h4⟩:=h;have h1:m < f:=by simpa[ax2] using h1
 have h2:f < ops.size:=by simpa[ax2] using h2
 have at_: ∀ (i:Nat) (o:Oper),ops[i]? =some o→(o.guard.isNone=true∧ ∀ e∈o.after.toList,(!(bnd e)||axv e.on i)=true)∧
   (!(axv m i)||auW i f||o.after.toList.any (fun e=>bnd e&&(auW e.on m||(axv m e.on&& !(auW e.on f)))))=true:=by
  intro i o ho;have:=h3 i (avB.2 (avO.1 ho).1);rw[ho]at this;simp only[auF,avn]at this;exact this
 refine⟨h1,h2,fun i o ho=> ?_,fun i o e ho he hb=> ?_,fun i hi=> ?_,fun i hi1 hi2 hi3=> ?_⟩
 ·simpa using (at_ i o ho).1.1
 ·have:=(at_ i o ho).1.2 e (by simpa using he);rw[show bnd e=true from hb]at this;simpa[ax2] using this
 ·have:=h4 i (avB.2 hi);obtain⟨j,hj,hc⟩:=awL.1 this;rw[auF]at hc;obtain⟨c1,c2⟩:=hc;cases ho:ops[j]? with
  | none=>rw[ho]at c2;cases c2
  | some o=>
   rw[ho]at c2;obtain⟨e,he,hc⟩:=awL.1 c2;rw[auF]at hc;exact⟨j,o,e,by simpa[ax2] using c1,by have:=avB.1 hj;omega,ho,by simpa using he,hc.1,by simpa using hc.2⟩
 ·obtain⟨o,ho⟩: ∃ o,ops[i]? =some o:=⟨ops[i],by simp[hi2]⟩;have:=(at_ i o ho).2;have e1:axv m i=true:=by simpa[ax2] using hi1
  have e2:auW i f=false:=by rw[← awo,awY];exact hi3
  rw[e1,e2]at this;simp only[auG,ava]at this;obtain⟨e,he,hc⟩:=awL.1 this;rw[auF,avo,auF]at hc;refine⟨o,e,ho,by simpa using he,hc.1, ?_⟩;rcases hc.2 with h | h
  ·exact .inl (by simpa using h)
  ·refine .inr ⟨by simpa[ax2] using h.1,fun h'=> ?_⟩;rw[h']at h;simp at h
def akm{P:Program}(hP:C.P=P)(hm:P.follows .mixedOrders=true)(hC: ∀ B:anT,B.P=P→oW C B)(hI: ∀ B:anT,B.P=P→EQ C B inl){f:FuncId}{fn:Func}
  (hf:P.funcs[f]? =some fn)(aoA:(fn.name == "runtime.NumGoroutine")=false){i0 i1:Nat}{o0 ops:Array Oper}{rest:Code}
  (hb:fn.body=some (.seq (.region i0 o0 false) (.seq (.region i1 ops true) rest))){m:aoi}(hok:okM m fn.ntmps=true){l g:Nat}(hx:alx ops l g=true)
  (h1: ∀ x,aea C inl fn (au9 l) l (aft l ops.size) m x=m.g x)(h2: ∀ x,aea C inl fn (au9 l++[g]) l (WT l ops.size g) m x=m.g x):we P f m:=by
 refine aif hP hf aoA hb hok fun x r hr B hB β a w Q hst hfr hk=> ?_;have e1:=h1 x;have e2:=h2 x;rw[hr]at e1 e2;unfold aea at e1 e2;rw[hb]at e1 e2;simp only at e1 e2;obtain⟨s1,a1,a2⟩:=auI.1 e1;obtain⟨s1',b1,b2⟩:=auI.1 e2;rw[a1]at b1;cases b1;have hPB:C.P=B.P:=by rw[hP,hB]
 have hmB:B.P.follows .mixedOrders=true:=by rw[hB];exact hm
 have hCB:=hC B hB;have hIB:=hI B hB;refine wp_seq ?_;refine QM hPB hCB hIB a1 hfr hst ?_;intro β' a' w' s' k1 k2 k3 k4 k5;cases k5;refine wp_seq ?_;refine ag7 hPB hmB hCB hIB (alw hx) a2 b2 k2 k1 ?_;intro β2 a2' w2 s2 j1 j2 j3 j4 j5;exact HT hPB hmB hCB hIB rest .nil _ s2 r j5 j1 j2 (dq _ _) (by rw[j3,j4,k3,k4];exact hk)
def soX{P:Program}{C:Cx}{inl:(Ω:Type)→Inl Ω}{f:Nat}{d:Option Nat}{fn:Func}{m:aoi}(hC:OKC P C inl){i0 i1:Nat}{o0 ops:Array Oper}{rest:Code}
  (hf:fnB P f fn m=(some fn,false,true,true))(hb:fn.body=some (.seq (.region i0 o0 false) (.seq (.region i1 ops true) rest))){l g:Nat}(hx:alx ops l g=true)
  (h1: ∀ x,aea C inl fn (au9 l) l (aft l ops.size) m x=m.g x)(h2: ∀ x,aea C inl fn (au9 l++[g]) l (WT l ops.size g) m x=m.g x):SQ P (f,d,m):=by
 simp only[fnB,avs]at hf;exact⟨akm hC.p hC.m hC.c hC.i hf.1 hf.2.1 hb hf.2.2.1 hx h1 h2,hf.2.2.2⟩
end
end Go.VS
namespace Go.VS
open Go
section
variable {P:Program} {w:World} {H:Type} {aow:TypeId×Value→H} {base:Nat} {spare:Nat→Bool} {held:Bool}
def kZ{h:Sh}{c:CT}{t e:TypeId}{v:Value}{d:DataW H}{ps:List MemPlace}{r:Reach}{b0:Nat}(hs:ami h=some c)(hok:TY P 60 t c=true)(ht:P.underlying t=some (.slice e))(aog:aw2 P w r b0 t v)
  (hd:DataW.Trod aow P w base spare held t v d ps): ∃ x:LT h,QZ h x∧ ∀ (M:Nat→Prop) (e:Nat→Value),(∀ b,¬ M b)→Rel P w M e h x v []:=by
 obtain⟨a,len,cap,rfl⟩:=Go.WideShapes.okWide_slice ht aog;obtain⟨eR,hf⟩:=hd;exact agF hs (Zv 60 t c hok ⟨eR,d,ps,hf⟩)
end
def kI{H:Type}{enc:TypeId×Value→H}{a:Assume}{C:Checked}{os:Os}{f:FuncId}{fn:Func}{s:ChangeSpec}{conds:List PathCond}{apart fresh handsOn again:Bool}{X:World→Array Value→Prop}
  (hX: ∀ (w w':World) (args:Array Value),w.heap=w'.heap→X w args→X w' args)
  (own:ownKnob C.prog.godebug=none)(started:os.Started)(aqY:C.prog.inits.idxOf? f=none)(hfn:C.prog.funcs[f]? =some fn)
  (witness: ∃ (w:World) (tape:Tape) (i:Input),w.os=os∧(w.forCall tape i).Shaped C.prog∧i.vars=[]∧Input.okWide C.prog (w.forCall tape i) .any w.heap.size f i∧
   ((s.pre enc C.prog fn conds apart (w.forCall tape i).memory i.args∧X (w.forCall tape i).memory i.args)∧sizedMet enc C.prog fn (awx s) apart (w.forCall tape i).memory i.args)∧a.holds C.prog (lone (Frame.enter C.prog f i.args .normal) [] (w.forCall tape i)))
  (ap8: ∀ (W:World) (args:Array Value) (b0:Nat) (ds gs:List (DataW H)) (before:List MemPlace),W.ShapedOpen C.prog→(∀ (j:Nat) t v,fn.params[j]? =some t→args[j]? =some v→aw2 C.prog W .any b0 t v)→
   DataW.Whole enc C.prog fn.params.toList s.vars apart W args.toList ds gs before→X W args→
   Calls C.prog f args W fun e W'=> ∃ v,e= .returned v∧s.post enc C.prog fn apart fresh handsOn again W args v W'):
  ReturnsInHanded a C os f .any (fun w args=>(s.pre enc C.prog fn conds apart w args∧X w args)∧sizedMet enc C.prog fn (awx s) apart w args) (s.post enc C.prog fn apart fresh handsOn again):=by
 refine returnsInHanded_of_calls own started aqY witness ?_;intro w tape i _ hsh _ hok atQ _;obtain⟨_,_,_,fn',at4,_,_,_,_,aog⟩:=hok;have e:fn'=fn:=avD (at4.symm.trans hfn);subst e;obtain⟨⟨⟨ds,gs,before,hw,_⟩,hx⟩,_⟩:=atQ;refine(ap8 (w.forCall tape i) i.args _ ds gs before hsh aog (DataW.Whole.of_heap (w':=w.forCall tape i) (by rfl) hw) (hX _ _ _ (by rfl) hx)).mono fun e W' ⟨v,he,hp⟩=> ?_;subst he;exact ChangeSpec.post_blind hp
end Go.VS
end
