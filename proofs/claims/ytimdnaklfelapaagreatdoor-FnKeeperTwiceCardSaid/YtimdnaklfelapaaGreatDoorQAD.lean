/- Part 4. -/
import Derived.Laws.Entries
import Derived.ChangeKeysEq
import Derived.Test.YtimdnaklfelapaaGreatDoorQAC
open Array renaming toArray_toList→ay7,toList_setIfInBounds→ayB
open Bool renaming and_eq_true→auF,false_eq_true→awi,not_eq_true→awo
open Go.Addr renaming add_lit→awy
open Go.Result renaming andThen_ok→avP
open Go.Sem renaming run_bind→awb
open Go.World renaming cell?→ayw
open List renaming all_eq_true→avn,append_nil→avj,getElem?_drop→awh,getElem?_eq_some_iff→auR,getElem?_take→av7,length_nil→avf,mem_of_getElem?→au8,take_append_drop→awJ
open Nat renaming add_assoc→avI,add_mul→av4,add_zero→awR,beq_eq→awY,beq→auW,eq_of_beq_eq_true→ayb,le_of_ble_eq_true→avg,le_refl→auS,le_trans→avr,lt_of_lt_of_le→av8,mul_le_mul_right→avu
open Option.some renaming injEq→auU
set_option linter.unusedVariables false
set_option linter.unusedSimpArgs false
set_option linter.defProp false
noncomputable section
namespace Go.VS
open Go
def aD{α:Type}(f:Nat→α)(i:Nat)(v:α):upd f i v i=v:=by simp[upd]
def aM{α:Type}(f:Nat→α){i j:Nat}(v:α)(h:j≠i):upd f i v j=f j:=by
 have:auW j i=false:=by rw[← awo,awY];exact h
 simp[upd,this]
def aI{a b:Nat}(h:auW a b=true):a=b:=ayb h
def CI{a b:Nat}(h:auW a b=false):a≠b:=fun e=>by subst e;simp at h
def an6:AV→Bool
 | .un=>true
 | .lit _=>true
 | .sl _ _=>true
 | .ipt _ _ _=>true
 | .arr _ _=>true
 | _=>false
def afg(k:K)(x:Tof k):(enc k x).all an6=true:=by cases k<;>rfl
def fL(k:K)(x:Tof k){j:Nat}{c:AV}(h:(enc k x)[j]? =some c):an6 c=true:=
 avn.1 (afg k x) c (au8 h)
def RC.imm{w w':World}{β β':Beta}
  (hc: ∀ b o v,¬ MZ β b→w.cell? ⟨b,o,none⟩=some v→w'.cell? ⟨b,o,none⟩=some v)
  (hM: ∀ b,¬ MZ β b→b < w.heap.size→ ¬ MZ β' b){c:AV}{v:Value}(h:RC w β c v):an6 c=true→RC w' β' c v:=by
 induction h with
 | un h=>exact fun _=> .un h
 | lit h=>exact fun _=> .lit h
 | nil=>exact fun _=> .nil
 | @sl k xs b f cap n u hn hm hu hr ih=>
  intro _;cases xs with
  | nil=>obtain⟨rfl,_⟩:=hn;exact .nil
  | cons x l=>
   refine .sl u hn (hM b hm ?_) (fun i j hi hj=>hc _ _ _ hm (hu i j hi hj)) (fun i x j c h1 h2=>ih i x j c h1 h2 (fL k x h2));exact block_lt_of_cell (hu 0 0 (by simp) (qk k))
 | own h hs=>intro h;cases h
 | ptr h ha hi=>intro h;cases h
 | @ipt k x o b f u hm hu hr ih=>
  intro _;exact .ipt u (hM b hm (block_lt_of_cell (hu 0 (qk k)))) (fun j hj=>hc _ _ _ hm (hu j hj)) (fun j c h2=>ih j c h2 (fL k x h2))
def Kf(f:AV→AV)(w:World)(β:Beta)(w':World)(β':Beta):Prop:= ∀ c v,RC w β c v→RC w' β' (f c) v
section
variable {P:Program} {w:World}
def CK{t:TypeId}{b:Bool}(h:Yp P t=some b):(isAgg t).run P w= .ok b w:=by
 unfold Yp at h;cases hu:P.underlying t with
 | none=>rw[hu]at h;cases h
 | some d=>rw[hu]at h;unfold isAgg;simp only[awb,run_underlying hu,avP];cases d<;>simp at h<;>subst h<;>rfl
def aav{t:TypeId}(h:1≤P.cellsOf t): ∃ i,P.info? t=some i:=by
 unfold Program.cellsOf at h;cases hi:P.info? t with
 | none=>rw[hi]at h;simp at h
 | some i=>exact⟨i,rfl⟩
def nb{t:TypeId}(h:1≤P.cellsOf t):(sizeOf t).run P w= .ok (P.cellsOf t) w:=by
 obtain⟨i,hi⟩:=aav h;exact run_sizeOf _ hi
def Hy{β:Beta}{t:TypeId}{cs:List AV}{o:Nat}{v:AV}(h:wW P t cs o=some v){b f:Nat}{us:List Value}(hl:RL (RC w β) cs us)
  (hc: ∀ j u,us[j]? =some u→w.cell? ⟨b,f+j,none⟩=some u): ∃ u,(loadVar t ⟨b,f+o,none⟩).run P w= .ok u w∧R1 w β v u:=by
 unfold wW at h;cases ha:Yp P t with
 | none=>rw[ha]at h;cases h
 | some q=>
  rw[ha]at h;cases q with
  | true=>
   simp only at h;split at h
   ·rename_i hb;simp only[auF]at hb;have h1:=avg hb.1;have h2:=avg hb.2;cases h;have hlen:((us.drop o).take (P.cellsOf t)).length=P.cellsOf t:=by simp[hl.1];omega
    refine⟨.agg ((us.drop o).take (P.cellsOf t)).toArray, ?_,_,rfl,(hl.drop o).take _⟩;unfold loadVar;simp only[awb,CK ha,avP,auy,nb h2];have hr:=run_loadCells_list (P:=P) w ⟨b,f+o,none⟩ ((us.drop o).take (P.cellsOf t)) (fun j u hj=>by
     rw[awy];rw[av7]at hj;split at hj
     ·rw[awh]at hj;have:=hc _ _ hj;rw[avI];exact this
     ·cases hj)
    rw[hlen]at hr;rw[hr];rfl
   ·cases h
  | false=>
   simp only at h;obtain⟨u,hu,hr⟩:=hl.get h;refine⟨u, ?_, ?_⟩
   ·unfold loadVar;simp only[awb,CK ha,avP,awi,if_false];have:=hc _ _ hu;simp[this]
   ·cases v<;>first
     | exact hr
     | (cases hr;first | rfl | trivial)
     | trivial
def CX(g o:Nat)(t:TypeId)(fr:Nat×Nat): ∀ (vs:List Value) (i:Nat) (cur:Array Value) (w:World),w.heap[g]? =some (.cells cur t fr)→o+i+vs.length≤cur.size→
  (fr=(0,0)∨cur.size≤fr.1)→(∀ v∈vs,v.oneCell'=true)→
  (storeCells ⟨g,o,none⟩ vs i).run P w= .ok () (w.setRow g (cur.toList.take (o+i)++vs++cur.toList.drop (o+i+vs.length)).toArray)
 | [],i,cur,w,hg,_,_,_=>by
  simp only[storeCells,avj,avf,awR,awJ,ay7];rw[setRow_self w g cur t fr hg];rfl
 | v::rest,i,cur,w,hg,hl,hfr,h1=>by
  have hi:o+i < cur.size:=by simp at hl;omega
  have arq:(⟨g,o,none⟩:Addr).add i=⟨g,o+i,none⟩:=awy _ _ _;have anR:w.cell? ⟨g,o+i,none⟩=some cur[o+i]:=by simp[ayw,hg,hi]
  have at1:w.frozen? ⟨g,o+i,none⟩=false:=by
   obtain⟨lo,hi'⟩:=fr;simp only[World.frozen?,hg];rcases hfr with h | h
   ·cases h;simp
   ·simp only[Bool.and_eq_false_iff,decide_eq_false_iff_not];left;simp at h;omega
  have hst:(store ((⟨g,o,none⟩:Addr).add i) v).run P w= .ok () (w.setRow g (cur.setIfInBounds (o+i) v)):=by
   rw[arq,run_store P w _ v _ (h1 v (by simp)),anR];simp[at1,setCell_eq_setRow w g (o+i) cur t fr v hg]
  have ih:=CX g o t fr rest (i+1) (cur.setIfInBounds (o+i) v) (w.setRow g (cur.setIfInBounds (o+i) v)) (setRow_heap w g cur _ t _ hg) (by simp at hl ⊢; omega) (by simpa using hfr) (fun x hx=>h1 x (by simp[hx]));simp only[storeCells,awb,hst,avP,ih,setRow_setRow];congr 3;have e:=list_seg_step cur.toList (o+i) v rest (by simp at hl ⊢; omega);simpa[ayB,avI] using e
end
def R1.aoL{w:World}{β:Beta}{c:AV}{v:Value}(h:RC w β c v):R1 w β c v:=by
 cases h with
 | un h=>trivial
 | lit h=>rfl
 | nil=>exact RC.nil
 | sl u hn hm hu hr=>exact RC.sl u hn hm hu hr
 | own h hs=>exact RC.own h hs
 | ptr h ha hi=>exact RC.ptr h ha hi
 | ipt u hm hu hr=>exact RC.ipt u hm hu hr
section
variable {B:anT} {β β':Beta} {H:Hp} {w w':World} {f:AV→AV}
def R1.map(hf: ∀ c,an6 c=true→f c=c)(hk:Kf f w β w' β'){c:AV}{v:Value}(h:R1 w β c v):R1 w' β' (qI f c) v:=by
 cases c<;>simp only[R1]at h
 case un=>show R1 w' β' (f .un) v;rw[hf .un rfl];trivial
 case lit v'=>show R1 w' β' (f (.lit v')) v;rw[hf _ rfl];exact h
 case sl=>exact R1.aoL (hk _ _ h)
 case own=>exact R1.aoL (hk _ _ h)
 case ptr=>exact R1.aoL (hk _ _ h)
 case ipt=>exact R1.aoL (hk _ _ h)
 case arr k xs=>
  obtain⟨us,e,hl,hr⟩:=h;show R1 w' β' (f (.arr k xs)) v;rw[hf _ rfl];refine⟨us,e,hl,fun i x j c u h1 h2 h3=> ?_⟩;have:=hk _ _ (hr i x j c u h1 h2 h3);rwa[hf _ (fL k x h2)]at this
 case agg cs=>
  obtain⟨us,e,hr⟩:=h;exact⟨us,e,hr.map f hk⟩
def R2.ao4{w:World}{β:Beta}{c:AV}{v:Value}(h:R1 w β c v):R2 w β c v:=by cases c<;>first | exact h | exact h.elim
def R2.map(hf: ∀ c,an6 c=true→f c=c)(hk:Kf f w β w' β'){c:AV}{v:Value}(h:R2 w β c v):R2 w' β' (rY f c) v:=by
 match c,h with
 | .tup vs,⟨us,e,hr⟩=>exact⟨us,e,hr.map _ fun c u=>R1.map hf hk⟩
 | .un,h=>exact R2.ao4 (R1.map hf hk (c:= .un) h)
 | .lit a,h=>exact R2.ao4 (R1.map hf hk (c:= .lit a) h)
 | .sl k xs,h=>exact R2.ao4 (R1.map hf hk (c:= .sl k xs) h)
 | .arr k xs,h=>exact R2.ao4 (R1.map hf hk (c:= .arr k xs) h)
 | .own id,h=>exact R2.ao4 (R1.map hf hk (c:= .own id) h)
 | .ptr a b c d,h=>exact R2.ao4 (R1.map hf hk (c:= .ptr a b c d) h)
 | .ipt k x o,h=>exact R2.ao4 (R1.map hf hk (c:= .ipt k x o) h)
 | .agg cs,h=>exact R2.ao4 (R1.map hf hk (c:= .agg cs) h)
 | .gd a b c,h=>exact R2.ao4 (R1.map hf hk (c:= .gd a b c) h)
def RT.ao3{w:World}{β:Beta}{tm:Nat→Value}{c:AV}{v:Value}(h:R2 w β c v):RT w β tm c v:=by cases c<;>first | exact h | exact h.elim
def RT.map(hf: ∀ c,an6 c=true→f c=c)(hk:Kf f w β w' β'){tm:Nat→Value}{c:AV}{v:Value}(h:RT w β tm c v):RT w' β' tm (yi f c) v:=by
 match c,h with
 | .gd g want x,h=>exact⟨fun e=>R2.map hf hk (h.1 e),h.2⟩
 | .un,h=>exact RT.ao3 (R2.map hf hk (c:= .un) h)
 | .lit a,h=>exact RT.ao3 (R2.map hf hk (c:= .lit a) h)
 | .sl k xs,h=>exact RT.ao3 (R2.map hf hk (c:= .sl k xs) h)
 | .arr k xs,h=>exact RT.ao3 (R2.map hf hk (c:= .arr k xs) h)
 | .own id,h=>exact RT.ao3 (R2.map hf hk (c:= .own id) h)
 | .ptr a b c d,h=>exact RT.ao3 (R2.map hf hk (c:= .ptr a b c d) h)
 | .ipt k x o,h=>exact RT.ao3 (R2.map hf hk (c:= .ipt k x o) h)
 | .agg cs,h=>exact RT.ao3 (R2.map hf hk (c:= .agg cs) h)
 | .tup vs,h=>exact RT.ao3 (R2.map hf hk (c:= .tup vs) h)
def Hs.aqV(h:Hs B β H w)(hf: ∀ c,an6 c=true→f c=c)(hk:Kf f w β w' β'){id:Nat}{ob:Option Ob}
  (hβ: ∀ j,j≠id→β' j=β j)
  (hid:(β' id=none∧ob=none)∨ ∃ ob' hd n,ob=some ob'∧β' id=some (hd,n)∧aoo B.P w' β' id ob'∧ ∀ a,adr hd=some a→(∃ p a0,β id=some p∧adr p.1=some a0∧a0.block=a.block)∨(w.heap.size≤a.block∧a.block < w'.heap.size))
  (aoP: ∀ j p a,j≠id→β j=some p→adr p.1=some a→w'.heap[a.block]? =w.heap[a.block]?)
  (hos:w'.os=w.os)(aoy:w'.tape=w.tape)(aoI:w'.output=w.output)(anW:w.heap.size≤w'.heap.size)
  (apN: ∀ b,b < B.w0.heap.size→ ¬ B.O b→w'.heap[b]? =w.heap[b]?)(hz: ∀ b,β'.Z b→β.Z b∨(β' id=none∧ ∃ p a0,β id=some p∧adr p.1=some a0∧a0.block=b))(hpk:Pk B.P w w'):
  Hs { B with Z:=β'.Z } β' (upd (fun j=>iY f (H j)) id ob) w':=by
 have hold: ∀ b,MB β b→(B.O b∨B.w0.heap.size≤b)∧b < w'.heap.size:=fun b hb=>⟨(h.old b hb).1,av8 (h.old b hb).2 anW⟩;have apm: ∀ hd n a,β' id=some (hd,n)→adr hd=some a→MB β a.block∧(∃ p a0,β id=some p∧adr p.1=some a0∧a0.block=a.block)∨(w.heap.size≤a.block∧a.block < w'.heap.size):=by
  intro hd n a h1 h2;rcases hid with⟨h3,_⟩ | ⟨ob',hd',n',_,h3,_,h4⟩
  ·rw[h3]at h1;cases h1
  ·rw[h3]at h1;cases h1;rcases h4 a h2 with⟨p,a0,h5,h6,h7⟩ | h5
   ·exact .inl ⟨⟨id,p.1,p.2,a0,h5,h6,h7⟩,p,a0,h5,h6,h7⟩
   ·exact .inr h5
 constructor
 ·intro j ob' hj;by_cases e:j=id
  ·subst e;rw[aD]at hj;rcases hid with⟨_,h3⟩ | ⟨asT,hd',n',h3,_,h5,_⟩
   ·rw[h3]at hj;cases hj
   ·rw[h3]at hj;cases hj;exact h5
  ·rw[aM _ _ e]at hj;cases hj0:H j with
   | none=>simp[hj0,iY]at hj
   | some ob0=>
    have hob:=h.aoq j ob0 hj0;rw[hj0]at hj;cases ob0 with
    | box e' cs=>
     simp only[iY,auU]at hj;subst hj;obtain⟨b,us,h1,h2,h3⟩:=hob;refine⟨b,us,by rw[hβ j e];exact h1, ?_,h3.map f hk⟩;have e1:w'.heap[b]? =w.heap[b]? :=aoP j _ ⟨b,0,none⟩ e h1 rfl;rw[e1];exact h2
    | row e' fz k xs=>
     simp only[iY,auU]at hj;subst hj;obtain⟨hd,h1,h2⟩:=hob;refine⟨hd,by rw[hβ j e];exact h1, ?_⟩;rcases h2 with h2 | ⟨b,f',cap,us,fr,hd',hh,hfr,hn,hc,hs,hr⟩
     ·exact .inl h2
     ·have ha:adr hd=some ⟨b,f',none⟩:=by rw[hd'];rfl
      have e1:w'.heap[b]? =w.heap[b]? :=aoP j _ _ e h1 ha;refine .inr ⟨b,f',cap,us,fr,hd',by rw[e1];exact hh,hfr,hn,hc,hs,fun i x j c u a1 a2 a3=> ?_⟩;have:=hk _ _ (hr i x j c u a1 a2 a3);rwa[hf _ (fL k x a2)]at this
    | arr e' k xs=>
     simp only[iY,auU]at hj;subst hj;obtain⟨b,us,h1,h2,h3,h4,h5⟩:=hob;have e1:w'.heap[b]? =w.heap[b]? :=aoP j _ ⟨b,0,none⟩ e h1 rfl;refine⟨b,us,by rw[hβ j e];exact h1,by rw[e1];exact h2,h3,h4,fun i x j c u a1 a2 a3=> ?_⟩;have:=hk _ _ (h5 i x j c u a1 a2 a3);rwa[hf _ (fL k x a2)]at this
 ·intro j p hj;by_cases e:j=id
  ·subst e;rcases hid with⟨h3,_⟩ | ⟨asT,hd',n',h3,_,_,_⟩
   ·rw[h3]at hj;cases hj
   ·exact⟨asT,by rw[aD];exact h3⟩
  ·rw[hβ j e]at hj;obtain⟨ob',ho⟩:=h.dom j p hj;rw[aM _ _ e,ho];cases ob'<;>exact⟨_,rfl⟩
 ·intro i j p q a1 a2 hi hj h1 h2 hb;by_cases ei:i=id<;>by_cases ej:j=id
  ·rw[ei,ej]
  ·subst ei;rw[hβ j ej]at hj;rcases apm p.1 p.2 a1 hi h1 with⟨_,p0,a0,h5,h6,h7⟩ | h5
   ·exact h.inj _ _ _ _ _ _ h5 hj h6 h2 (h7.trans hb)
   ·have:=(h.old a2.block ⟨j,q.1,q.2,a2,hj,h2,rfl⟩).2;omega
  ·subst ej;rw[hβ i ei]at hi;rcases apm q.1 q.2 a2 hj h2 with⟨_,p0,a0,h5,h6,h7⟩ | h5
   ·exact h.inj _ _ _ _ _ _ hi h5 h1 h6 (hb.trans h7.symm)
   ·have:=(h.old a1.block ⟨i,p.1,p.2,a1,hi,h1,rfl⟩).2;omega
  ·rw[hβ i ei]at hi;rw[hβ j ej]at hj;exact h.inj i j p q a1 a2 hi hj h1 h2 hb
 ·rintro b ⟨j,hd,n,a,hj,ha,hb⟩;by_cases e:j=id
  ·subst e;rcases apm hd n a hj ha with⟨h5,_⟩ | h5
   ·exact hold b (hb▸h5)
   ·exact⟨.inr (by have:=h.size;show B.w0.heap.size≤b;omega),by omega⟩
  ·rw[hβ j e]at hj;exact hold b ⟨j,hd,n,a,hj,ha,hb⟩
 ·rw[hos];exact h.os
 ·rw[aoy];exact h.tape
 ·rw[aoI];exact h.output
 ·exact avr h.size anW
 ·intro b hb hO;rw[apN b hb hO];exact h.block b hb hO
 ·rfl
 ·intro j p a hj ha hzb;rcases hz _ hzb with hzb | ⟨h1,p0,a0,h2,h3,h4⟩
  ·by_cases e:j=id
   ·subst e;rcases apm p.1 p.2 a hj ha with⟨_,p0,a0,h5,h6,h7⟩ | h5
    ·exact h.zn _ _ _ h5 h6 (h7▸hzb)
    ·have:=h.zl _ hzb;omega
   ·rw[hβ j e]at hj;exact h.zn j p a hj ha hzb
  ·by_cases e:j=id
   ·subst e;rw[h1]at hj;cases hj
   ·rw[hβ j e]at hj;exact e (h.inj _ _ _ _ _ _ hj h2 ha h3 h4.symm)
 ·intro b hb;rcases hz _ hb with hb | ⟨_,p0,a0,h2,h3,h4⟩
  ·exact av8 (h.zl b hb) anW
  ·exact(hold b ⟨id,p0.1,p0.2,a0,h2,h3,h4⟩).2
 ·exact h.pk.trans hpk
def Hs.aqW(h:Hs B β H w)(hf: ∀ c,an6 c=true→f c=c)(hk:Kf f w β w' β'){id:Nat}{ob:Option Ob}
  (hβ: ∀ j,j≠id→β' j=β j)
  (hid:(β' id=none∧ob=none)∨ ∃ ob' hd n,ob=some ob'∧β' id=some (hd,n)∧aoo B.P w' β' id ob'∧ ∀ a,adr hd=some a→(∃ p a0,β id=some p∧adr p.1=some a0∧a0.block=a.block)∨(w.heap.size≤a.block∧a.block < w'.heap.size))
  (aoP: ∀ j p a,j≠id→β j=some p→adr p.1=some a→w'.heap[a.block]? =w.heap[a.block]?)
  (hos:w'.os=w.os)(aoy:w'.tape=w.tape)(aoI:w'.output=w.output)(anW:w.heap.size≤w'.heap.size)
  (apN: ∀ b,b < B.w0.heap.size→ ¬ B.O b→w'.heap[b]? =w.heap[b]?)(hz:β'.Z=β.Z)(hpk:Pk B.P w w'):
  Hs B β' (upd (fun j=>iY f (H j)) id ob) w':=by
 have:=h.aqV hf hk hβ hid aoP hos aoy aoI anW apN (fun b hb=> .inl (by rw[← hz];exact hb)) hpk;have e:{ B with Z:=β'.Z } =B:=by
  have h1:=h.z;rw[hz,h1]
 rwa[e]at this
def amZ{id:Nat}{b:Nat}(h:MB (β.up id none) b):MB β b:=by
 obtain⟨j,hd,n,a,hj,ha,hb⟩:=h;by_cases e:j=id
 ·subst e;rw[Beta.aox]at hj;cases hj
 ·rw[Beta.aoT _ _ e]at hj;exact⟨j,hd,n,a,hj,ha,hb⟩
def al0{id:Nat}{b:Nat}(h:MZ (β.up id none) b):MZ β b:=h.imp amZ fun h=>h
def gz(id:Nat): ∀ c,an6 c=true→kl1 id c=c:=by
 intro c h;cases c<;>first | rfl | cases h
def Pl(id:Nat)(k:K)(xs:List (Tof k)): ∀ c,an6 c=true→fz1 id k xs c=c:=by
 intro c h;cases c<;>first | rfl | cases h
def Kf.kill{id:Nat}(hβ: ∀ j,j≠id→β' j=β j)
  (hc: ∀ b o v,¬ MZ β b→w.cell? ⟨b,o,none⟩=some v→w'.cell? ⟨b,o,none⟩=some v)
  (hM: ∀ b,¬ MZ β b→b < w.heap.size→ ¬ MZ β' b):Kf (kl1 id) w β w' β':=by
 intro c v h;have aob:=h.one;cases h with
 | @own j _ n h hs=>
  simp only[kl1];split
  ·exact .un aob
  ·rename_i hb;exact .own (by rw[hβ _ (CI hb)];exact h) hs
 | @ptr j sz i o hd n b f h ha hi=>
  simp only[kl1];split
  ·exact .un aob
  ·rename_i hb;exact .ptr (by rw[hβ _ (CI hb)];exact h) ha hi
 | un h=>exact .un h
 | lit h=>exact .lit h
 | nil=>exact .nil
 | sl u hn hm hu hr=>exact RC.imm hc hM (.sl u hn hm hu hr) rfl
 | ipt u hm hu hr=>exact RC.imm hc hM (.ipt u hm hu hr) rfl
def Hs.aqZ(h:Hs B β H w)(id:Nat):Hs B (β.up id none) (upd (fun j=>iY (kl1 id) (H j)) id none) w∧Kf (kl1 id) w β w (β.up id none):=
 have hk:Kf (kl1 id) w β w (β.up id none):=Kf.kill (fun j e=>aM _ _ e) (fun _ _ _ _ h=>h) (fun _ h _ hm=>h (al0 hm))
 ⟨h.aqW (gz id) hk (fun j e=>aM _ _ e) (.inl ⟨aD _ _ _,rfl⟩) (fun _ _ _ _ _ _=>rfl) rfl rfl rfl (auS _) (fun _ _ _=>rfl) rfl (Pk.refl _ _),hk⟩
def Hs.kill(h:Hs B β H w)(id:Nat): ∃ β',Hs B β' (upd (fun j=>iY (kl1 id) (H j)) id none) w∧Kf (kl1 id) w β w β':=⟨_,h.aqZ id⟩
def Hs.aoQ(h:Hs B β H w){id:Nat}{e:TypeId}{fz:Bool}{k:K}{xs:List (Tof k)}(hid:H id=some (.row e fz k xs)):
  Hs B (β.up id none) (upd (fun j=>iY (fz1 id k xs) (H j)) id none) w∧Kf (fz1 id k xs) w β w (β.up id none):=by
 have hM: ∀ b,¬ MZ β b→b < w.heap.size→ ¬ MZ (β.up id none) b:=fun _ h _ hm=>h (al0 hm);obtain⟨hd,hb,ar6⟩:=h.aoq id _ hid;have hk:Kf (fz1 id k xs) w β w (β.up id none):=by
  intro c v hc;have aob:=hc.one;cases hc with
  | @own j _ n h1 hs=>
   simp only[fz1];split
   ·rename_i hbq;obtain rfl:=aI hbq;rw[hb]at h1;cases h1;rcases ar6 with⟨e1,e2⟩ | ⟨b,f',cap,us,fr,hd',hh,hfr,hn,ape,hsz,hr⟩
    ·subst e1;subst e2;exact .nil
    ·subst hd';have as8:adr (.slice (some ⟨b,f',none⟩) xs.length cap)=some ⟨b,f',none⟩:=rfl;have anR: ∀ i j,i < xs.length→j < ks k→f'+(i * ks k+j) < us.size:=by
      intro i j hi hj;have h1:(i+1) * ks k≤cap * ks k:=avu _ (by omega);rw[av4]at h1;omega
     refine .sl (fun i j=>us.getD (f'+(i * ks k+j)) undef) ⟨rfl,hn⟩ ?_ (fun i j hi hj=> ?_) (fun i x j c h2 h3=> ?_)
     ·rintro(⟨j',hd2,n2,a2,h2,h3,h4⟩ | hz)
      ·by_cases e':j'=j
       ·subst e';rw[Beta.aox]at h2;cases h2
       ·rw[Beta.aoT _ _ e']at h2;exact e' (h.inj _ _ _ _ _ _ h2 hb h3 as8 h4)
      ·exact h.zn _ _ _ hb as8 hz
     ·rw[cell_of_row w b _ us e fr hh];have:=anR i j hi hj;simp[this]
     ·have hi:i < xs.length:=(auR.1 h2).1;have hj:j < ks k:=by rw[← bG k x];exact(auR.1 h3).1
      have:=anR i j hi hj;have h5:=hr i x j c (us.getD (f'+(i * ks k+j)) undef) h2 h3 (by simp[this]);exact RC.imm (fun _ _ _ _ h=>h) hM h5 (fL k x h3)
   ·rename_i hbq;exact .own (by rw[Beta.aoT _ _ (CI hbq)];exact h1) hs
  | @ptr j sz i o hd n b f h1 ha hi=>
   simp only[fz1];split
   ·exact .un aob
   ·rename_i hbq;exact .ptr (by rw[Beta.aoT _ _ (CI hbq)];exact h1) ha hi
  | un h=>exact .un h
  | lit h=>exact .lit h
  | nil=>exact .nil
  | sl u hn hm hu hr=>exact RC.imm (fun _ _ _ _ h=>h) hM (.sl u hn hm hu hr) rfl
  | ipt u hm hu hr=>exact RC.imm (fun _ _ _ _ h=>h) hM (.ipt u hm hu hr) rfl
 exact⟨h.aqW (Pl id k xs) hk (fun j e=>aM _ _ e) (.inl ⟨aD _ _ _,rfl⟩) (fun _ _ _ _ _ _=>rfl) rfl rfl rfl (auS _) (fun _ _ _=>rfl) rfl (Pk.refl _ _),hk⟩
def Hs.freeze(h:Hs B β H w){id:Nat}{e:TypeId}{fz:Bool}{k:K}{xs:List (Tof k)}(hid:H id=some (.row e fz k xs)):
  ∃ β',Hs B β' (upd (fun j=>iY (fz1 id k xs) (H j)) id none) w∧Kf (fz1 id k xs) w β w β':=⟨_,h.aoQ hid⟩
end
end Go.VS
end
