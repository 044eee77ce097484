/- Part 4. -/
import Derived.Laws.Entries
import Derived.ChangeKeysEq
import Derived.Test.YtadnafhbeojhoaaGreatDoorQAC
open Array renaming toArray_toList->sa,toList_setIfInBounds->sW
open Bool renaming and_eq_true->AI,false->A3,false_eq_true->Hh,not_eq_true->Ha,true->A1
open Go.Addr renaming add_lit->Gs
open Go.Result renaming andThen_ok->Er
open Go.Sem renaming run_bind->El
open Go.World renaming cell?->Lw
open List renaming all_eq_true->Cr,append_nil->CH,getElem?_drop->Hd,getElem?_eq_some_iff->BP,getElem?_take->Gu,length_nil->C2,mem_of_getElem?->Cg,take_append_drop->Kh
open Nat renaming add_assoc->DH,add_mul->EP,add_zero->Hn,beq->Aj,beq_eq->HU,eq_of_beq_eq_true->YS,le_of_ble_eq_true->DQ,le_refl->As,le_trans->CB,lt_of_lt_of_le->Gw,mul_le_mul_right->E6
open Option renaming none->U,some->I
open Option.some renaming injEq->Bv
set_option linter.all false
noncomputable section
namespace Go.VS
open Go
def Bl{α:Type}(f:Nat->α)(i:Nat)(v:α):upd f i v i=v:=by simp[upd]
def BE{α:Type}(f:Nat->α){i j:Nat}(v:α)(h:j≠i):upd f i v j=f j:=by
 have:Aj j i=A3:=by rw[← Ha,HU];exact h
 simp[upd,this]
def Bn{a b:Nat}(h:Aj a b=A1):a=b:=YS h
def TW{a b:Nat}(h:Aj a b=A3):a≠b:=λe=>by subst e;simp at h
def GM:AV->Bool
 | .un=>A1
 | .lit _=>A1
 | .sl _ _=>A1
 | .ipt _ _ _=>A1
 | .arr _ _=>A1
 | _=>A3
def acp(k:K)(x:Tof k):(enc k x).all GM=A1:=by cases k<;>rfl
def IE(k:K)(x:Tof k){j:Nat}{c:AV}(h:(enc k x)[j]? =I c):GM c=A1:=
 Cr.1 (acp k x) c (Cg h)
def RC.imm{w w':World}{β β':Beta}
  (hc:∀b o v,¬MZ β b->w.cell? ⟨b,o,U⟩=I v->w'.cell? ⟨b,o,U⟩=I v)
  (hM:∀b,¬MZ β b->b<w.heap.size->¬MZ β' b){c:AV}{v:Value}(h:RC w β c v):GM c=A1->RC w' β' c v:=by
 induction h with
 | un h=>exact λ_=> .un h
 | lit h=>exact λ_=> .lit h
 | nil=>exact λ_=> .nil
 | @sl k xs b f cap n u hn hm hu hr ih=>
  intro _;cases xs with
  | nil=>obtain⟨rfl,_⟩:=hn;exact .nil
  | cons x l=>
   refine .sl u hn (hM b hm ?_) (λi j hi hj=>hc _ _ _ hm<|hu i j hi hj) (λi x j c h1 h2=>ih i x j c h1 h2<|IE k x h2);exact block_lt_of_cell<|hu 0 0 (by simp)<|Hc k
 | own h hs=>intro h;cases h
 | ptr h ha hi=>intro h;cases h
 | @ipt k x o b f u hm hu hr ih=>
  intro _;exact .ipt u (hM b hm<|block_lt_of_cell<|hu 0<|Hc k) (λj hj=>hc _ _ _ hm<|hu j hj) λj c h2=>ih j c h2<|IE k x h2
def Kf(f:AV->AV)(w:World)(β:Beta)(w':World)(β':Beta):Prop:=∀c v,RC w β c v->RC w' β' (f c) v
section
variable {P:Program} {w:World}
def U4{t:TypeId}{b:Bool}(h:LO P t=I b):(isAgg t).run P w= .ok b w:=by
 unfold LO at h;cases hu:P.underlying t with
 | none=>rw[hu]at h;cases h
 | some d=>rw[hu]at h;unfold isAgg;simp only[El,run_underlying hu,Er];cases d<;>simp at h<;>subst h<;>rfl
def ahz{t:TypeId}(h:1<=P.cellsOf t):∃i,P.info? t=I i:=by
 unfold Program.cellsOf at h;cases hi:P.info? t with
 | none=>rw[hi]at h;simp at h
 | some i=>exact⟨i,rfl⟩
def KO{t:TypeId}(h:1<=P.cellsOf t):(sizeOf t).run P w= .ok (P.cellsOf t) w:=by
 obtain⟨i,hi⟩:=ahz h;exact run_sizeOf _ hi
def fV{β:Beta}{t:TypeId}{cs:List AV}{o:Nat}{v:AV}(h:HB P t cs o=I v){b f:Nat}{us:List Value}(hl:RL (RC w β) cs us)
  (hc:∀j u,us[j]? =I u->w.cell? ⟨b,f+j,U⟩=I u):∃u,(loadVar t ⟨b,f+o,U⟩).run P w= .ok u w/\R1 w β v u:=by
 unfold HB at h;cases ha:LO P t with
 | none=>rw[ha]at h;cases h
 | some q=>
  rw[ha]at h;cases q with
  | true=>
   simp only at h;split at h
   .rename_i hb;simp only[AI]at hb;have h1:=DQ hb.1;have h2:=DQ hb.2;cases h;have hlen:((us.drop o).take<|P.cellsOf t).length=P.cellsOf t:=by simp[hl.1];omega
    refine⟨.agg ((us.drop o).take<|P.cellsOf t).toArray, ?_,_,rfl,(hl.drop o).take _⟩;unfold loadVar;simp only[El,U4 ha,Er,A5,KO h2];have hr:=run_loadCells_list (P:=P) w ⟨b,f+o,U⟩ ((us.drop o).take<|P.cellsOf t) (λj u hj=>by
     rw[Gs];rw[Gu]at hj;split at hj
     .rw[Hd]at hj;have:=hc _ _ hj;rw[DH];exact this
     .cases hj)
    rw[hlen]at hr;rw[hr];rfl
   .cases h
  | false=>
   simp only at h;obtain⟨u,hu,hr⟩:=hl.get h;refine⟨u, ?_, ?_⟩
   .unfold loadVar;simp only[El,U4 ha,Er,Hh,if_false];have:=hc _ _ hu;simp[this]
   .cases v<;>first
     | exact hr
     | (cases hr;first|rfl|trivial)
     | trivial
def aV(g o:Nat)(t:TypeId)(fr:Nat×Nat):∀(vs:List Value) (i:Nat) (cur:Array Value) (w:World),w.heap[g]? =I (.cells cur t fr)->o+i+vs.length<=cur.size->
  (fr=(0,0)\/cur.size<=fr.1)->(∀v∈vs,v.oneCell'=A1)->
  (storeCells ⟨g,o,U⟩ vs i).run P w= .ok () (w.setRow g (cur.toList.take (o+i)++vs++cur.toList.drop (o+i+vs.length)).toArray)
 | [],i,cur,w,hg,_,_,_=>by
  simp only[storeCells,CH,C2,Hn,Kh,sa];rw[setRow_self w g cur t fr hg];rfl
 | v::rest,i,cur,w,hg,hl,hfr,h1=>by
  have hi:o+i<cur.size:=by simp at hl;omega
  have rX:(⟨g,o,U⟩:Addr).add i=⟨g,o+i,U⟩:=Gs _ _ _;have Cv:w.cell? ⟨g,o+i,U⟩=I cur[o+i]:=by simp[Lw,hg,hi]
  have aj7:w.frozen? ⟨g,o+i,U⟩=A3:=by
   obtain⟨lo,hi'⟩:=fr;simp only[World.frozen?,hg];obtain h|h:=hfr
   .cases h;simp
   .simp only[Bool.and_eq_false_iff,decide_eq_false_iff_not];left;simp at h;omega
  have hst:(store ((⟨g,o,U⟩:Addr).add i) v).run P w= .ok () (w.setRow g<|cur.setIfInBounds (o+i) v):=by
   rw[rX,run_store P w _ v _<|h1 v<|by simp,Cv];simp[aj7,setCell_eq_setRow w g (o+i) cur t fr v hg]
  have ih:=aV g o t fr rest (i+1) (cur.setIfInBounds (o+i) v) (w.setRow g<|cur.setIfInBounds (o+i) v) (setRow_heap w g cur _ t _ hg) (by simp at hl ⊢; omega) (by simpa using hfr) (λx hx=>h1 x<|by simp[hx]);simp only[storeCells,El,hst,Er,ih,setRow_setRow];congr 3;have e:=list_seg_step cur.toList (o+i) v rest (by simp at hl ⊢; omega);simpa[sW,DH] using e
end
def R1.Ml{w:World}{β:Beta}{c:AV}{v:Value}(h:RC w β c v):R1 w β c v:=by
 cases h with
 | un h=>trivial
 | lit h=>rfl
 | nil=>exact RC.nil
 | sl u hn hm hu hr=>exact RC.sl u hn hm hu hr
 | own h hs=>exact RC.own h hs
 | ptr h ha hi=>exact RC.ptr h ha hi
 | ipt u hm hu hr=>exact RC.ipt u hm hu hr
section
variable {B:Be} {β β':Beta} {H:Hp} {w w':World} {f:AV->AV}
def R1.map(hf:∀c,GM c=A1->f c=c)(hk:Kf f w β w' β'){c:AV}{v:Value}(h:R1 w β c v):R1 w' β' (Ft f c) v:=by
 cases c<;>simp only[R1]at h
 case un=>show R1 w' β' (f .un) v;rw[hf .un rfl];trivial
 case lit v'=>show R1 w' β' (f<|.lit v') v;rw[hf _ rfl];exact h
 case sl=>exact R1.Ml<|hk _ _ h
 case own=>exact R1.Ml<|hk _ _ h
 case ptr=>exact R1.Ml<|hk _ _ h
 case ipt=>exact R1.Ml<|hk _ _ h
 case arr k xs=>
  obtain⟨us,e,hl,hr⟩:=h;show R1 w' β' (f<|.arr k xs) v;rw[hf _ rfl];refine⟨us,e,hl,λi x j c u h1 h2 h3=> ?_⟩;have:=hk _ _<|hr i x j c u h1 h2 h3;rwa[hf _<|IE k x h2]at this
 case agg cs=>
  obtain⟨us,e,hr⟩:=h;exact⟨us,e,hr.map f hk⟩
def R2.HP{w:World}{β:Beta}{c:AV}{v:Value}(h:R1 w β c v):R2 w β c v:=by cases c<;>first|exact h|exact h.elim
def R2.map(hf:∀c,GM c=A1->f c=c)(hk:Kf f w β w' β'){c:AV}{v:Value}(h:R2 w β c v):R2 w' β' (GA f c) v:=by
 match c,h with
 | .tup vs,⟨us,e,hr⟩=>exact⟨us,e,hr.map _ λc u=>R1.map hf hk⟩
 | .un,h=>exact R2.HP<|R1.map hf hk (c:= .un) h
 | .lit a,h=>exact R2.HP<|R1.map hf hk (c:= .lit a) h
 | .sl k xs,h=>exact R2.HP<|R1.map hf hk (c:= .sl k xs) h
 | .arr k xs,h=>exact R2.HP<|R1.map hf hk (c:= .arr k xs) h
 | .own id,h=>exact R2.HP<|R1.map hf hk (c:= .own id) h
 | .ptr a b c d,h=>exact R2.HP<|R1.map hf hk (c:= .ptr a b c d) h
 | .ipt k x o,h=>exact R2.HP<|R1.map hf hk (c:= .ipt k x o) h
 | .agg cs,h=>exact R2.HP<|R1.map hf hk (c:= .agg cs) h
 | .gd a b c,h=>exact R2.HP<|R1.map hf hk (c:= .gd a b c) h
def RT.HC{w:World}{β:Beta}{tm:Nat->Value}{c:AV}{v:Value}(h:R2 w β c v):RT w β tm c v:=by cases c<;>first|exact h|exact h.elim
def RT.map(hf:∀c,GM c=A1->f c=c)(hk:Kf f w β w' β'){tm:Nat->Value}{c:AV}{v:Value}(h:RT w β tm c v):RT w' β' tm (En f c) v:=by
 match c,h with
 | .gd g want x,h=>exact⟨λe=>R2.map hf hk<|h.1 e,h.2⟩
 | .un,h=>exact RT.HC<|R2.map hf hk (c:= .un) h
 | .lit a,h=>exact RT.HC<|R2.map hf hk (c:= .lit a) h
 | .sl k xs,h=>exact RT.HC<|R2.map hf hk (c:= .sl k xs) h
 | .arr k xs,h=>exact RT.HC<|R2.map hf hk (c:= .arr k xs) h
 | .own id,h=>exact RT.HC<|R2.map hf hk (c:= .own id) h
 | .ptr a b c d,h=>exact RT.HC<|R2.map hf hk (c:= .ptr a b c d) h
 | .ipt k x o,h=>exact RT.HC<|R2.map hf hk (c:= .ipt k x o) h
 | .agg cs,h=>exact RT.HC<|R2.map hf hk (c:= .agg cs) h
 | .tup vs,h=>exact RT.HC<|R2.map hf hk (c:= .tup vs) h
def Hs.acy(h:Hs B β H w)(hf:∀c,GM c=A1->f c=c)(hk:Kf f w β w' β'){id:Nat}{ob:Option Ob}
  (hβ:∀j,j≠id->β' j=β j)
  (hid:(β' id=U/\ob=U)\/ ∃ob' hd n,ob=I ob'/\β' id=I (hd,n)/\E9 B.P w' β' id ob'/\ ∀a,adr hd=I a->(∃p a0,β id=I p/\adr p.1=I a0/\a0.block=a.block)\/(w.heap.size<=a.block/\a.block<w'.heap.size))
  (G2:∀j p a,j≠id->β j=I p->adr p.1=I a->w'.heap[a.block]? =w.heap[a.block]?)
  (hos:w'.os=w.os)(KG:w'.tape=w.tape)(Ew:w'.output=w.output)(F6:w.heap.size<=w'.heap.size)
  (qk:∀b,b<B.w0.heap.size->¬B.O b->w'.heap[b]? =w.heap[b]?)(hz:∀b,β'.Z b->β.Z b\/(β' id=U/\ ∃p a0,β id=I p/\adr p.1=I a0/\a0.block=b))(hpk:Pk B.P w w'):
  Hs { B with Z:=β'.Z } β' (upd (λj=>CJ f<|H j) id ob) w':=by
 have hold:∀b,MB β b->(B.O b\/B.w0.heap.size<=b)/\b<w'.heap.size:=λb hb=>⟨(h.old b hb).1,Gw (h.old b hb).2 F6⟩;have ZS:∀hd n a,β' id=I (hd,n)->adr hd=I a->MB β a.block/\(∃p a0,β id=I p/\adr p.1=I a0/\a0.block=a.block)\/(w.heap.size<=a.block/\a.block<w'.heap.size):=by
  intro hd n a h1 h2;obtain⟨h3,_⟩|⟨ob',hd',n',_,h3,_,h4⟩:=hid
  .rw[h3]at h1;cases h1
  .rw[h3]at h1;cases h1;rcases h4 a h2 with⟨p,a0,h5,h6,h7⟩|h5
   .exact .inl ⟨⟨id,p.1,p.2,a0,h5,h6,h7⟩,p,a0,h5,h6,h7⟩
   .exact .inr h5
 constructor
 .intro j ob' hj;by_cases e:j=id
  .subst e;rw[Bl]at hj;obtain⟨_,h3⟩|⟨aEW,hd',n',h3,_,h5,_⟩:=hid
   .rw[h3]at hj;cases hj
   .rw[h3]at hj;cases hj;exact h5
  .rw[BE _ _ e]at hj;cases hj0:H j with
   | none=>simp[hj0,CJ]at hj
   | some ob0=>
    have hob:=h.ER j ob0 hj0;rw[hj0]at hj;cases ob0 with
    | box e' cs=>
     simp only[CJ,Bv]at hj;subst hj;obtain⟨b,us,h1,h2,h3⟩:=hob;refine⟨b,us,by rw[hβ j e];exact h1, ?_,h3.map f hk⟩;have e1:w'.heap[b]? =w.heap[b]? :=G2 j _ ⟨b,0,U⟩ e h1 rfl;rw[e1];exact h2
    | row e' fz k xs=>
     simp only[CJ,Bv]at hj;subst hj;obtain⟨hd,h1,h2⟩:=hob;refine⟨hd,by rw[hβ j e];exact h1, ?_⟩;obtain h2|⟨b,f',cap,us,fr,hd',hh,hfr,hn,hc,hs,hr⟩:=h2
     .exact .inl h2
     .have ha:adr hd=I ⟨b,f',U⟩:=by rw[hd'];rfl
      have e1:w'.heap[b]? =w.heap[b]? :=G2 j _ _ e h1 ha;refine .inr ⟨b,f',cap,us,fr,hd',by rw[e1];exact hh,hfr,hn,hc,hs,λi x j c u a1 a2 a3=> ?_⟩;have:=hk _ _<|hr i x j c u a1 a2 a3;rwa[hf _<|IE k x a2]at this
    | arr e' k xs=>
     simp only[CJ,Bv]at hj;subst hj;obtain⟨b,us,h1,h2,h3,h4,h5⟩:=hob;have e1:w'.heap[b]? =w.heap[b]? :=G2 j _ ⟨b,0,U⟩ e h1 rfl;refine⟨b,us,by rw[hβ j e];exact h1,by rw[e1];exact h2,h3,h4,λi x j c u a1 a2 a3=> ?_⟩;have:=hk _ _<|h5 i x j c u a1 a2 a3;rwa[hf _<|IE k x a2]at this
 .intro j p hj;by_cases e:j=id
  .subst e;obtain⟨h3,_⟩|⟨aEW,hd',n',h3,_,_,_⟩:=hid
   .rw[h3]at hj;cases hj
   .exact⟨aEW,by rw[Bl];exact h3⟩
  .rw[hβ j e]at hj;obtain⟨ob',ho⟩:=h.dom j p hj;rw[BE _ _ e,ho];cases ob'<;>exact⟨_,rfl⟩
 .intro i j p q a1 a2 hi hj h1 h2 hb;by_cases ei:i=id<;>by_cases ej:j=id
  .rw[ei,ej]
  .subst ei;rw[hβ j ej]at hj;rcases ZS p.1 p.2 a1 hi h1 with⟨_,p0,a0,h5,h6,h7⟩|h5
   .exact h.inj _ _ _ _ _ _ h5 hj h6 h2 (h7.trans hb)
   .have:=(h.old a2.block ⟨j,q.1,q.2,a2,hj,h2,rfl⟩).2;omega
  .subst ej;rw[hβ i ei]at hi;rcases ZS q.1 q.2 a2 hj h2 with⟨_,p0,a0,h5,h6,h7⟩|h5
   .exact h.inj _ _ _ _ _ _ hi h5 h1 h6 (hb.trans h7.symm)
   .have:=(h.old a1.block ⟨i,p.1,p.2,a1,hi,h1,rfl⟩).2;omega
  .rw[hβ i ei]at hi;rw[hβ j ej]at hj;exact h.inj i j p q a1 a2 hi hj h1 h2 hb
 .rintro b ⟨j,hd,n,a,hj,ha,hb⟩;by_cases e:j=id
  .subst e;rcases ZS hd n a hj ha with⟨h5,_⟩|h5
   .exact hold b (hb▸h5)
   .exact⟨.inr (by have:=h.size;show B.w0.heap.size<=b;omega),J⟩
  .rw[hβ j e]at hj;exact hold b ⟨j,hd,n,a,hj,ha,hb⟩
 .rw[hos];exact h.os
 .rw[KG];exact h.tape
 .rw[Ew];exact h.output
 .exact CB h.size F6
 .intro b hb hO;rw[qk b hb hO];exact h.block b hb hO
 .rfl
 .intro j p a hj ha hzb;rcases hz _ hzb with hzb|⟨h1,p0,a0,h2,h3,h4⟩
  .by_cases e:j=id
   .subst e;rcases ZS p.1 p.2 a hj ha with⟨_,p0,a0,h5,h6,h7⟩|h5
    .exact h.zn _ _ _ h5 h6 (h7▸hzb)
    .have:=h.zl _ hzb;omega
   .rw[hβ j e]at hj;exact h.zn j p a hj ha hzb
  .by_cases e:j=id
   .subst e;rw[h1]at hj;cases hj
   .rw[hβ j e]at hj;exact e (h.inj _ _ _ _ _ _ hj h2 ha h3 h4.symm)
 .intro b hb;rcases hz _ hb with hb|⟨_,p0,a0,h2,h3,h4⟩
  .exact Gw (h.zl b hb) F6
  .exact(hold b ⟨id,p0.1,p0.2,a0,h2,h3,h4⟩).2
 .exact h.pk.trans hpk
def Hs.Tl(h:Hs B β H w)(hf:∀c,GM c=A1->f c=c)(hk:Kf f w β w' β'){id:Nat}{ob:Option Ob}
  (hβ:∀j,j≠id->β' j=β j)
  (hid:(β' id=U/\ob=U)\/ ∃ob' hd n,ob=I ob'/\β' id=I (hd,n)/\E9 B.P w' β' id ob'/\ ∀a,adr hd=I a->(∃p a0,β id=I p/\adr p.1=I a0/\a0.block=a.block)\/(w.heap.size<=a.block/\a.block<w'.heap.size))
  (G2:∀j p a,j≠id->β j=I p->adr p.1=I a->w'.heap[a.block]? =w.heap[a.block]?)
  (hos:w'.os=w.os)(KG:w'.tape=w.tape)(Ew:w'.output=w.output)(F6:w.heap.size<=w'.heap.size)
  (qk:∀b,b<B.w0.heap.size->¬B.O b->w'.heap[b]? =w.heap[b]?)(hz:β'.Z=β.Z)(hpk:Pk B.P w w'):
  Hs B β' (upd (λj=>CJ f<|H j) id ob) w':=by
 have:=h.acy hf hk hβ hid G2 hos KG Ew F6 qk (λb hb=> .inl (by rw[← hz];exact hb)) hpk;have e:{ B with Z:=β'.Z } =B:=by
  have h1:=h.z;rw[hz,h1]
 rwa[e]at this
def anv{id:Nat}{b:Nat}(h:MB (β.up id U) b):MB β b:=by
 obtain⟨j,hd,n,a,hj,ha,hb⟩:=h;by_cases e:j=id
 .subst e;rw[Beta.Tm]at hj;cases hj
 .rw[Beta.O5 _ _ e]at hj;exact⟨j,hd,n,a,hj,ha,hb⟩
def wm{id:Nat}{b:Nat}(h:MZ (β.up id U) b):MZ β b:=h.imp anv λh=>h
def J4(id:Nat):∀c,GM c=A1->kl1 id c=c:=by
 intro c h;cases c<;>first|rfl|cases h
def oC(id:Nat)(k:K)(xs:List (Tof k)):∀c,GM c=A1->fz1 id k xs c=c:=by
 intro c h;cases c<;>first|rfl|cases h
def Kf.kill{id:Nat}(hβ:∀j,j≠id->β' j=β j)
  (hc:∀b o v,¬MZ β b->w.cell? ⟨b,o,U⟩=I v->w'.cell? ⟨b,o,U⟩=I v)
  (hM:∀b,¬MZ β b->b<w.heap.size->¬MZ β' b):Kf (kl1 id) w β w' β':=by
 intro c v h;have DM:=h.one;cases h with
 | @own j _ n h hs=>
  simp only[kl1];split
  .exact .un DM
  .rename_i hb;exact .own (by rw[hβ _<|TW hb];exact h) hs
 | @ptr j sz i o hd n b f h ha hi=>
  simp only[kl1];split
  .exact .un DM
  .rename_i hb;exact .ptr (by rw[hβ _<|TW hb];exact h) ha hi
 | un h=>exact .un h
 | lit h=>exact .lit h
 | nil=>exact .nil
 | sl u hn hm hu hr=>exact RC.imm hc hM (.sl u hn hm hu hr) rfl
 | ipt u hm hu hr=>exact RC.imm hc hM (.ipt u hm hu hr) rfl
def Hs.aay(h:Hs B β H w)(id:Nat):Hs B (β.up id U) (upd (λj=>CJ (kl1 id)<|H j) id U) w/\Kf (kl1 id) w β w (β.up id U):=
 have hk:Kf (kl1 id) w β w (β.up id U):=Kf.kill (λj e=>BE _ _ e) (λ_ _ _ _ h=>h) (λ_ h _ hm=>h<|wm hm)
 ⟨h.Tl (J4 id) hk (λj e=>BE _ _ e) (.inl ⟨Bl _ _ _,rfl⟩) (λ_ _ _ _ _ _=>rfl) rfl rfl rfl (As _) (λ_ _ _=>rfl) rfl (Pk.refl _ _),hk⟩
def Hs.kill(h:Hs B β H w)(id:Nat):∃β',Hs B β' (upd (λj=>CJ (kl1 id)<|H j) id U) w/\Kf (kl1 id) w β w β':=⟨_,h.aay id⟩
def Hs.ZD(h:Hs B β H w){id:Nat}{e:TypeId}{fz:Bool}{k:K}{xs:List (Tof k)}(hid:H id=I (.row e fz k xs)):
  Hs B (β.up id U) (upd (λj=>CJ (fz1 id k xs)<|H j) id U) w/\Kf (fz1 id k xs) w β w (β.up id U):=by
 have hM:∀b,¬MZ β b->b<w.heap.size->¬MZ (β.up id U) b:=λ_ h _ hm=>h<|wm hm;obtain⟨hd,hb,jC⟩:=h.ER id _ hid;have hk:Kf (fz1 id k xs) w β w (β.up id U):=by
  intro c v hc;have DM:=hc.one;cases hc with
  | @own j _ n h1 hs=>
   simp only[fz1];split
   .rename_i hbq;obtain rfl:=Bn hbq;rw[hb]at h1;cases h1;obtain⟨e1,e2⟩|⟨b,f',cap,us,fr,hd',hh,hfr,hn,Hg,hsz,hr⟩:=jC
    .subst e1;subst e2;exact .nil
    .subst hd';have ad8:adr (.slice (I ⟨b,f',U⟩) xs.length cap)=I ⟨b,f',U⟩:=rfl;have Cv:∀i j,i<xs.length->j<ks k->f'+(i * ks k+j)<us.size:=by
      intro i j hi hj;have h1:(i+1) * ks k<=cap * ks k:=E6 _ J;rw[EP]at h1;omega
     refine .sl (λi j=>us.getD (f'+(i * ks k+j)) undef) ⟨rfl,hn⟩ ?_ (λi j hi hj=> ?_) (λi x j c h2 h3=> ?_)
     .rintro(⟨j',hd2,n2,a2,h2,h3,h4⟩|hz)
      .by_cases e':j'=j
       .subst e';rw[Beta.Tm]at h2;cases h2
       .rw[Beta.O5 _ _ e']at h2;exact e' (h.inj _ _ _ _ _ _ h2 hb h3 ad8 h4)
      .exact h.zn _ _ _ hb ad8 hz
     .rw[cell_of_row w b _ us e fr hh];have:=Cv i j hi hj;simp[this]
     .have hi:i<xs.length:=(BP.1 h2).1;have hj:j<ks k:=by rw[← EH k x];exact(BP.1 h3).1
      have:=Cv i j hi hj;have h5:=hr i x j c (us.getD (f'+(i * ks k+j)) undef) h2 h3 (by simp[this]);exact RC.imm (λ_ _ _ _ h=>h) hM h5 (IE k x h3)
   .rename_i hbq;exact .own (by rw[Beta.O5 _ _<|TW hbq];exact h1) hs
  | @ptr j sz i o hd n b f h1 ha hi=>
   simp only[fz1];split
   .exact .un DM
   .rename_i hbq;exact .ptr (by rw[Beta.O5 _ _<|TW hbq];exact h1) ha hi
  | un h=>exact .un h
  | lit h=>exact .lit h
  | nil=>exact .nil
  | sl u hn hm hu hr=>exact RC.imm (λ_ _ _ _ h=>h) hM (.sl u hn hm hu hr) rfl
  | ipt u hm hu hr=>exact RC.imm (λ_ _ _ _ h=>h) hM (.ipt u hm hu hr) rfl
 exact⟨h.Tl (oC id k xs) hk (λj e=>BE _ _ e) (.inl ⟨Bl _ _ _,rfl⟩) (λ_ _ _ _ _ _=>rfl) rfl rfl rfl (As _) (λ_ _ _=>rfl) rfl (Pk.refl _ _),hk⟩
def Hs.freeze(h:Hs B β H w){id:Nat}{e:TypeId}{fz:Bool}{k:K}{xs:List (Tof k)}(hid:H id=I (.row e fz k xs)):
  ∃β',Hs B β' (upd (λj=>CJ (fz1 id k xs)<|H j) id U) w/\Kf (fz1 id k xs) w β w β':=⟨_,h.ZD hid⟩
end
end Go.VS
end
