/- Part 4. -/
import Derived.Laws.Entries
import Derived.ChangeKeysEq
import Derived.Test.YtgjljlpdfceilaaGreatDoorQAC
open Array renaming toArray_toList->pS,toList_setIfInBounds->pB
open Bool renaming and_eq_false_iff->KZ,and_eq_true->AG,false->A3,false_eq_true->I1,not_eq_true->Gk,true->U
open Go.Addr renaming add_lit->HC
open Go.Result renaming andThen_ok->FH
open Go.Sem renaming run_bind->Ex
open Go.World renaming cell?->Mu
open List renaming all_eq_true->Cb,append_nil->CW,getElem?_drop->I2,getElem?_eq_some_iff->BP,getElem?_take->H8,length_nil->CN,mem_of_getElem?->Cu,take_append_drop->JA
open Nat renaming add_assoc->DI,add_mul->ER,add_zero->I0,beq->Al,beq_eq->Hc,eq_of_beq_eq_true->bP,le_of_ble_eq_true->Di,le_refl->Az,le_trans->Ce,lt_of_lt_of_le->HA,mul_le_mul_right->EH
open Option renaming none->A0,some->I
open Option.some renaming injEq->Bz
set_option linter.all false
noncomputable section
namespace Go.VS
open Go
def Bi{α:Type}(f:Nat->α)(i:Nat)(v:α):upd f i v i=v:=by simp[upd]
def BH{α:Type}(f:Nat->α){i j:Nat}(v:α)(h:j≠i):upd f i v j=f j:=by
 have:Al j i=A3:=by rw[← Gk,Hc];exact h
 simp[upd,this]
def Bq{a b:Nat}(h:Al a b=U):a=b:=bP h
def Tv{a b:Nat}(h:Al a b=A3):a≠b:=λe=>by subst e;simp at h
def Gp:AV->Bool
 | .un=>U
 | .lit _=>U
 | .sl _ _=>U
 | .ipt _ _ _=>U
 | .arr _ _=>U
 | _=>A3
def aaC(k:K)(x:Tof k):(enc k x).all Gp=U:=by cases k<;>rfl
def Io(k:K)(x:Tof k){j:Nat}{c:AV}(h:(enc k x)[j]? =I c):Gp c=U:=
 Cb.1 (aaC k x) c (Cu h)
def RC.imm{w w':World}{β β':Beta}
  (hc:∀b o v,¬MZ β b->w.cell? ⟨b,o,A0⟩=I v->w'.cell? ⟨b,o,A0⟩=I v)
  (hM:∀b,¬MZ β b->b<w.heap.size->¬MZ β' b){c:AV}{v:Value}(h:RC w β c v):Gp c=U->RC w' β' c v:=by
 induction h with
 | un h=>exact λ_=> .un h
 | lit h=>exact λ_=> .lit h
 | nil=>exact λ_=> .nil
 | @sl k xs b f cap n u hn hm hu hr ih=>
  intro _;cases xs with
  | nil=>obtain⟨rfl,_⟩:=hn;exact .nil
  | cons x l=>
   refine .sl u hn (hM b hm ?_) (λi j hi hj=>hc _ _ _ hm<|hu i j hi hj) (λi x j c h1 h2=>ih i x j c h1 h2<|Io k x h2);exact block_lt_of_cell<|hu 0 0 (by simp)<|IK k
 | own h hs=>intro h;cases h
 | ptr h ha hi=>intro h;cases h
 | @ipt k x o b f u hm hu hr ih=>
  intro _;exact .ipt u (hM b hm<|block_lt_of_cell<|hu 0<|IK k) (λj hj=>hc _ _ _ hm<|hu j hj) λj c h2=>ih j c h2<|Io k x h2
def Kf(f:AV->AV)(w:World)(β:Beta)(w':World)(β':Beta):Prop:=∀c v,RC w β c v->RC w' β' (f c) v
section
variable {P:Program} {w:World}
def Tx{t:TypeId}{b:Bool}(h:Lm P t=I b):(isAgg t).run P w= .ok b w:=by
 unfold Lm at h;cases hu:P.underlying t with
 | none=>rw[hu]at h;cases h
 | some d=>rw[hu]at h;unfold isAgg;simp only[Ex,run_underlying hu,FH];cases d<;>simp at h<;>subst h<;>rfl
def aqI{t:TypeId}(h:1<=P.cellsOf t):∃i,P.info? t=I i:=by
 unfold Program.cellsOf at h;cases hi:P.info? t with
 | none=>rw[hi]at h;simp at h
 | some i=>exact⟨i,rfl⟩
def LP{t:TypeId}(h:1<=P.cellsOf t):(sizeOf t).run P w= .ok (P.cellsOf t) w:=by
 obtain⟨i,hi⟩:=aqI h;exact run_sizeOf _ hi
def Zb{β:Beta}{t:TypeId}{cs:List AV}{o:Nat}{v:AV}(h:HV P t cs o=I v){b f:Nat}{us:List Value}(hl:RL (RC w β) cs us)
  (hc:∀j u,us[j]? =I u->w.cell? ⟨b,f+j,A0⟩=I u):∃u,(loadVar t ⟨b,f+o,A0⟩).run P w= .ok u w/\R1 w β v u:=by
 unfold HV at h;cases ha:Lm P t with
 | none=>rw[ha]at h;cases h
 | some q=>
  rw[ha]at h;cases q with
  | true=>
   simp only at h;split at h
   .rename_i hb;simp only[AG]at hb;have h1:=Di hb.1;have h2:=Di hb.2;cases h;have hlen:((us.drop o).take<|P.cellsOf t).length=P.cellsOf t:=by simp[hl.1];omega
    refine⟨.agg ((us.drop o).take<|P.cellsOf t).toArray, ?_,_,rfl,(hl.drop o).take _⟩;unfold loadVar;simp only[Ex,Tx ha,FH,A5,LP h2];have hr:=run_loadCells_list (P:=P) w ⟨b,f+o,A0⟩ ((us.drop o).take<|P.cellsOf t) (λj u hj=>by
     rw[HC];rw[H8]at hj;split at hj
     .rw[I2]at hj;have:=hc _ _ hj;rw[DI];exact this
     .cases hj)
    rw[hlen]at hr;rw[hr];rfl
   .cases h
  | false=>
   simp only at h;obtain⟨u,hu,hr⟩:=hl.get h;refine⟨u, ?_, ?_⟩
   .unfold loadVar;simp only[Ex,Tx ha,FH,I1,if_false];have:=hc _ _ hu;simp[this]
   .cases v<;>first
     | exact hr
     | (cases hr;first|rfl|trivial)
     | trivial
def Yt(g o:Nat)(t:TypeId)(fr:Nat×Nat):∀(vs:List Value) (i:Nat) (cur:Array Value) (w:World),w.heap[g]? =I (.cells cur t fr)->o+i+vs.length<=cur.size->
  (fr=(0,0)\/cur.size<=fr.1)->(∀v∈vs,v.oneCell'=U)->
  (storeCells ⟨g,o,A0⟩ vs i).run P w= .ok () (w.setRow g (cur.toList.take (o+i)++vs++cur.toList.drop (o+i+vs.length)).toArray)
 | [],i,cur,w,hg,_,_,_=>by
  simp only[storeCells,CW,CN,I0,JA,pS];rw[setRow_self w g cur t fr hg];rfl
 | v::rest,i,cur,w,hg,hl,hfr,h1=>by
  have hi:o+i<cur.size:=by simp at hl;omega
  have oV:(⟨g,o,A0⟩:Addr).add i=⟨g,o+i,A0⟩:=HC _ _ _;have D1:w.cell? ⟨g,o+i,A0⟩=I cur[o+i]:=by simp[Mu,hg,hi]
  have amF:w.frozen? ⟨g,o+i,A0⟩=A3:=by
   obtain⟨lo,hi'⟩:=fr;simp only[World.frozen?,hg];obtain h|h:=hfr
   .cases h;simp
   .simp only[KZ,decide_eq_false_iff_not];left;simp at h;omega
  have hst:(store ((⟨g,o,A0⟩:Addr).add i) v).run P w= .ok () (w.setRow g<|cur.setIfInBounds (o+i) v):=by
   rw[oV,run_store P w _ v _<|h1 v<|by simp,D1];simp[amF,setCell_eq_setRow w g (o+i) cur t fr v hg]
  have ih:=Yt g o t fr rest (i+1) (cur.setIfInBounds (o+i) v) (w.setRow g<|cur.setIfInBounds (o+i) v) (setRow_heap w g cur _ t _ hg) (by simp at hl ⊢; omega) (by simpa using hfr) (λx hx=>h1 x<|by simp[hx]);simp only[storeCells,Ex,hst,FH,ih,setRow_setRow];congr 3;have e:=list_seg_step cur.toList (o+i) v rest (by simp at hl ⊢; omega);simpa[pB,DI] using e
end
def R1.N1{w:World}{β:Beta}{c:AV}{v:Value}(h:RC w β c v):R1 w β c v:=by
 cases h with
 | un h=>trivial
 | lit h=>rfl
 | nil=>exact RC.nil
 | sl u hn hm hu hr=>exact RC.sl u hn hm hu hr
 | own h hs=>exact RC.own h hs
 | ptr h ha hi=>exact RC.ptr h ha hi
 | ipt u hm hu hr=>exact RC.ipt u hm hu hr
section
variable {B:Bg} {β β':Beta} {H:Hp} {w w':World} {f:AV->AV}
def R1.map(hf:∀c,Gp c=U->f c=c)(hk:Kf f w β w' β'){c:AV}{v:Value}(h:R1 w β c v):R1 w' β' (GH f c) v:=by
 cases c<;>simp only[R1]at h
 case un=>show R1 w' β' (f .un) v;rw[hf .un rfl];trivial
 case lit v'=>show R1 w' β' (f<|.lit v') v;rw[hf _ rfl];exact h
 case sl=>exact R1.N1<|hk _ _ h
 case own=>exact R1.N1<|hk _ _ h
 case ptr=>exact R1.N1<|hk _ _ h
 case ipt=>exact R1.N1<|hk _ _ h
 case arr k xs=>
  obtain⟨us,e,hl,hr⟩:=h;show R1 w' β' (f<|.arr k xs) v;rw[hf _ rfl];refine⟨us,e,hl,λi x j c u h1 h2 h3=> ?_⟩;have:=hk _ _<|hr i x j c u h1 h2 h3;rwa[hf _<|Io k x h2]at this
 case agg cs=>
  obtain⟨us,e,hr⟩:=h;exact⟨us,e,hr.map f hk⟩
def R2.Hh{w:World}{β:Beta}{c:AV}{v:Value}(h:R1 w β c v):R2 w β c v:=by cases c<;>first|exact h|exact h.elim
def R2.map(hf:∀c,Gp c=U->f c=c)(hk:Kf f w β w' β'){c:AV}{v:Value}(h:R2 w β c v):R2 w' β' (Ga f c) v:=by
 match c,h with
 | .tup vs,⟨us,e,hr⟩=>exact⟨us,e,hr.map _ λc u=>R1.map hf hk⟩
 | .un,h=>exact R2.Hh<|R1.map hf hk (c:= .un) h
 | .lit a,h=>exact R2.Hh<|R1.map hf hk (c:= .lit a) h
 | .sl k xs,h=>exact R2.Hh<|R1.map hf hk (c:= .sl k xs) h
 | .arr k xs,h=>exact R2.Hh<|R1.map hf hk (c:= .arr k xs) h
 | .own id,h=>exact R2.Hh<|R1.map hf hk (c:= .own id) h
 | .ptr a b c d,h=>exact R2.Hh<|R1.map hf hk (c:= .ptr a b c d) h
 | .ipt k x o,h=>exact R2.Hh<|R1.map hf hk (c:= .ipt k x o) h
 | .agg cs,h=>exact R2.Hh<|R1.map hf hk (c:= .agg cs) h
 | .gd a b c,h=>exact R2.Hh<|R1.map hf hk (c:= .gd a b c) h
def RT.Hg{w:World}{β:Beta}{tm:Nat->Value}{c:AV}{v:Value}(h:R2 w β c v):RT w β tm c v:=by cases c<;>first|exact h|exact h.elim
def RT.map(hf:∀c,Gp c=U->f c=c)(hk:Kf f w β w' β'){tm:Nat->Value}{c:AV}{v:Value}(h:RT w β tm c v):RT w' β' tm (FD f c) v:=by
 match c,h with
 | .gd g want x,h=>exact⟨λe=>R2.map hf hk<|h.1 e,h.2⟩
 | .un,h=>exact RT.Hg<|R2.map hf hk (c:= .un) h
 | .lit a,h=>exact RT.Hg<|R2.map hf hk (c:= .lit a) h
 | .sl k xs,h=>exact RT.Hg<|R2.map hf hk (c:= .sl k xs) h
 | .arr k xs,h=>exact RT.Hg<|R2.map hf hk (c:= .arr k xs) h
 | .own id,h=>exact RT.Hg<|R2.map hf hk (c:= .own id) h
 | .ptr a b c d,h=>exact RT.Hg<|R2.map hf hk (c:= .ptr a b c d) h
 | .ipt k x o,h=>exact RT.Hg<|R2.map hf hk (c:= .ipt k x o) h
 | .agg cs,h=>exact RT.Hg<|R2.map hf hk (c:= .agg cs) h
 | .tup vs,h=>exact RT.Hg<|R2.map hf hk (c:= .tup vs) h
def Hs.aEa(h:Hs B β H w)(hf:∀c,Gp c=U->f c=c)(hk:Kf f w β w' β'){id:Nat}{ob:Option Ob}
  (hβ:∀j,j≠id->β' j=β j)
  (hid:(β' id=A0/\ob=A0)\/ ∃ob' hd n,ob=I ob'/\β' id=I (hd,n)/\EJ B.P w' β' id ob'/\ ∀a,adr hd=I a->(∃p a0,β id=I p/\adr p.1=I a0/\a0.block=a.block)\/(w.heap.size<=a.block/\a.block<w'.heap.size))
  (GN:∀j p a,j≠id->β j=I p->adr p.1=I a->w'.heap[a.block]? =w.heap[a.block]?)
  (hos:w'.os=w.os)(Kr:w'.tape=w.tape)(FJ:w'.output=w.output)(FY:w.heap.size<=w'.heap.size)
  (sL:∀b,b<B.w0.heap.size->¬B.O b->w'.heap[b]? =w.heap[b]?)(hz:∀b,β'.Z b->β.Z b\/(β' id=A0/\ ∃p a0,β id=I p/\adr p.1=I a0/\a0.block=b))(hpk:Pk B.P w w'):
  Hs { B with Z:=β'.Z } β' (upd (λj=>CR f<|H j) id ob) w':=by
 have hold:∀b,MB β b->(B.O b\/B.w0.heap.size<=b)/\b<w'.heap.size:=λb hb=>⟨(h.old b hb).1,HA (h.old b hb).2 FY⟩;have dG:∀hd n a,β' id=I (hd,n)->adr hd=I a->MB β a.block/\(∃p a0,β id=I p/\adr p.1=I a0/\a0.block=a.block)\/(w.heap.size<=a.block/\a.block<w'.heap.size):=by
  intro hd n a h1 h2;obtain⟨h3,_⟩|⟨ob',hd',n',_,h3,_,h4⟩:=hid
  .rw[h3]at h1;cases h1
  .rw[h3]at h1;cases h1;rcases h4 a h2 with⟨p,a0,h5,h6,h7⟩|h5
   .exact .inl ⟨⟨id,p.1,p.2,a0,h5,h6,h7⟩,p,a0,h5,h6,h7⟩
   .exact .inr h5
 constructor
 .intro j ob' hj;by_cases e:j=id
  .subst e;rw[Bi]at hj;obtain⟨_,h3⟩|⟨aEy,hd',n',h3,_,h5,_⟩:=hid
   .rw[h3]at hj;cases hj
   .rw[h3]at hj;cases hj;exact h5
  .rw[BH _ _ e]at hj;cases hj0:H j with
   | none=>simp[hj0,CR]at hj
   | some ob0=>
    have hob:=h.EU j ob0 hj0;rw[hj0]at hj;cases ob0 with
    | box e' cs=>
     simp only[CR,Bz]at hj;subst hj;obtain⟨b,us,h1,h2,h3⟩:=hob;refine⟨b,us,by rw[hβ j e];exact h1, ?_,h3.map f hk⟩;have e1:w'.heap[b]? =w.heap[b]? :=GN j _ ⟨b,0,A0⟩ e h1 rfl;rw[e1];exact h2
    | row e' fz k xs=>
     simp only[CR,Bz]at hj;subst hj;obtain⟨hd,h1,h2⟩:=hob;refine⟨hd,by rw[hβ j e];exact h1, ?_⟩;obtain h2|⟨b,f',cap,us,fr,hd',hh,hfr,hn,hc,hs,hr⟩:=h2
     .exact .inl h2
     .have ha:adr hd=I ⟨b,f',A0⟩:=by rw[hd'];rfl
      have e1:w'.heap[b]? =w.heap[b]? :=GN j _ _ e h1 ha;refine .inr ⟨b,f',cap,us,fr,hd',by rw[e1];exact hh,hfr,hn,hc,hs,λi x j c u a1 a2 a3=> ?_⟩;have:=hk _ _<|hr i x j c u a1 a2 a3;rwa[hf _<|Io k x a2]at this
    | arr e' k xs=>
     simp only[CR,Bz]at hj;subst hj;obtain⟨b,us,h1,h2,h3,h4,h5⟩:=hob;have e1:w'.heap[b]? =w.heap[b]? :=GN j _ ⟨b,0,A0⟩ e h1 rfl;refine⟨b,us,by rw[hβ j e];exact h1,by rw[e1];exact h2,h3,h4,λi x j c u a1 a2 a3=> ?_⟩;have:=hk _ _<|h5 i x j c u a1 a2 a3;rwa[hf _<|Io k x a2]at this
 .intro j p hj;by_cases e:j=id
  .subst e;obtain⟨h3,_⟩|⟨aEy,hd',n',h3,_,_,_⟩:=hid
   .rw[h3]at hj;cases hj
   .exact⟨aEy,by rw[Bi];exact h3⟩
  .rw[hβ j e]at hj;obtain⟨ob',ho⟩:=h.dom j p hj;rw[BH _ _ e,ho];cases ob'<;>exact⟨_,rfl⟩
 .intro i j p q a1 a2 hi hj h1 h2 hb;by_cases ei:i=id<;>by_cases ej:j=id
  .rw[ei,ej]
  .subst ei;rw[hβ j ej]at hj;rcases dG p.1 p.2 a1 hi h1 with⟨_,p0,a0,h5,h6,h7⟩|h5
   .exact h.inj _ _ _ _ _ _ h5 hj h6 h2 (h7.trans hb)
   .have:=(h.old a2.block ⟨j,q.1,q.2,a2,hj,h2,rfl⟩).2;omega
  .subst ej;rw[hβ i ei]at hi;rcases dG q.1 q.2 a2 hj h2 with⟨_,p0,a0,h5,h6,h7⟩|h5
   .exact h.inj _ _ _ _ _ _ hi h5 h1 h6 (hb.trans h7.symm)
   .have:=(h.old a1.block ⟨i,p.1,p.2,a1,hi,h1,rfl⟩).2;omega
  .rw[hβ i ei]at hi;rw[hβ j ej]at hj;exact h.inj i j p q a1 a2 hi hj h1 h2 hb
 .rintro b ⟨j,hd,n,a,hj,ha,hb⟩;by_cases e:j=id
  .subst e;rcases dG hd n a hj ha with⟨h5,_⟩|h5
   .exact hold b (hb▸h5)
   .exact⟨.inr (by have:=h.size;show B.w0.heap.size<=b;omega),J⟩
  .rw[hβ j e]at hj;exact hold b ⟨j,hd,n,a,hj,ha,hb⟩
 .rw[hos];exact h.os
 .rw[Kr];exact h.tape
 .rw[FJ];exact h.output
 .exact Ce h.size FY
 .intro b hb hO;rw[sL b hb hO];exact h.block b hb hO
 .rfl
 .intro j p a hj ha hzb;rcases hz _ hzb with hzb|⟨h1,p0,a0,h2,h3,h4⟩
  .by_cases e:j=id
   .subst e;rcases dG p.1 p.2 a hj ha with⟨_,p0,a0,h5,h6,h7⟩|h5
    .exact h.zn _ _ _ h5 h6 (h7▸hzb)
    .have:=h.zl _ hzb;omega
   .rw[hβ j e]at hj;exact h.zn j p a hj ha hzb
  .by_cases e:j=id
   .subst e;rw[h1]at hj;cases hj
   .rw[hβ j e]at hj;exact e (h.inj _ _ _ _ _ _ hj h2 ha h3 h4.symm)
 .intro b hb;rcases hz _ hb with hb|⟨_,p0,a0,h2,h3,h4⟩
  .exact HA (h.zl b hb) FY
  .exact(hold b ⟨id,p0.1,p0.2,a0,h2,h3,h4⟩).2
 .exact h.pk.trans hpk
def Hs.Uf(h:Hs B β H w)(hf:∀c,Gp c=U->f c=c)(hk:Kf f w β w' β'){id:Nat}{ob:Option Ob}
  (hβ:∀j,j≠id->β' j=β j)
  (hid:(β' id=A0/\ob=A0)\/ ∃ob' hd n,ob=I ob'/\β' id=I (hd,n)/\EJ B.P w' β' id ob'/\ ∀a,adr hd=I a->(∃p a0,β id=I p/\adr p.1=I a0/\a0.block=a.block)\/(w.heap.size<=a.block/\a.block<w'.heap.size))
  (GN:∀j p a,j≠id->β j=I p->adr p.1=I a->w'.heap[a.block]? =w.heap[a.block]?)
  (hos:w'.os=w.os)(Kr:w'.tape=w.tape)(FJ:w'.output=w.output)(FY:w.heap.size<=w'.heap.size)
  (sL:∀b,b<B.w0.heap.size->¬B.O b->w'.heap[b]? =w.heap[b]?)(hz:β'.Z=β.Z)(hpk:Pk B.P w w'):
  Hs B β' (upd (λj=>CR f<|H j) id ob) w':=by
 have:=h.aEa hf hk hβ hid GN hos Kr FJ FY sL (λb hb=> .inl (by rw[← hz];exact hb)) hpk;have e:{ B with Z:=β'.Z } =B:=by
  have h1:=h.z;rw[hz,h1]
 rwa[e]at this
def azN{id:Nat}{b:Nat}(h:MB (β.up id A0) b):MB β b:=by
 obtain⟨j,hd,n,a,hj,ha,hb⟩:=h;by_cases e:j=id
 .subst e;rw[Beta.Va]at hj;cases hj
 .rw[Beta.OC _ _ e]at hj;exact⟨j,hd,n,a,hj,ha,hb⟩
def ab3{id:Nat}{b:Nat}(h:MZ (β.up id A0) b):MZ β b:=h.imp azN λh=>h
def JM(id:Nat):∀c,Gp c=U->kl1 id c=c:=by
 intro c h;cases c<;>first|rfl|cases h
def o4(id:Nat)(k:K)(xs:List (Tof k)):∀c,Gp c=U->fz1 id k xs c=c:=by
 intro c h;cases c<;>first|rfl|cases h
def Kf.kill{id:Nat}(hβ:∀j,j≠id->β' j=β j)
  (hc:∀b o v,¬MZ β b->w.cell? ⟨b,o,A0⟩=I v->w'.cell? ⟨b,o,A0⟩=I v)
  (hM:∀b,¬MZ β b->b<w.heap.size->¬MZ β' b):Kf (kl1 id) w β w' β':=by
 intro c v h;have DM:=h.one;cases h with
 | @own j _ n h hs=>
  simp only[kl1];split
  .exact .un DM
  .rename_i hb;exact .own (by rw[hβ _<|Tv hb];exact h) hs
 | @ptr j sz i o hd n b f h ha hi=>
  simp only[kl1];split
  .exact .un DM
  .rename_i hb;exact .ptr (by rw[hβ _<|Tv hb];exact h) ha hi
 | un h=>exact .un h
 | lit h=>exact .lit h
 | nil=>exact .nil
 | sl u hn hm hu hr=>exact RC.imm hc hM (.sl u hn hm hu hr) rfl
 | ipt u hm hu hr=>exact RC.imm hc hM (.ipt u hm hu hr) rfl
def Hs.aEc(h:Hs B β H w)(id:Nat):Hs B (β.up id A0) (upd (λj=>CR (kl1 id)<|H j) id A0) w/\Kf (kl1 id) w β w (β.up id A0):=
 have hk:Kf (kl1 id) w β w (β.up id A0):=Kf.kill (λj e=>BH _ _ e) (λ_ _ _ _ h=>h) (λ_ h _ hm=>h<|ab3 hm)
 ⟨h.Uf (JM id) hk (λj e=>BH _ _ e) (.inl ⟨Bi _ _ _,rfl⟩) (λ_ _ _ _ _ _=>rfl) rfl rfl rfl (Az _) (λ_ _ _=>rfl) rfl (Pk.refl _ _),hk⟩
def Hs.kill(h:Hs B β H w)(id:Nat):∃β',Hs B β' (upd (λj=>CR (kl1 id)<|H j) id A0) w/\Kf (kl1 id) w β w β':=⟨_,h.aEc id⟩
def Hs.dK(h:Hs B β H w){id:Nat}{e:TypeId}{fz:Bool}{k:K}{xs:List (Tof k)}(hid:H id=I (.row e fz k xs)):
  Hs B (β.up id A0) (upd (λj=>CR (fz1 id k xs)<|H j) id A0) w/\Kf (fz1 id k xs) w β w (β.up id A0):=by
 have hM:∀b,¬MZ β b->b<w.heap.size->¬MZ (β.up id A0) b:=λ_ h _ hm=>h<|ab3 hm;obtain⟨hd,hb,p6⟩:=h.EU id _ hid;have hk:Kf (fz1 id k xs) w β w (β.up id A0):=by
  intro c v hc;have DM:=hc.one;cases hc with
  | @own j _ n h1 hs=>
   simp only[fz1];split
   .rename_i hbq;obtain rfl:=Bq hbq;rw[hb]at h1;cases h1;obtain⟨e1,e2⟩|⟨b,f',cap,us,fr,hd',hh,hfr,hn,I3,hsz,hr⟩:=p6
    .subst e1;subst e2;exact .nil
    .subst hd';have aEi:adr (.slice (I ⟨b,f',A0⟩) xs.length cap)=I ⟨b,f',A0⟩:=rfl;have D1:∀i j,i<xs.length->j<ks k->f'+(i * ks k+j)<us.size:=by
      intro i j hi hj;have h1:(i+1) * ks k<=cap * ks k:=EH _ J;rw[ER]at h1;omega
     refine .sl (λi j=>us.getD (f'+(i * ks k+j)) undef) ⟨rfl,hn⟩ ?_ (λi j hi hj=> ?_) (λi x j c h2 h3=> ?_)
     .rintro(⟨j',hd2,n2,a2,h2,h3,h4⟩|hz)
      .by_cases e':j'=j
       .subst e';rw[Beta.Va]at h2;cases h2
       .rw[Beta.OC _ _ e']at h2;exact e' (h.inj _ _ _ _ _ _ h2 hb h3 aEi h4)
      .exact h.zn _ _ _ hb aEi hz
     .rw[cell_of_row w b _ us e fr hh];have:=D1 i j hi hj;simp[this]
     .have hi:i<xs.length:=(BP.1 h2).1;have hj:j<ks k:=by rw[← EV k x];exact(BP.1 h3).1
      have:=D1 i j hi hj;have h5:=hr i x j c (us.getD (f'+(i * ks k+j)) undef) h2 h3 (by simp[this]);exact RC.imm (λ_ _ _ _ h=>h) hM h5 (Io k x h3)
   .rename_i hbq;exact .own (by rw[Beta.OC _ _<|Tv hbq];exact h1) hs
  | @ptr j sz i o hd n b f h1 ha hi=>
   simp only[fz1];split
   .exact .un DM
   .rename_i hbq;exact .ptr (by rw[Beta.OC _ _<|Tv hbq];exact h1) ha hi
  | un h=>exact .un h
  | lit h=>exact .lit h
  | nil=>exact .nil
  | sl u hn hm hu hr=>exact RC.imm (λ_ _ _ _ h=>h) hM (.sl u hn hm hu hr) rfl
  | ipt u hm hu hr=>exact RC.imm (λ_ _ _ _ h=>h) hM (.ipt u hm hu hr) rfl
 exact⟨h.Uf (o4 id k xs) hk (λj e=>BH _ _ e) (.inl ⟨Bi _ _ _,rfl⟩) (λ_ _ _ _ _ _=>rfl) rfl rfl rfl (Az _) (λ_ _ _=>rfl) rfl (Pk.refl _ _),hk⟩
def Hs.freeze(h:Hs B β H w){id:Nat}{e:TypeId}{fz:Bool}{k:K}{xs:List (Tof k)}(hid:H id=I (.row e fz k xs)):
  ∃β',Hs B β' (upd (λj=>CR (fz1 id k xs)<|H j) id A0) w/\Kf (fz1 id k xs) w β w β':=⟨_,h.dK hid⟩
end
end Go.VS
end
