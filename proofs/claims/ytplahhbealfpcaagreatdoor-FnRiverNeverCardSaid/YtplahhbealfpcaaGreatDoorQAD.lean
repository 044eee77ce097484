/- Part 4. -/
import Derived.Laws.Entries
import Derived.ChangeKeysEq
import Derived.Test.YtplahhbealfpcaaGreatDoorQAC
open Array renaming toArray_toList->lR,toList_setIfInBounds->lA
open Bool renaming and_eq_false_iff->TQ,and_eq_true->AE,false->A3,false_eq_true->HX,not_eq_true->GD,true->A0
open Go.Addr renaming add_lit->GX
open Go.Result renaming andThen_ok->Eo
open Go.Sem renaming run_bind->Ea
open Go.World renaming cell?->M7
open List renaming all_eq_true->C0,append_nil->CM,getElem?_drop->Ha,getElem?_eq_some_iff->BL,getElem?_take->GZ,length_nil->CA,mem_of_getElem?->Cb,take_append_drop->JH
open Nat renaming add_assoc->D3,add_mul->E8,add_zero->HP,beq->Ag,beq_eq->H4,eq_of_beq_eq_true->Yl,le_of_ble_eq_true->DX,le_refl->As,le_trans->Ca,lt_of_lt_of_le->Ga,mul_le_mul_right->Dv
open Option renaming none->U,some->I
open Option.some renaming injEq->Bp
set_option linter.all false
noncomputable section
namespace Go.VS
open Go
def Bf{α:Type}(f:Nat->α)(i:Nat)(v:α):upd f i v i=v:=by simp[upd]
def BB{α:Type}(f:Nat->α){i j:Nat}(v:α)(h:j≠i):upd f i v j=f j:=by
 have:Ag j i=A3:=by rw[← GD,H4];exact h
 simp[upd,this]
def Bk{a b:Nat}(h:Ag a b=A0):a=b:=Yl h
def Sc{a b:Nat}(h:Ag a b=A3):a≠b:=λe=>by subst e;simp at h
def GH:AV->Bool
 | .un=>A0
 | .lit _=>A0
 | .sl _ _=>A0
 | .ipt _ _ _=>A0
 | .arr _ _=>A0
 | _=>A3
def aEb(k:K)(x:Tof k):(enc k x).all GH=A0:=by cases k<;>rfl
def IM(k:K)(x:Tof k){j:Nat}{c:AV}(h:(enc k x)[j]? =I c):GH c=A0:=
 C0.1 (aEb k x) c (Cb h)
def RC.imm{w w':World}{β β':Beta}
  (hc:∀b o v,¬MZ β b->w.cell? ⟨b,o,U⟩=I v->w'.cell? ⟨b,o,U⟩=I v)
  (hM:∀b,¬MZ β b->b<w.heap.size->¬MZ β' b){c:AV}{v:Value}(h:RC w β c v):GH c=A0->RC w' β' c v:=by
 induction h with
 | un h=>exact λ_=> .un h
 | lit h=>exact λ_=> .lit h
 | nil=>exact λ_=> .nil
 | @sl k xs b f cap n u hn hm hu hr ih=>
  intro _;cases xs with
  | nil=>obtain⟨rfl,_⟩:=hn;exact .nil
  | cons x l=>
   refine .sl u hn (hM b hm ?_) (λi j hi hj=>hc _ _ _ hm<|hu i j hi hj) (λi x j c h1 h2=>ih i x j c h1 h2<|IM k x h2);exact block_lt_of_cell<|hu 0 0 (by simp)<|Ht k
 | own h hs=>intro h;cases h
 | ptr h ha hi=>intro h;cases h
 | @ipt k x o b f u hm hu hr ih=>
  intro _;exact .ipt u (hM b hm<|block_lt_of_cell<|hu 0<|Ht k) (λj hj=>hc _ _ _ hm<|hu j hj) λj c h2=>ih j c h2<|IM k x h2
def Kf(f:AV->AV)(w:World)(β:Beta)(w':World)(β':Beta):Prop:=∀c v,RC w β c v->RC w' β' (f c) v
section
variable {P:Program} {w:World}
def SZ{t:TypeId}{b:Bool}(h:L6 P t=I b):(isAgg t).run P w= .ok b w:=by
 unfold L6 at h;cases hu:P.underlying t with
 | none=>rw[hu]at h;cases h
 | some d=>rw[hu]at h;unfold isAgg;simp only[Ea,run_underlying hu,Eo];cases d<;>simp at h<;>subst h<;>rfl
def apD{t:TypeId}(h:1<=P.cellsOf t):∃i,P.info? t=I i:=by
 unfold Program.cellsOf at h;cases hi:P.info? t with
 | none=>rw[hi]at h;simp at h
 | some i=>exact⟨i,rfl⟩
def KU{t:TypeId}(h:1<=P.cellsOf t):(sizeOf t).run P w= .ok (P.cellsOf t) w:=by
 obtain⟨i,hi⟩:=apD h;exact run_sizeOf _ hi
def XI{β:Beta}{t:TypeId}{cs:List AV}{o:Nat}{v:AV}(h:HF P t cs o=I v){b f:Nat}{us:List Value}(hl:RL (RC w β) cs us)
  (hc:∀j u,us[j]? =I u->w.cell? ⟨b,f+j,U⟩=I u):∃u,(loadVar t ⟨b,f+o,U⟩).run P w= .ok u w/\R1 w β v u:=by
 unfold HF at h;cases ha:L6 P t with
 | none=>rw[ha]at h;cases h
 | some q=>
  rw[ha]at h;cases q with
  | true=>
   simp only at h;split at h
   .rename_i hb;simp only[AE]at hb;have h1:=DX hb.1;have h2:=DX hb.2;cases h;have hlen:((us.drop o).take<|P.cellsOf t).length=P.cellsOf t:=by simp[hl.1];omega
    refine⟨.agg ((us.drop o).take<|P.cellsOf t).toArray, ?_,_,rfl,(hl.drop o).take _⟩;unfold loadVar;simp only[Ea,SZ ha,Eo,A5,KU h2];have hr:=run_loadCells_list (P:=P) w ⟨b,f+o,U⟩ ((us.drop o).take<|P.cellsOf t) (λj u hj=>by
     rw[GX];rw[GZ]at hj;split at hj
     .rw[Ha]at hj;have:=hc _ _ hj;rw[D3];exact this
     .cases hj)
    rw[hlen]at hr;rw[hr];rfl
   .cases h
  | false=>
   simp only at h;obtain⟨u,hu,hr⟩:=hl.get h;refine⟨u, ?_, ?_⟩
   .unfold loadVar;simp only[Ea,SZ ha,Eo,HX,if_false];have:=hc _ _ hu;simp[this]
   .cases v<;>first
     | exact hr
     | (cases hr;first|rfl|trivial)
     | trivial
def Wt(g o:Nat)(t:TypeId)(fr:Nat×Nat):∀(vs:List Value) (i:Nat) (cur:Array Value) (w:World),w.heap[g]? =I (.cells cur t fr)->o+i+vs.length<=cur.size->
  (fr=(0,0)\/cur.size<=fr.1)->(∀v∈vs,v.oneCell'=A0)->
  (storeCells ⟨g,o,U⟩ vs i).run P w= .ok () (w.setRow g (cur.toList.take (o+i)++vs++cur.toList.drop (o+i+vs.length)).toArray)
 | [],i,cur,w,hg,_,_,_=>by
  simp only[storeCells,CM,CA,HP,JH,lR];rw[setRow_self w g cur t fr hg];rfl
 | v::rest,i,cur,w,hg,hl,hfr,h1=>by
  have hi:o+i<cur.size:=by simp at hl;omega
  have oP:(⟨g,o,U⟩:Addr).add i=⟨g,o+i,U⟩:=GX _ _ _;have Ck:w.cell? ⟨g,o+i,U⟩=I cur[o+i]:=by simp[M7,hg,hi]
  have ayi:w.frozen? ⟨g,o+i,U⟩=A3:=by
   obtain⟨lo,hi'⟩:=fr;simp only[World.frozen?,hg];obtain h|h:=hfr
   .cases h;simp
   .simp only[TQ,decide_eq_false_iff_not];left;simp at h;omega
  have hst:(store ((⟨g,o,U⟩:Addr).add i) v).run P w= .ok () (w.setRow g<|cur.setIfInBounds (o+i) v):=by
   rw[oP,run_store P w _ v _<|h1 v<|by simp,Ck];simp[ayi,setCell_eq_setRow w g (o+i) cur t fr v hg]
  have ih:=Wt g o t fr rest (i+1) (cur.setIfInBounds (o+i) v) (w.setRow g<|cur.setIfInBounds (o+i) v) (setRow_heap w g cur _ t _ hg) (by simp at hl ⊢; omega) (by simpa using hfr) (λx hx=>h1 x<|by simp[hx]);simp only[storeCells,Ea,hst,Eo,ih,setRow_setRow];congr 3;have e:=list_seg_step cur.toList (o+i) v rest (by simp at hl ⊢; omega);simpa[lA,D3] using e
end
def R1.MH{w:World}{β:Beta}{c:AV}{v:Value}(h:RC w β c v):R1 w β c v:=by
 cases h with
 | un h=>trivial
 | lit h=>rfl
 | nil=>exact RC.nil
 | sl u hn hm hu hr=>exact RC.sl u hn hm hu hr
 | own h hs=>exact RC.own h hs
 | ptr h ha hi=>exact RC.ptr h ha hi
 | ipt u hm hu hr=>exact RC.ipt u hm hu hr
section
variable {B:Ba} {β β':Beta} {H:Hp} {w w':World} {f:AV->AV}
def R1.map(hf:∀c,GH c=A0->f c=c)(hk:Kf f w β w' β'){c:AV}{v:Value}(h:R1 w β c v):R1 w' β' (Fo f c) v:=by
 cases c<;>simp only[R1]at h
 case un=>show R1 w' β' (f .un) v;rw[hf .un rfl];trivial
 case lit v'=>show R1 w' β' (f<|.lit v') v;rw[hf _ rfl];exact h
 case sl=>exact R1.MH<|hk _ _ h
 case own=>exact R1.MH<|hk _ _ h
 case ptr=>exact R1.MH<|hk _ _ h
 case ipt=>exact R1.MH<|hk _ _ h
 case arr k xs=>
  obtain⟨us,e,hl,hr⟩:=h;show R1 w' β' (f<|.arr k xs) v;rw[hf _ rfl];refine⟨us,e,hl,λi x j c u h1 h2 h3=> ?_⟩;have:=hk _ _<|hr i x j c u h1 h2 h3;rwa[hf _<|IM k x h2]at this
 case agg cs=>
  obtain⟨us,e,hr⟩:=h;exact⟨us,e,hr.map f hk⟩
def R2.H7{w:World}{β:Beta}{c:AV}{v:Value}(h:R1 w β c v):R2 w β c v:=by cases c<;>first|exact h|exact h.elim
def R2.map(hf:∀c,GH c=A0->f c=c)(hk:Kf f w β w' β'){c:AV}{v:Value}(h:R2 w β c v):R2 w' β' (G5 f c) v:=by
 match c,h with
 | .tup vs,⟨us,e,hr⟩=>exact⟨us,e,hr.map _ λc u=>R1.map hf hk⟩
 | .un,h=>exact R2.H7<|R1.map hf hk (c:= .un) h
 | .lit a,h=>exact R2.H7<|R1.map hf hk (c:= .lit a) h
 | .sl k xs,h=>exact R2.H7<|R1.map hf hk (c:= .sl k xs) h
 | .arr k xs,h=>exact R2.H7<|R1.map hf hk (c:= .arr k xs) h
 | .own id,h=>exact R2.H7<|R1.map hf hk (c:= .own id) h
 | .ptr a b c d,h=>exact R2.H7<|R1.map hf hk (c:= .ptr a b c d) h
 | .ipt k x o,h=>exact R2.H7<|R1.map hf hk (c:= .ipt k x o) h
 | .agg cs,h=>exact R2.H7<|R1.map hf hk (c:= .agg cs) h
 | .gd a b c,h=>exact R2.H7<|R1.map hf hk (c:= .gd a b c) h
def RT.H6{w:World}{β:Beta}{tm:Nat->Value}{c:AV}{v:Value}(h:R2 w β c v):RT w β tm c v:=by cases c<;>first|exact h|exact h.elim
def RT.map(hf:∀c,GH c=A0->f c=c)(hk:Kf f w β w' β'){tm:Nat->Value}{c:AV}{v:Value}(h:RT w β tm c v):RT w' β' tm (El f c) v:=by
 match c,h with
 | .gd g want x,h=>exact⟨λe=>R2.map hf hk<|h.1 e,h.2⟩
 | .un,h=>exact RT.H6<|R2.map hf hk (c:= .un) h
 | .lit a,h=>exact RT.H6<|R2.map hf hk (c:= .lit a) h
 | .sl k xs,h=>exact RT.H6<|R2.map hf hk (c:= .sl k xs) h
 | .arr k xs,h=>exact RT.H6<|R2.map hf hk (c:= .arr k xs) h
 | .own id,h=>exact RT.H6<|R2.map hf hk (c:= .own id) h
 | .ptr a b c d,h=>exact RT.H6<|R2.map hf hk (c:= .ptr a b c d) h
 | .ipt k x o,h=>exact RT.H6<|R2.map hf hk (c:= .ipt k x o) h
 | .agg cs,h=>exact RT.H6<|R2.map hf hk (c:= .agg cs) h
 | .tup vs,h=>exact RT.H6<|R2.map hf hk (c:= .tup vs) h
def Hs.abd(h:Hs B β H w)(hf:∀c,GH c=A0->f c=c)(hk:Kf f w β w' β'){id:Nat}{ob:Option Ob}
  (hβ:∀j,j≠id->β' j=β j)
  (hid:(β' id=U/\ob=U)\/ ∃ob' hd n,ob=I ob'/\β' id=I (hd,n)/\Dx B.P w' β' id ob'/\ ∀a,adr hd=I a->(∃p a0,β id=I p/\adr p.1=I a0/\a0.block=a.block)\/(w.heap.size<=a.block/\a.block<w'.heap.size))
  (Fy:∀j p a,j≠id->β j=I p->adr p.1=I a->w'.heap[a.block]? =w.heap[a.block]?)
  (hos:w'.os=w.os)(K0:w'.tape=w.tape)(Ev:w'.output=w.output)(F2:w.heap.size<=w'.heap.size)
  (nQ:∀b,b<B.w0.heap.size->¬B.O b->w'.heap[b]? =w.heap[b]?)(hz:∀b,β'.Z b->β.Z b\/(β' id=U/\ ∃p a0,β id=I p/\adr p.1=I a0/\a0.block=b))(hpk:Pk B.P w w'):
  Hs { B with Z:=β'.Z } β' (upd (λj=>CD f<|H j) id ob) w':=by
 have hold:∀b,MB β b->(B.O b\/B.w0.heap.size<=b)/\b<w'.heap.size:=λb hb=>⟨(h.old b hb).1,Ga (h.old b hb).2 F2⟩;have Zn:∀hd n a,β' id=I (hd,n)->adr hd=I a->MB β a.block/\(∃p a0,β id=I p/\adr p.1=I a0/\a0.block=a.block)\/(w.heap.size<=a.block/\a.block<w'.heap.size):=by
  intro hd n a h1 h2;obtain⟨h3,_⟩|⟨ob',hd',n',_,h3,_,h4⟩:=hid
  .rw[h3]at h1;cases h1
  .rw[h3]at h1;cases h1;rcases h4 a h2 with⟨p,a0,h5,h6,h7⟩|h5
   .exact .inl ⟨⟨id,p.1,p.2,a0,h5,h6,h7⟩,p,a0,h5,h6,h7⟩
   .exact .inr h5
 constructor
 .intro j ob' hj;by_cases e:j=id
  .subst e;rw[Bf]at hj;obtain⟨_,h3⟩|⟨ac4,hd',n',h3,_,h5,_⟩:=hid
   .rw[h3]at hj;cases hj
   .rw[h3]at hj;cases hj;exact h5
  .rw[BB _ _ e]at hj;cases hj0:H j with
   | none=>simp[hj0,CD]at hj
   | some ob0=>
    have hob:=h.EA j ob0 hj0;rw[hj0]at hj;cases ob0 with
    | box e' cs=>
     simp only[CD,Bp]at hj;subst hj;obtain⟨b,us,h1,h2,h3⟩:=hob;refine⟨b,us,by rw[hβ j e];exact h1, ?_,h3.map f hk⟩;have e1:w'.heap[b]? =w.heap[b]? :=Fy j _ ⟨b,0,U⟩ e h1 rfl;rw[e1];exact h2
    | row e' fz k xs=>
     simp only[CD,Bp]at hj;subst hj;obtain⟨hd,h1,h2⟩:=hob;refine⟨hd,by rw[hβ j e];exact h1, ?_⟩;obtain h2|⟨b,f',cap,us,fr,hd',hh,hfr,hn,hc,hs,hr⟩:=h2
     .exact .inl h2
     .have ha:adr hd=I ⟨b,f',U⟩:=by rw[hd'];rfl
      have e1:w'.heap[b]? =w.heap[b]? :=Fy j _ _ e h1 ha;refine .inr ⟨b,f',cap,us,fr,hd',by rw[e1];exact hh,hfr,hn,hc,hs,λi x j c u a1 a2 a3=> ?_⟩;have:=hk _ _<|hr i x j c u a1 a2 a3;rwa[hf _<|IM k x a2]at this
    | arr e' k xs=>
     simp only[CD,Bp]at hj;subst hj;obtain⟨b,us,h1,h2,h3,h4,h5⟩:=hob;have e1:w'.heap[b]? =w.heap[b]? :=Fy j _ ⟨b,0,U⟩ e h1 rfl;refine⟨b,us,by rw[hβ j e];exact h1,by rw[e1];exact h2,h3,h4,λi x j c u a1 a2 a3=> ?_⟩;have:=hk _ _<|h5 i x j c u a1 a2 a3;rwa[hf _<|IM k x a2]at this
 .intro j p hj;by_cases e:j=id
  .subst e;obtain⟨h3,_⟩|⟨ac4,hd',n',h3,_,_,_⟩:=hid
   .rw[h3]at hj;cases hj
   .exact⟨ac4,by rw[Bf];exact h3⟩
  .rw[hβ j e]at hj;obtain⟨ob',ho⟩:=h.dom j p hj;rw[BB _ _ e,ho];cases ob'<;>exact⟨_,rfl⟩
 .intro i j p q a1 a2 hi hj h1 h2 hb;by_cases ei:i=id<;>by_cases ej:j=id
  .rw[ei,ej]
  .subst ei;rw[hβ j ej]at hj;rcases Zn p.1 p.2 a1 hi h1 with⟨_,p0,a0,h5,h6,h7⟩|h5
   .exact h.inj _ _ _ _ _ _ h5 hj h6 h2 (h7.trans hb)
   .have:=(h.old a2.block ⟨j,q.1,q.2,a2,hj,h2,rfl⟩).2;omega
  .subst ej;rw[hβ i ei]at hi;rcases Zn q.1 q.2 a2 hj h2 with⟨_,p0,a0,h5,h6,h7⟩|h5
   .exact h.inj _ _ _ _ _ _ hi h5 h1 h6 (hb.trans h7.symm)
   .have:=(h.old a1.block ⟨i,p.1,p.2,a1,hi,h1,rfl⟩).2;omega
  .rw[hβ i ei]at hi;rw[hβ j ej]at hj;exact h.inj i j p q a1 a2 hi hj h1 h2 hb
 .rintro b ⟨j,hd,n,a,hj,ha,hb⟩;by_cases e:j=id
  .subst e;rcases Zn hd n a hj ha with⟨h5,_⟩|h5
   .exact hold b (hb▸h5)
   .exact⟨.inr (by have:=h.size;show B.w0.heap.size<=b;omega),J⟩
  .rw[hβ j e]at hj;exact hold b ⟨j,hd,n,a,hj,ha,hb⟩
 .rw[hos];exact h.os
 .rw[K0];exact h.tape
 .rw[Ev];exact h.output
 .exact Ca h.size F2
 .intro b hb hO;rw[nQ b hb hO];exact h.block b hb hO
 .rfl
 .intro j p a hj ha hzb;rcases hz _ hzb with hzb|⟨h1,p0,a0,h2,h3,h4⟩
  .by_cases e:j=id
   .subst e;rcases Zn p.1 p.2 a hj ha with⟨_,p0,a0,h5,h6,h7⟩|h5
    .exact h.zn _ _ _ h5 h6 (h7▸hzb)
    .have:=h.zl _ hzb;omega
   .rw[hβ j e]at hj;exact h.zn j p a hj ha hzb
  .by_cases e:j=id
   .subst e;rw[h1]at hj;cases hj
   .rw[hβ j e]at hj;exact e (h.inj _ _ _ _ _ _ hj h2 ha h3 h4.symm)
 .intro b hb;rcases hz _ hb with hb|⟨_,p0,a0,h2,h3,h4⟩
  .exact Ga (h.zl b hb) F2
  .exact(hold b ⟨id,p0.1,p0.2,a0,h2,h3,h4⟩).2
 .exact h.pk.trans hpk
def Hs.UF(h:Hs B β H w)(hf:∀c,GH c=A0->f c=c)(hk:Kf f w β w' β'){id:Nat}{ob:Option Ob}
  (hβ:∀j,j≠id->β' j=β j)
  (hid:(β' id=U/\ob=U)\/ ∃ob' hd n,ob=I ob'/\β' id=I (hd,n)/\Dx B.P w' β' id ob'/\ ∀a,adr hd=I a->(∃p a0,β id=I p/\adr p.1=I a0/\a0.block=a.block)\/(w.heap.size<=a.block/\a.block<w'.heap.size))
  (Fy:∀j p a,j≠id->β j=I p->adr p.1=I a->w'.heap[a.block]? =w.heap[a.block]?)
  (hos:w'.os=w.os)(K0:w'.tape=w.tape)(Ev:w'.output=w.output)(F2:w.heap.size<=w'.heap.size)
  (nQ:∀b,b<B.w0.heap.size->¬B.O b->w'.heap[b]? =w.heap[b]?)(hz:β'.Z=β.Z)(hpk:Pk B.P w w'):
  Hs B β' (upd (λj=>CD f<|H j) id ob) w':=by
 have:=h.abd hf hk hβ hid Fy hos K0 Ev F2 nQ (λb hb=> .inl (by rw[← hz];exact hb)) hpk;have e:{ B with Z:=β'.Z } =B:=by
  have h1:=h.z;rw[hz,h1]
 rwa[e]at this
def awc{id:Nat}{b:Nat}(h:MB (β.up id U) b):MB β b:=by
 obtain⟨j,hd,n,a,hj,ha,hb⟩:=h;by_cases e:j=id
 .subst e;rw[Beta.U4]at hj;cases hj
 .rw[Beta.Nf _ _ e]at hj;exact⟨j,hd,n,a,hj,ha,hb⟩
def abG{id:Nat}{b:Nat}(h:MZ (β.up id U) b):MZ β b:=h.imp awc λh=>h
def Iu(id:Nat):∀c,GH c=A0->kl1 id c=c:=by
 intro c h;cases c<;>first|rfl|cases h
def k9(id:Nat)(k:K)(xs:List (Tof k)):∀c,GH c=A0->fz1 id k xs c=c:=by
 intro c h;cases c<;>first|rfl|cases h
def Kf.kill{id:Nat}(hβ:∀j,j≠id->β' j=β j)
  (hc:∀b o v,¬MZ β b->w.cell? ⟨b,o,U⟩=I v->w'.cell? ⟨b,o,U⟩=I v)
  (hM:∀b,¬MZ β b->b<w.heap.size->¬MZ β' b):Kf (kl1 id) w β w' β':=by
 intro c v h;have D6:=h.one;cases h with
 | @own j _ n h hs=>
  simp only[kl1];split
  .exact .un D6
  .rename_i hb;exact .own (by rw[hβ _<|Sc hb];exact h) hs
 | @ptr j sz i o hd n b f h ha hi=>
  simp only[kl1];split
  .exact .un D6
  .rename_i hb;exact .ptr (by rw[hβ _<|Sc hb];exact h) ha hi
 | un h=>exact .un h
 | lit h=>exact .lit h
 | nil=>exact .nil
 | sl u hn hm hu hr=>exact RC.imm hc hM (.sl u hn hm hu hr) rfl
 | ipt u hm hu hr=>exact RC.imm hc hM (.ipt u hm hu hr) rfl
def Hs.abb(h:Hs B β H w)(id:Nat):Hs B (β.up id U) (upd (λj=>CD (kl1 id)<|H j) id U) w/\Kf (kl1 id) w β w (β.up id U):=
 have hk:Kf (kl1 id) w β w (β.up id U):=Kf.kill (λj e=>BB _ _ e) (λ_ _ _ _ h=>h) (λ_ h _ hm=>h<|abG hm)
 ⟨h.UF (Iu id) hk (λj e=>BB _ _ e) (.inl ⟨Bf _ _ _,rfl⟩) (λ_ _ _ _ _ _=>rfl) rfl rfl rfl (As _) (λ_ _ _=>rfl) rfl (Pk.refl _ _),hk⟩
def Hs.kill(h:Hs B β H w)(id:Nat):∃β',Hs B β' (upd (λj=>CD (kl1 id)<|H j) id U) w/\Kf (kl1 id) w β w β':=⟨_,h.abb id⟩
def Hs.Zf(h:Hs B β H w){id:Nat}{e:TypeId}{fz:Bool}{k:K}{xs:List (Tof k)}(hid:H id=I (.row e fz k xs)):
  Hs B (β.up id U) (upd (λj=>CD (fz1 id k xs)<|H j) id U) w/\Kf (fz1 id k xs) w β w (β.up id U):=by
 have hM:∀b,¬MZ β b->b<w.heap.size->¬MZ (β.up id U) b:=λ_ h _ hm=>h<|abG hm;obtain⟨hd,hb,ns⟩:=h.EA id _ hid;have hk:Kf (fz1 id k xs) w β w (β.up id U):=by
  intro c v hc;have D6:=hc.one;cases hc with
  | @own j _ n h1 hs=>
   simp only[fz1];split
   .rename_i hbq;obtain rfl:=Bk hbq;rw[hb]at h1;cases h1;obtain⟨e1,e2⟩|⟨b,f',cap,us,fr,hd',hh,hfr,hn,Hh,hsz,hr⟩:=ns
    .subst e1;subst e2;exact .nil
    .subst hd';have abn:adr (.slice (I ⟨b,f',U⟩) xs.length cap)=I ⟨b,f',U⟩:=rfl;have Ck:∀i j,i<xs.length->j<ks k->f'+(i * ks k+j)<us.size:=by
      intro i j hi hj;have h1:(i+1) * ks k<=cap * ks k:=Dv _ J;rw[E8]at h1;omega
     refine .sl (λi j=>us.getD (f'+(i * ks k+j)) undef) ⟨rfl,hn⟩ ?_ (λi j hi hj=> ?_) (λi x j c h2 h3=> ?_)
     .rintro(⟨j',hd2,n2,a2,h2,h3,h4⟩|hz)
      .by_cases e':j'=j
       .subst e';rw[Beta.U4]at h2;cases h2
       .rw[Beta.Nf _ _ e']at h2;exact e' (h.inj _ _ _ _ _ _ h2 hb h3 abn h4)
      .exact h.zn _ _ _ hb abn hz
     .rw[cell_of_row w b _ us e fr hh];have:=Ck i j hi hj;simp[this]
     .have hi:i<xs.length:=(BL.1 h2).1;have hj:j<ks k:=by rw[← EE k x];exact(BL.1 h3).1
      have:=Ck i j hi hj;have h5:=hr i x j c (us.getD (f'+(i * ks k+j)) undef) h2 h3 (by simp[this]);exact RC.imm (λ_ _ _ _ h=>h) hM h5 (IM k x h3)
   .rename_i hbq;exact .own (by rw[Beta.Nf _ _<|Sc hbq];exact h1) hs
  | @ptr j sz i o hd n b f h1 ha hi=>
   simp only[fz1];split
   .exact .un D6
   .rename_i hbq;exact .ptr (by rw[Beta.Nf _ _<|Sc hbq];exact h1) ha hi
  | un h=>exact .un h
  | lit h=>exact .lit h
  | nil=>exact .nil
  | sl u hn hm hu hr=>exact RC.imm (λ_ _ _ _ h=>h) hM (.sl u hn hm hu hr) rfl
  | ipt u hm hu hr=>exact RC.imm (λ_ _ _ _ h=>h) hM (.ipt u hm hu hr) rfl
 exact⟨h.UF (k9 id k xs) hk (λj e=>BB _ _ e) (.inl ⟨Bf _ _ _,rfl⟩) (λ_ _ _ _ _ _=>rfl) rfl rfl rfl (As _) (λ_ _ _=>rfl) rfl (Pk.refl _ _),hk⟩
def Hs.freeze(h:Hs B β H w){id:Nat}{e:TypeId}{fz:Bool}{k:K}{xs:List (Tof k)}(hid:H id=I (.row e fz k xs)):
  ∃β',Hs B β' (upd (λj=>CD (fz1 id k xs)<|H j) id U) w/\Kf (fz1 id k xs) w β w β':=⟨_,h.Zf hid⟩
end
end Go.VS
end
