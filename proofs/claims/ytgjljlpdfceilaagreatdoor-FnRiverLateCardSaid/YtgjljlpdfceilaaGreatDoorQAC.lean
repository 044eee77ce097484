/- Part 3. -/
import Derived.Below
import Derived.Laws.Cells
import Derived.Laws.CopyRow
import Derived.Laws.Append
import Derived.Laws.AppendOwn
import Derived.Laws.Rows
import Derived.Lib.ItoaNum
import Derived.Lib.LaidTab
import Derived.Test.YtgjljlpdfceilaaGreatDoorQAB
open Array renaming getElem?_eq_some_iff->Ha
open Bool renaming false->A3,not_eq_true->Gk,true->U
open Go.Lib renaming TabIs->Mv,pow10Tab->Nv
open Go.World renaming block_lt_of_cell?->Uv,cell?->Mu
open List renaming eq_nil_of_length_eq_zero->E7,getElem?_drop->I2,getElem?_eq_some_iff->BP,getElem?_map->DK,getElem?_take->H8
open Nat renaming beq->Al,beq_eq->Hc
open Option renaming none->A0,some->I
set_option linter.all false
noncomputable section
namespace Go.VS
open Go
structure Beta where
 f:Nat->Option (Value×Nat)
 Z:Nat->Prop
instance:CoeFun Beta (λ_=>Nat->Option (Value×Nat)):=⟨Beta.f⟩
def Beta.up(β:Beta)(id:Nat)(v:Option (Value×Nat)):Beta:=⟨upd β.f id v,β.Z⟩
def Beta.Va(β:Beta)(id:Nat)(v:Option (Value×Nat)):(β.up id v) id=v:=by simp[Beta.up,upd]
def Beta.OC(β:Beta){id j:Nat}(v:Option (Value×Nat))(h:j≠id):(β.up id v) j=β j:=by
 have:Al j id=A3:=by rw[← Gk,Hc];exact h
 simp[Beta.up,upd,this]
def adr:Value->Option Addr
 | .pointer (I a)=>I a
 | .slice (I a) _ _=>I a
 | _=>A0
def SI:Value->Bool
 | .slice _ _ _=>U
 | _=>A3
def MB(β:Beta)(b:Nat):Prop:=∃id hd n a,β id=I (hd,n)/\adr hd=I a/\a.block=b
def MZ(β:Beta)(b:Nat):Prop:=MB β b\/β.Z b
inductive RC (w:World) (β:Beta):AV->Value->Prop
 | un {v:Value} (h:v.oneCell'=U):RC w β .un v
 | lit {v:Value} (h:v.oneCell'=U):RC w β (.lit v) v
 | nil {k:K} {a:Option Addr} {cap:Nat} :RC w β (.sl k []) (.slice a 0 cap)
 | sl {k:K} {xs:List (Tof k)} {b f cap n:Nat} (u:Nat->Nat->Value) (hn:n=xs.length/\n<=cap) (hM:¬MZ β b)
   (hu:∀i j,i<xs.length->j<ks k->w.cell? ⟨b,f+(i * ks k+j),A0⟩=I (u i j))
   (hr:∀i x j c,xs[i]? =I x->(enc k x)[j]? =I c->RC w β c (u i j)):RC w β (.sl k xs) (.slice (I ⟨b,f,A0⟩) n cap)
 | own {id:Nat} {hd:Value} {n:Nat} (h:β id=I (hd,n)) (hs:SI hd=U):RC w β (.own id) hd
 | ptr {id sz i o:Nat} {hd:Value} {n b f:Nat} (h:β id=I (hd,n)) (ha:adr hd=I ⟨b,f,A0⟩) (hi:i<n):RC w β (.ptr id sz i o) (.pointer (I ⟨b,f+(i * sz+o),A0⟩))
 | ipt {k:K} {x:Tof k} {o b f:Nat} (u:Nat->Value) (hM:¬MZ β b)
   (hu:∀j,j<ks k->w.cell? ⟨b,f+j,A0⟩=I (u j))
   (hr:∀j c,(enc k x)[j]? =I c->RC w β c (u j)):RC w β (.ipt k x o) (.pointer<|I ⟨b,f+o,A0⟩)
def EV:∀(k:K) (x:Tof k),(enc k x).length=ks k:=by
 intro k x;cases k<;>rfl
def IK(k:K):0<ks k:=by cases k<;>decide
def RC.one{w:World}{β:Beta}{c:AV}{v:Value}(h:RC w β c v):v.oneCell'=U:=by
 cases h with
 | un h=>exact h
 | lit h=>exact h
 | @own id _ n h hs=>cases v<;>simp_all [SI,Value.oneCell']
 | _=>rfl
def RC.mono{w w':World}{β β':Beta}(hβ:∀id p,β id=I p->β' id=I p)
  (hc:∀b o v,¬MZ β b->w.cell? ⟨b,o,A0⟩=I v->w'.cell? ⟨b,o,A0⟩=I v)
  (hM:∀b,¬MZ β b->b<w.heap.size->¬MZ β' b){c:AV}{v:Value}(h:RC w β c v):RC w' β' c v:=by
 induction h with
 | un h=>exact .un h
 | lit h=>exact .lit h
 | nil=>exact .nil
 | @sl k xs b f cap n u hn hm hu hr ih=>
  cases xs with
  | nil=>obtain⟨rfl,_⟩:=hn;exact .nil
  | cons x l=>
   refine .sl u hn (hM b hm ?_) (λi j hi hj=>hc _ _ _ hm<|hu i j hi hj) ih;have:=hu 0 0 (by simp)<|IK k;exact block_lt_of_cell this
 | own h hs=>exact .own (hβ _ _ h) hs
 | ptr h ha hi=>exact .ptr (hβ _ _ h) ha hi
 | @ipt k x o b f u hm hu hr ih=>
  exact .ipt u (hM b hm<|block_lt_of_cell<|hu 0<|IK k) (λj hj=>hc _ _ _ hm<|hu j hj) ih
def RL(R:AV->Value->Prop)(cs:List AV)(us:List Value):Prop:=us.length=cs.length/\ ∀(j:Nat) (c:AV) (u:Value),cs[j]? =I c->us[j]? =I u->R c u
def RL.nil{R:AV->Value->Prop}:RL R [] []:=⟨rfl,λj c u h=>by simp at h⟩
def RL.cons{R:AV->Value->Prop}{c:AV}{u:Value}{cs:List AV}{us:List Value}(h:R c u)(hl:RL R cs us):RL R (c::cs) (u::us):=by
 refine⟨by simp[hl.1],λj c' u' h1 h2=> ?_⟩;cases j with
 | zero=>simp at h1 h2;subst h1;subst h2;exact h
 | succ j=>simp at h1 h2;exact hl.2 j c' u' h1 h2
def RL.CI{R:AV->Value->Prop}{c:AV}{cs:List AV}{us:List Value}(h:RL R (c::cs) us):∃u us',us=u::us'/\R c u/\RL R cs us':=by
 cases us with
 | nil=>exact absurd h.1<|by simp
 | cons u us=>exact⟨u,us,rfl,h.2 0 c u rfl rfl,by simpa using h.1,λj c' u' h1 h2=>h.2 (j+1) c' u' (by simpa using h1)<|by simpa using h2⟩
def RL.of_nil{R:AV->Value->Prop}{us:List Value}(h:RL R [] us):us=[]:=E7<|by simpa using h.1
def RL.mono{R R':AV->Value->Prop}{cs:List AV}{us:List Value}(h:RL R cs us)(hr:∀c u,R c u->R' c u):RL R' cs us:=⟨h.1,λj c u h1 h2=>hr _ _<|h.2 j c u h1 h2⟩
def RL.append{R:AV->Value->Prop}{cs ds:List AV}{us vs:List Value}(h:RL R cs us)(k:RL R ds vs):RL R (cs++ds) (us++vs):=by
 induction cs generalizing us with
 | nil=>rw[h.of_nil];exact k
 | cons c cs ih=>obtain⟨u,us',rfl,h1,h2⟩:=h.CI;exact .cons h1<|ih h2
def RL.take{R:AV->Value->Prop}{cs:List AV}{us:List Value}(h:RL R cs us)(n:Nat):RL R (cs.take n) (us.take n):=by
 refine⟨by simp[h.1],λj c u h1 h2=> ?_⟩;rw[H8]at h1 h2;split at h1
 .rw[A8 ‹_›]at h2;exact h.2 j c u h1 h2
 .cases h1
def RL.drop{R:AV->Value->Prop}{cs:List AV}{us:List Value}(h:RL R cs us)(n:Nat):RL R (cs.drop n) (us.drop n):=by
 refine⟨by simp[h.1],λj c u h1 h2=> ?_⟩;rw[I2]at h1 h2;exact h.2 _ c u h1 h2
def RL.get{R:AV->Value->Prop}{cs:List AV}{us:List Value}(h:RL R cs us){j:Nat}{c:AV}(hj:cs[j]? =I c):∃u,us[j]? =I u/\R c u:=by
 have hlt:j<us.length:=by rw[h.1];exact(BP.1 hj).1
 exact⟨us[j],by simp[hlt],h.2 j c _ hj<|by simp[hlt]⟩
def RL.map{R R':AV->Value->Prop}{cs:List AV}{us:List Value}(f:AV->AV)(h:RL R cs us)(hr:∀c u,R c u->R' (f c) u):RL R' (cs.map f) us:=by
 refine⟨by simp[h.1],λj c u h1 h2=> ?_⟩;rw[DK]at h1;cases hc:cs[j]? with
 | none=>rw[hc]at h1;cases h1
 | some c'=>rw[hc]at h1;simp at h1;subst h1;exact hr _ _<|h.2 j c' u hc h2
def R1(w:World)(β:Beta):AV->Value->Prop
 | .un,_=>True
 | .lit v',v=>v=v'
 | .agg cs,v=>∃us:List Value,v= .agg us.toArray/\RL (RC w β) cs us
 | .arr k xs,v=>∃us:List Value,v= .agg us.toArray/\us.length=xs.length * ks k/\ ∀i x j c u,xs[i]? =I x->(enc k x)[j]? =I c->us[i * ks k+j]? =I u->RC w β c u
 | .tup _,_=>False
 | .gd _ _ _,_=>False
 | .sl k xs,v=>RC w β (.sl k xs) v
 | .own id,v=>RC w β (.own id) v
 | .ptr id sz i o,v=>RC w β (.ptr id sz i o) v
 | .ipt k x o,v=>RC w β (.ipt k x o) v
def R2(w:World)(β:Beta):AV->Value->Prop
 | .tup vs,v=>∃us:List Value,v= .tuple us.toArray/\RL (R1 w β) vs us
 | x,v=>R1 w β x v
def RT(w:World)(β:Beta)(tm:Nat->Value):AV->Value->Prop
 | .gd g want x,v=>(tm g= .bool want->R2 w β x v)/\(tm g≠ .bool want->v=undef)
 | x,v=>R2 w β x v
section mono
variable {w w':World} {β β':Beta} (hβ:∀c v,RC w β c v->RC w' β' c v)
include hβ
def R1.mono{c:AV}{v:Value}(h:R1 w β c v):R1 w' β' c v:=by
 cases c<;>simp only[R1]at h ⊢
 case lit=>exact h
 case agg=>obtain⟨us,e,h⟩:=h;exact⟨us,e,h.mono hβ⟩
 case arr=>obtain⟨us,e,hl,h⟩:=h;exact⟨us,e,hl,λi x j c u h1 h2 h3=>hβ _ _<|h i x j c u h1 h2 h3⟩
 all_goals exact hβ _ _ h
def R2.mono{c:AV}{v:Value}(h:R2 w β c v):R2 w' β' c v:=by
 cases c<;>simp only[R2]at h ⊢
 case tup=>obtain⟨us,e,h⟩:=h;exact⟨us,e,h.mono λc u=>R1.mono hβ⟩
 all_goals exact R1.mono hβ h
def RT.mono{tm:Nat->Value}{c:AV}{v:Value}(h:RT w β tm c v):RT w' β' tm c v:=by
 cases c<;>simp only[RT]at h ⊢
 case gd=>exact⟨λe=>R2.mono hβ<|h.1 e,h.2⟩
 all_goals exact R2.mono hβ h
end mono
def Ft(w:World)(β:Beta)(e:TypeId)(fz:Bool)(k:K)(xs:List (Tof k))(hd:Value):Prop:=
 (hd= .slice A0 0 0/\xs=[])\/
 ∃b f cap us fr,hd= .slice (I ⟨b,f,A0⟩) xs.length cap/\
  w.heap[b]? =I (.cells us e fr)/\fr=(if fz then(us.size,us.size+1) else(0,0))/\xs.length<=cap/\cap<=maxLen/\f+cap * ks k<=us.size/\
  ∀i x j c u,xs[i]? =I x->(enc k x)[j]? =I c->us[f+(i * ks k+j)]? =I u->RC w β c u
def EJ(P:Program)(w:World)(β:Beta)(id:Nat):Ob->Prop
 | .box e cs=>∃b us,β id=I (.pointer<|I ⟨b,0,A0⟩,1)/\w.heap[b]? =I (.cells us e (0,0))/\RL (RC w β) cs us.toList
 | .row e fz k xs=>∃hd,β id=I (hd,xs.length)/\Ft w β e fz k xs hd
 | .arr e k xs=>∃b us,β id=I (.pointer<|I ⟨b,0,A0⟩,xs.length)/\w.heap[b]? =I (.cells us e (0,0))/\us.size=xs.length * ks k/\us.size=P.cellsOf e/\
  ∀i x j c u,xs[i]? =I x->(enc k x)[j]? =I c->us[i * ks k+j]? =I u->RC w β c u
def GV(P:Program)(w:World):Prop:=w.ShapedOpen P/\(P.globalNamed "internal/strconv.uint64pow10" ≠A0->Mv P w "internal/strconv.uint64pow10" .u64 Nv)
def O3(P:Program)(w:World)(O:Nat->Prop):Prop:=∃w0:World,GV P w0/\ ∀b,b<P.globals.size->¬O b/\b<w.heap.size/\w.heap[b]? =w0.heap[b]?
structure Bg where
 P:Program
 w0:World
 O:Nat->Prop
 tm0:Nat->Value
 Z:Nat->Prop
 gl:O3 P w0 O
def Be(a:Act):Nat->Value:=λt=>a.tmps.getD t undef
def Pp(P:Program)(e:TypeId):Bool:=match Hr P e with
 | some (.lit (.pointer A0)::_)=>U
 | _=>A3
def Pk(P:Program)(w w':World):Prop:=∀(b:Nat) (us:Array Value) (e:TypeId) (fr:Nat×Nat) (a:Addr),w.heap[b]? =I (.cells us e fr)->us[0]? =I (.pointer<|I a)->Pp P e=U->
 ∃us' fr',w'.heap[b]? =I (.cells us' e fr')/\us'[0]? =I (.pointer<|I a)
def Pk.refl(P:Program)(w:World):Pk P w w:=λ_ us _ fr _ h1 h2 _=>⟨us,fr,h1,h2⟩
def Pk.trans{P:Program}{w w' w'':World}(h:Pk P w w')(k:Pk P w' w''):Pk P w w'':=λb us e fr a h1 h2 h3=>by
 obtain⟨us',fr',h4,h5⟩:=h b us e fr a h1 h2 h3;exact k b us' e fr' a h4 h5 h3
def Pk.old{P:Program}{w w':World}(h:∀j,j<w.heap.size->w'.heap[j]? =w.heap[j]?):Pk P w w':=λb us e fr a h1 h2 _=>by
 have hlt:b<w.heap.size:=(Ha.1 h1).1;exact⟨us,fr,(h b hlt).trans h1,h2⟩
structure Hs (B:Bg) (β:Beta) (H:Hp) (w:World):Prop where
 EU:∀id ob,H id=I ob->EJ B.P w β id ob
 dom:∀id p,β id=I p->∃ob,H id=I ob
 inj:∀i j p q a a',β i=I p->β j=I q->adr p.1=I a->adr q.1=I a'->a.block=a'.block->i=j
 old:∀b,MB β b->(B.O b\/B.w0.heap.size<=b)/\b<w.heap.size
 os:w.os=B.w0.os
 tape:w.tape=B.w0.tape
 output:w.output=B.w0.output
 size:B.w0.heap.size<=w.heap.size
 block:∀b,b<B.w0.heap.size->¬B.O b->w.heap[b]? =B.w0.heap[b]?
 z:β.Z=B.Z
 zn:∀id p a,β id=I p->adr p.1=I a->¬β.Z a.block
 zl:∀b,β.Z b->b<w.heap.size
 pk:Pk B.P B.w0 w
structure St (B:Bg) (β:Beta) (stk:List (Array Value)) (s:S) (a:Act) (w:World):Prop where
 T:∀t,RT w β (Be a) (s.T t) (Be a t)
 stack:stk.length=s.st.length/\ ∀(i:Nat) (T:Nat->AV) (tm:Array Value),s.st[i]? =I T->stk[i]? =I tm->∀t,RT w β (λt=>tm.getD t undef) (T t) (tm.getD t undef)
 n:a.tmps.size=s.n
 defers:a.defers=[]
 pins:∀t∈s.pins,Be a t=B.tm0 t
 gs:∀t g want x,s.T t= .gd g want x->s.gs g=U
 hs:Hs B β s.H w
def Kp(w:World)(β:Beta)(w':World)(β':Beta):Prop:=∀c v,RC w β c v->RC w' β' c v
def Kp.refl(w:World)(β:Beta):Kp w β w β:=λ_ _ h=>h
section
variable {B:Bg} {β:Beta} {H:Hp} {w:World}
def Kp.heap{w':World}(h:w'.heap=w.heap):Kp w β w' β:=λc v x=>RC.mono (λ_ _ h=>h) (λb o v _ hc=>by
 rw[show w'.cell? ⟨b,o,A0⟩=w.cell? ⟨b,o,A0⟩ from by simp only[Mu,h]];exact hc) (λ_ h _=>h) x
def EJ.mono{P:Program}{w':World}{β':Beta}{id:Nat}{ob:Ob}(h:EJ P w β id ob)(hβ:β' id=β id)(hk:Kp w β w' β')
  (hb:∀p a,β id=I p->adr p.1=I a->w'.heap[a.block]? =w.heap[a.block]?):EJ P w' β' id ob:=by
 cases ob with
 | box e cs=>
  obtain⟨b,us,h1,h2,h3⟩:=h;refine⟨b,us,by rw[hβ];exact h1, ?_,h3.mono hk⟩;have e1:w'.heap[b]? =w.heap[b]? :=hb _ ⟨b,0,A0⟩ h1 rfl;rw[e1];exact h2
 | row e fz k xs=>
  obtain⟨hd,h1,h2⟩:=h;refine⟨hd,by rw[hβ];exact h1, ?_⟩;obtain h2|⟨b,f,cap,us,fr,hd',hh,hfr,hn,hc,hs,hr⟩:=h2
  .exact .inl h2
  .have ha:adr hd=I ⟨b,f,A0⟩:=by rw[hd'];rfl
   have e1:w'.heap[b]? =w.heap[b]? :=hb _ _ h1 ha;exact .inr ⟨b,f,cap,us,fr,hd',by rw[e1];exact hh,hfr,hn,hc,hs,λi x j c u a1 a2 a3=>hk _ _<|hr i x j c u a1 a2 a3⟩
 | arr e k xs=>
  obtain⟨b,us,h1,h2,h3,h4,h5⟩:=h;have e1:w'.heap[b]? =w.heap[b]? :=hb _ ⟨b,0,A0⟩ h1 rfl;exact⟨b,us,by rw[hβ];exact h1,by rw[e1];exact h2,h3,h4,λi x j c u a1 a2 a3=>hk _ _<|h5 i x j c u a1 a2 a3⟩
def Hs.drew(h:Hs B β H w):Hs B β H w.drew where
 EU id ob hi:=(h.EU id ob hi).mono rfl (Kp.heap rfl) (λ_ _ _ _=>rfl)
 dom:=h.dom
 inj:=h.inj
 old:=h.old
 os:=h.os
 tape:=h.tape
 output:=h.output
 size:=h.size
 block:=h.block
 z:=h.z
 zn:=h.zn
 zl:=h.zl
 pk:=h.pk
def Hs.alloc(h:Hs B β H w){id:Nat}(hid:H id=A0)(us:Array Value)(e:TypeId)(ob:Ob)(hd:Value)(n:Nat)(a:Addr)
  (ha:adr hd=I a)(hab:a.block=w.heap.size)
  (hob:∀β',(∀j,j≠id->β' j=β j)->β' id=I (hd,n)->Kp w β (w.alloc<|.cells us e) β'->EJ B.P (w.alloc<|.cells us e) β' id ob):
  ∃β',Hs B β' (upd H id<|I ob) (w.alloc<|.cells us e)/\Kp w β (w.alloc<|.cells us e) β'/\β' id=I (hd,n)/\ ∀j,j≠id->β' j=β j:=by
 have Vb:β id=A0:=by
  cases hb:β id with
  | none=>rfl
  | some p=>obtain⟨ob',ho⟩:=h.dom id p hb;rw[hid]at ho;cases ho
 let β':Beta:=β.up id<|I (hd,n)
 have up:∀ {α:Type} (f:Nat->α) (v:α),upd f id v id=v:=λf v=>by simp[upd]
 have un:∀ {α:Type} (f:Nat->α) (v:α) (j:Nat),j≠id->upd f id v j=f j:=λf v j hj=>by
  have:Al j id=A3:=by rw[← Gk,Hc];exact hj
  simp[upd,this]
 have hM:∀b,MB β' b->MB β b\/b=w.heap.size:=by
  rintro b ⟨j,hd',n',a',hj,ha',hb⟩;by_cases e:j=id
  .subst e;rw[show β' j=I (hd,n) from up _ _]at hj;cases hj;rw[ha]at ha';cases ha';exact .inr (hb▸hab)
  .rw[show β' j=β j from un _ _ j e]at hj;exact .inl ⟨j,hd',n',a',hj,ha',hb⟩
 have hk:Kp w β (w.alloc<|.cells us e) β':=λc v x=>RC.mono
  (λj p hj=>by
   by_cases e:j=id
   .subst e;rw[Vb]at hj;cases hj
   .rw[show β' j=β j from un _ _ j e];exact hj)
  (λb o v _ hc=>by rw[World.cell?_alloc_lt w _ _<|Uv w _ hc];exact hc)
  (λb hb hlt hm=>by
   obtain hm|hm:=hm
   .rcases hM b hm with h1|h1
    .exact hb (.inl h1)
    .omega
   .exact hb<|.inr hm) x
 refine⟨β', ?_,hk,up _ _,λj hj=>un _ _ j hj⟩;constructor
 .intro j ob' hj;by_cases e':j=id
  .subst e';rw[up]at hj;cases hj;exact hob β' (λj hj=>un _ _ j hj) (up _ _) hk
  .rw[un _ _ j e']at hj;refine(h.EU j ob' hj).mono (un _ _ j e') hk (λp a' hp ha'=> ?_);have hlt:=(h.old a'.block ⟨j,p.1,p.2,a',hp,ha',rfl⟩).2;exact heap_alloc_old w _ _ hlt
 .intro j p hj;by_cases e':j=id
  .subst e';exact⟨ob,up _ _⟩
  .rw[show β' j=β j from un _ _ j e']at hj;obtain⟨ob',ho⟩:=h.dom j p hj;exact⟨ob',by rw[un _ _ j e'];exact ho⟩
 .intro i j p q a1 a2 hi hj h1 h2 hb;by_cases ei:i=id<;>by_cases ej:j=id
  .rw[ei,ej]
  .subst ei;rw[show β' i=_ from up _ _]at hi;cases hi;rw[ha]at h1;cases h1;rw[show β' j=β j from un _ _ j ej]at hj;have:=(h.old a2.block ⟨j,q.1,q.2,a2,hj,h2,rfl⟩).2;omega
  .subst ej;rw[show β' j=_ from up _ _]at hj;cases hj;rw[ha]at h2;cases h2;rw[show β' i=β i from un _ _ i ei]at hi;have:=(h.old a1.block ⟨i,p.1,p.2,a1,hi,h1,rfl⟩).2;omega
  .rw[show β' i=β i from un _ _ i ei]at hi;rw[show β' j=β j from un _ _ j ej]at hj;exact h.inj i j p q a1 a2 hi hj h1 h2 hb
 .intro b hb;rcases hM b hb with h1|h1
  .have:=h.old b h1;exact⟨this.1,by simp;omega⟩
  .refine⟨.inr<|h1▸h.size,by simp;omega⟩
 .exact h.os
 .exact h.tape
 .exact h.output
 .have:=h.size;simp;omega
 .intro b hb hO;rw[heap_alloc_old w _ _ (by have:=h.size;omega)];exact h.block b hb hO
 .exact h.z
 .intro j p a1 hj h1 hz;by_cases e':j=id
  .subst e';rw[show β' j=_ from up _ _]at hj;cases hj;rw[ha]at h1;cases h1;have:=h.zl _ hz;omega
  .rw[show β' j=β j from un _ _ j e']at hj;exact h.zn j p a1 hj h1 hz
 .intro b hb;have:=h.zl b hb;simp;omega
 .exact h.pk.trans<|Pk.old λj hj=>heap_alloc_old w _ _ hj
end
end Go.VS
end
