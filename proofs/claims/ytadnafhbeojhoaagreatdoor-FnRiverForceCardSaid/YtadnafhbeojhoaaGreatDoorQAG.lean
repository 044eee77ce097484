/- Part 7. -/
import Derived.Laws.MakeOwn
import Derived.Great.BuildSlice
import Derived.Lib.ConvBytes
import Derived.Test.YtadnafhbeojhoaaGreatDoorQAF
open Array renaming getElem?_append_left->MQ,getElem?_eq_some_iff->HV,getElem?_toList->UA,length_toList->F4,size_append->Pz,size_replicate->ru
open Bool renaming and_eq_true->AI,true->A1
open Go.Addr renaming add_lit->Gs
open Go.Builtin renaming len_->S1
open Go.Instr renaming index->o9,indexAt->TN,sureAddr->JO
open Go.Result renaming andThen_ok->Er
open Go.Sem renaming run_bind->El,run_pure->Fl
open Go.World renaming block_lt_of_cell?->Um,cell?_of_block->UO
open List renaming getD_eq_getElem?_getD->BD,getElem?_cons_zero->WU,getElem?_drop->Hd,getElem?_eq_some_iff->BP,getElem?_map->DE,getElem?_take->Gu,length_map->EM
open Nat renaming add_assoc->DH,add_mul->EP,le_refl->As,le_trans->CB,lt_of_lt_of_le->Gw,mul_le_mul_right->E6
open Option renaming bind_some->A9,map_eq_some_iff->DL,none->U,some->I
open Option.some renaming inj->EI,injEq->Bv
open Prod.mk renaming injEq->CM
set_option linter.all false
noncomputable section
namespace Go.VS
open Go
def yK(f:AV->AV)(hf:∀c,f c=c)(o:Option Ob):CJ f o=o:=by
 cases o with
 | none=>rfl
 | some ob=>cases ob with
  | box e cs=>simp[CJ,show f=λc=>c from funext hf]
  | _=>rfl
section
variable {P:Program} {B:Be} {β:Beta} {H:Hp} {w w':World} {b:Nat} {tm:Nat->Value} {ρ:Operand->AV} {η:Operand->Value}
def Hs.grow(h:Hs B β H w){id:Nat}(hid:H id=U)(ob:Ob)(hd:Value)(n:Nat)
  (hos:w'.os=w.os)(KG:w'.tape=w.tape)(Ew:w'.output=w.output)(F6:w.heap.size<=w'.heap.size)(hold:∀j,j<w.heap.size->w'.heap[j]? =w.heap[j]?)
  (ha:∀a,adr hd=I a->w.heap.size<=a.block/\a.block<w'.heap.size)
  (hob:∀β',β' id=I (hd,n)->Kp w β w' β'->E9 B.P w' β' id ob):
  ∃β',Hs B β' (upd H id<|I ob) w'/\Kp w β w' β'/\β' id=I (hd,n):=by
 have VO:β id=U:=by
  cases hb:β id with
  | none=>rfl
  | some p=>obtain⟨ob',ho⟩:=h.dom id p hb;rw[hid]at ho;cases ho
 have hM:∀b,MB (β.up id<|I (hd,n)) b->MB β b\/w.heap.size<=b:=by
  rintro b ⟨j,hd',n',a',hj,ha',hb⟩;by_cases e:j=id
  .subst e;rw[Beta.Tm]at hj;cases hj;exact .inr (hb▸(ha a' ha').1)
  .rw[Beta.O5 _ _ e]at hj;exact .inl ⟨j,hd',n',a',hj,ha',hb⟩
 have hk:Kp w β w' (β.up id<|I (hd,n)):=λc v x=>RC.mono
  (λj p hj=>by
   by_cases e:j=id
   .subst e;rw[VO]at hj;cases hj
   .rw[Beta.O5 _ _ e];exact hj)
  (λb o v _ hc=>by
   rw[UO (w:=w) (w':=w')<|hold b<|Um w _ hc];exact hc)
  (λb hb hlt hm=>by
   obtain hm|hm:=hm
   .rcases hM b hm with h1|h1
    .exact hb (.inl h1)
    .omega
   .exact hb<|.inr hm) x
 have h1:=h.Tl (w':=w') (β':=β.up id<|I (hd,n)) (f:=λc=>c) (λ_ _=>rfl) hk (id:=id) (ob:=I ob) (λj e=>BE _ _ e)
  (.inr ⟨ob,hd,n,rfl,Bl _ _ _,hob _ (Bl _ _ _) hk,λa h=> .inr<|ha a h⟩)
  (λj p a e hj h2=>hold _ (h.old _ ⟨j,p.1,p.2,a,hj,h2,rfl⟩).2) hos KG Ew F6 (λb hb _=>hold b<|Gw hb h.size) rfl (Pk.old hold)
 refine⟨_, ?_,hk,Bl _ _ _⟩;rwa[show(λj=>CJ (λc=>c)<|H j)=H from funext λj=>yK _ (λ_=>rfl) _]at h1
def asF(h:Hs B β H w)(hb:H b=U){ob:Ob}{hd:Value}{n:Nat}{v:AV}
  (hos:w'.os=w.os)(KG:w'.tape=w.tape)(Ew:w'.output=w.output)(F6:w.heap.size<=w'.heap.size)(hold:∀j,j<w.heap.size->w'.heap[j]? =w.heap[j]?)
  (ha:∀a,adr hd=I a->w.heap.size<=a.block/\a.block<w'.heap.size)
  (hob:∀β',β' b=I (hd,n)->Kp w β w' β'->E9 B.P w' β' b ob){u:Value}
  (hv:∀β',β' b=I (hd,n)->R2 w' β' v u){r:Result Next}(hr:r= .ok (.value u) w'):Good B β H w b v [ob] r:=by
 obtain⟨β',h1,h2,h3⟩:=h.grow hb ob hd n hos KG Ew F6 hold ha hob;exact⟨u,w',β',hr,h1,h2,hv _ h3⟩
def Zu(h:Hs B β H w)(hb:H b=U){e:TypeId}{fz:Bool}{k:K}{xs:List (Tof k)}{cap:Nat}{us:Array Value}
  (hos:w'.os=w.os)(KG:w'.tape=w.tape)(Ew:w'.output=w.output)(hold:∀j,j<w.heap.size->w'.heap[j]? =w.heap[j]?)
  (YC:w'.heap[w.heap.size]? =I (.cells us e<|if fz then(us.size,us.size+1) else(0,0)))(hc:xs.length<=cap)(hm:cap<=maxLen)(hs:cap * ks k<=us.size)
  (hr:∀i x j c u,xs[i]? =I x->(enc k x)[j]? =I c->us[i * ks k+j]? =I u->RC w β c u)
  {r:Result Next}(Cf:r= .ok (.value<|.slice (I ⟨w.heap.size,0,U⟩) xs.length cap) w'):Good B β H w b (.own b) [.row e fz k xs] r:=by
 have hlt:w.heap.size<w'.heap.size:=(HV.1 YC).1;refine asF h hb (hd:= .slice (I ⟨w.heap.size,0,U⟩) xs.length cap) (n:=xs.length) hos KG Ew (Nat.le_of_lt hlt) hold (λa ha=>by cases ha;exact⟨As _,hlt⟩) ?_ ?_ Cf
 .intro β' hβ hk;refine⟨_,hβ,.inr ⟨w.heap.size,0,cap,us,_,rfl,YC,rfl,hc,hm,J,λi x j c u h1 h2 h3=>hk _ _<|hr i x j c u h1 h2 ?_⟩⟩;simpa using h3
 .intro β' hβ;exact RC.own hβ rfl
def al4(s:A4){i:Int}(h:inb i s.size=A1):∃x,s[i.toNat]? =I x/\bt s i=(x.toNat:Int)/\0<=i:=by
 simp only[inb,AI,decide_eq_true_eq]at h;have hlt:i.toNat<s.size:=J
 refine⟨s[i.toNat],by simp[hlt], ?_,h.1⟩;have h2:i.toNat<s.data.size:=hlt;have:s.data.toList.getD i.toNat 0=s[i.toNat]:=by
  rw[BD,UA,Array.getElem?_eq_getElem h2];rfl
 unfold bt;rw[this]
def R1.enc{k:K}{xs:List (Tof k)}{us:List Value}(hl:us.length=xs.length * ks k)(hr:∀i x j c u,xs[i]? =I x->(enc k x)[j]? =I c->us[i * ks k+j]? =I u->RC w β c u)
  {i:Nat}{x:Tof k}(hi:xs[i]? =I x):RL (RC w β) (enc k x) ((us.drop<|i * ks k).take<|ks k):=by
 have hlt:i<xs.length:=(BP.1 hi).1;have h1:(i+1) * ks k<=xs.length * ks k:=E6 _ hlt;rw[EP]at h1;refine⟨by simp[EH];omega,λj c u h2 h3=>hr i x j c u hi h2 ?_⟩;have hj:j<ks k:=by rw[← EH k x];exact(BP.1 h2).1
 rw[Gu,A8 hj,Hd]at h3;exact h3
def apT(hη:∀x,RX w β tm (ρ x)<|η x)(hH:Hs B β H w){t:TypeId}{x ix:Operand}{k:IntKind}{i:Int}(hi:ρ ix= .lit (.int k i)){q:Bool}{v:AV}{os:List Ob}(h:Rq P t i (ρ x)=I (q,v,os))(hq:q=A1):
  Good B β H w b v os (((o9 t (η x)<|η ix).run P w).andThen λu w=> .ok (.value u) w):=by
 subst hq;have hx:=hη x;have hix:=hη ix;rw[hi]at hix;rw[hix.lit];generalize ρ x=c at h hx;unfold Rq at h;split at h
 .rename_i s;split at h
  .rename_i hu;simp only[Bv,CM]at h;obtain⟨h1,rfl,rfl⟩:=h;obtain⟨y,hy,hb,h0⟩:=al4 s h1;rw[hx.lit,hb];exact Good.same hH (u:= .int .u8 y.toNat) (by simp[o9,asIntOf,run_underlying hu,h0,hy]) rfl
  .cases h
 .rename_i k' xs;split at h
  .rename_i n e hu;split at h
   .rename_i h1 h2;cases hv:HB P e (enc k'<|rd (dfl k') xs i) 0 with
    | none=>rw[hv]at h;cases h
    | some v'=>
     rw[hv]at h;simp only[A9,Bv,CM]at h;obtain⟨hb,rfl,rfl⟩:=h;simp only[inb,AI,decide_eq_true_eq]at hb;obtain⟨us,e1,hl,hr⟩:=hx;simp only[AI]at h1;have hk:=Bn h1.1;have hi':xs[i.toNat]? =I (rd (dfl k') xs i):=by
      have:i.toNat<xs.length:=J
      simp[rd,this]
     have hrl:=R1.enc hl hr hi';unfold HB at hv;rw[h2]at hv;simp only at hv;obtain⟨u,hu1,hu2⟩:=hrl.get hv;have hlen:P.cellsOf e=1:=Bn h1.2;have hu3:us[i.toNat]? =I u:=by
      rw[hk]at hu1;simpa using hu1
     refine Good.same hH (u:=u) ?_<|R2.HP<|R1.Ml hu2;have hb':0<=i/\i<(n:Int):=J
     rw[e1];simp only[o9,asIntOf,El,Fl,Er,run_underlying hu,hb',and_self,A5,KO (P:=P) (w:=w) (t:=e) J,hlen,Nat.mul_one,ou hu3 h2]
   .cases h
  .cases h
 .cases h
end
end Go.VS
namespace Go.VS
open Go Go.Lib
def Ht{a b:K}{xs:List (Tof a)}{ys:List (Tof b)}(h:Ix a b xs=I ys):∃e:a=b,e▸xs=ys:=by
 cases a<;>cases b<;>first|(cases h;exact⟨rfl,rfl⟩)|cases h
def M4(w:World)(β:Beta)(k:K)(xs:List (Tof k))(v:Value):Prop:=
 (xs=[]/\ ∃a cap,v= .slice a 0 cap)\/ ∃b f cap,∃u:Nat->Nat->Value,v= .slice (I ⟨b,f,U⟩) xs.length cap/\xs.length<=cap/\
  (∀i j,i<xs.length->j<ks k->w.cell? ⟨b,f+(i * ks k+j),U⟩=I (u i j))/\ ∀i x j c,xs[i]? =I x->(enc k x)[j]? =I c->RC w β c (u i j)
section
variable {P:Program} {B:Be} {β:Beta} {H:Hp} {w w':World} {b:Nat} {tm:Nat->Value} {ρ:Operand->AV} {η:Operand->Value}
def RC.mg{k:K}{xs:List (Tof k)}{v:Value}(h:RC w β (.sl k xs) v):M4 w β k xs v:=by
 cases h with
 | nil=>exact .inl ⟨rfl,_,_,rfl⟩
 | sl u hn hm hu hr=>obtain⟨rfl,hc⟩:=hn;exact .inr ⟨_,_,_,u,rfl,hc,hu,hr⟩
def FP.cells{e:TypeId}{fz:Bool}{k:K}{xs:List (Tof k)}{hd:Value}(h:FP w β e fz k xs hd):M4 w β k xs hd:=by
 obtain⟨rfl,rfl⟩|⟨b,f,cap,us,fr,rfl,hh,hfr,hn,hc,hs,hr⟩:=h
 .exact .inl ⟨rfl,_,_,rfl⟩
 .have Cv:∀i j,i<xs.length->j<ks k->f+(i * ks k+j)<us.size:=by
   intro i j hi hj;have h1:(i+1) * ks k<=cap * ks k:=E6 _ J;rw[EP]at h1;omega
  refine .inr ⟨b,f,cap,λi j=>us.getD (f+(i * ks k+j)) undef,rfl,hn,λi j hi hj=> ?_,λi x j c h1 h2=> ?_⟩
  .rw[cell_of_row w b _ us e fr hh];have:=Cv i j hi hj;simp[this]
  .have hi:i<xs.length:=(BP.1 h1).1;have hj:j<ks k:=by rw[← EH k x];exact(BP.1 h2).1
   have:=Cv i j hi hj;exact hr i x j c _ h1 h2<|by simp[this]
def abX(hH:Hs B β H w){k:K}{c:AV}{v:Value}{xs:List (Tof k)}(h:CF H k c=I xs)(hx:R2 w β c v):M4 w β k xs v:=by
 unfold CF at h;split at h
 .obtain⟨e,rfl⟩:=Ht h;subst e;exact RC.mg hx
 .cases h;have:v=_:=hx;exact .inl ⟨rfl,_,_,this⟩
 .rename_i id;split at h
  .rename_i e fz k' ys hid;obtain⟨ek,rfl⟩:=Ht h;subst ek;obtain⟨hd,h1,h2⟩:=hH.ER id _ hid;have h3:RC w β (.own id) v:=hx;cases h3 with
   | own h4 h5=>rw[h1]at h4;cases h4;exact h2.cells
  .cases h
 .cases h
def M4.len{k:K}{xs:List (Tof k)}{v:Value}(h:M4 w β k xs v):∃a cap,v= .slice a xs.length cap/\xs.length<=cap:=by
 obtain⟨rfl,a,cap,rfl⟩|⟨b,f,cap,u,rfl,hc,_⟩:=h
 .exact⟨_,_,rfl,by simp⟩
 .exact⟨_,_,rfl,hc⟩
def yP{t e:TypeId}(hu:P.underlying t=I (.slice e))(h1:1<=P.cellsOf e){bb f n cap:Nat}{k:IntKind}{i:Int}(h0:0<=i)(hn:i<(n:Int)):
  (TN t (.slice (I ⟨bb,f,U⟩) n cap)<|.int k i).run P w= .ok (.pointer<|I ⟨bb,f+i.toNat * P.cellsOf e,U⟩) w:=by
 have hb':0<=i/\i<(n:Int):=⟨h0,hn⟩;have hb1:n<=1\/ ¬n<=1:=J
 obtain hb1|hb1:=hb1<;>
 simp[TN,asIntOf,run_underlying hu,hb1,hb',KO h1,Gs]
def avz{t e:TypeId}{n:Nat}(hu:P.underlying t=I (.array n e))(h1:1<=P.cellsOf e){bb f:Nat}{k:IntKind}{i:Int}(h0:0<=i)(hn:i<(n:Int)):
  (TN t (.pointer<|I ⟨bb,f,U⟩)<|.int k i).run P w= .ok (.pointer<|I ⟨bb,f+i.toNat * P.cellsOf e,U⟩) w:=by
 have hb':0<=i/\i<(n:Int):=⟨h0,hn⟩;have hb1:n<=1\/ ¬n<=1:=J
 obtain hb1|hb1:=hb1<;>
 simp[TN,asIntOf,JO,run_underlying hu,hb1,hb',KO h1,Gs]
def avA(hP:P=B.P)(hη:∀x,RX w β tm (ρ x)<|η x)(hH:Hs B β H w){t:TypeId}{x ix:Operand}{k:IntKind}{i:Int}(hi:ρ ix= .lit (.int k i)){q:Bool}{v:AV}{os:List Ob}(h:MD P H t i (ρ x)=I (q,v,os))(hq:q=A1):
  Good B β H w b v os (((TN t (η x)<|η ix).run P w).andThen λu w=> .ok (.value u) w):=by
 subst hq;have hx:=hη x;have hix:=hη ix;rw[hi]at hix;rw[hix.lit];generalize ρ x=c at h hx;generalize η x=vx at hx;unfold MD at h;split at h
 .rename_i k' xs;split at h
  .rename_i e hu;split at h
   .rename_i hk;have hk:=Bn hk;simp only[Bv,CM,inb,AI,decide_eq_true_eq]at h;obtain⟨⟨h0,hn⟩,rfl,rfl⟩:=h;have hx':RC w β (.sl k' xs) vx:=hx;cases hx' with
    | nil=>simp at hn;omega
    | @sl _ _ bb f cap n u hn' hm hu' hr=>
     obtain⟨rfl,hc⟩:=hn';have h1:=Hc k';have hlt:i.toNat<xs.length:=J
     have jA:xs[i.toNat]? =I (rd (dfl k') xs i):=by simp[rd,hlt]
     refine Good.same hH (u:= .pointer<|I ⟨bb,f+i.toNat * ks k',U⟩) ?_ ?_
     .rw[yP hu J h0 hn,hk];rfl
     .have:=RC.ipt (w:=w) (β:=β) (k:=k') (x:=rd (dfl k') xs i) (o:=0) (b:=bb) (f:=f+i.toNat * ks k') (u i.toNat) hm (λj hj=>by rw[DH];exact hu' _ _ hlt hj) (λj c hc=>hr _ _ _ _ jA hc);exact this
   .cases h
  .cases h
 .rename_i id;split at h
  .rename_i e e' fz k' xs hu hid;split at h
   .rename_i hk;have hk:=Bn hk;simp only[Bv,CM,inb,AI,decide_eq_true_eq]at h;obtain⟨⟨h0,hn⟩,rfl,rfl⟩:=h;obtain⟨hd,h1,h2⟩:=hH.ER id _ hid;have h3:RC w β (.own id) vx:=hx;cases h3 with
    | own h4 h5=>
     rw[h1]at h4;cases h4;have h1':=Hc k';obtain⟨_,e2⟩|⟨bb,f,cap,us,fr,rfl,hh,hfr,hnc,hc,hs,hr⟩:=h2
     .subst e2;simp at hn;omega
     .refine Good.same hH (u:= .pointer<|I ⟨bb,f+i.toNat * ks k',U⟩) ?_ ?_
      .rw[yP hu J h0 hn,hk];rfl
      .have:=RC.ptr (w:=w) (β:=β) (id:=id) (sz:=ks k') (i:=i.toNat) (o:=0) h1 (b:=bb) (f:=f) rfl J;simpa[R2,R1] using this
   .cases h
  .cases h
 .rename_i id z;split at h
  .rename_i n e e' k' xs hu hid;split at h
   .rename_i hk;simp only[AI]at hk;have hk1:=Bn hk.1.1;have hk2:=Bn hk.1.2;obtain rfl:=Bn hk.2;simp only[Bv,CM,inb,AI,decide_eq_true_eq]at h;obtain⟨⟨h0,hn⟩,rfl,rfl⟩:=h;obtain⟨bb,us,h1,hh,hsz,hce,hr⟩:=hH.ER id _ hid;have h1':=Hc k';have hlen:xs.length=n:=by
     rw[hP]at hk2;rw[hsz,hk2]at hce;exact Nat.eq_of_mul_eq_mul_right h1' hce
    have h3:RC w β (.ptr id z 0 0) vx:=hx;cases h3 with
    | @ptr _ _ _ _ hd n' b' f h4 ha hi'=>
     rw[h1]at h4;cases h4;cases ha;refine Good.same hH (u:= .pointer<|I ⟨bb,0+i.toNat * ks k',U⟩) ?_ ?_
     .rw[show(0:Nat)+(0 * z+0)=0 by omega,avz hu J h0 J,hk1];rfl
     .have:=RC.ptr (w:=w) (β:=β) (id:=id) (sz:=ks k') (i:=i.toNat) (o:=0) h1 (b:=bb) (f:=0) rfl J;simpa[R2,R1] using this
   .cases h
  .cases h
 .cases h
def sG{t ty:TypeId}{e:TypeId}(hu:P.underlying t=I (.slice e)){a:Option Addr}{n cap:Nat}:(S1 #[t] ty #[.slice a n cap]).run P w= .ok (.int .i64 n) w:=by
 simp[S1,run_underlying hu,goInt]
def avr{src dst e:TypeId}(hs:P.underlying src=I (.slice e))(he:P.underlying e=I (.int .u8))(hd:P.underlying dst=I .string){xs:List (Tof .u8)}{v:Value}(h:M4 w β .u8 xs v):
  (convert src dst v).run P w= .ok (.string<|BH xs) w:=by
 obtain⟨rfl,a,cap,rfl⟩|⟨bb,f,cap,u,rfl,hc,hu,hr⟩:=h
 .cases a with
  | none=>exact run_convert_bytes_nil w src e hs he _ _ dst hd
  | some a=>
   rw[run_convert_bytes_string w src dst e _ 0 cap hs he hd];simp[Conv.bytesToString,loadCells,BH];rfl
 .refine run_convert_bytes_arg w src e hs he bb f _ cap xs rfl (λi hi=> ?_) dst hd;have h1:=hu i 0 hi (by decide);have hx:xs[i]? =I (xs.getD i 0):=by simp[hi]
  have h2:=hr i _ 0 (.y<|xs.getD i 0) hx rfl;have h3:=h2.No;rw[h3]at h1;simpa[ks] using h1
def aoN(hH:Hs B β H w)(hb:H b=U){src dst e:TypeId}(hs:P.underlying src=I .string)(hd:P.underlying dst=I (.slice e))(he:P.underlying e=I (.int .u8)){s:A4}(hr:Ac s.size=A1):
  Good B β H w b (.own b) [.row e A1 .u8<|BA s] (((convert src dst<|.string s).run P w).andThen λu w=> .ok (.value u) w):=by
 have hlen:(BA s).length=s.size:=by rw[BA,EM,F4];rfl
 have hsz:(bytesCells w e s).size=grownCap w s.size 0 e:=by
  have:=grownCap_ge w s.size 0 e;simp only[bytesCells,Pz,Array.size_map,ru];have:s.data.size=s.size:=rfl;omega
 have akx:s.size<=maxLen:=by
  simp only[Ac,decide_eq_true_eq]at hr;exact CB hr<|by decide
 refine Zu (w':=bytesWorld w e s) (cap:=grownCap w s.size 0 e) (us:=bytesCells w e s) hH hb rfl rfl rfl (bytesWorld_at_old w e s) (bytesWorld_at_new w e s) (by rw[hlen];exact grownCap_ge _ _ _ _)
  (grownCap_le_maxLen _ _ _ _ akx) (by rw[hsz];simp[ks]) ?_ ?_
 .intro i x j c u h1 h2 h3;have hj:j=0:=by
   have:=(BP.1 h2).1;simp[enc]at this;omega
  subst hj;simp only[enc,WU,Bv]at h2;subst h2;simp only[BA,DE,DL]at h1;obtain⟨y,hy,rfl⟩:=h1;have hi:i<s.data.size:=by have:=(BP.1 hy).1;simpa using this
  rw[show i * ks .u8+0=i by simp[ks]]at h3;simp only[bytesCells]at h3;rw[MQ<|by simpa using hi]at h3;simp only[Array.getElem?_map,DL]at h3;obtain⟨y',hy',rfl⟩:=h3;have:y=y':=by
   rw[UA]at hy;rw[hy]at hy';exact EI hy'
  subst this;exact .lit rfl
 .rw[Go.Lib.run_convert_string_bytes w src dst e s hs hd he,hlen];rfl
end
end Go.VS
end
