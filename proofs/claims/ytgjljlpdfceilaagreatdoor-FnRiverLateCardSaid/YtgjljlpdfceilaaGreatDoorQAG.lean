/- Part 7. -/
import Derived.Laws.MakeOwn
import Derived.Great.BuildSlice
import Derived.Lib.ConvBytes
import Derived.Test.YtgjljlpdfceilaaGreatDoorQAF
open Array renaming getElem?_append_left->Mn,getElem?_eq_some_iff->Ha,getElem?_toList->Uk,length_toList->FG,size_append->S2,size_replicate->pT
open Bool renaming and_eq_true->AG,true->U
open Go.Addr renaming add_lit->HC
open Go.Builtin renaming len_->S4
open Go.Instr renaming index->pg,indexAt->Uw,sureAddr->Jp
open Go.Result renaming andThen_ok->FH
open Go.Sem renaming run_bind->Ex,run_pure->G5
open Go.World renaming block_lt_of_cell?->Uv,cell?_of_block->Uy
open List renaming getD_eq_getElem?_getD->BC,getElem?_cons_zero->bL,getElem?_drop->I2,getElem?_eq_some_iff->BP,getElem?_map->DK,getElem?_take->H8,length_map->Dh
open Nat renaming add_assoc->DI,add_mul->ER,le_refl->Az,le_trans->Ce,lt_of_lt_of_le->HA,mul_le_mul_right->EH
open Option renaming bind_some->A9,map_eq_some_iff->DJ,none->A0,some->I
open Option.some renaming inj->Cn,injEq->Bz
open Prod.mk renaming injEq->CX
set_option linter.all false
noncomputable section
namespace Go.VS
open Go
def aIn(f:AV->AV)(hf:∀c,f c=c)(o:Option Ob):CR f o=o:=by
 cases o with
 | none=>rfl
 | some ob=>cases ob with
  | box e cs=>simp[CR,show f=λc=>c from funext hf]
  | _=>rfl
section
variable {P:Program} {B:Bg} {β:Beta} {H:Hp} {w w':World} {b:Nat} {tm:Nat->Value} {ρ:Operand->AV} {η:Operand->Value}
def Hs.grow(h:Hs B β H w){id:Nat}(hid:H id=A0)(ob:Ob)(hd:Value)(n:Nat)
  (hos:w'.os=w.os)(Kr:w'.tape=w.tape)(FJ:w'.output=w.output)(FY:w.heap.size<=w'.heap.size)(hold:∀j,j<w.heap.size->w'.heap[j]? =w.heap[j]?)
  (ha:∀a,adr hd=I a->w.heap.size<=a.block/\a.block<w'.heap.size)
  (hob:∀β',β' id=I (hd,n)->Kp w β w' β'->EJ B.P w' β' id ob):
  ∃β',Hs B β' (upd H id<|I ob) w'/\Kp w β w' β'/\β' id=I (hd,n):=by
 have Vb:β id=A0:=by
  cases hb:β id with
  | none=>rfl
  | some p=>obtain⟨ob',ho⟩:=h.dom id p hb;rw[hid]at ho;cases ho
 have hM:∀b,MB (β.up id<|I (hd,n)) b->MB β b\/w.heap.size<=b:=by
  rintro b ⟨j,hd',n',a',hj,ha',hb⟩;by_cases e:j=id
  .subst e;rw[Beta.Va]at hj;cases hj;exact .inr (hb▸(ha a' ha').1)
  .rw[Beta.OC _ _ e]at hj;exact .inl ⟨j,hd',n',a',hj,ha',hb⟩
 have hk:Kp w β w' (β.up id<|I (hd,n)):=λc v x=>RC.mono
  (λj p hj=>by
   by_cases e:j=id
   .subst e;rw[Vb]at hj;cases hj
   .rw[Beta.OC _ _ e];exact hj)
  (λb o v _ hc=>by
   rw[Uy (w:=w) (w':=w')<|hold b<|Uv w _ hc];exact hc)
  (λb hb hlt hm=>by
   obtain hm|hm:=hm
   .rcases hM b hm with h1|h1
    .exact hb (.inl h1)
    .omega
   .exact hb<|.inr hm) x
 have h1:=h.Uf (w':=w') (β':=β.up id<|I (hd,n)) (f:=λc=>c) (λ_ _=>rfl) hk (id:=id) (ob:=I ob) (λj e=>BH _ _ e)
  (.inr ⟨ob,hd,n,rfl,Bi _ _ _,hob _ (Bi _ _ _) hk,λa h=> .inr<|ha a h⟩)
  (λj p a e hj h2=>hold _ (h.old _ ⟨j,p.1,p.2,a,hj,h2,rfl⟩).2) hos Kr FJ FY (λb hb _=>hold b<|HA hb h.size) rfl (Pk.old hold)
 refine⟨_, ?_,hk,Bi _ _ _⟩;rwa[show(λj=>CR (λc=>c)<|H j)=H from funext λj=>aIn _ (λ_=>rfl) _]at h1
def auN(h:Hs B β H w)(hb:H b=A0){ob:Ob}{hd:Value}{n:Nat}{v:AV}
  (hos:w'.os=w.os)(Kr:w'.tape=w.tape)(FJ:w'.output=w.output)(FY:w.heap.size<=w'.heap.size)(hold:∀j,j<w.heap.size->w'.heap[j]? =w.heap[j]?)
  (ha:∀a,adr hd=I a->w.heap.size<=a.block/\a.block<w'.heap.size)
  (hob:∀β',β' b=I (hd,n)->Kp w β w' β'->EJ B.P w' β' b ob){u:Value}
  (hv:∀β',β' b=I (hd,n)->R2 w' β' v u){r:Result Next}(hr:r= .ok (.value u) w'):Good B β H w b v [ob] r:=by
 obtain⟨β',h1,h2,h3⟩:=h.grow hb ob hd n hos Kr FJ FY hold ha hob;exact⟨u,w',β',hr,h1,h2,hv _ h3⟩
def bZ(h:Hs B β H w)(hb:H b=A0){e:TypeId}{fz:Bool}{k:K}{xs:List (Tof k)}{cap:Nat}{us:Array Value}
  (hos:w'.os=w.os)(Kr:w'.tape=w.tape)(FJ:w'.output=w.output)(hold:∀j,j<w.heap.size->w'.heap[j]? =w.heap[j]?)
  (av:w'.heap[w.heap.size]? =I (.cells us e<|if fz then(us.size,us.size+1) else(0,0)))(hc:xs.length<=cap)(hm:cap<=maxLen)(hs:cap * ks k<=us.size)
  (hr:∀i x j c u,xs[i]? =I x->(enc k x)[j]? =I c->us[i * ks k+j]? =I u->RC w β c u)
  {r:Result Next}(Cr:r= .ok (.value<|.slice (I ⟨w.heap.size,0,A0⟩) xs.length cap) w'):Good B β H w b (.own b) [.row e fz k xs] r:=by
 have hlt:w.heap.size<w'.heap.size:=(Ha.1 av).1;refine auN h hb (hd:= .slice (I ⟨w.heap.size,0,A0⟩) xs.length cap) (n:=xs.length) hos Kr FJ (Nat.le_of_lt hlt) hold (λa ha=>by cases ha;exact⟨Az _,hlt⟩) ?_ ?_ Cr
 .intro β' hβ hk;refine⟨_,hβ,.inr ⟨w.heap.size,0,cap,us,_,rfl,av,rfl,hc,hm,J,λi x j c u h1 h2 h3=>hk _ _<|hr i x j c u h1 h2 ?_⟩⟩;simpa using h3
 .intro β' hβ;exact RC.own hβ rfl
def axf(s:A4){i:Int}(h:inb i s.size=U):∃x,s[i.toNat]? =I x/\bt s i=(x.toNat:Int)/\0<=i:=by
 simp only[inb,AG,decide_eq_true_eq]at h;have hlt:i.toNat<s.size:=J
 refine⟨s[i.toNat],by simp[hlt], ?_,h.1⟩;have h2:i.toNat<s.data.size:=hlt;have:s.data.toList.getD i.toNat 0=s[i.toNat]:=by
  rw[BC,Uk,Array.getElem?_eq_getElem h2];rfl
 unfold bt;rw[this]
def R1.enc{k:K}{xs:List (Tof k)}{us:List Value}(hl:us.length=xs.length * ks k)(hr:∀i x j c u,xs[i]? =I x->(enc k x)[j]? =I c->us[i * ks k+j]? =I u->RC w β c u)
  {i:Nat}{x:Tof k}(hi:xs[i]? =I x):RL (RC w β) (enc k x) ((us.drop<|i * ks k).take<|ks k):=by
 have hlt:i<xs.length:=(BP.1 hi).1;have h1:(i+1) * ks k<=xs.length * ks k:=EH _ hlt;rw[ER]at h1;refine⟨by simp[EV];omega,λj c u h2 h3=>hr i x j c u hi h2 ?_⟩;have hj:j<ks k:=by rw[← EV k x];exact(BP.1 h2).1
 rw[H8,A8 hj,I2]at h3;exact h3
def arp(hη:∀x,RX w β tm (ρ x)<|η x)(hH:Hs B β H w){t:TypeId}{x ix:Operand}{k:IntKind}{i:Int}(hi:ρ ix= .lit (.int k i)){q:Bool}{v:AV}{os:List Ob}(h:SN P t i (ρ x)=I (q,v,os))(hq:q=U):
  Good B β H w b v os (((pg t (η x)<|η ix).run P w).andThen λu w=> .ok (.value u) w):=by
 subst hq;have hx:=hη x;have hix:=hη ix;rw[hi]at hix;rw[hix.lit];generalize ρ x=c at h hx;unfold SN at h;split at h
 .rename_i s;split at h
  .rename_i hu;simp only[Bz,CX]at h;obtain⟨h1,rfl,rfl⟩:=h;obtain⟨y,hy,hb,h0⟩:=axf s h1;rw[hx.lit,hb];exact Good.same hH (u:= .int .u8 y.toNat) (by simp[pg,asIntOf,run_underlying hu,h0,hy]) rfl
  .cases h
 .rename_i k' xs;split at h
  .rename_i n e hu;split at h
   .rename_i h1 h2;cases hv:HV P e (enc k'<|rd (dfl k') xs i) 0 with
    | none=>rw[hv]at h;cases h
    | some v'=>
     rw[hv]at h;simp only[A9,Bz,CX]at h;obtain⟨hb,rfl,rfl⟩:=h;simp only[inb,AG,decide_eq_true_eq]at hb;obtain⟨us,e1,hl,hr⟩:=hx;simp only[AG]at h1;have hk:=Bq h1.1;have hi':xs[i.toNat]? =I (rd (dfl k') xs i):=by
      have:i.toNat<xs.length:=J
      simp[rd,this]
     have hrl:=R1.enc hl hr hi';unfold HV at hv;rw[h2]at hv;simp only at hv;obtain⟨u,hu1,hu2⟩:=hrl.get hv;have hlen:P.cellsOf e=1:=Bq h1.2;have hu3:us[i.toNat]? =I u:=by
      rw[hk]at hu1;simpa using hu1
     refine Good.same hH (u:=u) ?_<|R2.Hh<|R1.N1 hu2;have hb':0<=i/\i<(n:Int):=J
     rw[e1];simp only[pg,asIntOf,Ex,G5,FH,run_underlying hu,hb',and_self,A5,LP (P:=P) (w:=w) (t:=e) J,hlen,Nat.mul_one,qJ hu3 h2]
   .cases h
  .cases h
 .cases h
end
end Go.VS
namespace Go.VS
open Go Go.Lib
def IE{a b:K}{xs:List (Tof a)}{ys:List (Tof b)}(h:J1 a b xs=I ys):∃e:a=b,e▸xs=ys:=by
 cases a<;>cases b<;>first|(cases h;exact⟨rfl,rfl⟩)|cases h
def N5(w:World)(β:Beta)(k:K)(xs:List (Tof k))(v:Value):Prop:=
 (xs=[]/\ ∃a cap,v= .slice a 0 cap)\/ ∃b f cap,∃u:Nat->Nat->Value,v= .slice (I ⟨b,f,A0⟩) xs.length cap/\xs.length<=cap/\
  (∀i j,i<xs.length->j<ks k->w.cell? ⟨b,f+(i * ks k+j),A0⟩=I (u i j))/\ ∀i x j c,xs[i]? =I x->(enc k x)[j]? =I c->RC w β c (u i j)
section
variable {P:Program} {B:Bg} {β:Beta} {H:Hp} {w w':World} {b:Nat} {tm:Nat->Value} {ρ:Operand->AV} {η:Operand->Value}
def RC.ov{k:K}{xs:List (Tof k)}{v:Value}(h:RC w β (.sl k xs) v):N5 w β k xs v:=by
 cases h with
 | nil=>exact .inl ⟨rfl,_,_,rfl⟩
 | sl u hn hm hu hr=>obtain⟨rfl,hc⟩:=hn;exact .inr ⟨_,_,_,u,rfl,hc,hu,hr⟩
def Ft.cells{e:TypeId}{fz:Bool}{k:K}{xs:List (Tof k)}{hd:Value}(h:Ft w β e fz k xs hd):N5 w β k xs hd:=by
 obtain⟨rfl,rfl⟩|⟨b,f,cap,us,fr,rfl,hh,hfr,hn,hc,hs,hr⟩:=h
 .exact .inl ⟨rfl,_,_,rfl⟩
 .have D1:∀i j,i<xs.length->j<ks k->f+(i * ks k+j)<us.size:=by
   intro i j hi hj;have h1:(i+1) * ks k<=cap * ks k:=EH _ J;rw[ER]at h1;omega
  refine .inr ⟨b,f,cap,λi j=>us.getD (f+(i * ks k+j)) undef,rfl,hn,λi j hi hj=> ?_,λi x j c h1 h2=> ?_⟩
  .rw[cell_of_row w b _ us e fr hh];have:=D1 i j hi hj;simp[this]
  .have hi:i<xs.length:=(BP.1 h1).1;have hj:j<ks k:=by rw[← EV k x];exact(BP.1 h2).1
   have:=D1 i j hi hj;exact hr i x j c _ h1 h2<|by simp[this]
def aJt(hH:Hs B β H w){k:K}{c:AV}{v:Value}{xs:List (Tof k)}(h:CM H k c=I xs)(hx:R2 w β c v):N5 w β k xs v:=by
 unfold CM at h;split at h
 .obtain⟨e,rfl⟩:=IE h;subst e;exact RC.ov hx
 .cases h;have:v=_:=hx;exact .inl ⟨rfl,_,_,this⟩
 .rename_i id;split at h
  .rename_i e fz k' ys hid;obtain⟨ek,rfl⟩:=IE h;subst ek;obtain⟨hd,h1,h2⟩:=hH.EU id _ hid;have h3:RC w β (.own id) v:=hx;cases h3 with
   | own h4 h5=>rw[h1]at h4;cases h4;exact h2.cells
  .cases h
 .cases h
def N5.len{k:K}{xs:List (Tof k)}{v:Value}(h:N5 w β k xs v):∃a cap,v= .slice a xs.length cap/\xs.length<=cap:=by
 obtain⟨rfl,a,cap,rfl⟩|⟨b,f,cap,u,rfl,hc,_⟩:=h
 .exact⟨_,_,rfl,by simp⟩
 .exact⟨_,_,rfl,hc⟩
def aE2{t e:TypeId}(hu:P.underlying t=I (.slice e))(h1:1<=P.cellsOf e){bb f n cap:Nat}{k:IntKind}{i:Int}(h0:0<=i)(hn:i<(n:Int)):
  (Uw t (.slice (I ⟨bb,f,A0⟩) n cap)<|.int k i).run P w= .ok (.pointer<|I ⟨bb,f+i.toNat * P.cellsOf e,A0⟩) w:=by
 have hb':0<=i/\i<(n:Int):=⟨h0,hn⟩;have hb1:n<=1\/ ¬n<=1:=J
 obtain hb1|hb1:=hb1<;>
 simp[Uw,asIntOf,run_underlying hu,hb1,hb',LP h1,HC]
def aqR{t e:TypeId}{n:Nat}(hu:P.underlying t=I (.array n e))(h1:1<=P.cellsOf e){bb f:Nat}{k:IntKind}{i:Int}(h0:0<=i)(hn:i<(n:Int)):
  (Uw t (.pointer<|I ⟨bb,f,A0⟩)<|.int k i).run P w= .ok (.pointer<|I ⟨bb,f+i.toNat * P.cellsOf e,A0⟩) w:=by
 have hb':0<=i/\i<(n:Int):=⟨h0,hn⟩;have hb1:n<=1\/ ¬n<=1:=J
 obtain hb1|hb1:=hb1<;>
 simp[Uw,asIntOf,Jp,run_underlying hu,hb1,hb',LP h1,HC]
def ans(hP:P=B.P)(hη:∀x,RX w β tm (ρ x)<|η x)(hH:Hs B β H w){t:TypeId}{x ix:Operand}{k:IntKind}{i:Int}(hi:ρ ix= .lit (.int k i)){q:Bool}{v:AV}{os:List Ob}(h:NU P H t i (ρ x)=I (q,v,os))(hq:q=U):
  Good B β H w b v os (((Uw t (η x)<|η ix).run P w).andThen λu w=> .ok (.value u) w):=by
 subst hq;have hx:=hη x;have hix:=hη ix;rw[hi]at hix;rw[hix.lit];generalize ρ x=c at h hx;generalize η x=vx at hx;unfold NU at h;split at h
 .rename_i k' xs;split at h
  .rename_i e hu;split at h
   .rename_i hk;have hk:=Bq hk;simp only[Bz,CX,inb,AG,decide_eq_true_eq]at h;obtain⟨⟨h0,hn⟩,rfl,rfl⟩:=h;have hx':RC w β (.sl k' xs) vx:=hx;cases hx' with
    | nil=>simp at hn;omega
    | @sl _ _ bb f cap n u hn' hm hu' hr=>
     obtain⟨rfl,hc⟩:=hn';have h1:=IK k';have hlt:i.toNat<xs.length:=J
     have oN:xs[i.toNat]? =I (rd (dfl k') xs i):=by simp[rd,hlt]
     refine Good.same hH (u:= .pointer<|I ⟨bb,f+i.toNat * ks k',A0⟩) ?_ ?_
     .rw[aE2 hu J h0 hn,hk];rfl
     .have:=RC.ipt (w:=w) (β:=β) (k:=k') (x:=rd (dfl k') xs i) (o:=0) (b:=bb) (f:=f+i.toNat * ks k') (u i.toNat) hm (λj hj=>by rw[DI];exact hu' _ _ hlt hj) (λj c hc=>hr _ _ _ _ oN hc);exact this
   .cases h
  .cases h
 .rename_i id;split at h
  .rename_i e e' fz k' xs hu hid;split at h
   .rename_i hk;have hk:=Bq hk;simp only[Bz,CX,inb,AG,decide_eq_true_eq]at h;obtain⟨⟨h0,hn⟩,rfl,rfl⟩:=h;obtain⟨hd,h1,h2⟩:=hH.EU id _ hid;have h3:RC w β (.own id) vx:=hx;cases h3 with
    | own h4 h5=>
     rw[h1]at h4;cases h4;have h1':=IK k';obtain⟨_,e2⟩|⟨bb,f,cap,us,fr,rfl,hh,hfr,hnc,hc,hs,hr⟩:=h2
     .subst e2;simp at hn;omega
     .refine Good.same hH (u:= .pointer<|I ⟨bb,f+i.toNat * ks k',A0⟩) ?_ ?_
      .rw[aE2 hu J h0 hn,hk];rfl
      .have:=RC.ptr (w:=w) (β:=β) (id:=id) (sz:=ks k') (i:=i.toNat) (o:=0) h1 (b:=bb) (f:=f) rfl J;simpa[R2,R1] using this
   .cases h
  .cases h
 .rename_i id z;split at h
  .rename_i n e e' k' xs hu hid;split at h
   .rename_i hk;simp only[AG]at hk;have hk1:=Bq hk.1.1;have hk2:=Bq hk.1.2;obtain rfl:=Bq hk.2;simp only[Bz,CX,inb,AG,decide_eq_true_eq]at h;obtain⟨⟨h0,hn⟩,rfl,rfl⟩:=h;obtain⟨bb,us,h1,hh,hsz,hce,hr⟩:=hH.EU id _ hid;have h1':=IK k';have hlen:xs.length=n:=by
     rw[hP]at hk2;rw[hsz,hk2]at hce;exact Nat.eq_of_mul_eq_mul_right h1' hce
    have h3:RC w β (.ptr id z 0 0) vx:=hx;cases h3 with
    | @ptr _ _ _ _ hd n' b' f h4 ha hi'=>
     rw[h1]at h4;cases h4;cases ha;refine Good.same hH (u:= .pointer<|I ⟨bb,0+i.toNat * ks k',A0⟩) ?_ ?_
     .rw[show(0:Nat)+(0 * z+0)=0 by omega,aqR hu J h0 J,hk1];rfl
     .have:=RC.ptr (w:=w) (β:=β) (id:=id) (sz:=ks k') (i:=i.toNat) (o:=0) h1 (b:=bb) (f:=0) rfl J;simpa[R2,R1] using this
   .cases h
  .cases h
 .cases h
def nT{t ty:TypeId}{e:TypeId}(hu:P.underlying t=I (.slice e)){a:Option Addr}{n cap:Nat}:(S4 #[t] ty #[.slice a n cap]).run P w= .ok (.int .i64 n) w:=by
 simp[S4,run_underlying hu,goInt]
def ath{src dst e:TypeId}(hs:P.underlying src=I (.slice e))(he:P.underlying e=I (.int .u8))(hd:P.underlying dst=I .string){xs:List (Tof .u8)}{v:Value}(h:N5 w β .u8 xs v):
  (convert src dst v).run P w= .ok (.string<|BK xs) w:=by
 obtain⟨rfl,a,cap,rfl⟩|⟨bb,f,cap,u,rfl,hc,hu,hr⟩:=h
 .cases a with
  | none=>exact run_convert_bytes_nil w src e hs he _ _ dst hd
  | some a=>
   rw[run_convert_bytes_string w src dst e _ 0 cap hs he hd];simp[Conv.bytesToString,loadCells,BK];rfl
 .refine run_convert_bytes_arg w src e hs he bb f _ cap xs rfl (λi hi=> ?_) dst hd;have h1:=hu i 0 hi (by decide);have hx:xs[i]? =I (xs.getD i 0):=by simp[hi]
  have h2:=hr i _ 0 (.y<|xs.getD i 0) hx rfl;have h3:=h2.ON;rw[h3]at h1;simpa[ks] using h1
def asQ(hH:Hs B β H w)(hb:H b=A0){src dst e:TypeId}(hs:P.underlying src=I .string)(hd:P.underlying dst=I (.slice e))(he:P.underlying e=I (.int .u8)){s:A4}(hr:Af s.size=U):
  Good B β H w b (.own b) [.row e U .u8<|BF s] (((convert src dst<|.string s).run P w).andThen λu w=> .ok (.value u) w):=by
 have hlen:(BF s).length=s.size:=by rw[BF,Dh,FG];rfl
 have hsz:(bytesCells w e s).size=grownCap w s.size 0 e:=by
  have:=grownCap_ge w s.size 0 e;simp only[bytesCells,S2,Array.size_map,pT];have:s.data.size=s.size:=rfl;omega
 have alD:s.size<=maxLen:=by
  simp only[Af,decide_eq_true_eq]at hr;exact Ce hr<|by decide
 refine bZ (w':=bytesWorld w e s) (cap:=grownCap w s.size 0 e) (us:=bytesCells w e s) hH hb rfl rfl rfl (bytesWorld_at_old w e s) (bytesWorld_at_new w e s) (by rw[hlen];exact grownCap_ge _ _ _ _)
  (grownCap_le_maxLen _ _ _ _ alD) (by rw[hsz];simp[ks]) ?_ ?_
 .intro i x j c u h1 h2 h3;have hj:j=0:=by
   have:=(BP.1 h2).1;simp[enc]at this;omega
  subst hj;simp only[enc,bL,Bz]at h2;subst h2;simp only[BF,DK,DJ]at h1;obtain⟨y,hy,rfl⟩:=h1;have hi:i<s.data.size:=by have:=(BP.1 hy).1;simpa using this
  rw[show i * ks .u8+0=i by simp[ks]]at h3;simp only[bytesCells]at h3;rw[Mn<|by simpa using hi]at h3;simp only[Array.getElem?_map,DJ]at h3;obtain⟨y',hy',rfl⟩:=h3;have:y=y':=by
   rw[Uk]at hy;rw[hy]at hy';exact Cn hy'
  subst this;exact .lit rfl
 .rw[Go.Lib.run_convert_string_bytes w src dst e s hs hd he,hlen];rfl
end
end Go.VS
end
