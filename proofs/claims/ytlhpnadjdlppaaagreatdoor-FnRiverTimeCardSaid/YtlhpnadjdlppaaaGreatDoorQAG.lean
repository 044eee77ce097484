/- Part 7. -/
import Derived.Laws.MakeOwn
import Derived.Great.BuildSlice
import Derived.Lib.ConvBytes
import Derived.Test.YtlhpnadjdlppaaaGreatDoorQAF
open Array renaming getElem?_append_left->Mb,getElem?_eq_some_iff->HJ,getElem?_toList->Uu,length_toList->En,size_append->Qy,size_replicate->ik
open Bool renaming and_eq_true->AI,true->A1
open Go.Addr renaming add_lit->GP
open Go.Builtin renaming len_->R3
open Go.Instr renaming index->pe,indexAt->UA,sureAddr->JU
open Go.Result renaming andThen_ok->El
open Go.Sem renaming run_bind->Ed,run_pure->FM
open Go.World renaming block_lt_of_cell?->VZ,cell?_of_block->SV
open List renaming getD_eq_getElem?_getD->BG,getElem?_cons_zero->Yl,getElem?_drop->HW,getElem?_eq_some_iff->BM,getElem?_map->D5,getElem?_take->Gp,length_map->EG
open Nat renaming add_assoc->Ct,add_mul->EE,le_refl->Ar,le_trans->C7,lt_of_lt_of_le->Gd,mul_le_mul_right->Dx
open Option renaming bind_some->A9,map_eq_some_iff->Cz,none->U,some->I
open Option.some renaming inj->CX,injEq->Br
open Prod.mk renaming injEq->CD
set_option linter.all false
noncomputable section
namespace Go.VS
open Go
def zP(f:AV->AV)(hf:∀c,f c=c)(o:Option Ob):CC f o=o:=by
 cases o with
 | none=>rfl
 | some ob=>cases ob with
  | box e cs=>simp[CC,show f=λc=>c from funext hf]
  | _=>rfl
section
variable {P:Program} {B:Bc} {β:Beta} {H:Hp} {w w':World} {b:Nat} {tm:Nat->Value} {ρ:Operand->AV} {η:Operand->Value}
def Hs.grow(h:Hs B β H w){id:Nat}(hid:H id=U)(ob:Ob)(hd:Value)(n:Nat)
  (hos:w'.os=w.os)(Jo:w'.tape=w.tape)(Eo:w'.output=w.output)(F2:w.heap.size<=w'.heap.size)(hold:∀j,j<w.heap.size->w'.heap[j]? =w.heap[j]?)
  (ha:∀a,adr hd=I a->w.heap.size<=a.block/\a.block<w'.heap.size)
  (hob:∀β',β' id=I (hd,n)->Kp w β w' β'->Dt B.P w' β' id ob):
  ∃β',Hs B β' (upd H id<|I ob) w'/\Kp w β w' β'/\β' id=I (hd,n):=by
 have U5:β id=U:=by
  cases hb:β id with
  | none=>rfl
  | some p=>obtain⟨ob',ho⟩:=h.dom id p hb;rw[hid]at ho;cases ho
 have hM:∀b,MB (β.up id<|I (hd,n)) b->MB β b\/w.heap.size<=b:=by
  rintro b ⟨j,hd',n',a',hj,ha',hb⟩;by_cases e:j=id
  .subst e;rw[Beta.TG]at hj;cases hj;exact .inr (hb▸(ha a' ha').1)
  .rw[Beta.Mt _ _ e]at hj;exact .inl ⟨j,hd',n',a',hj,ha',hb⟩
 have hk:Kp w β w' (β.up id<|I (hd,n)):=λc v x=>RC.mono
  (λj p hj=>by
   by_cases e:j=id
   .subst e;rw[U5]at hj;cases hj
   .rw[Beta.Mt _ _ e];exact hj)
  (λb o v _ hc=>by
   rw[SV (w:=w) (w':=w')<|hold b<|VZ w _ hc];exact hc)
  (λb hb hlt hm=>by
   obtain hm|hm:=hm
   .rcases hM b hm with h1|h1
    .exact hb (.inl h1)
    .omega
   .exact hb<|.inr hm) x
 have h1:=h.SR (w':=w') (β':=β.up id<|I (hd,n)) (f:=λc=>c) (λ_ _=>rfl) hk (id:=id) (ob:=I ob) (λj e=>BC _ _ e)
  (.inr ⟨ob,hd,n,rfl,Bf _ _ _,hob _ (Bf _ _ _) hk,λa h=> .inr<|ha a h⟩)
  (λj p a e hj h2=>hold _ (h.old _ ⟨j,p.1,p.2,a,hj,h2,rfl⟩).2) hos Jo Eo F2 (λb hb _=>hold b<|Gd hb h.size) rfl (Pk.old hold)
 refine⟨_, ?_,hk,Bf _ _ _⟩;rwa[show(λj=>CC (λc=>c)<|H j)=H from funext λj=>zP _ (λ_=>rfl) _]at h1
def ahN(h:Hs B β H w)(hb:H b=U){ob:Ob}{hd:Value}{n:Nat}{v:AV}
  (hos:w'.os=w.os)(Jo:w'.tape=w.tape)(Eo:w'.output=w.output)(F2:w.heap.size<=w'.heap.size)(hold:∀j,j<w.heap.size->w'.heap[j]? =w.heap[j]?)
  (ha:∀a,adr hd=I a->w.heap.size<=a.block/\a.block<w'.heap.size)
  (hob:∀β',β' b=I (hd,n)->Kp w β w' β'->Dt B.P w' β' b ob){u:Value}
  (hv:∀β',β' b=I (hd,n)->R2 w' β' v u){r:Result Next}(hr:r= .ok (.value u) w'):Good B β H w b v [ob] r:=by
 obtain⟨β',h1,h2,h3⟩:=h.grow hb ob hd n hos Jo Eo F2 hold ha hob;exact⟨u,w',β',hr,h1,h2,hv _ h3⟩
def ZB(h:Hs B β H w)(hb:H b=U){e:TypeId}{fz:Bool}{k:K}{xs:List (Tof k)}{cap:Nat}{us:Array Value}
  (hos:w'.os=w.os)(Jo:w'.tape=w.tape)(Eo:w'.output=w.output)(hold:∀j,j<w.heap.size->w'.heap[j]? =w.heap[j]?)
  (Vr:w'.heap[w.heap.size]? =I (.cells us e<|if fz then(us.size,us.size+1) else(0,0)))(hc:xs.length<=cap)(hm:cap<=maxLen)(hs:cap * ks k<=us.size)
  (hr:∀i x j c u,xs[i]? =I x->(enc k x)[j]? =I c->us[i * ks k+j]? =I u->RC w β c u)
  {r:Result Next}(CQ:r= .ok (.value<|.slice (I ⟨w.heap.size,0,U⟩) xs.length cap) w'):Good B β H w b (.own b) [.row e fz k xs] r:=by
 have hlt:w.heap.size<w'.heap.size:=(HJ.1 Vr).1;refine ahN h hb (hd:= .slice (I ⟨w.heap.size,0,U⟩) xs.length cap) (n:=xs.length) hos Jo Eo (Nat.le_of_lt hlt) hold (λa ha=>by cases ha;exact⟨Ar _,hlt⟩) ?_ ?_ CQ
 .intro β' hβ hk;refine⟨_,hβ,.inr ⟨w.heap.size,0,cap,us,_,rfl,Vr,rfl,hc,hm,J,λi x j c u h1 h2 h3=>hk _ _<|hr i x j c u h1 h2 ?_⟩⟩;simpa using h3
 .intro β' hβ;exact RC.own hβ rfl
def axI(s:A4){i:Int}(h:inb i s.size=A1):∃x,s[i.toNat]? =I x/\bt s i=(x.toNat:Int)/\0<=i:=by
 simp only[inb,AI,decide_eq_true_eq]at h;have hlt:i.toNat<s.size:=J
 refine⟨s[i.toNat],by simp[hlt], ?_,h.1⟩;have h2:i.toNat<s.data.size:=hlt;have:s.data.toList.getD i.toNat 0=s[i.toNat]:=by
  rw[BG,Uu,Array.getElem?_eq_getElem h2];rfl
 unfold bt;rw[this]
def R1.enc{k:K}{xs:List (Tof k)}{us:List Value}(hl:us.length=xs.length * ks k)(hr:∀i x j c u,xs[i]? =I x->(enc k x)[j]? =I c->us[i * ks k+j]? =I u->RC w β c u)
  {i:Nat}{x:Tof k}(hi:xs[i]? =I x):RL (RC w β) (enc k x) ((us.drop<|i * ks k).take<|ks k):=by
 have hlt:i<xs.length:=(BM.1 hi).1;have h1:(i+1) * ks k<=xs.length * ks k:=Dx _ hlt;rw[EE]at h1;refine⟨by simp[E3];omega,λj c u h2 h3=>hr i x j c u hi h2 ?_⟩;have hj:j<ks k:=by rw[← E3 k x];exact(BM.1 h2).1
 rw[Gp,A8 hj,HW]at h3;exact h3
def ane(hη:∀x,RX w β tm (ρ x)<|η x)(hH:Hs B β H w){t:TypeId}{x ix:Operand}{k:IntKind}{i:Int}(hi:ρ ix= .lit (.int k i)){q:Bool}{v:AV}{os:List Ob}(h:Pw P t i (ρ x)=I (q,v,os))(hq:q=A1):
  Good B β H w b v os (((pe t (η x)<|η ix).run P w).andThen λu w=> .ok (.value u) w):=by
 subst hq;have hx:=hη x;have hix:=hη ix;rw[hi]at hix;rw[hix.lit];generalize ρ x=c at h hx;unfold Pw at h;split at h
 .rename_i s;split at h
  .rename_i hu;simp only[Br,CD]at h;obtain⟨h1,rfl,rfl⟩:=h;obtain⟨y,hy,hb,h0⟩:=axI s h1;rw[hx.lit,hb];exact Good.same hH (u:= .int .u8 y.toNat) (by simp[pe,asIntOf,run_underlying hu,h0,hy]) rfl
  .cases h
 .rename_i k' xs;split at h
  .rename_i n e hu;split at h
   .rename_i h1 h2;cases hv:Gz P e (enc k'<|rd (dfl k') xs i) 0 with
    | none=>rw[hv]at h;cases h
    | some v'=>
     rw[hv]at h;simp only[A9,Br,CD]at h;obtain⟨hb,rfl,rfl⟩:=h;simp only[inb,AI,decide_eq_true_eq]at hb;obtain⟨us,e1,hl,hr⟩:=hx;simp only[AI]at h1;have hk:=Bm h1.1;have hi':xs[i.toNat]? =I (rd (dfl k') xs i):=by
      have:i.toNat<xs.length:=J
      simp[rd,this]
     have hrl:=R1.enc hl hr hi';unfold Gz at hv;rw[h2]at hv;simp only at hv;obtain⟨u,hu1,hu2⟩:=hrl.get hv;have hlen:P.cellsOf e=1:=Bm h1.2;have hu3:us[i.toNat]? =I u:=by
      rw[hk]at hu1;simpa using hu1
     refine Good.same hH (u:=u) ?_<|R2.HC<|R1.MD hu2;have hb':0<=i/\i<(n:Int):=J
     rw[e1];simp only[pe,asIntOf,Ed,FM,El,run_underlying hu,hb',and_self,A5,JY (P:=P) (w:=w) (t:=e) J,hlen,Nat.mul_one,iD hu3 h2]
   .cases h
  .cases h
 .cases h
end
end Go.VS
namespace Go.VS
open Go Go.Lib
def Hr{a b:K}{xs:List (Tof a)}{ys:List (Tof b)}(h:Ij a b xs=I ys):∃e:a=b,e▸xs=ys:=by
 cases a<;>cases b<;>first|(cases h;exact⟨rfl,rfl⟩)|cases h
def MR(w:World)(β:Beta)(k:K)(xs:List (Tof k))(v:Value):Prop:=
 (xs=[]/\ ∃a cap,v= .slice a 0 cap)\/ ∃b f cap,∃u:Nat->Nat->Value,v= .slice (I ⟨b,f,U⟩) xs.length cap/\xs.length<=cap/\
  (∀i j,i<xs.length->j<ks k->w.cell? ⟨b,f+(i * ks k+j),U⟩=I (u i j))/\ ∀i x j c,xs[i]? =I x->(enc k x)[j]? =I c->RC w β c (u i j)
section
variable {P:Program} {B:Bc} {β:Beta} {H:Hp} {w w':World} {b:Nat} {tm:Nat->Value} {ρ:Operand->AV} {η:Operand->Value}
def RC.fI{k:K}{xs:List (Tof k)}{v:Value}(h:RC w β (.sl k xs) v):MR w β k xs v:=by
 cases h with
 | nil=>exact .inl ⟨rfl,_,_,rfl⟩
 | sl u hn hm hu hr=>obtain⟨rfl,hc⟩:=hn;exact .inr ⟨_,_,_,u,rfl,hc,hu,hr⟩
def F8.cells{e:TypeId}{fz:Bool}{k:K}{xs:List (Tof k)}{hd:Value}(h:F8 w β e fz k xs hd):MR w β k xs hd:=by
 obtain⟨rfl,rfl⟩|⟨b,f,cap,us,fr,rfl,hh,hfr,hn,hc,hs,hr⟩:=h
 .exact .inl ⟨rfl,_,_,rfl⟩
 .have Cg:∀i j,i<xs.length->j<ks k->f+(i * ks k+j)<us.size:=by
   intro i j hi hj;have h1:(i+1) * ks k<=cap * ks k:=Dx _ J;rw[EE]at h1;omega
  refine .inr ⟨b,f,cap,λi j=>us.getD (f+(i * ks k+j)) undef,rfl,hn,λi j hi hj=> ?_,λi x j c h1 h2=> ?_⟩
  .rw[cell_of_row w b _ us e fr hh];have:=Cg i j hi hj;simp[this]
  .have hi:i<xs.length:=(BM.1 h1).1;have hj:j<ks k:=by rw[← E3 k x];exact(BM.1 h2).1
   have:=Cg i j hi hj;exact hr i x j c _ h1 h2<|by simp[this]
def yM(hH:Hs B β H w){k:K}{c:AV}{v:Value}{xs:List (Tof k)}(h:C8 H k c=I xs)(hx:R2 w β c v):MR w β k xs v:=by
 unfold C8 at h;split at h
 .obtain⟨e,rfl⟩:=Hr h;subst e;exact RC.fI hx
 .cases h;have:v=_:=hx;exact .inl ⟨rfl,_,_,this⟩
 .rename_i id;split at h
  .rename_i e fz k' ys hid;obtain⟨ek,rfl⟩:=Hr h;subst ek;obtain⟨hd,h1,h2⟩:=hH.E4 id _ hid;have h3:RC w β (.own id) v:=hx;cases h3 with
   | own h4 h5=>rw[h1]at h4;cases h4;exact h2.cells
  .cases h
 .cases h
def MR.len{k:K}{xs:List (Tof k)}{v:Value}(h:MR w β k xs v):∃a cap,v= .slice a xs.length cap/\xs.length<=cap:=by
 obtain⟨rfl,a,cap,rfl⟩|⟨b,f,cap,u,rfl,hc,_⟩:=h
 .exact⟨_,_,rfl,by simp⟩
 .exact⟨_,_,rfl,hc⟩
def abz{t e:TypeId}(hu:P.underlying t=I (.slice e))(h1:1<=P.cellsOf e){bb f n cap:Nat}{k:IntKind}{i:Int}(h0:0<=i)(hn:i<(n:Int)):
  (UA t (.slice (I ⟨bb,f,U⟩) n cap)<|.int k i).run P w= .ok (.pointer<|I ⟨bb,f+i.toNat * P.cellsOf e,U⟩) w:=by
 have hb':0<=i/\i<(n:Int):=⟨h0,hn⟩;have hb1:n<=1\/ ¬n<=1:=J
 obtain hb1|hb1:=hb1<;>
 simp[UA,asIntOf,run_underlying hu,hb1,hb',JY h1,GP]
def avC{t e:TypeId}{n:Nat}(hu:P.underlying t=I (.array n e))(h1:1<=P.cellsOf e){bb f:Nat}{k:IntKind}{i:Int}(h0:0<=i)(hn:i<(n:Int)):
  (UA t (.pointer<|I ⟨bb,f,U⟩)<|.int k i).run P w= .ok (.pointer<|I ⟨bb,f+i.toNat * P.cellsOf e,U⟩) w:=by
 have hb':0<=i/\i<(n:Int):=⟨h0,hn⟩;have hb1:n<=1\/ ¬n<=1:=J
 obtain hb1|hb1:=hb1<;>
 simp[UA,asIntOf,JU,run_underlying hu,hb1,hb',JY h1,GP]
def ap9(hP:P=B.P)(hη:∀x,RX w β tm (ρ x)<|η x)(hH:Hs B β H w){t:TypeId}{x ix:Operand}{k:IntKind}{i:Int}(hi:ρ ix= .lit (.int k i)){q:Bool}{v:AV}{os:List Ob}(h:MF P H t i (ρ x)=I (q,v,os))(hq:q=A1):
  Good B β H w b v os (((UA t (η x)<|η ix).run P w).andThen λu w=> .ok (.value u) w):=by
 subst hq;have hx:=hη x;have hix:=hη ix;rw[hi]at hix;rw[hix.lit];generalize ρ x=c at h hx;generalize η x=vx at hx;unfold MF at h;split at h
 .rename_i k' xs;split at h
  .rename_i e hu;split at h
   .rename_i hk;have hk:=Bm hk;simp only[Br,CD,inb,AI,decide_eq_true_eq]at h;obtain⟨⟨h0,hn⟩,rfl,rfl⟩:=h;have hx':RC w β (.sl k' xs) vx:=hx;cases hx' with
    | nil=>simp at hn;omega
    | @sl _ _ bb f cap n u hn' hm hu' hr=>
     obtain⟨rfl,hc⟩:=hn';have h1:=Hn k';have hlt:i.toNat<xs.length:=J
     have mZ:xs[i.toNat]? =I (rd (dfl k') xs i):=by simp[rd,hlt]
     refine Good.same hH (u:= .pointer<|I ⟨bb,f+i.toNat * ks k',U⟩) ?_ ?_
     .rw[abz hu J h0 hn,hk];rfl
     .have:=RC.ipt (w:=w) (β:=β) (k:=k') (x:=rd (dfl k') xs i) (o:=0) (b:=bb) (f:=f+i.toNat * ks k') (u i.toNat) hm (λj hj=>by rw[Ct];exact hu' _ _ hlt hj) (λj c hc=>hr _ _ _ _ mZ hc);exact this
   .cases h
  .cases h
 .rename_i id;split at h
  .rename_i e e' fz k' xs hu hid;split at h
   .rename_i hk;have hk:=Bm hk;simp only[Br,CD,inb,AI,decide_eq_true_eq]at h;obtain⟨⟨h0,hn⟩,rfl,rfl⟩:=h;obtain⟨hd,h1,h2⟩:=hH.E4 id _ hid;have h3:RC w β (.own id) vx:=hx;cases h3 with
    | own h4 h5=>
     rw[h1]at h4;cases h4;have h1':=Hn k';obtain⟨_,e2⟩|⟨bb,f,cap,us,fr,rfl,hh,hfr,hnc,hc,hs,hr⟩:=h2
     .subst e2;simp at hn;omega
     .refine Good.same hH (u:= .pointer<|I ⟨bb,f+i.toNat * ks k',U⟩) ?_ ?_
      .rw[abz hu J h0 hn,hk];rfl
      .have:=RC.ptr (w:=w) (β:=β) (id:=id) (sz:=ks k') (i:=i.toNat) (o:=0) h1 (b:=bb) (f:=f) rfl J;simpa[R2,R1] using this
   .cases h
  .cases h
 .rename_i id z;split at h
  .rename_i n e e' k' xs hu hid;split at h
   .rename_i hk;simp only[AI]at hk;have hk1:=Bm hk.1.1;have hk2:=Bm hk.1.2;obtain rfl:=Bm hk.2;simp only[Br,CD,inb,AI,decide_eq_true_eq]at h;obtain⟨⟨h0,hn⟩,rfl,rfl⟩:=h;obtain⟨bb,us,h1,hh,hsz,hce,hr⟩:=hH.E4 id _ hid;have h1':=Hn k';have hlen:xs.length=n:=by
     rw[hP]at hk2;rw[hsz,hk2]at hce;exact Nat.eq_of_mul_eq_mul_right h1' hce
    have h3:RC w β (.ptr id z 0 0) vx:=hx;cases h3 with
    | @ptr _ _ _ _ hd n' b' f h4 ha hi'=>
     rw[h1]at h4;cases h4;cases ha;refine Good.same hH (u:= .pointer<|I ⟨bb,0+i.toNat * ks k',U⟩) ?_ ?_
     .rw[show(0:Nat)+(0 * z+0)=0 by omega,avC hu J h0 J,hk1];rfl
     .have:=RC.ptr (w:=w) (β:=β) (id:=id) (sz:=ks k') (i:=i.toNat) (o:=0) h1 (b:=bb) (f:=0) rfl J;simpa[R2,R1] using this
   .cases h
  .cases h
 .cases h
def nT{t ty:TypeId}{e:TypeId}(hu:P.underlying t=I (.slice e)){a:Option Addr}{n cap:Nat}:(R3 #[t] ty #[.slice a n cap]).run P w= .ok (.int .i64 n) w:=by
 simp[R3,run_underlying hu,goInt]
def ai6{src dst e:TypeId}(hs:P.underlying src=I (.slice e))(he:P.underlying e=I (.int .u8))(hd:P.underlying dst=I .string){xs:List (Tof .u8)}{v:Value}(h:MR w β .u8 xs v):
  (convert src dst v).run P w= .ok (.string<|BA xs) w:=by
 obtain⟨rfl,a,cap,rfl⟩|⟨bb,f,cap,u,rfl,hc,hu,hr⟩:=h
 .cases a with
  | none=>exact run_convert_bytes_nil w src e hs he _ _ dst hd
  | some a=>
   rw[run_convert_bytes_string w src dst e _ 0 cap hs he hd];simp[Conv.bytesToString,loadCells,BA];rfl
 .refine run_convert_bytes_arg w src e hs he bb f _ cap xs rfl (λi hi=> ?_) dst hd;have h1:=hu i 0 hi (by decide);have hx:xs[i]? =I (xs.getD i 0):=by simp[hi]
  have h2:=hr i _ 0 (.y<|xs.getD i 0) hx rfl;have h3:=h2.OE;rw[h3]at h1;simpa[ks] using h1
def aqH(hH:Hs B β H w)(hb:H b=U){src dst e:TypeId}(hs:P.underlying src=I .string)(hd:P.underlying dst=I (.slice e))(he:P.underlying e=I (.int .u8)){s:A4}(hr:Ab s.size=A1):
  Good B β H w b (.own b) [.row e A1 .u8<|BB s] (((convert src dst<|.string s).run P w).andThen λu w=> .ok (.value u) w):=by
 have hlen:(BB s).length=s.size:=by rw[BB,EG,En];rfl
 have hsz:(bytesCells w e s).size=grownCap w s.size 0 e:=by
  have:=grownCap_ge w s.size 0 e;simp only[bytesCells,Qy,Array.size_map,ik];have:s.data.size=s.size:=rfl;omega
 have aov:s.size<=maxLen:=by
  simp only[Ab,decide_eq_true_eq]at hr;exact C7 hr<|by decide
 refine ZB (w':=bytesWorld w e s) (cap:=grownCap w s.size 0 e) (us:=bytesCells w e s) hH hb rfl rfl rfl (bytesWorld_at_old w e s) (bytesWorld_at_new w e s) (by rw[hlen];exact grownCap_ge _ _ _ _)
  (grownCap_le_maxLen _ _ _ _ aov) (by rw[hsz];simp[ks]) ?_ ?_
 .intro i x j c u h1 h2 h3;have hj:j=0:=by
   have:=(BM.1 h2).1;simp[enc]at this;omega
  subst hj;simp only[enc,Yl,Br]at h2;subst h2;simp only[BB,D5,Cz]at h1;obtain⟨y,hy,rfl⟩:=h1;have hi:i<s.data.size:=by have:=(BM.1 hy).1;simpa using this
  rw[show i * ks .u8+0=i by simp[ks]]at h3;simp only[bytesCells]at h3;rw[Mb<|by simpa using hi]at h3;simp only[Array.getElem?_map,Cz]at h3;obtain⟨y',hy',rfl⟩:=h3;have:y=y':=by
   rw[Uu]at hy;rw[hy]at hy';exact CX hy'
  subst this;exact .lit rfl
 .rw[Go.Lib.run_convert_string_bytes w src dst e s hs hd he,hlen];rfl
end
end Go.VS
end
