/- Part 7. -/
import Derived.Laws.MakeOwn
import Derived.Great.BuildSlice
import Derived.Lib.ConvBytes
import Derived.Test.YtimdnaklfelapaaGreatDoorQAF
open Array renaming getElem?_append_left→awC,getElem?_eq_some_iff→avO,getElem?_toList→axJ,length_toList→avE,size_append→ax5,size_replicate→ay8
open Bool renaming and_eq_true→auF
open Go.Addr renaming add_lit→awy
open Go.Builtin renaming len_→ayg
open Go.Instr renaming indexAt→aya,index→azq,sureAddr→awU
open Go.Result renaming andThen_ok→avP
open Go.Sem renaming run_bind→awb,run_pure→awp
open Go.World renaming block_lt_of_cell?→ax3,cell?_of_block→ayf
open List renaming getD_eq_getElem?_getD→auQ,getElem?_cons_zero→ax4,getElem?_drop→awh,getElem?_eq_some_iff→auR,getElem?_map→avz,getElem?_take→av7,length_map→avK
open Nat renaming add_assoc→avI,add_mul→av4,le_refl→auS,le_trans→avr,lt_of_lt_of_le→av8,mul_le_mul_right→avu
open Option renaming bind_some→auE,map_eq_some_iff→avc
open Option.some renaming injEq→auU,inj→avD
open Prod.mk renaming injEq→avs
set_option linter.unusedVariables false
set_option linter.unusedSimpArgs false
set_option linter.defProp false
noncomputable section
namespace Go.VS
open Go
def aeS(f:AV→AV)(hf: ∀ c,f c=c)(o:Option Ob):iY f o=o:=by
 cases o with
 | none=>rfl
 | some ob=>cases ob with
  | box e cs=>simp[iY,show f=fun c=>c from funext hf]
  | _=>rfl
section
variable {P:Program} {B:anT} {β:Beta} {H:Hp} {w w':World} {b:Nat} {tm:Nat→Value} {ρ:Operand→AV} {η:Operand→Value}
def Hs.grow(h:Hs B β H w){id:Nat}(hid:H id=none)(ob:Ob)(hd:Value)(n:Nat)
  (hos:w'.os=w.os)(aoy:w'.tape=w.tape)(aoI:w'.output=w.output)(anW:w.heap.size≤w'.heap.size)(hold: ∀ j,j < w.heap.size→w'.heap[j]? =w.heap[j]?)
  (ha: ∀ a,adr hd=some a→w.heap.size≤a.block∧a.block < w'.heap.size)
  (hob: ∀ β',β' id=some (hd,n)→Kp w β w' β'→aoo B.P w' β' id ob):
  ∃ β',Hs B β' (upd H id (some ob)) w'∧Kp w β w' β'∧β' id=some (hd,n):=by
 have apJ:β id=none:=by
  cases hb:β id with
  | none=>rfl
  | some p=>obtain⟨ob',ho⟩:=h.dom id p hb;rw[hid]at ho;cases ho
 have hM: ∀ b,MB (β.up id (some (hd,n))) b→MB β b∨w.heap.size≤b:=by
  rintro b ⟨j,hd',n',a',hj,ha',hb⟩;by_cases e:j=id
  ·subst e;rw[Beta.aox]at hj;cases hj;exact .inr (hb▸(ha a' ha').1)
  ·rw[Beta.aoT _ _ e]at hj;exact .inl ⟨j,hd',n',a',hj,ha',hb⟩
 have hk:Kp w β w' (β.up id (some (hd,n))):=fun c v x=>RC.mono
  (fun j p hj=>by
   by_cases e:j=id
   ·subst e;rw[apJ]at hj;cases hj
   ·rw[Beta.aoT _ _ e];exact hj)
  (fun b o v _ hc=>by
   rw[ayf (w:=w) (w':=w') (hold b (ax3 w _ hc))];exact hc)
  (fun b hb hlt hm=>by
   rcases hm with hm | hm
   ·rcases hM b hm with h1 | h1
    ·exact hb (.inl h1)
    ·omega
   ·exact hb (.inr hm)) x
 have h1:=h.aqW (w':=w') (β':=β.up id (some (hd,n))) (f:=fun c=>c) (fun _ _=>rfl) hk (id:=id) (ob:=some ob) (fun j e=>aM _ _ e)
  (.inr ⟨ob,hd,n,rfl,aD _ _ _,hob _ (aD _ _ _) hk,fun a h=> .inr (ha a h)⟩)
  (fun j p a e hj h2=>hold _ (h.old _ ⟨j,p.1,p.2,a,hj,h2,rfl⟩).2) hos aoy aoI anW (fun b hb _=>hold b (av8 hb h.size)) rfl (Pk.old hold)
 refine⟨_, ?_,hk,aD _ _ _⟩;rwa[show(fun j=>iY (fun c=>c) (H j))=H from funext fun j=>aeS _ (fun _=>rfl) _]at h1
def agX(h:Hs B β H w)(hb:H b=none){ob:Ob}{hd:Value}{n:Nat}{v:AV}
  (hos:w'.os=w.os)(aoy:w'.tape=w.tape)(aoI:w'.output=w.output)(anW:w.heap.size≤w'.heap.size)(hold: ∀ j,j < w.heap.size→w'.heap[j]? =w.heap[j]?)
  (ha: ∀ a,adr hd=some a→w.heap.size≤a.block∧a.block < w'.heap.size)
  (hob: ∀ β',β' b=some (hd,n)→Kp w β w' β'→aoo B.P w' β' b ob){u:Value}
  (hv: ∀ β',β' b=some (hd,n)→R2 w' β' v u){r:Result Next}(hr:r= .ok (.value u) w'):Good B β H w b v [ob] r:=by
 obtain⟨β',h1,h2,h3⟩:=h.grow hb ob hd n hos aoy aoI anW hold ha hob;exact⟨u,w',β',hr,h1,h2,hv _ h3⟩
def S1(h:Hs B β H w)(hb:H b=none){e:TypeId}{fz:Bool}{k:K}{xs:List (Tof k)}{cap:Nat}{us:Array Value}
  (hos:w'.os=w.os)(aoy:w'.tape=w.tape)(aoI:w'.output=w.output)(hold: ∀ j,j < w.heap.size→w'.heap[j]? =w.heap[j]?)
  (aqC:w'.heap[w.heap.size]? =some (.cells us e (if fz then(us.size,us.size+1) else(0,0))))(hc:xs.length≤cap)(hm:cap≤maxLen)(hs:cap * ks k≤us.size)
  (hr: ∀ i x j c u,xs[i]? =some x→(enc k x)[j]? =some c→us[i * ks k+j]? =some u→RC w β c u)
  {r:Result Next}(an2:r= .ok (.value (.slice (some ⟨w.heap.size,0,none⟩) xs.length cap)) w'):Good B β H w b (.own b) [.row e fz k xs] r:=by
 have hlt:w.heap.size < w'.heap.size:=(avO.1 aqC).1;refine agX h hb (hd:= .slice (some ⟨w.heap.size,0,none⟩) xs.length cap) (n:=xs.length) hos aoy aoI (Nat.le_of_lt hlt) hold (fun a ha=>by cases ha;exact⟨auS _,hlt⟩) ?_ ?_ an2
 ·intro β' hβ hk;refine⟨_,hβ,.inr ⟨w.heap.size,0,cap,us,_,rfl,aqC,rfl,hc,hm,by omega,fun i x j c u h1 h2 h3=>hk _ _ (hr i x j c u h1 h2 ?_)⟩⟩;simpa using h3
 ·intro β' hβ;exact RC.own hβ rfl
def alA(s:auB){i:Int}(h:inb i s.size=true): ∃ x,s[i.toNat]? =some x∧bt s i=(x.toNat:Int)∧0≤i:=by
 simp only[inb,auF,decide_eq_true_eq]at h;have hlt:i.toNat < s.size:=by omega
 refine⟨s[i.toNat],by simp[hlt], ?_,h.1⟩;have h2:i.toNat < s.data.size:=hlt;have:s.data.toList.getD i.toNat 0=s[i.toNat]:=by
  rw[auQ,axJ,Array.getElem?_eq_getElem h2];rfl
 unfold bt;rw[this]
def R1.enc{k:K}{xs:List (Tof k)}{us:List Value}(hl:us.length=xs.length * ks k)(hr: ∀ i x j c u,xs[i]? =some x→(enc k x)[j]? =some c→us[i * ks k+j]? =some u→RC w β c u)
  {i:Nat}{x:Tof k}(hi:xs[i]? =some x):RL (RC w β) (enc k x) ((us.drop (i * ks k)).take (ks k)):=by
 have hlt:i < xs.length:=(auR.1 hi).1;have h1:(i+1) * ks k≤xs.length * ks k:=avu _ hlt;rw[av4]at h1;refine⟨by simp[bG];omega,fun j c u h2 h3=>hr i x j c u hi h2 ?_⟩;have hj:j < ks k:=by rw[← bG k x];exact(auR.1 h2).1
 rw[av7,aus hj,awh]at h3;exact h3
def adV(hη: ∀ x,RX w β tm (ρ x) (η x))(hH:Hs B β H w){t:TypeId}{x ix:Operand}{k:IntKind}{i:Int}(hi:ρ ix= .lit (.int k i)){q:Bool}{v:AV}{os:List Ob}(h:agS P t i (ρ x)=some (q,v,os))(hq:q=true):
  Good B β H w b v os (((azq t (η x) (η ix)).run P w).andThen fun u w=> .ok (.value u) w):=by
 subst hq;have hx:=hη x;have hix:=hη ix;rw[hi]at hix;rw[hix.lit];generalize ρ x=c at h hx;unfold agS at h;split at h
 ·rename_i s;split at h
  ·rename_i hu;simp only[auU,avs]at h;obtain⟨h1,rfl,rfl⟩:=h;obtain⟨y,hy,hb,h0⟩:=alA s h1;rw[hx.lit,hb];exact Good.same hH (u:= .int .u8 y.toNat) (by simp[azq,asIntOf,run_underlying hu,h0,hy]) rfl
  ·cases h
 ·rename_i k' xs;split at h
  ·rename_i n e hu;split at h
   ·rename_i h1 h2;cases hv:wW P e (enc k' (rd (dfl k') xs i)) 0 with
    | none=>rw[hv]at h;cases h
    | some v'=>
     rw[hv]at h;simp only[auE,auU,avs]at h;obtain⟨hb,rfl,rfl⟩:=h;simp only[inb,auF,decide_eq_true_eq]at hb;obtain⟨us,e1,hl,hr⟩:=hx;simp only[auF]at h1;have hk:=aI h1.1;have hi':xs[i.toNat]? =some (rd (dfl k') xs i):=by
      have:i.toNat < xs.length:=by omega
      simp[rd,this]
     have hrl:=R1.enc hl hr hi';unfold wW at hv;rw[h2]at hv;simp only at hv;obtain⟨u,hu1,hu2⟩:=hrl.get hv;have hlen:P.cellsOf e=1:=aI h1.2;have hu3:us[i.toNat]? =some u:=by
      rw[hk]at hu1;simpa using hu1
     refine Good.same hH (u:=u) ?_ (R2.ao4 (R1.aoL hu2));have hb':0≤i∧i < (n:Int):=by omega
     rw[e1];simp only[azq,asIntOf,awb,awp,avP,run_underlying hu,hb',and_self,auy,nb (P:=P) (w:=w) (t:=e) (by omega),hlen,Nat.mul_one,TU hu3 h2]
   ·cases h
  ·cases h
 ·cases h
end
end Go.VS
namespace Go.VS
open Go Go.Lib
def gW{a b:K}{xs:List (Tof a)}{ys:List (Tof b)}(h:CE a b xs=some ys): ∃ e:a=b,e▸xs=ys:=by
 cases a<;>cases b<;>first | (cases h;exact⟨rfl,rfl⟩) | cases h
def ap9(w:World)(β:Beta)(k:K)(xs:List (Tof k))(v:Value):Prop:=
 (xs=[]∧ ∃ a cap,v= .slice a 0 cap)∨ ∃ b f cap,∃ u:Nat→Nat→Value,v= .slice (some ⟨b,f,none⟩) xs.length cap∧xs.length≤cap∧
  (∀ i j,i < xs.length→j < ks k→w.cell? ⟨b,f+(i * ks k+j),none⟩=some (u i j))∧ ∀ i x j c,xs[i]? =some x→(enc k x)[j]? =some c→RC w β c (u i j)
section
variable {P:Program} {B:anT} {β:Beta} {H:Hp} {w w':World} {b:Nat} {tm:Nat→Value} {ρ:Operand→AV} {η:Operand→Value}
def RC.arU{k:K}{xs:List (Tof k)}{v:Value}(h:RC w β (.sl k xs) v):ap9 w β k xs v:=by
 cases h with
 | nil=>exact .inl ⟨rfl,_,_,rfl⟩
 | sl u hn hm hu hr=>obtain⟨rfl,hc⟩:=hn;exact .inr ⟨_,_,_,u,rfl,hc,hu,hr⟩
def anZ.cells{e:TypeId}{fz:Bool}{k:K}{xs:List (Tof k)}{hd:Value}(h:anZ w β e fz k xs hd):ap9 w β k xs hd:=by
 rcases h with⟨rfl,rfl⟩ | ⟨b,f,cap,us,fr,rfl,hh,hfr,hn,hc,hs,hr⟩
 ·exact .inl ⟨rfl,_,_,rfl⟩
 ·have anR: ∀ i j,i < xs.length→j < ks k→f+(i * ks k+j) < us.size:=by
   intro i j hi hj;have h1:(i+1) * ks k≤cap * ks k:=avu _ (by omega);rw[av4]at h1;omega
  refine .inr ⟨b,f,cap,fun i j=>us.getD (f+(i * ks k+j)) undef,rfl,hn,fun i j hi hj=> ?_,fun i x j c h1 h2=> ?_⟩
  ·rw[cell_of_row w b _ us e fr hh];have:=anR i j hi hj;simp[this]
  ·have hi:i < xs.length:=(auR.1 h1).1;have hj:j < ks k:=by rw[← bG k x];exact(auR.1 h2).1
   have:=anR i j hi hj;exact hr i x j c _ h1 h2 (by simp[this])
def afn(hH:Hs B β H w){k:K}{c:AV}{v:Value}{xs:List (Tof k)}(h:iT H k c=some xs)(hx:R2 w β c v):ap9 w β k xs v:=by
 unfold iT at h;split at h
 ·obtain⟨e,rfl⟩:=gW h;subst e;exact RC.arU hx
 ·cases h;have:v=_:=hx;exact .inl ⟨rfl,_,_,this⟩
 ·rename_i id;split at h
  ·rename_i e fz k' ys hid;obtain⟨ek,rfl⟩:=gW h;subst ek;obtain⟨hd,h1,h2⟩:=hH.aoq id _ hid;have h3:RC w β (.own id) v:=hx;cases h3 with
   | own h4 h5=>rw[h1]at h4;cases h4;exact h2.cells
  ·cases h
 ·cases h
def ap9.len{k:K}{xs:List (Tof k)}{v:Value}(h:ap9 w β k xs v): ∃ a cap,v= .slice a xs.length cap∧xs.length≤cap:=by
 rcases h with⟨rfl,a,cap,rfl⟩ | ⟨b,f,cap,u,rfl,hc,_⟩
 ·exact⟨_,_,rfl,by simp⟩
 ·exact⟨_,_,rfl,hc⟩
def Qv{t e:TypeId}(hu:P.underlying t=some (.slice e))(h1:1≤P.cellsOf e){bb f n cap:Nat}{k:IntKind}{i:Int}(h0:0≤i)(hn:i < (n:Int)):
  (aya t (.slice (some ⟨bb,f,none⟩) n cap) (.int k i)).run P w= .ok (.pointer (some ⟨bb,f+i.toNat * P.cellsOf e,none⟩)) w:=by
 have hb':0≤i∧i < (n:Int):=⟨h0,hn⟩;have hb1:n≤1∨ ¬ n≤1:=by omega
 rcases hb1 with hb1 | hb1<;>
 simp[aya,asIntOf,run_underlying hu,hb1,hb',nb h1,awy]
def ZW{t e:TypeId}{n:Nat}(hu:P.underlying t=some (.array n e))(h1:1≤P.cellsOf e){bb f:Nat}{k:IntKind}{i:Int}(h0:0≤i)(hn:i < (n:Int)):
  (aya t (.pointer (some ⟨bb,f,none⟩)) (.int k i)).run P w= .ok (.pointer (some ⟨bb,f+i.toNat * P.cellsOf e,none⟩)) w:=by
 have hb':0≤i∧i < (n:Int):=⟨h0,hn⟩;have hb1:n≤1∨ ¬ n≤1:=by omega
 rcases hb1 with hb1 | hb1<;>
 simp[aya,asIntOf,awU,run_underlying hu,hb1,hb',nb h1,awy]
def U6(hP:P=B.P)(hη: ∀ x,RX w β tm (ρ x) (η x))(hH:Hs B β H w){t:TypeId}{x ix:Operand}{k:IntKind}{i:Int}(hi:ρ ix= .lit (.int k i)){q:Bool}{v:AV}{os:List Ob}(h:te P H t i (ρ x)=some (q,v,os))(hq:q=true):
  Good B β H w b v os (((aya t (η x) (η ix)).run P w).andThen fun u w=> .ok (.value u) w):=by
 subst hq;have hx:=hη x;have hix:=hη ix;rw[hi]at hix;rw[hix.lit];generalize ρ x=c at h hx;generalize η x=vx at hx;unfold te at h;split at h
 ·rename_i k' xs;split at h
  ·rename_i e hu;split at h
   ·rename_i hk;have hk:=aI hk;simp only[auU,avs,inb,auF,decide_eq_true_eq]at h;obtain⟨⟨h0,hn⟩,rfl,rfl⟩:=h;have hx':RC w β (.sl k' xs) vx:=hx;cases hx' with
    | nil=>simp at hn;omega
    | @sl _ _ bb f cap n u hn' hm hu' hr=>
     obtain⟨rfl,hc⟩:=hn';have h1:=qk k';have hlt:i.toNat < xs.length:=by omega
     have asr:xs[i.toNat]? =some (rd (dfl k') xs i):=by simp[rd,hlt]
     refine Good.same hH (u:= .pointer (some ⟨bb,f+i.toNat * ks k',none⟩)) ?_ ?_
     ·rw[Qv hu (by omega) h0 hn,hk];rfl
     ·have:=RC.ipt (w:=w) (β:=β) (k:=k') (x:=rd (dfl k') xs i) (o:=0) (b:=bb) (f:=f+i.toNat * ks k') (u i.toNat) hm (fun j hj=>by rw[avI];exact hu' _ _ hlt hj) (fun j c hc=>hr _ _ _ _ asr hc);exact this
   ·cases h
  ·cases h
 ·rename_i id;split at h
  ·rename_i e e' fz k' xs hu hid;split at h
   ·rename_i hk;have hk:=aI hk;simp only[auU,avs,inb,auF,decide_eq_true_eq]at h;obtain⟨⟨h0,hn⟩,rfl,rfl⟩:=h;obtain⟨hd,h1,h2⟩:=hH.aoq id _ hid;have h3:RC w β (.own id) vx:=hx;cases h3 with
    | own h4 h5=>
     rw[h1]at h4;cases h4;have h1':=qk k';rcases h2 with⟨_,e2⟩ | ⟨bb,f,cap,us,fr,rfl,hh,hfr,hnc,hc,hs,hr⟩
     ·subst e2;simp at hn;omega
     ·refine Good.same hH (u:= .pointer (some ⟨bb,f+i.toNat * ks k',none⟩)) ?_ ?_
      ·rw[Qv hu (by omega) h0 hn,hk];rfl
      ·have:=RC.ptr (w:=w) (β:=β) (id:=id) (sz:=ks k') (i:=i.toNat) (o:=0) h1 (b:=bb) (f:=f) rfl (by omega);simpa[R2,R1] using this
   ·cases h
  ·cases h
 ·rename_i id z;split at h
  ·rename_i n e e' k' xs hu hid;split at h
   ·rename_i hk;simp only[auF]at hk;have hk1:=aI hk.1.1;have hk2:=aI hk.1.2;obtain rfl:=aI hk.2;simp only[auU,avs,inb,auF,decide_eq_true_eq]at h;obtain⟨⟨h0,hn⟩,rfl,rfl⟩:=h;obtain⟨bb,us,h1,hh,hsz,hce,hr⟩:=hH.aoq id _ hid;have h1':=qk k';have hlen:xs.length=n:=by
     rw[hP]at hk2;rw[hsz,hk2]at hce;exact Nat.eq_of_mul_eq_mul_right h1' hce
    have h3:RC w β (.ptr id z 0 0) vx:=hx;cases h3 with
    | @ptr _ _ _ _ hd n' b' f h4 ha hi'=>
     rw[h1]at h4;cases h4;cases ha;refine Good.same hH (u:= .pointer (some ⟨bb,0+i.toNat * ks k',none⟩)) ?_ ?_
     ·rw[show(0:Nat)+(0 * z+0)=0 by omega,ZW hu (by omega) h0 (by omega),hk1];rfl
     ·have:=RC.ptr (w:=w) (β:=β) (id:=id) (sz:=ks k') (i:=i.toNat) (o:=0) h1 (b:=bb) (f:=0) rfl (by omega);simpa[R2,R1] using this
   ·cases h
  ·cases h
 ·cases h
def OK{t ty:TypeId}{e:TypeId}(hu:P.underlying t=some (.slice e)){a:Option Addr}{n cap:Nat}:(ayg #[t] ty #[.slice a n cap]).run P w= .ok (.int .i64 n) w:=by
 simp[ayg,run_underlying hu,goInt]
def age{src dst e:TypeId}(hs:P.underlying src=some (.slice e))(he:P.underlying e=some (.int .u8))(hd:P.underlying dst=some .string){xs:List (Tof .u8)}{v:Value}(h:ap9 w β .u8 xs v):
  (convert src dst v).run P w= .ok (.string (eS xs)) w:=by
 rcases h with⟨rfl,a,cap,rfl⟩ | ⟨bb,f,cap,u,rfl,hc,hu,hr⟩
 ·cases a with
  | none=>exact run_convert_bytes_nil w src e hs he _ _ dst hd
  | some a=>
   rw[run_convert_bytes_string w src dst e _ 0 cap hs he hd];simp[Conv.bytesToString,loadCells,eS];rfl
 ·refine run_convert_bytes_arg w src e hs he bb f _ cap xs rfl (fun i hi=> ?_) dst hd;have h1:=hu i 0 hi (by decide);have hx:xs[i]? =some (xs.getD i 0):=by simp[hi]
  have h2:=hr i _ 0 (.y (xs.getD i 0)) hx rfl;have h3:=h2.aqb;rw[h3]at h1;simpa[ks] using h1
def aep(hH:Hs B β H w)(hb:H b=none){src dst e:TypeId}(hs:P.underlying src=some .string)(hd:P.underlying dst=some (.slice e))(he:P.underlying e=some (.int .u8)){s:auB}(hr:an s.size=true):
  Good B β H w b (.own b) [.row e true .u8 (aL s)] (((convert src dst (.string s)).run P w).andThen fun u w=> .ok (.value u) w):=by
 have hlen:(aL s).length=s.size:=by rw[aL,avK,avE];rfl
 have hsz:(bytesCells w e s).size=grownCap w s.size 0 e:=by
  have:=grownCap_ge w s.size 0 e;simp only[bytesCells,ax5,Array.size_map,ay8];have:s.data.size=s.size:=rfl;omega
 have ar7:s.size≤maxLen:=by
  simp only[an,decide_eq_true_eq]at hr;exact avr hr (by decide)
 refine S1 (w':=bytesWorld w e s) (cap:=grownCap w s.size 0 e) (us:=bytesCells w e s) hH hb rfl rfl rfl (bytesWorld_at_old w e s) (bytesWorld_at_new w e s) (by rw[hlen];exact grownCap_ge _ _ _ _)
  (grownCap_le_maxLen _ _ _ _ ar7) (by rw[hsz];simp[ks]) ?_ ?_
 ·intro i x j c u h1 h2 h3;have hj:j=0:=by
   have:=(auR.1 h2).1;simp[enc]at this;omega
  subst hj;simp only[enc,ax4,auU]at h2;subst h2;simp only[aL,avz,avc]at h1;obtain⟨y,hy,rfl⟩:=h1;have hi:i < s.data.size:=by have:=(auR.1 hy).1;simpa using this
  rw[show i * ks .u8+0=i by simp[ks]]at h3;simp only[bytesCells]at h3;rw[awC (by simpa using hi)]at h3;simp only[Array.getElem?_map,avc]at h3;obtain⟨y',hy',rfl⟩:=h3;have:y=y':=by
   rw[axJ]at hy;rw[hy]at hy';exact avD hy'
  subst this;exact .lit rfl
 ·rw[Go.Lib.run_convert_string_bytes w src dst e s hs hd he,hlen];rfl
end
end Go.VS
end
