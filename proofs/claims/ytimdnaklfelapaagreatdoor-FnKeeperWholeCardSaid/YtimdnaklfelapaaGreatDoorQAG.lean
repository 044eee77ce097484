/- An evaluator of the program's own code with its soundness, the printed texts of the functions, and plain laws of them (part 7). -/
import Derived.Laws.MakeOwn
import Derived.Great.BuildSlice
import Derived.Lib.ConvBytes
import Derived.Test.YtimdnaklfelapaaGreatDoorQAF
set_option linter.unusedVariables false
set_option linter.unusedSimpArgs false
set_option linter.defProp false
open Array renaming getElem?_append_left→asj,getElem?_eq_some_iff→arD,getElem?_toList→atk,length_toList→arq,size_append→atF,size_replicate→auQ
open Bool renaming and_eq_true→aqt
open Go.Addr renaming add_lit→asg
open Go.Builtin renaming len_→atQ
open Go.Instr renaming index→au9,indexAt→atK,sureAddr→asD
open Go.Result renaming andThen_ok→arE
open Go.Sem renaming run_bind→arY,run_pure→ar8
open Go.World renaming block_lt_of_cell?→atD,cell?_of_block→atP
open List renaming getD_eq_getElem?_getD→aqE,getElem?_cons_zero→atE,getElem?_drop→ar5,getElem?_eq_some_iff→aqF,getElem?_map→ari,getElem?_take→arT,length_map→ary
open Nat renaming add_assoc→arw,add_mul→arQ,le_refl→aqG,le_trans→ara,lt_of_lt_of_le→arU,mul_le_mul_right→ard
open Option renaming bind_some→aqs,map_eq_some_iff→aqY
open Option.some renaming inj→asb,injEq→aqI
open Prod.mk renaming injEq→arb
noncomputable section
namespace Go.VS
open Go
def abk(f:AV→AV)(hf: ∀ c,f c=c)(o:Option Ob):gT f o=o:=by
 cases o with
 | none=>rfl
 | some ob=>cases ob with
  | box e cs=>simp[gT,show f=fun c=>c from funext hf]
  | _=>rfl
section
variable {P:Program} {B:ake} {β:Beta} {H:Hp} {w w':World} {b:Nat} {tm:Nat→Value} {ρ:Operand→AV} {η:Operand→Value}
def Hs.grow(h:Hs B β H w){id:Nat}(hid:H id=none)(ob:Ob)(hd:Value)(n:Nat)
  (hos:w'.os=w.os)(akL:w'.tape=w.tape)(akV:w'.output=w.output)(akg:w.heap.size≤w'.heap.size)(hold: ∀ j,j < w.heap.size→w'.heap[j]? =w.heap[j]?)
  (ha: ∀ a,adr hd=some a→w.heap.size≤a.block∧a.block < w'.heap.size)
  (hob: ∀ β',β' id=some (hd,n)→Kp w β w' β'→akC B.P w' β' id ob):
  ∃ β',Hs B β' (upd H id (some ob)) w'∧Kp w β w' β'∧β' id=some (hd,n):=by
 have alS:β id=none:=by
  cases hb:β id with
  | none=>rfl
  | some p=>obtain⟨ob',ho⟩:=h.dom id p hb;rw[hid]at ho;cases ho
 have hM: ∀ b,MB (β.up id (some (hd,n))) b→MB β b∨w.heap.size≤b:=by
  rintro b ⟨j,hd',n',a',hj,ha',hb⟩;by_cases e:j=id
  ·subst e;rw[Beta.akK]at hj;cases hj;exact .inr (hb▸(ha a' ha').1)
  ·rw[Beta.ak5 _ _ e]at hj;exact .inl ⟨j,hd',n',a',hj,ha',hb⟩
 have hk:Kp w β w' (β.up id (some (hd,n))):=fun c v x=>RC.mono
  (fun j p hj=>by
   by_cases e:j=id
   ·subst e;rw[alS]at hj;cases hj
   ·rw[Beta.ak5 _ _ e];exact hj)
  (fun b o v _ hc=>by
   rw[atP (w:=w) (w':=w') (hold b (atD w _ hc))];exact hc)
  (fun b hb hlt hm=>by
   rcases hm with hm | hm
   ·rcases hM b hm with h1 | h1
    ·exact hb (.inl h1)
    ·omega
   ·exact hb (.inr hm)) x
 have h1:=h.am5 (w':=w') (β':=β.up id (some (hd,n))) (f:=fun c=>c) (fun _ _=>rfl) hk (id:=id) (ob:=some ob) (fun j e=>aI _ _ e)
  (.inr ⟨ob,hd,n,rfl,ax _ _ _,hob _ (ax _ _ _) hk,fun a h=> .inr (ha a h)⟩)
  (fun j p a e hj h2=>hold _ (h.old _ ⟨j,p.1,p.2,a,hj,h2,rfl⟩).2) hos akL akV akg (fun b hb _=>hold b (arU hb h.size)) rfl (Pk.old hold)
 refine⟨_, ?_,hk,ax _ _ _⟩;rwa[show(fun j=>gT (fun c=>c) (H j))=H from funext fun j=>abk _ (fun _=>rfl) _]at h1
def adp(h:Hs B β H w)(hb:H b=none){ob:Ob}{hd:Value}{n:Nat}{v:AV}
  (hos:w'.os=w.os)(akL:w'.tape=w.tape)(akV:w'.output=w.output)(akg:w.heap.size≤w'.heap.size)(hold: ∀ j,j < w.heap.size→w'.heap[j]? =w.heap[j]?)
  (ha: ∀ a,adr hd=some a→w.heap.size≤a.block∧a.block < w'.heap.size)
  (hob: ∀ β',β' b=some (hd,n)→Kp w β w' β'→akC B.P w' β' b ob){u:Value}
  (hv: ∀ β',β' b=some (hd,n)→R2 w' β' v u){r:Result Next}(hr:r= .ok (.value u) w'):Good B β H w b v [ob] r:=by
 obtain⟨β',h1,h2,h3⟩:=h.grow hb ob hd n hos akL akV akg hold ha hob;exact⟨u,w',β',hr,h1,h2,hv _ h3⟩
def Px(h:Hs B β H w)(hb:H b=none){e:TypeId}{fz:Bool}{k:K}{xs:List (Tof k)}{cap:Nat}{us:Array Value}
  (hos:w'.os=w.os)(akL:w'.tape=w.tape)(akV:w'.output=w.output)(hold: ∀ j,j < w.heap.size→w'.heap[j]? =w.heap[j]?)
  (amL:w'.heap[w.heap.size]? =some (.cells us e (if fz then(us.size,us.size+1) else(0,0))))(hc:xs.length≤cap)(hm:cap≤maxLen)(hs:cap * ks k≤us.size)
  (hr: ∀ i x j c u,xs[i]? =some x→(enc k x)[j]? =some c→us[i * ks k+j]? =some u→RC w β c u)
  {r:Result Next}(akm:r= .ok (.value (.slice (some ⟨w.heap.size,0,none⟩) xs.length cap)) w'):Good B β H w b (.own b) [.row e fz k xs] r:=by
 have hlt:w.heap.size < w'.heap.size:=(arD.1 amL).1;refine adp h hb (hd:= .slice (some ⟨w.heap.size,0,none⟩) xs.length cap) (n:=xs.length) hos akL akV (Nat.le_of_lt hlt) hold (fun a ha=>by cases ha;exact⟨aqG _,hlt⟩) ?_ ?_ akm
 ·intro β' hβ hk;refine⟨_,hβ,.inr ⟨w.heap.size,0,cap,us,_,rfl,amL,rfl,hc,hm,by omega,fun i x j c u h1 h2 h3=>hk _ _ (hr i x j c u h1 h2 ?_)⟩⟩;simpa using h3
 ·intro β' hβ;exact RC.own hβ rfl
def ahW(s:aqp){i:Int}(h:inb i s.size=true): ∃ x,s[i.toNat]? =some x∧bt s i=(x.toNat:Int)∧0≤i:=by
 simp only[inb,aqt,decide_eq_true_eq]at h;have hlt:i.toNat < s.size:=by omega
 refine⟨s[i.toNat],by simp[hlt], ?_,h.1⟩;have h2:i.toNat < s.data.size:=hlt;have:s.data.toList.getD i.toNat 0=s[i.toNat]:=by
  rw[aqE,atk,Array.getElem?_eq_getElem h2];rfl
 unfold bt;rw[this]
def R1.enc{k:K}{xs:List (Tof k)}{us:List Value}(hl:us.length=xs.length * ks k)(hr: ∀ i x j c u,xs[i]? =some x→(enc k x)[j]? =some c→us[i * ks k+j]? =some u→RC w β c u)
  {i:Nat}{x:Tof k}(hi:xs[i]? =some x):RL (RC w β) (enc k x) ((us.drop (i * ks k)).take (ks k)):=by
 have hlt:i < xs.length:=(aqF.1 hi).1;have h1:(i+1) * ks k≤xs.length * ks k:=ard _ hlt;rw[arQ]at h1;refine⟨by simp[bh];omega,fun j c u h2 h3=>hr i x j c u hi h2 ?_⟩;have hj:j < ks k:=by rw[← bh k x];exact(aqF.1 h2).1
 rw[arT,aqh hj,ar5]at h3;exact h3
def aas(hη: ∀ x,RX w β tm (ρ x) (η x))(hH:Hs B β H w){t:TypeId}{x ix:Operand}{k:IntKind}{i:Int}(hi:ρ ix= .lit (.int k i)){q:Bool}{v:AV}{os:List Ob}(h:adl P t i (ρ x)=some (q,v,os))(hq:q=true):
  Good B β H w b v os (((au9 t (η x) (η ix)).run P w).andThen fun u w=> .ok (.value u) w):=by
 subst hq;have hx:=hη x;have hix:=hη ix;rw[hi]at hix;rw[hix.lit];generalize ρ x=c at h hx;unfold adl at h;split at h
 ·rename_i s;split at h
  ·rename_i hu;simp only[aqI,arb]at h;obtain⟨h1,rfl,rfl⟩:=h;obtain⟨y,hy,hb,h0⟩:=ahW s h1;rw[hx.lit,hb];exact Good.same hH (u:= .int .u8 y.toNat) (by simp[au9,asIntOf,run_underlying hu,h0,hy]) rfl
  ·cases h
 ·rename_i k' xs;split at h
  ·rename_i n e hu;split at h
   ·rename_i h1 h2;cases hv:uv P e (enc k' (rd (dfl k') xs i)) 0 with
    | none=>rw[hv]at h;cases h
    | some v'=>
     rw[hv]at h;simp only[aqs,aqI,arb]at h;obtain⟨hb,rfl,rfl⟩:=h;simp only[inb,aqt,decide_eq_true_eq]at hb;obtain⟨us,e1,hl,hr⟩:=hx;simp only[aqt]at h1;have hk:=aD h1.1;have hi':xs[i.toNat]? =some (rd (dfl k') xs i):=by
      have:i.toNat < xs.length:=by omega
      simp[rd,this]
     have hrl:=R1.enc hl hr hi';unfold uv at hv;rw[h2]at hv;simp only at hv;obtain⟨u,hu1,hu2⟩:=hrl.get hv;have hlen:P.cellsOf e=1:=aD h1.2;have hu3:us[i.toNat]? =some u:=by
      rw[hk]at hu1;simpa using hu1
     refine Good.same hH (u:=u) ?_ (R2.ale (R1.akX hu2));have hb':0≤i∧i < (n:Int):=by omega
     rw[e1];simp only[au9,asIntOf,arY,ar8,arE,run_underlying hu,hb',and_self,aqm,lm (P:=P) (w:=w) (t:=e) (by omega),hlen,Nat.mul_one,Qu hu3 h2]
   ·cases h
  ·cases h
 ·cases h
end
end Go.VS
namespace Go.VS
open Go Go.Lib
def fU{a b:K}{xs:List (Tof a)}{ys:List (Tof b)}(h:z8 a b xs=some ys): ∃ e:a=b,e▸xs=ys:=by
 cases a<;>cases b<;>first | (cases h;exact⟨rfl,rfl⟩) | cases h
def amk(w:World)(β:Beta)(k:K)(xs:List (Tof k))(v:Value):Prop:=
 (xs=[]∧ ∃ a cap,v= .slice a 0 cap)∨ ∃ b f cap,∃ u:Nat→Nat→Value,v= .slice (some ⟨b,f,none⟩) xs.length cap∧xs.length≤cap∧
  (∀ i j,i < xs.length→j < ks k→w.cell? ⟨b,f+(i * ks k+j),none⟩=some (u i j))∧ ∀ i x j c,xs[i]? =some x→(enc k x)[j]? =some c→RC w β c (u i j)
section
variable {P:Program} {B:ake} {β:Beta} {H:Hp} {w w':World} {b:Nat} {tm:Nat→Value} {ρ:Operand→AV} {η:Operand→Value}
def RC.an1{k:K}{xs:List (Tof k)}{v:Value}(h:RC w β (.sl k xs) v):amk w β k xs v:=by
 cases h with
 | nil=>exact .inl ⟨rfl,_,_,rfl⟩
 | sl u hn hm hu hr=>obtain⟨rfl,hc⟩:=hn;exact .inr ⟨_,_,_,u,rfl,hc,hu,hr⟩
def aki.cells{e:TypeId}{fz:Bool}{k:K}{xs:List (Tof k)}{hd:Value}(h:aki w β e fz k xs hd):amk w β k xs hd:=by
 rcases h with⟨rfl,rfl⟩ | ⟨b,f,cap,us,fr,rfl,hh,hfr,hn,hc,hs,hr⟩
 ·exact .inl ⟨rfl,_,_,rfl⟩
 ·have akc: ∀ i j,i < xs.length→j < ks k→f+(i * ks k+j) < us.size:=by
   intro i j hi hj;have h1:(i+1) * ks k≤cap * ks k:=ard _ (by omega);rw[arQ]at h1;omega
  refine .inr ⟨b,f,cap,fun i j=>us.getD (f+(i * ks k+j)) undef,rfl,hn,fun i j hi hj=> ?_,fun i x j c h1 h2=> ?_⟩
  ·rw[cell_of_row w b _ us e fr hh];have:=akc i j hi hj;simp[this]
  ·have hi:i < xs.length:=(aqF.1 h1).1;have hj:j < ks k:=by rw[← bh k x];exact(aqF.1 h2).1
   have:=akc i j hi hj;exact hr i x j c _ h1 h2 (by simp[this])
def abQ(hH:Hs B β H w){k:K}{c:AV}{v:Value}{xs:List (Tof k)}(h:gQ H k c=some xs)(hx:R2 w β c v):amk w β k xs v:=by
 unfold gQ at h;split at h
 ·obtain⟨e,rfl⟩:=fU h;subst e;exact RC.an1 hx
 ·cases h;have:v=_:=hx;exact .inl ⟨rfl,_,_,this⟩
 ·rename_i id;split at h
  ·rename_i e fz k' ys hid;obtain⟨ek,rfl⟩:=fU h;subst ek;obtain⟨hd,h1,h2⟩:=hH.akE id _ hid;have h3:RC w β (.own id) v:=hx;cases h3 with
   | own h4 h5=>rw[h1]at h4;cases h4;exact h2.cells
  ·cases h
 ·cases h
def amk.len{k:K}{xs:List (Tof k)}{v:Value}(h:amk w β k xs v): ∃ a cap,v= .slice a xs.length cap∧xs.length≤cap:=by
 rcases h with⟨rfl,a,cap,rfl⟩ | ⟨b,f,cap,u,rfl,hc,_⟩
 ·exact⟨_,_,rfl,by simp⟩
 ·exact⟨_,_,rfl,hc⟩
def Na{t e:TypeId}(hu:P.underlying t=some (.slice e))(h1:1≤P.cellsOf e){bb f n cap:Nat}{k:IntKind}{i:Int}(h0:0≤i)(hn:i < (n:Int)):
  (atK t (.slice (some ⟨bb,f,none⟩) n cap) (.int k i)).run P w= .ok (.pointer (some ⟨bb,f+i.toNat * P.cellsOf e,none⟩)) w:=by
 have hb':0≤i∧i < (n:Int):=⟨h0,hn⟩;have hb1:n≤1∨ ¬ n≤1:=by omega
 rcases hb1 with hb1 | hb1<;>
 simp[atK,asIntOf,run_underlying hu,hb1,hb',lm h1,asg]
def Wu{t e:TypeId}{n:Nat}(hu:P.underlying t=some (.array n e))(h1:1≤P.cellsOf e){bb f:Nat}{k:IntKind}{i:Int}(h0:0≤i)(hn:i < (n:Int)):
  (atK t (.pointer (some ⟨bb,f,none⟩)) (.int k i)).run P w= .ok (.pointer (some ⟨bb,f+i.toNat * P.cellsOf e,none⟩)) w:=by
 have hb':0≤i∧i < (n:Int):=⟨h0,hn⟩;have hb1:n≤1∨ ¬ n≤1:=by omega
 rcases hb1 with hb1 | hb1<;>
 simp[atK,asIntOf,asD,run_underlying hu,hb1,hb',lm h1,asg]
def RA(hP:P=B.P)(hη: ∀ x,RX w β tm (ρ x) (η x))(hH:Hs B β H w){t:TypeId}{x ix:Operand}{k:IntKind}{i:Int}(hi:ρ ix= .lit (.int k i)){q:Bool}{v:AV}{os:List Ob}(h:qS P H t i (ρ x)=some (q,v,os))(hq:q=true):
  Good B β H w b v os (((atK t (η x) (η ix)).run P w).andThen fun u w=> .ok (.value u) w):=by
 subst hq;have hx:=hη x;have hix:=hη ix;rw[hi]at hix;rw[hix.lit];generalize ρ x=c at h hx;generalize η x=vx at hx;unfold qS at h;split at h
 ·rename_i k' xs;split at h
  ·rename_i e hu;split at h
   ·rename_i hk;have hk:=aD hk;simp only[aqI,arb,inb,aqt,decide_eq_true_eq]at h;obtain⟨⟨h0,hn⟩,rfl,rfl⟩:=h;have hx':RC w β (.sl k' xs) vx:=hx;cases hx' with
    | nil=>simp at hn;omega
    | @sl _ _ bb f cap n u hn' hm hu' hr=>
     obtain⟨rfl,hc⟩:=hn';have h1:=oy k';have hlt:i.toNat < xs.length:=by omega
     have aos:xs[i.toNat]? =some (rd (dfl k') xs i):=by simp[rd,hlt]
     refine Good.same hH (u:= .pointer (some ⟨bb,f+i.toNat * ks k',none⟩)) ?_ ?_
     ·rw[Na hu (by omega) h0 hn,hk];rfl
     ·have:=RC.ipt (w:=w) (β:=β) (k:=k') (x:=rd (dfl k') xs i) (o:=0) (b:=bb) (f:=f+i.toNat * ks k') (u i.toNat) hm (fun j hj=>by rw[arw];exact hu' _ _ hlt hj) (fun j c hc=>hr _ _ _ _ aos hc);exact this
   ·cases h
  ·cases h
 ·rename_i id;split at h
  ·rename_i e e' fz k' xs hu hid;split at h
   ·rename_i hk;have hk:=aD hk;simp only[aqI,arb,inb,aqt,decide_eq_true_eq]at h;obtain⟨⟨h0,hn⟩,rfl,rfl⟩:=h;obtain⟨hd,h1,h2⟩:=hH.akE id _ hid;have h3:RC w β (.own id) vx:=hx;cases h3 with
    | own h4 h5=>
     rw[h1]at h4;cases h4;have h1':=oy k';rcases h2 with⟨_,e2⟩ | ⟨bb,f,cap,us,fr,rfl,hh,hfr,hnc,hc,hs,hr⟩
     ·subst e2;simp at hn;omega
     ·refine Good.same hH (u:= .pointer (some ⟨bb,f+i.toNat * ks k',none⟩)) ?_ ?_
      ·rw[Na hu (by omega) h0 hn,hk];rfl
      ·have:=RC.ptr (w:=w) (β:=β) (id:=id) (sz:=ks k') (i:=i.toNat) (o:=0) h1 (b:=bb) (f:=f) rfl (by omega);simpa[R2,R1] using this
   ·cases h
  ·cases h
 ·rename_i id z;split at h
  ·rename_i n e e' k' xs hu hid;split at h
   ·rename_i hk;simp only[aqt]at hk;have hk1:=aD hk.1.1;have hk2:=aD hk.1.2;obtain rfl:=aD hk.2;simp only[aqI,arb,inb,aqt,decide_eq_true_eq]at h;obtain⟨⟨h0,hn⟩,rfl,rfl⟩:=h;obtain⟨bb,us,h1,hh,hsz,hce,hr⟩:=hH.akE id _ hid;have h1':=oy k';have hlen:xs.length=n:=by
     rw[hP]at hk2;rw[hsz,hk2]at hce;exact Nat.eq_of_mul_eq_mul_right h1' hce
    have h3:RC w β (.ptr id z 0 0) vx:=hx;cases h3 with
    | @ptr _ _ _ _ hd n' b' f h4 ha hi'=>
     rw[h1]at h4;cases h4;cases ha;refine Good.same hH (u:= .pointer (some ⟨bb,0+i.toNat * ks k',none⟩)) ?_ ?_
     ·rw[show(0:Nat)+(0 * z+0)=0 by omega,Wu hu (by omega) h0 (by omega),hk1];rfl
     ·have:=RC.ptr (w:=w) (β:=β) (id:=id) (sz:=ks k') (i:=i.toNat) (o:=0) h1 (b:=bb) (f:=0) rfl (by omega);simpa[R2,R1] using this
   ·cases h
  ·cases h
 ·cases h
def Lr{t ty:TypeId}{e:TypeId}(hu:P.underlying t=some (.slice e)){a:Option Addr}{n cap:Nat}:(atQ #[t] ty #[.slice a n cap]).run P w= .ok (.int .i64 n) w:=by
 simp[atQ,run_underlying hu,goInt]
def acE{src dst e:TypeId}(hs:P.underlying src=some (.slice e))(he:P.underlying e=some (.int .u8))(hd:P.underlying dst=some .string){xs:List (Tof .u8)}{v:Value}(h:amk w β .u8 xs v):
  (convert src dst v).run P w= .ok (.string (dR xs)) w:=by
 rcases h with⟨rfl,a,cap,rfl⟩ | ⟨bb,f,cap,u,rfl,hc,hu,hr⟩
 ·cases a with
  | none=>exact run_convert_bytes_nil w src e hs he _ _ dst hd
  | some a=>
   rw[run_convert_bytes_string w src dst e _ 0 cap hs he hd];simp[Conv.bytesToString,loadCells,dR];rfl
 ·refine run_convert_bytes_arg w src e hs he bb f _ cap xs rfl (fun i hi=> ?_) dst hd;have h1:=hu i 0 hi (by decide);have hx:xs[i]? =some (xs.getD i 0):=by simp[hi]
  have h2:=hr i _ 0 (.y (xs.getD i 0)) hx rfl;have h3:=h2.amm;rw[h3]at h1;simpa[ks] using h1
def aaS(hH:Hs B β H w)(hb:H b=none){src dst e:TypeId}(hs:P.underlying src=some .string)(hd:P.underlying dst=some (.slice e))(he:P.underlying e=some (.int .u8)){s:aqp}(hr:al s.size=true):
  Good B β H w b (.own b) [.row e true .u8 (aH s)] (((convert src dst (.string s)).run P w).andThen fun u w=> .ok (.value u) w):=by
 have hlen:(aH s).length=s.size:=by rw[aH,ary,arq];rfl
 have hsz:(bytesCells w e s).size=grownCap w s.size 0 e:=by
  have:=grownCap_ge w s.size 0 e;simp only[bytesCells,atF,Array.size_map,auQ];have:s.data.size=s.size:=rfl;omega
 have aob:s.size≤maxLen:=by
  simp only[al,decide_eq_true_eq]at hr;exact ara hr (by decide)
 refine Px (w':=bytesWorld w e s) (cap:=grownCap w s.size 0 e) (us:=bytesCells w e s) hH hb rfl rfl rfl (bytesWorld_at_old w e s) (bytesWorld_at_new w e s) (by rw[hlen];exact grownCap_ge _ _ _ _)
  (grownCap_le_maxLen _ _ _ _ aob) (by rw[hsz];simp[ks]) ?_ ?_
 ·intro i x j c u h1 h2 h3;have hj:j=0:=by
   have:=(aqF.1 h2).1;simp[enc]at this;omega
  subst hj;simp only[enc,atE,aqI]at h2;subst h2;simp only[aH,ari,aqY]at h1;obtain⟨y,hy,rfl⟩:=h1;have hi:i < s.data.size:=by have:=(aqF.1 hy).1;simpa using this
  rw[show i * ks .u8+0=i by simp[ks]]at h3;simp only[bytesCells]at h3;rw[asj (by simpa using hi)]at h3;simp only[Array.getElem?_map,aqY]at h3;obtain⟨y',hy',rfl⟩:=h3;have:y=y':=by
   rw[atk]at hy;rw[hy]at hy';exact asb hy'
  subst this;exact .lit rfl
 ·rw[Go.Lib.run_convert_string_bytes w src dst e s hs hd he,hlen];rfl
end
end Go.VS
end
