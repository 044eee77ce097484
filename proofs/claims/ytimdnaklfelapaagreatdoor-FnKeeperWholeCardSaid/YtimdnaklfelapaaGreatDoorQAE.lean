/- An evaluator of the program's own code with its soundness, the printed texts of the functions, and plain laws of them (part 5). -/
import Derived.WalkKit
import Derived.Test.YtimdnaklfelapaaGreatDoorQAD
set_option linter.unusedVariables false
set_option linter.unusedSimpArgs false
set_option linter.defProp false
open Array renaming length_toList→arq,toArray_toList→auP
open Bool renaming and_eq_true→aqt,false_and→aqz,false_eq_true→ar2,false_or→aqX,true_and→aqB,true_or→aq5
open Go.Addr renaming add_lit→asg
open Go.Instr renaming loadAt→atj,sureAddr→asD
open Go.Result renaming andThen_ok→arE
open Go.Sem renaming run_bind→arY,run_pure→ar8
open List renaming all_eq_true→arp,getElem?_eq_some_iff→aqF,getElem?_map→ari,getElem?_range→arP,mem_iff_getElem?→auB,mem_of_getElem?→aqT,range→aqW
open Nat renaming add_assoc→arw,add_mul→arQ,add_zero→asB,beq→aqK,le_of_ble_eq_true→aq1,mul_le_mul_right→ard,zero_mul→au3
open Option renaming bind_some→aqs,map_eq_some_iff→aqY
noncomputable section
namespace Go.VS
open Go
def RX(w:World)(β:Beta)(tm:Nat→Value):AV→Value→Prop
 | .gd g want x,v=>tm g= .bool want→R2 w β x v
 | c,v=>R2 w β c v
def RT.anD{w:World}{β:Beta}{tm:Nat→Value}{c:AV}{v:Value}(h:RT w β tm c v):RX w β tm c v:=by
 cases c<;>first | exact h | exact h.1
def Good(B:ake)(β:Beta)(H:Hp)(w:World)(b:Nat)(v:AV)(os:List Ob)(r:Result Next):Prop:=
 ∃ u w' β',r= .ok (.value u) w'∧Hs B β' (fe H b os) w'∧Kp w β w' β'∧R2 w' β' v u
section
variable {P:Program} {B:ake} {β:Beta} {H:Hp} {w:World} {b:Nat} {tm:Nat→Value}
def Good.same(hH:Hs B β H w){v:AV}{u:Value}{r:Result Next}(hr:r= .ok (.value u) w)(hv:R2 w β v u):Good B β H w b v [] r:=
 ⟨u,w,β,hr,hH,Kp.refl _ _,hv⟩
def sZ{v v':AV}{c:Bool}{os:List Ob}(h:okN v=some (c,v',os)):v'=v∧c=true∧os=[]∧ ∀ g w x,v≠ .gd g w x:=by
 cases v<;>simp[okN,okA]at h<;>(obtain⟨rfl,rfl,rfl⟩:=h;exact⟨rfl,rfl,rfl,by simp⟩)
def bq{v v':AV}{c:Bool}{os:List Ob}(h:okA v=some (c,v',os)):v'=v∧c=true∧os=[]:=by
 simp[okA]at h;obtain⟨rfl,rfl,rfl⟩:=h;exact⟨rfl,rfl,rfl⟩
def RX.of{c:AV}{v:Value}(h:RX w β tm c v)(hn: ∀ g w x,c≠ .gd g w x):R2 w β c v:=by
 cases c<;>first | exact h | exact absurd rfl (hn _ _ _)
def RX.lit{v' v:Value}(h:RX w β tm (.lit v') v):v=v':=h
def RX.agg{cs:List AV}{v:Value}(h:RX w β tm (.agg cs) v): ∃ us:List Value,v= .agg us.toArray∧RL (RC w β) cs us:=h
def RX.tup{cs:List AV}{v:Value}(h:RX w β tm (.tup cs) v): ∃ us:List Value,v= .tuple us.toArray∧RL (R1 w β) cs us:=h
def acL{ρ:Operand→AV}{η:Operand→Value}(hη: ∀ x,RX w β tm (ρ x) (η x))(htm: ∀ g,η (.tmp g)=tm g)(hc: ∀ v,η (.const v)=v)(hH:Hs B β H w)
  {c x y:Operand}{q:Bool}{v:AV}{os:List Ob}(h:Qq ρ c x y=some (q,v,os))(hq:q=true){o:Oper}(ho:o.op= .pick c x y):Good B β H w b v os ((execOp η o).run P w):=by
 subst hq;have key: ∀ (p:Bool),ρ c= .lit (.bool p)→(execOp η o).run P w= .ok (.value (if p then η x else η y)) w:=by
  intro p hp;have hcv:η c= .bool p:=by have:=hη c;rw[hp]at this;exact this
  unfold execOp;rw[ho];simp[hcv,asBool]
 have alq: ∀ (want:Bool) (z:Operand) (r:Bool),GF (KX want (ρ z) c)=some r→(η c= .bool want→η z= .bool r):=by
  intro want z r hr hcw;have hz:=hη z;cases hρ:ρ z with
  | gd g w' x'=>
   rw[hρ]at hr hz;unfold KX at hr;cases c with
   | tmp g'=>
    simp only[re]at hr;cases h1:aqK g' g with
    | false=>rw[h1]at hr;simp[GF]at hr
    | true=>
     obtain rfl:=aD h1;cases h2:want == w' with
     | false=>rw[h1,h2]at hr;simp[GF]at hr
     | true=>
      obtain rfl:want=w':=by simpa using h2
      rw[h1,h2]at hr;have hzz:=hz (by rw[← htm];exact hcw);cases x'<;>simp[GF]at hr;rename_i vv;cases vv<;>simp at hr;subst hr;exact hzz
   | _=>simp[GF]at hr
  | lit vv=>
   rw[hρ]at hr hz;have:GF (AV.lit vv)=some r:=by
    unfold KX at hr;cases c<;>simpa[re] using hr
   cases vv<;>simp[GF]at this;subst this;exact hz
  | _=>
   rw[hρ]at hr;unfold KX at hr;cases c<;>simp[re,GF]at hr
 unfold Qq at h;split at h
 ·rename_i p hp;split at h
  ·rename_i r hr;obtain⟨rfl,_,rfl⟩:=bq h;refine Good.same hH (key _ hp) ?_;have hcv:η c= .bool p:=by have:=hη c;rw[hp]at this;exact this
   cases p with
   | true=>simp only[aqm,aq5];exact hc _
   | false=>simp only[ar2,if_false,aqX];exact alq false _ r hr hcv
  ·split at h
   ·obtain⟨rfl,_,rfl⟩:=bq h;refine Good.same hH (key _ hp) ?_;simp only[aqm];exact hc _
   ·obtain⟨rfl,_,rfl,hg⟩:=sZ h;refine Good.same hH (key _ hp) ?_;simp only[ar2,if_false];exact(hη _).of hg
 ·rename_i p hp _;split at h
  ·rename_i r hr;obtain⟨rfl,_,rfl⟩:=bq h;refine Good.same hH (key _ hp) ?_;have hcv:η c= .bool p:=by have:=hη c;rw[hp]at this;exact this
   cases p with
   | true=>simp only[aqm,aqB];exact alq true _ r hr hcv
   | false=>simp only[ar2,if_false,aqz];exact hc _
  ·split at h
   ·obtain⟨rfl,_,rfl,hg⟩:=sZ h;refine Good.same hH (key _ hp) ?_;simp only[aqm];exact(hη _).of hg
   ·obtain⟨rfl,_,rfl⟩:=bq h;refine Good.same hH (key _ hp) ?_;simp only[ar2,if_false];exact hc _
 ·rename_i p hp _ _;split at h
  ·obtain⟨rfl,_,rfl,hg⟩:=sZ h;refine Good.same hH (key _ hp) ?_;simp only[aqm];exact(hη _).of hg
  ·obtain⟨rfl,_,rfl,hg⟩:=sZ h;refine Good.same hH (key _ hp) ?_;simp only[ar2,if_false];exact(hη _).of hg
 ·cases h
end
end Go.VS
namespace Go.VS
open Go
section
variable {P:Program} {B:ake} {β:Beta} {H:Hp} {w:World} {b:Nat} {tm:Nat→Value}
def RC.amd{k:K}{x:Tof k}{o:Nat}{v:Value}(h:RC w β (.ipt k x o) v): ∃ bb f us,v= .pointer (some ⟨bb,f+o,none⟩)∧RL (RC w β) (enc k x) us∧ ∀ j u,us[j]? =some u→w.cell? ⟨bb,f+j,none⟩=some u:=by
 cases h with
 | @ipt _ _ _ bb f u hM hu hr=>
  refine⟨bb,f,(aqW (ks k)).map u,rfl,⟨by simp[bh],fun j c v hc hv=> ?_⟩,fun j v hv=> ?_⟩
  ·simp only[ari,aqY]at hv;obtain⟨i,hi,rfl⟩:=hv;rw[arP (by have:=(aqF.1 hi).1;simpa using this)]at hi;cases hi;exact hr _ _ hc
  ·simp only[ari,aqY]at hv;obtain⟨i,hi,rfl⟩:=hv;have hlt:j < ks k:=by have:=(aqF.1 hi).1;simpa using this
   rw[arP hlt]at hi;cases hi;exact hu _ hlt
def ln{i n s j:Nat}(hi:i < n)(hj:j < s):i * s+j < n * s:=by
 have:(i+1) * s≤n * s:=ard _ hi;rw[arQ]at this;omega
def aki.elem{e:TypeId}{fz:Bool}{k:K}{xs:List (Tof k)}{hd:Value}(h:aki w β e fz k xs hd){bb f:Nat}(ha:adr hd=some ⟨bb,f,none⟩){i:Nat}{x:Tof k}(hi:xs[i]? =some x):
  ∃ us,RL (RC w β) (enc k x) us∧ ∀ j u,us[j]? =some u→w.cell? ⟨bb,f+(i * ks k+j),none⟩=some u:=by
 rcases h with⟨rfl,_⟩ | ⟨b',f',cap,us,fr,hd',hh,hfr,hn,hc,hs,hr⟩
 ·cases ha
 ·have ha':adr hd=some ⟨b',f',none⟩:=by rw[hd'];rfl
  rw[ha]at ha';cases ha';have hlt:i < xs.length:=(aqF.1 hi).1;have akc: ∀ j,j < ks k→f+(i * ks k+j) < us.size:=fun j hj=>by
   have h1:=ln hlt hj;have h2:xs.length * ks k≤cap * ks k:=ard _ hn;omega
  refine⟨(aqW (ks k)).map fun j=>us.getD (f+(i * ks k+j)) undef,⟨by simp[bh],fun j c v hc hv=> ?_⟩,fun j v hv=> ?_⟩
  ·simp only[ari,aqY]at hv;obtain⟨q,hq,rfl⟩:=hv;have alU:j < ks k:=by have:=(aqF.1 hq).1;simpa using this
   rw[arP alU]at hq;cases hq;exact hr i x _ c _ hi hc (by simp[akc _ alU])
  ·simp only[ari,aqY]at hv;obtain⟨q,hq,rfl⟩:=hv;have alU:j < ks k:=by have:=(aqF.1 hq).1;simpa using this
   rw[arP alU]at hq;cases hq;rw[cell_of_row w bb _ us e fr hh];simp[akc _ alU]
def getD_some{α:Type}{xs:List α}{i:Nat}{d:α}(h:i < xs.length):xs[i]? =some (xs.getD i d):=by simp[h]
def Vs(hP:P=B.P)(hH:Hs B β H w){t:TypeId}{c v:AV}{a:Value}(hx:R2 w β c a)(h:C9 P H t c=some v):
  ∃ u,(atj t a).run P w= .ok u w∧R1 w β v u:=by
 unfold C9 at h;cases c<;>simp only at h<;>try cases h
 case ipt k x o=>
  obtain⟨bb,f,us,rfl,hl,hc⟩:=RC.amd hx;obtain⟨u,hu,hr⟩:=Er (P:=P) h hl hc;exact⟨u,by simpa[atj,asD] using hu,hr⟩
 case ptr id z i o=>
  have hx':RC w β (.ptr id z i o) a:=hx;cases hx' with
  | @ptr _ _ _ _ hd n bb f hβ ha hi=>
   cases hid:H id with
   | none=>rw[hid]at h;cases h
   | some ob=>
    have hob:=hH.akE id ob hid;rw[hid]at h;cases ob with
    | box e cs=>
     obtain⟨b',us,h1,h2,h3⟩:=hob;rw[hβ]at h1;obtain⟨rfl,rfl⟩:hd= .pointer (some ⟨b',0,none⟩)∧n=1:=by simpa using h1
     obtain⟨rfl,rfl⟩:b'=bb∧0=f:=by simpa[adr] using ha
     obtain rfl:i=0:=by omega
     simp only at h;obtain⟨u,hu,hr⟩:=Er (P:=P) (b:=b') (f:=0) h h3 (fun j u hj=>by
      rw[cell_of_row w b' _ us e (0,0) h2];simpa using hj)
     refine⟨u, ?_,hr⟩;simpa[atj,asD] using hu
    | row e fz k xs=>
     obtain⟨hd',h1,h2⟩:=hob;rw[hβ]at h1;obtain⟨rfl,rfl⟩:hd=hd'∧n=xs.length:=by simpa using h1
     simp only at h;split at h
     ·rename_i hb;obtain rfl:=aD hb;obtain⟨us,hl,hc⟩:=h2.elem ha (getD_some (d:=dfl k) hi);obtain⟨u,hu,hr⟩:=Er (P:=P) (b:=bb) (f:=f+i * ks k) h hl (fun j u hj=>by
       have:=hc j u hj;rwa[← arw]at this)
      refine⟨u, ?_,hr⟩;simpa[atj,asD,arw] using hu
     ·cases h
    | arr e k xs=>
     obtain⟨b',us,h1,hh,hsz,hce,hr⟩:=hob;rw[hβ]at h1;obtain⟨rfl,rfl⟩:hd= .pointer (some ⟨b',0,none⟩)∧n=xs.length:=by simpa using h1
     obtain⟨rfl,rfl⟩:b'=bb∧0=f:=by simpa[adr] using ha
     simp only at h;split at h
     ·rename_i na ea hu;split at h
      ·rename_i hb;simp only[aqt]at hb;obtain rfl:=aD hb.1;have h1:=aq1 hb.2;cases h;have hag:(isAgg e).run P w= .ok true w:=by unfold isAgg;simp only[arY,run_underlying hu,arE];rfl
       refine⟨.agg us, ?_,us.toList,by simp,by simpa using hsz,fun i x j c u a1 a2 a3=>hr i x j c u a1 a2 (by simpa using a3)⟩;have hr2:=run_loadCells_list (P:=P) w ⟨b',0,none⟩ us.toList (fun j v hj=>by
        rw[asg,cell_of_row w b' _ us e (0,0) hh];simpa using hj)
       simp only[arq,auP]at hr2;have hcs:P.cellsOf e=us.size:=by rw[hP];exact hce.symm
       simp only[atj,asD,loadVar,arY,ar8,arE,hag,aqm,lm h1,hcs,au3,asB,hr2]
      ·cases h
     ·split at h
      ·rename_i hb;obtain rfl:=aD hb;have hlt: ∀ j,j < ks k→i * ks k+j < us.size:=fun j hj=>by rw[hsz];exact ln hi hj
       have hx:=getD_some (d:=dfl k) hi;obtain⟨u,hu,hr'⟩:=Er (P:=P) (w:=w) (β:=β) (b:=b') (f:=i * ks k) (us:=(aqW (ks k)).map fun j=>us.getD (i * ks k+j) undef) h ⟨by simp[bh],fun j c v hc hv=>by
        simp only[ari,aqY]at hv;obtain⟨q,hq,rfl⟩:=hv;have alU:j < ks k:=by have:=(aqF.1 hq).1;simpa using this
        rw[arP alU]at hq;cases hq;exact hr i _ _ c _ hx hc (by simp[hlt _ alU])⟩ (fun j v hv=>by
        simp only[ari,aqY]at hv;obtain⟨q,hq,rfl⟩:=hv;have alU:j < ks k:=by have:=(aqF.1 hq).1;simpa using this
        rw[arP alU]at hq;cases hq;rw[cell_of_row w b' _ us e (0,0) hh];simp[hlt _ alU])
       refine⟨u, ?_,hr'⟩;simpa[atj,asD,arw] using hu
      ·cases h
end
end Go.VS
namespace Go.VS
open Go
section
variable {P:Program} {B:ake} {β:Beta} {H:Hp} {w:World} {b:Nat} {tm:Nat→Value} {ρ:Operand→AV} {η:Operand→Value}
def abf(v:Value):ag4 v=v.oneCell':=by cases v<;>rfl
def Ag{t:TypeId}{zs:List AV}(h:u9 P t=some zs): ∃ i z,P.info? t=some i∧i.zero=some z∧zs=z.cells.toList.map .lit∧ ∀ v∈z.cells.toList,v.oneCell'=true:=by
 unfold u9 at h;cases hi:P.info? t with
 | none=>rw[hi]at h;cases h
 | some i=>
  rw[hi]at h;cases hz:i.zero with
  | none=>simp[hz]at h
  | some z=>
   simp only[hz,aqs]at h;split at h
   ·rename_i ha;cases h;exact⟨i,z,rfl,hz,rfl,fun v hv=>by rw[← abf];exact arp.1 ha v hv⟩
   ·cases h
def XS{t:TypeId}{i:TypeInfo}{z:Value}(hi:P.info? t=some i)(hz:i.zero=some z):(zeroValue t).run P w= .ok z w:=by
 unfold zeroValue;simp[typeInfo,hi,hz]
def RL.lits(vs:List Value)(h: ∀ v∈vs,v.oneCell'=true):RL (RC w β) (vs.map .lit) vs:=by
 refine⟨by simp,fun j c u h1 h2=> ?_⟩;rw[ari,h2]at h1;cases h1;exact .lit (h u (aqT h2))
def rQ{c:AV}{cs:List AV}{v:Value}(h:kt c=some cs)(hx:RX w β tm c v):RL (RC w β) cs v.cells.toList:=by
 have sc: ∀ x:AV,RC w β x v→cs=[x]→RL (RC w β) cs v.cells.toList:=by
  intro x hx e;subst e;have h1:=hx.one;have:v.cells= #[v]:=by cases v<;>first | rfl | cases h1
  rw[this];exact .cons hx .nil
 cases c<;>simp only[kt]at h<;>try cases h
 case lit v'=>
  split at h
  all_goals try cases h
  all_goals try contradiction
  rename_i hn1 hn2 hn3 hn4 _;have e:v=v':=hx;subst e;refine sc _ (.lit ?_) rfl;cases v<;>first | rfl | simp_all
 case sl=>exact sc _ hx rfl
 case own=>exact sc _ hx rfl
 case ptr=>exact sc _ hx rfl
 case ipt=>exact sc _ hx rfl
 case agg=>obtain⟨us,rfl,hl⟩:=RX.agg hx;simpa[Value.cells] using hl
def RL.one{cs:List AV}{us:List Value}(h:RL (RC w β) cs us): ∀ v∈us,v.oneCell'=true:=by
 intro v hv;obtain⟨j,hj⟩:=auB.1 hv;have hlt:j < cs.length:=by rw[← h.1];exact(aqF.1 hj).1
 exact(h.2 j cs[j] v (by simp[hlt]) hj).one
def abg(hH:Hs B β H w)(hb:H b=none)(t:TypeId){cs:List AV}{us:Array Value}(hl:RL (RC w β) cs us.toList){r:Result Next}
  (hr:r= .ok (.value (.pointer (some ⟨w.heap.size,0,none⟩))) (w.alloc (.cells us t)))(n:Nat):Good B β H w b (.ptr b n 0 0) [.box t cs] r:=by
 obtain⟨β',h1,h2,h3,h4⟩:=hH.alloc hb us t (.box t cs) (.pointer (some ⟨w.heap.size,0,none⟩)) 1 ⟨w.heap.size,0,none⟩ rfl rfl
  (fun β' hj hid hk=>⟨w.heap.size,us,hid,heap_alloc_new w _,hl.mono hk⟩)
 refine⟨_,_,β',hr,h1,h2, ?_⟩;have:=RC.ptr (w:=w.alloc (.cells us t)) (β:=β') (id:=b) (sz:=n) (i:=0) (o:=0) h3 (b:=w.heap.size) (f:=0) rfl (by omega);simpa[R2,R1] using this
def aaX(hH:Hs B β H w)(hb:H b=none){t:TypeId}{zs:List AV}(h:u9 P t=some zs){o:Oper}(ho:o.op= .alloc t):Good B β H w b (.ptr b zs.length 0 0) [.box t zs] ((execOp η o).run P w):=by
 obtain⟨i,z,hi,hz,rfl,h1⟩:=Ag h;refine abg hH hb t (us:=z.cells) (RL.lits _ h1) ?_ _;unfold execOp;rw[ho];simp[Instr.alloc,XS hi hz,newVar,newRow]
def agm(hη: ∀ x,RX w β tm (ρ x) (η x))(hH:Hs B β H w)(hb:H b=none){t:TypeId}{x:Operand}{cs:List AV}(h:kt (ρ x)=some cs){o:Oper}(ho:o.op= .box t x):
  Good B β H w b (.ptr b cs.length 0 0) [.box t cs] ((execOp η o).run P w):=by
 refine abg hH hb t (us:=(η x).cells) (rQ h (hη x)) ?_ _;unfold execOp;rw[ho];simp[Instr.box,newVar,newRow]
def ahg(hP:P=B.P)(hη: ∀ x,RX w β tm (ρ x) (η x))(hH:Hs B β H w){t:TypeId}{p:Operand}{v:AV}(h:C9 P H t (ρ p)=some v){o:Oper}(ho:o.op= .load t p):
  Good B β H w b v [] ((execOp η o).run P w):=by
 have hx:R2 w β (ρ p) (η p):=(hη p).of (fun g w x e=>by rw[e]at h;cases h);obtain⟨u,hu,hr⟩:=Vs hP hH hx h;refine Good.same hH (u:=u) ?_ (R2.ale hr);unfold execOp;rw[ho];simp[hu]
def RC.amy{id z i o:Nat}{v:Value}(h:RC w β (.ptr id z i o) v): ∃ a,v= .pointer (some a):=by cases h;exact⟨_,rfl⟩
def RC.amD{k:K}{x:Tof k}{o:Nat}{v:Value}(h:RC w β (.ipt k x o) v): ∃ a,v= .pointer (some a):=by cases h;exact⟨_,rfl⟩
def FG(hη: ∀ x,RX w β tm (ρ x) (η x))(hH:Hs B β H w){p:Operand}{v:AV}(hv:(∃ id z i o,v= .ptr id z i o)∨ ∃ k x o,v= .ipt k x o)(h:ρ p=v){o:Oper}(ho:o.op= .nilCheck p):
  Good B β H w b v [] ((execOp η o).run P w):=by
 have hx:=hη p;rw[h]at hx;have hp: ∃ a,η p= .pointer (some a):=by
  rcases hv with⟨id,z,i,o,rfl⟩ | ⟨k,x,o,rfl⟩
  ·exact RC.amy (show RC w β (.ptr id z i o) (η p) from hx)
  ·exact RC.amD (show RC w β (.ipt k x o) (η p) from hx)
 obtain⟨a,ha⟩:=hp;refine Good.same hH (u:=η p) ?_ ?_
 ·unfold execOp;rw[ho];simp[ha]
 ·rcases hv with⟨id,z,i,o,rfl⟩ | ⟨k,x,o,rfl⟩<;>exact hx
def W3(hη: ∀ x,RX w β tm (ρ x) (η x))(hH:Hs B β H w){x:Operand}{i:Nat}{vs:List AV}{v:AV}(h:ρ x= .tup vs)(hv:vs[i]? =some v){o:Oper}(ho:o.op= .extract x i):
  Good B β H w b v [] ((execOp η o).run P w):=by
 have hx:=hη x;rw[h]at hx;obtain⟨us,e,hl⟩:=RX.tup hx;obtain⟨u,hu,hr⟩:=hl.get hv;refine Good.same hH (u:=u) ?_ (R2.ale hr);unfold execOp;rw[ho];simp[Instr.extract,e,hu]
def AW{t:TypeId}{f:Nat}{fd:Field}(h:nc P t f=some fd): ∃ fs,P.underlying t=some (.struct fs)∧fs[f]? =some fd:=by
 unfold nc at h;split at h
 ·rename_i fs hu;exact⟨fs,hu,h⟩
 ·cases h
def DA(hη: ∀ x,RX w β tm (ρ x) (η x))(hH:Hs B β H w){t:TypeId}{x:Operand}{f:Nat}{fd:Field}(h:nc P t f=some fd)(h1:1≤P.cellsOf fd.type){v:AV}
  (hv:(∃ id z i o,ρ x= .ptr id z i o∧v= .ptr id z i (o+fd.offset))∨ ∃ k y o,ρ x= .ipt k y o∧v= .ipt k y (o+fd.offset)){o:Oper}(ho:o.op= .fieldAddr t x f):
  Good B β H w b v [] ((execOp η o).run P w):=by
 obtain⟨fs,hu,hf⟩:=AW h;have hx:=hη x;have key: ∀ bb o',η x= .pointer (some ⟨bb,o',none⟩)→(execOp η o).run P w= .ok (.value (.pointer (some ⟨bb,o'+fd.offset,none⟩))) w:=by
  intro bb o' he;unfold execOp;rw[ho];have hne: ¬ P.cellsOf fd.type=0:=by omega
  simp[Instr.fieldAt,run_underlying hu,hf,asD,he,fieldPlace,lm h1,hne,asg]
 rcases hv with⟨id,z,i,o',e1,rfl⟩ | ⟨k,y,o',e1,rfl⟩
 ·rw[e1]at hx;have hx':RC w β (.ptr id z i o') (η x):=hx;generalize hg:η x=g at hx';cases hx' with
  | @ptr _ _ _ _ hd n bb f' hβ ha hi=>
   refine Good.same hH (key _ _ hg) ?_;have:=RC.ptr (w:=w) (β:=β) (id:=id) (sz:=z) (i:=i) (o:=o'+fd.offset) hβ ha hi;simpa[R2,R1,arw] using this
 ·rw[e1]at hx;have hx':RC w β (.ipt k y o') (η x):=hx;generalize hg:η x=g at hx';cases hx' with
  | @ipt _ _ _ bb f' u hM hu' hr=>
   refine Good.same hH (key _ _ hg) ?_;have:=RC.ipt (w:=w) (β:=β) (k:=k) (x:=y) (o:=o'+fd.offset) (b:=bb) (f:=f') u hM hu' hr;simpa[R2,R1,arw] using this
def acN{t:TypeId}{cs:List AV}{o:Nat}{v:AV}{us:List Value}(h:uv P t cs o=some v)(hl:RL (RC w β) cs us): ∃ u,(part t us.toArray o).run P w= .ok u w∧R1 w β v u:=by
 unfold uv at h;cases ha:UY P t with
 | none=>rw[ha]at h;cases h
 | some q=>
  rw[ha]at h;cases q with
  | true=>
   simp only at h;split at h
   ·rename_i hb;simp only[aqt]at hb;have h2:=aq1 hb.2;cases h;refine⟨.agg ((us.drop o).take (P.cellsOf t)).toArray, ?_,_,rfl,(hl.drop o).take _⟩;unfold part;simp[Af ha,lm h2]
   ·cases h
  | false=>
   simp only at h;obtain⟨u,hu,hr⟩:=hl.get h;refine⟨u, ?_,R1.akX hr⟩;unfold part;simp[Af ha,hu]
def aaC(hη: ∀ x,RX w β tm (ρ x) (η x))(hH:Hs B β H w){t:TypeId}{x:Operand}{f:Nat}{fd:Field}(h:nc P t f=some fd){cs:List AV}(hx:ρ x= .agg cs){v:AV}(hv:uv P fd.type cs fd.offset=some v)
  {o:Oper}(ho:o.op= .field t x f):Good B β H w b v [] ((execOp η o).run P w):=by
 obtain⟨fs,hu,hf⟩:=AW h;have hη':=hη x;rw[hx]at hη';obtain⟨us,e,hl⟩:=RX.agg hη';obtain⟨u,hr,hr'⟩:=acN hv hl;refine Good.same hH (u:=u) ?_ (R2.ale hr');unfold execOp;rw[ho];simp[Instr.field,run_underlying hu,hf,e,asAgg,hr]
end
end Go.VS
end
