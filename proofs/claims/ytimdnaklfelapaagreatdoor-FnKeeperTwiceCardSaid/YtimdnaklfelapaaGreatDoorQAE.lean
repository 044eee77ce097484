/- Part 5. -/
import Derived.WalkKit
import Derived.Test.YtimdnaklfelapaaGreatDoorQAD
open Array renaming length_toList→avE,toArray_toList→ay7
open Bool renaming and_eq_true→auF,false_and→auL,false_eq_true→awi,false_or→ava,true_and→auN,true_or→avk
open Go.Addr renaming add_lit→awy
open Go.Instr renaming loadAt→axH,sureAddr→awU
open Go.Result renaming andThen_ok→avP
open Go.Sem renaming run_bind→awb,run_pure→awp
open List renaming all_eq_true→avn,getElem?_eq_some_iff→auR,getElem?_map→avz,getElem?_range→av3,mem_iff_getElem?→axI,mem_of_getElem?→au8,range→au9
open Nat renaming add_assoc→avI,add_mul→av4,add_zero→awR,beq→auW,le_of_ble_eq_true→avg,mul_le_mul_right→avu,zero_mul→azl
open Option renaming bind_some→auE,map_eq_some_iff→avc
set_option linter.unusedVariables false
set_option linter.unusedSimpArgs false
set_option linter.defProp false
noncomputable section
namespace Go.VS
open Go
def RX(w:World)(β:Beta)(tm:Nat→Value):AV→Value→Prop
 | .gd g want x,v=>tm g= .bool want→R2 w β x v
 | c,v=>R2 w β c v
def RT.arv{w:World}{β:Beta}{tm:Nat→Value}{c:AV}{v:Value}(h:RT w β tm c v):RX w β tm c v:=by
 cases c<;>first | exact h | exact h.1
def Good(B:anT)(β:Beta)(H:Hp)(w:World)(b:Nat)(v:AV)(os:List Ob)(r:Result Next):Prop:=
 ∃ u w' β',r= .ok (.value u) w'∧Hs B β' (gj H b os) w'∧Kp w β w' β'∧R2 w' β' v u
section
variable {P:Program} {B:anT} {β:Beta} {H:Hp} {w:World} {b:Nat} {tm:Nat→Value}
def Good.same(hH:Hs B β H w){v:AV}{u:Value}{r:Result Next}(hr:r= .ok (.value u) w)(hv:R2 w β v u):Good B β H w b v [] r:=
 ⟨u,w,β,hr,hH,Kp.refl _ _,hv⟩
def vI{v v':AV}{c:Bool}{os:List Ob}(h:okN v=some (c,v',os)):v'=v∧c=true∧os=[]∧ ∀ g w x,v≠ .gd g w x:=by
 cases v<;>simp[okN,okA]at h<;>(obtain⟨rfl,rfl,rfl⟩:=h;exact⟨rfl,rfl,rfl,by simp⟩)
def bO{v v':AV}{c:Bool}{os:List Ob}(h:okA v=some (c,v',os)):v'=v∧c=true∧os=[]:=by
 simp[okA]at h;obtain⟨rfl,rfl,rfl⟩:=h;exact⟨rfl,rfl,rfl⟩
def RX.of{c:AV}{v:Value}(h:RX w β tm c v)(hn: ∀ g w x,c≠ .gd g w x):R2 w β c v:=by
 cases c<;>first | exact h | exact absurd rfl (hn _ _ _)
def RX.lit{v' v:Value}(h:RX w β tm (.lit v') v):v=v':=h
def RX.agg{cs:List AV}{v:Value}(h:RX w β tm (.agg cs) v): ∃ us:List Value,v= .agg us.toArray∧RL (RC w β) cs us:=h
def RX.tup{cs:List AV}{v:Value}(h:RX w β tm (.tup cs) v): ∃ us:List Value,v= .tuple us.toArray∧RL (R1 w β) cs us:=h
def agl{ρ:Operand→AV}{η:Operand→Value}(hη: ∀ x,RX w β tm (ρ x) (η x))(htm: ∀ g,η (.tmp g)=tm g)(hc: ∀ v,η (.const v)=v)(hH:Hs B β H w)
  {c x y:Operand}{q:Bool}{v:AV}{os:List Ob}(h:TP ρ c x y=some (q,v,os))(hq:q=true){o:Oper}(ho:o.op= .pick c x y):Good B β H w b v os ((execOp η o).run P w):=by
 subst hq;have key: ∀ (p:Bool),ρ c= .lit (.bool p)→(execOp η o).run P w= .ok (.value (if p then η x else η y)) w:=by
  intro p hp;have hcv:η c= .bool p:=by have:=hη c;rw[hp]at this;exact this
  unfold execOp;rw[ho];simp[hcv,asBool]
 have api: ∀ (want:Bool) (z:Operand) (r:Bool),JL (Oe want (ρ z) c)=some r→(η c= .bool want→η z= .bool r):=by
  intro want z r hr hcw;have hz:=hη z;cases hρ:ρ z with
  | gd g w' x'=>
   rw[hρ]at hr hz;unfold Oe at hr;cases c with
   | tmp g'=>
    simp only[tL]at hr;cases h1:auW g' g with
    | false=>rw[h1]at hr;simp[JL]at hr
    | true=>
     obtain rfl:=aI h1;cases h2:want == w' with
     | false=>rw[h1,h2]at hr;simp[JL]at hr
     | true=>
      obtain rfl:want=w':=by simpa using h2
      rw[h1,h2]at hr;have hzz:=hz (by rw[← htm];exact hcw);cases x'<;>simp[JL]at hr;rename_i vv;cases vv<;>simp at hr;subst hr;exact hzz
   | _=>simp[JL]at hr
  | lit vv=>
   rw[hρ]at hr hz;have:JL (AV.lit vv)=some r:=by
    unfold Oe at hr;cases c<;>simpa[tL] using hr
   cases vv<;>simp[JL]at this;subst this;exact hz
  | _=>
   rw[hρ]at hr;unfold Oe at hr;cases c<;>simp[tL,JL]at hr
 unfold TP at h;split at h
 ·rename_i p hp;split at h
  ·rename_i r hr;obtain⟨rfl,_,rfl⟩:=bO h;refine Good.same hH (key _ hp) ?_;have hcv:η c= .bool p:=by have:=hη c;rw[hp]at this;exact this
   cases p with
   | true=>simp only[auy,avk];exact hc _
   | false=>simp only[awi,if_false,ava];exact api false _ r hr hcv
  ·split at h
   ·obtain⟨rfl,_,rfl⟩:=bO h;refine Good.same hH (key _ hp) ?_;simp only[auy];exact hc _
   ·obtain⟨rfl,_,rfl,hg⟩:=vI h;refine Good.same hH (key _ hp) ?_;simp only[awi,if_false];exact(hη _).of hg
 ·rename_i p hp _;split at h
  ·rename_i r hr;obtain⟨rfl,_,rfl⟩:=bO h;refine Good.same hH (key _ hp) ?_;have hcv:η c= .bool p:=by have:=hη c;rw[hp]at this;exact this
   cases p with
   | true=>simp only[auy,auN];exact api true _ r hr hcv
   | false=>simp only[awi,if_false,auL];exact hc _
  ·split at h
   ·obtain⟨rfl,_,rfl,hg⟩:=vI h;refine Good.same hH (key _ hp) ?_;simp only[auy];exact(hη _).of hg
   ·obtain⟨rfl,_,rfl⟩:=bO h;refine Good.same hH (key _ hp) ?_;simp only[awi,if_false];exact hc _
 ·rename_i p hp _ _;split at h
  ·obtain⟨rfl,_,rfl,hg⟩:=vI h;refine Good.same hH (key _ hp) ?_;simp only[auy];exact(hη _).of hg
  ·obtain⟨rfl,_,rfl,hg⟩:=vI h;refine Good.same hH (key _ hp) ?_;simp only[awi,if_false];exact(hη _).of hg
 ·cases h
end
end Go.VS
namespace Go.VS
open Go
section
variable {P:Program} {B:anT} {β:Beta} {H:Hp} {w:World} {b:Nat} {tm:Nat→Value}
def RC.ap3{k:K}{x:Tof k}{o:Nat}{v:Value}(h:RC w β (.ipt k x o) v): ∃ bb f us,v= .pointer (some ⟨bb,f+o,none⟩)∧RL (RC w β) (enc k x) us∧ ∀ j u,us[j]? =some u→w.cell? ⟨bb,f+j,none⟩=some u:=by
 cases h with
 | @ipt _ _ _ bb f u hM hu hr=>
  refine⟨bb,f,(au9 (ks k)).map u,rfl,⟨by simp[bG],fun j c v hc hv=> ?_⟩,fun j v hv=> ?_⟩
  ·simp only[avz,avc]at hv;obtain⟨i,hi,rfl⟩:=hv;rw[av3 (by have:=(auR.1 hi).1;simpa using this)]at hi;cases hi;exact hr _ _ hc
  ·simp only[avz,avc]at hv;obtain⟨i,hi,rfl⟩:=hv;have hlt:j < ks k:=by have:=(auR.1 hi).1;simpa using this
   rw[av3 hlt]at hi;cases hi;exact hu _ hlt
def nf{i n s j:Nat}(hi:i < n)(hj:j < s):i * s+j < n * s:=by
 have:(i+1) * s≤n * s:=avu _ hi;rw[av4]at this;omega
def anZ.elem{e:TypeId}{fz:Bool}{k:K}{xs:List (Tof k)}{hd:Value}(h:anZ w β e fz k xs hd){bb f:Nat}(ha:adr hd=some ⟨bb,f,none⟩){i:Nat}{x:Tof k}(hi:xs[i]? =some x):
  ∃ us,RL (RC w β) (enc k x) us∧ ∀ j u,us[j]? =some u→w.cell? ⟨bb,f+(i * ks k+j),none⟩=some u:=by
 rcases h with⟨rfl,_⟩ | ⟨b',f',cap,us,fr,hd',hh,hfr,hn,hc,hs,hr⟩
 ·cases ha
 ·have ha':adr hd=some ⟨b',f',none⟩:=by rw[hd'];rfl
  rw[ha]at ha';cases ha';have hlt:i < xs.length:=(auR.1 hi).1;have anR: ∀ j,j < ks k→f+(i * ks k+j) < us.size:=fun j hj=>by
   have h1:=nf hlt hj;have h2:xs.length * ks k≤cap * ks k:=avu _ hn;omega
  refine⟨(au9 (ks k)).map fun j=>us.getD (f+(i * ks k+j)) undef,⟨by simp[bG],fun j c v hc hv=> ?_⟩,fun j v hv=> ?_⟩
  ·simp only[avz,avc]at hv;obtain⟨q,hq,rfl⟩:=hv;have apL:j < ks k:=by have:=(auR.1 hq).1;simpa using this
   rw[av3 apL]at hq;cases hq;exact hr i x _ c _ hi hc (by simp[anR _ apL])
  ·simp only[avz,avc]at hv;obtain⟨q,hq,rfl⟩:=hv;have apL:j < ks k:=by have:=(auR.1 hq).1;simpa using this
   rw[av3 apL]at hq;cases hq;rw[cell_of_row w bb _ us e fr hh];simp[anR _ apL]
def getD_some{α:Type}{xs:List α}{i:Nat}{d:α}(h:i < xs.length):xs[i]? =some (xs.getD i d):=by simp[h]
def YP(hP:P=B.P)(hH:Hs B β H w){t:TypeId}{c v:AV}{a:Value}(hx:R2 w β c a)(h:F4 P H t c=some v):
  ∃ u,(axH t a).run P w= .ok u w∧R1 w β v u:=by
 unfold F4 at h;cases c<;>simp only at h<;>try cases h
 case ipt k x o=>
  obtain⟨bb,f,us,rfl,hl,hc⟩:=RC.ap3 hx;obtain⟨u,hu,hr⟩:=Hy (P:=P) h hl hc;exact⟨u,by simpa[axH,awU] using hu,hr⟩
 case ptr id z i o=>
  have hx':RC w β (.ptr id z i o) a:=hx;cases hx' with
  | @ptr _ _ _ _ hd n bb f hβ ha hi=>
   cases hid:H id with
   | none=>rw[hid]at h;cases h
   | some ob=>
    have hob:=hH.aoq id ob hid;rw[hid]at h;cases ob with
    | box e cs=>
     obtain⟨b',us,h1,h2,h3⟩:=hob;rw[hβ]at h1;obtain⟨rfl,rfl⟩:hd= .pointer (some ⟨b',0,none⟩)∧n=1:=by simpa using h1
     obtain⟨rfl,rfl⟩:b'=bb∧0=f:=by simpa[adr] using ha
     obtain rfl:i=0:=by omega
     simp only at h;obtain⟨u,hu,hr⟩:=Hy (P:=P) (b:=b') (f:=0) h h3 (fun j u hj=>by
      rw[cell_of_row w b' _ us e (0,0) h2];simpa using hj)
     refine⟨u, ?_,hr⟩;simpa[axH,awU] using hu
    | row e fz k xs=>
     obtain⟨hd',h1,h2⟩:=hob;rw[hβ]at h1;obtain⟨rfl,rfl⟩:hd=hd'∧n=xs.length:=by simpa using h1
     simp only at h;split at h
     ·rename_i hb;obtain rfl:=aI hb;obtain⟨us,hl,hc⟩:=h2.elem ha (getD_some (d:=dfl k) hi);obtain⟨u,hu,hr⟩:=Hy (P:=P) (b:=bb) (f:=f+i * ks k) h hl (fun j u hj=>by
       have:=hc j u hj;rwa[← avI]at this)
      refine⟨u, ?_,hr⟩;simpa[axH,awU,avI] using hu
     ·cases h
    | arr e k xs=>
     obtain⟨b',us,h1,hh,hsz,hce,hr⟩:=hob;rw[hβ]at h1;obtain⟨rfl,rfl⟩:hd= .pointer (some ⟨b',0,none⟩)∧n=xs.length:=by simpa using h1
     obtain⟨rfl,rfl⟩:b'=bb∧0=f:=by simpa[adr] using ha
     simp only at h;split at h
     ·rename_i na ea hu;split at h
      ·rename_i hb;simp only[auF]at hb;obtain rfl:=aI hb.1;have h1:=avg hb.2;cases h;have hag:(isAgg e).run P w= .ok true w:=by unfold isAgg;simp only[awb,run_underlying hu,avP];rfl
       refine⟨.agg us, ?_,us.toList,by simp,by simpa using hsz,fun i x j c u a1 a2 a3=>hr i x j c u a1 a2 (by simpa using a3)⟩;have hr2:=run_loadCells_list (P:=P) w ⟨b',0,none⟩ us.toList (fun j v hj=>by
        rw[awy,cell_of_row w b' _ us e (0,0) hh];simpa using hj)
       simp only[avE,ay7]at hr2;have hcs:P.cellsOf e=us.size:=by rw[hP];exact hce.symm
       simp only[axH,awU,loadVar,awb,awp,avP,hag,auy,nb h1,hcs,azl,awR,hr2]
      ·cases h
     ·split at h
      ·rename_i hb;obtain rfl:=aI hb;have hlt: ∀ j,j < ks k→i * ks k+j < us.size:=fun j hj=>by rw[hsz];exact nf hi hj
       have hx:=getD_some (d:=dfl k) hi;obtain⟨u,hu,hr'⟩:=Hy (P:=P) (w:=w) (β:=β) (b:=b') (f:=i * ks k) (us:=(au9 (ks k)).map fun j=>us.getD (i * ks k+j) undef) h ⟨by simp[bG],fun j c v hc hv=>by
        simp only[avz,avc]at hv;obtain⟨q,hq,rfl⟩:=hv;have apL:j < ks k:=by have:=(auR.1 hq).1;simpa using this
        rw[av3 apL]at hq;cases hq;exact hr i _ _ c _ hx hc (by simp[hlt _ apL])⟩ (fun j v hv=>by
        simp only[avz,avc]at hv;obtain⟨q,hq,rfl⟩:=hv;have apL:j < ks k:=by have:=(auR.1 hq).1;simpa using this
        rw[av3 apL]at hq;cases hq;rw[cell_of_row w b' _ us e (0,0) hh];simp[hlt _ apL])
       refine⟨u, ?_,hr'⟩;simpa[axH,awU,avI] using hu
      ·cases h
end
end Go.VS
namespace Go.VS
open Go
section
variable {P:Program} {B:anT} {β:Beta} {H:Hp} {w:World} {b:Nat} {tm:Nat→Value} {ρ:Operand→AV} {η:Operand→Value}
def aeM(v:Value):akG v=v.oneCell':=by cases v<;>rfl
def CL{t:TypeId}{zs:List AV}(h:xE P t=some zs): ∃ i z,P.info? t=some i∧i.zero=some z∧zs=z.cells.toList.map .lit∧ ∀ v∈z.cells.toList,v.oneCell'=true:=by
 unfold xE at h;cases hi:P.info? t with
 | none=>rw[hi]at h;cases h
 | some i=>
  rw[hi]at h;cases hz:i.zero with
  | none=>simp[hz]at h
  | some z=>
   simp only[hz,auE]at h;split at h
   ·rename_i ha;cases h;exact⟨i,z,rfl,hz,rfl,fun v hv=>by rw[← aeM];exact avn.1 ha v hv⟩
   ·cases h
def abA{t:TypeId}{i:TypeInfo}{z:Value}(hi:P.info? t=some i)(hz:i.zero=some z):(zeroValue t).run P w= .ok z w:=by
 unfold zeroValue;simp[typeInfo,hi,hz]
def RL.lits(vs:List Value)(h: ∀ v∈vs,v.oneCell'=true):RL (RC w β) (vs.map .lit) vs:=by
 refine⟨by simp,fun j c u h1 h2=> ?_⟩;rw[avz,h2]at h1;cases h1;exact .lit (h u (au8 h2))
def uN{c:AV}{cs:List AV}{v:Value}(h:mc c=some cs)(hx:RX w β tm c v):RL (RC w β) cs v.cells.toList:=by
 have sc: ∀ x:AV,RC w β x v→cs=[x]→RL (RC w β) cs v.cells.toList:=by
  intro x hx e;subst e;have h1:=hx.one;have:v.cells= #[v]:=by cases v<;>first | rfl | cases h1
  rw[this];exact .cons hx .nil
 cases c<;>simp only[mc]at h<;>try cases h
 case lit v'=>
  split at h
  all_goals try cases h
  all_goals try contradiction
  rename_i hn1 hn2 hn3 hn4 _;have e:v=v':=hx;subst e;refine sc _ (.lit ?_) rfl;cases v<;>first | rfl | simp_all
 case sl=>exact sc _ hx rfl
 case own=>exact sc _ hx rfl
 case ptr=>exact sc _ hx rfl
 case ipt=>exact sc _ hx rfl
 case agg=>obtain⟨us,rfl,hl⟩:=RX.agg hx;simpa[Value.cells] using hl
def RL.one{cs:List AV}{us:List Value}(h:RL (RC w β) cs us): ∀ v∈us,v.oneCell'=true:=by
 intro v hv;obtain⟨j,hj⟩:=axI.1 hv;have hlt:j < cs.length:=by rw[← h.1];exact(auR.1 hj).1
 exact(h.2 j cs[j] v (by simp[hlt]) hj).one
def aeN(hH:Hs B β H w)(hb:H b=none)(t:TypeId){cs:List AV}{us:Array Value}(hl:RL (RC w β) cs us.toList){r:Result Next}
  (hr:r= .ok (.value (.pointer (some ⟨w.heap.size,0,none⟩))) (w.alloc (.cells us t)))(n:Nat):Good B β H w b (.ptr b n 0 0) [.box t cs] r:=by
 obtain⟨β',h1,h2,h3,h4⟩:=hH.alloc hb us t (.box t cs) (.pointer (some ⟨w.heap.size,0,none⟩)) 1 ⟨w.heap.size,0,none⟩ rfl rfl
  (fun β' hj hid hk=>⟨w.heap.size,us,hid,heap_alloc_new w _,hl.mono hk⟩)
 refine⟨_,_,β',hr,h1,h2, ?_⟩;have:=RC.ptr (w:=w.alloc (.cells us t)) (β:=β') (id:=b) (sz:=n) (i:=0) (o:=0) h3 (b:=w.heap.size) (f:=0) rfl (by omega);simpa[R2,R1] using this
def aeu(hH:Hs B β H w)(hb:H b=none){t:TypeId}{zs:List AV}(h:xE P t=some zs){o:Oper}(ho:o.op= .alloc t):Good B β H w b (.ptr b zs.length 0 0) [.box t zs] ((execOp η o).run P w):=by
 obtain⟨i,z,hi,hz,rfl,h1⟩:=CL h;refine aeN hH hb t (us:=z.cells) (RL.lits _ h1) ?_ _;unfold execOp;rw[ho];simp[Instr.alloc,abA hi hz,newVar,newRow]
def ajV(hη: ∀ x,RX w β tm (ρ x) (η x))(hH:Hs B β H w)(hb:H b=none){t:TypeId}{x:Operand}{cs:List AV}(h:mc (ρ x)=some cs){o:Oper}(ho:o.op= .box t x):
  Good B β H w b (.ptr b cs.length 0 0) [.box t cs] ((execOp η o).run P w):=by
 refine aeN hH hb t (us:=(η x).cells) (uN h (hη x)) ?_ _;unfold execOp;rw[ho];simp[Instr.box,newVar,newRow]
def akR(hP:P=B.P)(hη: ∀ x,RX w β tm (ρ x) (η x))(hH:Hs B β H w){t:TypeId}{p:Operand}{v:AV}(h:F4 P H t (ρ p)=some v){o:Oper}(ho:o.op= .load t p):
  Good B β H w b v [] ((execOp η o).run P w):=by
 have hx:R2 w β (ρ p) (η p):=(hη p).of (fun g w x e=>by rw[e]at h;cases h);obtain⟨u,hu,hr⟩:=YP hP hH hx h;refine Good.same hH (u:=u) ?_ (R2.ao4 hr);unfold execOp;rw[ho];simp[hu]
def RC.aqp{id z i o:Nat}{v:Value}(h:RC w β (.ptr id z i o) v): ∃ a,v= .pointer (some a):=by cases h;exact⟨_,rfl⟩
def RC.aqu{k:K}{x:Tof k}{o:Nat}{v:Value}(h:RC w β (.ipt k x o) v): ∃ a,v= .pointer (some a):=by cases h;exact⟨_,rfl⟩
def IW(hη: ∀ x,RX w β tm (ρ x) (η x))(hH:Hs B β H w){p:Operand}{v:AV}(hv:(∃ id z i o,v= .ptr id z i o)∨ ∃ k x o,v= .ipt k x o)(h:ρ p=v){o:Oper}(ho:o.op= .nilCheck p):
  Good B β H w b v [] ((execOp η o).run P w):=by
 have hx:=hη p;rw[h]at hx;have hp: ∃ a,η p= .pointer (some a):=by
  rcases hv with⟨id,z,i,o,rfl⟩ | ⟨k,x,o,rfl⟩
  ·exact RC.aqp (show RC w β (.ptr id z i o) (η p) from hx)
  ·exact RC.aqu (show RC w β (.ipt k x o) (η p) from hx)
 obtain⟨a,ha⟩:=hp;refine Good.same hH (u:=η p) ?_ ?_
 ·unfold execOp;rw[ho];simp[ha]
 ·rcases hv with⟨id,z,i,o,rfl⟩ | ⟨k,x,o,rfl⟩<;>exact hx
def aaI(hη: ∀ x,RX w β tm (ρ x) (η x))(hH:Hs B β H w){x:Operand}{i:Nat}{vs:List AV}{v:AV}(h:ρ x= .tup vs)(hv:vs[i]? =some v){o:Oper}(ho:o.op= .extract x i):
  Good B β H w b v [] ((execOp η o).run P w):=by
 have hx:=hη x;rw[h]at hx;obtain⟨us,e,hl⟩:=RX.tup hx;obtain⟨u,hu,hr⟩:=hl.get hv;refine Good.same hH (u:=u) ?_ (R2.ao4 hr);unfold execOp;rw[ho];simp[Instr.extract,e,hu]
def DA{t:TypeId}{f:Nat}{fd:Field}(h:pe P t f=some fd): ∃ fs,P.underlying t=some (.struct fs)∧fs[f]? =some fd:=by
 unfold pe at h;split at h
 ·rename_i fs hu;exact⟨fs,hu,h⟩
 ·cases h
def Gv(hη: ∀ x,RX w β tm (ρ x) (η x))(hH:Hs B β H w){t:TypeId}{x:Operand}{f:Nat}{fd:Field}(h:pe P t f=some fd)(h1:1≤P.cellsOf fd.type){v:AV}
  (hv:(∃ id z i o,ρ x= .ptr id z i o∧v= .ptr id z i (o+fd.offset))∨ ∃ k y o,ρ x= .ipt k y o∧v= .ipt k y (o+fd.offset)){o:Oper}(ho:o.op= .fieldAddr t x f):
  Good B β H w b v [] ((execOp η o).run P w):=by
 obtain⟨fs,hu,hf⟩:=DA h;have hx:=hη x;have key: ∀ bb o',η x= .pointer (some ⟨bb,o',none⟩)→(execOp η o).run P w= .ok (.value (.pointer (some ⟨bb,o'+fd.offset,none⟩))) w:=by
  intro bb o' he;unfold execOp;rw[ho];have hne: ¬ P.cellsOf fd.type=0:=by omega
  simp[Instr.fieldAt,run_underlying hu,hf,awU,he,fieldPlace,nb h1,hne,awy]
 rcases hv with⟨id,z,i,o',e1,rfl⟩ | ⟨k,y,o',e1,rfl⟩
 ·rw[e1]at hx;have hx':RC w β (.ptr id z i o') (η x):=hx;generalize hg:η x=g at hx';cases hx' with
  | @ptr _ _ _ _ hd n bb f' hβ ha hi=>
   refine Good.same hH (key _ _ hg) ?_;have:=RC.ptr (w:=w) (β:=β) (id:=id) (sz:=z) (i:=i) (o:=o'+fd.offset) hβ ha hi;simpa[R2,R1,avI] using this
 ·rw[e1]at hx;have hx':RC w β (.ipt k y o') (η x):=hx;generalize hg:η x=g at hx';cases hx' with
  | @ipt _ _ _ bb f' u hM hu' hr=>
   refine Good.same hH (key _ _ hg) ?_;have:=RC.ipt (w:=w) (β:=β) (k:=k) (x:=y) (o:=o'+fd.offset) (b:=bb) (f:=f') u hM hu' hr;simpa[R2,R1,avI] using this
def agn{t:TypeId}{cs:List AV}{o:Nat}{v:AV}{us:List Value}(h:wW P t cs o=some v)(hl:RL (RC w β) cs us): ∃ u,(part t us.toArray o).run P w= .ok u w∧R1 w β v u:=by
 unfold wW at h;cases ha:Yp P t with
 | none=>rw[ha]at h;cases h
 | some q=>
  rw[ha]at h;cases q with
  | true=>
   simp only at h;split at h
   ·rename_i hb;simp only[auF]at hb;have h2:=avg hb.2;cases h;refine⟨.agg ((us.drop o).take (P.cellsOf t)).toArray, ?_,_,rfl,(hl.drop o).take _⟩;unfold part;simp[CK ha,nb h2]
   ·cases h
  | false=>
   simp only at h;obtain⟨u,hu,hr⟩:=hl.get h;refine⟨u, ?_,R1.aoL hr⟩;unfold part;simp[CK ha,hu]
def ad8(hη: ∀ x,RX w β tm (ρ x) (η x))(hH:Hs B β H w){t:TypeId}{x:Operand}{f:Nat}{fd:Field}(h:pe P t f=some fd){cs:List AV}(hx:ρ x= .agg cs){v:AV}(hv:wW P fd.type cs fd.offset=some v)
  {o:Oper}(ho:o.op= .field t x f):Good B β H w b v [] ((execOp η o).run P w):=by
 obtain⟨fs,hu,hf⟩:=DA h;have hη':=hη x;rw[hx]at hη';obtain⟨us,e,hl⟩:=RX.agg hη';obtain⟨u,hr,hr'⟩:=agn hv hl;refine Good.same hH (u:=u) ?_ (R2.ao4 hr');unfold execOp;rw[ho];simp[Instr.field,run_underlying hu,hf,e,asAgg,hr]
end
end Go.VS
end
