/- Part 5. -/
import Derived.WalkKit
import Derived.Test.YtplahhbealfpcaaGreatDoorQAD
open Array renaming length_toList->Ep,toArray_toList->lR
open Bool renaming and_eq_true->AE,false->A3,false_and->AO,false_eq_true->HX,false_or->Bi,true->A0,true_and->AW,true_or->Bo
open Go.Addr renaming add_lit->GX
open Go.Instr renaming loadAt->NE,sureAddr->JG
open Go.Result renaming andThen_ok->Eo
open Go.Sem renaming run_bind->Ea,run_pure->FV
open List renaming all_eq_true->C0,getElem?_eq_some_iff->BL,getElem?_map->D2,getElem?_range->GY,mem_iff_getElem?->l4,mem_of_getElem?->Cb,range->BJ
open Nat renaming add_assoc->D3,add_mul->E8,add_zero->HP,beq->Ag,le_of_ble_eq_true->DX,mul_le_mul_right->Dv,zero_mul->Tf
open Option renaming bind_some->A9,map_eq_some_iff->D4,none->U,some->I
set_option linter.all false
noncomputable section
namespace Go.VS
open Go
def RX(w:World)(β:Beta)(tm:Nat->Value):AV->Value->Prop
 | .gd g want x,v=>tm g= .bool want->R2 w β x v
 | c,v=>R2 w β c v
def RT.aF{w:World}{β:Beta}{tm:Nat->Value}{c:AV}{v:Value}(h:RT w β tm c v):RX w β tm c v:=by
 cases c<;>first|exact h|exact h.1
def Good(B:Ba)(β:Beta)(H:Hp)(w:World)(b:Nat)(v:AV)(os:List Ob)(r:Result Next):Prop:=
 ∃u w' β',r= .ok (.value u) w'/\Hs B β' (Ef H b os) w'/\Kp w β w' β'/\R2 w' β' v u
section
variable {P:Program} {B:Ba} {β:Beta} {H:Hp} {w:World} {b:Nat} {tm:Nat->Value}
def Good.same(hH:Hs B β H w){v:AV}{u:Value}{r:Result Next}(hr:r= .ok (.value u) w)(hv:R2 w β v u):Good B β H w b v [] r:=
 ⟨u,w,β,hr,hH,Kp.refl _ _,hv⟩
def OQ{v v':AV}{c:Bool}{os:List Ob}(h:okN v=I (c,v',os)):v'=v/\c=A0/\os=[]/\ ∀g w x,v≠ .gd g w x:=by
 cases v<;>simp[okN,okA]at h<;>(obtain⟨rfl,rfl,rfl⟩:=h;exact⟨rfl,rfl,rfl,by simp⟩)
def DI{v v':AV}{c:Bool}{os:List Ob}(h:okA v=I (c,v',os)):v'=v/\c=A0/\os=[]:=by
 simp[okA]at h;obtain⟨rfl,rfl,rfl⟩:=h;exact⟨rfl,rfl,rfl⟩
def RX.of{c:AV}{v:Value}(h:RX w β tm c v)(hn:∀g w x,c≠ .gd g w x):R2 w β c v:=by
 cases c<;>first|exact h|exact absurd rfl (hn _ _ _)
def RX.lit{v' v:Value}(h:RX w β tm (.lit v') v):v=v':=h
def RX.agg{cs:List AV}{v:Value}(h:RX w β tm (.agg cs) v):∃us:List Value,v= .agg us.toArray/\RL (RC w β) cs us:=h
def RX.tup{cs:List AV}{v:Value}(h:RX w β tm (.tup cs) v):∃us:List Value,v= .tuple us.toArray/\RL (R1 w β) cs us:=h
def ari{ρ:Operand->AV}{η:Operand->Value}(hη:∀x,RX w β tm (ρ x)<|η x)(htm:∀g,η (.tmp g)=tm g)(hc:∀v,η (.const v)=v)(hH:Hs B β H w)
  {c x y:Operand}{q:Bool}{v:AV}{os:List Ob}(h:On ρ c x y=I (q,v,os))(hq:q=A0){o:Oper}(ho:o.op= .pick c x y):Good B β H w b v os ((execOp η o).run P w):=by
 subst hq;have key:∀(p:Bool),ρ c= .lit (.bool p)->(execOp η o).run P w= .ok (.value<|if p then η x else η y) w:=by
  intro p hp;have hcv:η c= .bool p:=by have:=hη c;rw[hp]at this;exact this
  unfold execOp;rw[ho];simp[hcv,asBool]
 have abX:∀(want:Bool) (z:Operand) (r:Bool),Kj (QK want (ρ z) c)=I r->(η c= .bool want->η z= .bool r):=by
  intro want z r hr hcw;have hz:=hη z;cases hρ:ρ z with
  | gd g w' x'=>
   rw[hρ]at hr hz;unfold QK at hr;cases c with
   | tmp g'=>
    simp only[GP]at hr;cases h1:Ag g' g with
    | false=>rw[h1]at hr;simp[Kj]at hr
    | true=>
     obtain rfl:=Bk h1;cases h2:want == w' with
     | false=>rw[h1,h2]at hr;simp[Kj]at hr
     | true=>
      obtain rfl:want=w':=by simpa using h2
      rw[h1,h2]at hr;have hzz:=hz (by rw[← htm];exact hcw);cases x'<;>simp[Kj]at hr;rename_i vv;cases vv<;>simp at hr;subst hr;exact hzz
   | _=>simp[Kj]at hr
  | lit vv=>
   rw[hρ]at hr hz;have:Kj (AV.lit vv)=I r:=by
    unfold QK at hr;cases c<;>simpa[GP] using hr
   cases vv<;>simp[Kj]at this;subst this;exact hz
  | _=>
   rw[hρ]at hr;unfold QK at hr;cases c<;>simp[GP,Kj]at hr
 unfold On at h;split at h
 .rename_i p hp;split at h
  .rename_i r hr;obtain⟨rfl,_,rfl⟩:=DI h;refine Good.same hH (key _ hp) ?_;have hcv:η c= .bool p:=by have:=hη c;rw[hp]at this;exact this
   cases p with
   | true=>simp only[A5,Bo];exact hc _
   | false=>simp only[HX,if_false,Bi];exact abX A3 _ r hr hcv
  .split at h
   .obtain⟨rfl,_,rfl⟩:=DI h;refine Good.same hH (key _ hp) ?_;simp only[A5];exact hc _
   .obtain⟨rfl,_,rfl,hg⟩:=OQ h;refine Good.same hH (key _ hp) ?_;simp only[HX,if_false];exact(hη _).of hg
 .rename_i p hp _;split at h
  .rename_i r hr;obtain⟨rfl,_,rfl⟩:=DI h;refine Good.same hH (key _ hp) ?_;have hcv:η c= .bool p:=by have:=hη c;rw[hp]at this;exact this
   cases p with
   | true=>simp only[A5,AW];exact abX A0 _ r hr hcv
   | false=>simp only[HX,if_false,AO];exact hc _
  .split at h
   .obtain⟨rfl,_,rfl,hg⟩:=OQ h;refine Good.same hH (key _ hp) ?_;simp only[A5];exact(hη _).of hg
   .obtain⟨rfl,_,rfl⟩:=DI h;refine Good.same hH (key _ hp) ?_;simp only[HX,if_false];exact hc _
 .rename_i p hp _ _;split at h
  .obtain⟨rfl,_,rfl,hg⟩:=OQ h;refine Good.same hH (key _ hp) ?_;simp only[A5];exact(hη _).of hg
  .obtain⟨rfl,_,rfl,hg⟩:=OQ h;refine Good.same hH (key _ hp) ?_;simp only[HX,if_false];exact(hη _).of hg
 .cases h
end
end Go.VS
namespace Go.VS
open Go
section
variable {P:Program} {B:Ba} {β:Beta} {H:Hp} {w:World} {b:Nat} {tm:Nat->Value}
def RC.axn{k:K}{x:Tof k}{o:Nat}{v:Value}(h:RC w β (.ipt k x o) v):∃bb f us,v= .pointer (I ⟨bb,f+o,U⟩)/\RL (RC w β) (enc k x) us/\ ∀j u,us[j]? =I u->w.cell? ⟨bb,f+j,U⟩=I u:=by
 cases h with
 | @ipt _ _ _ bb f u hM hu hr=>
  refine⟨bb,f,(BJ<|ks k).map u,rfl,⟨by simp[EE],λj c v hc hv=> ?_⟩,λj v hv=> ?_⟩
  .simp only[D2,D4]at hv;obtain⟨i,hi,rfl⟩:=hv;rw[GY (by have:=(BL.1 hi).1;simpa using this)]at hi;cases hi;exact hr _ _ hc
  .simp only[D2,D4]at hv;obtain⟨i,hi,rfl⟩:=hv;have hlt:j<ks k:=by have:=(BL.1 hi).1;simpa using this
   rw[GY hlt]at hi;cases hi;exact hu _ hlt
def OH{i n s j:Nat}(hi:i<n)(hj:j<s):i * s+j<n * s:=by
 have:(i+1) * s<=n * s:=Dv _ hi;rw[E8]at this;omega
def FL.elem{e:TypeId}{fz:Bool}{k:K}{xs:List (Tof k)}{hd:Value}(h:FL w β e fz k xs hd){bb f:Nat}(ha:adr hd=I ⟨bb,f,U⟩){i:Nat}{x:Tof k}(hi:xs[i]? =I x):
  ∃us,RL (RC w β) (enc k x) us/\ ∀j u,us[j]? =I u->w.cell? ⟨bb,f+(i * ks k+j),U⟩=I u:=by
 obtain⟨rfl,_⟩|⟨b',f',cap,us,fr,hd',hh,hfr,hn,hc,hs,hr⟩:=h
 .cases ha
 .have ha':adr hd=I ⟨b',f',U⟩:=by rw[hd'];rfl
  rw[ha]at ha';cases ha';have hlt:i<xs.length:=(BL.1 hi).1;have Ck:∀j,j<ks k->f+(i * ks k+j)<us.size:=λj hj=>by
   have h1:=OH hlt hj;have h2:xs.length * ks k<=cap * ks k:=Dv _ hn;omega
  refine⟨(BJ<|ks k).map λj=>us.getD (f+(i * ks k+j)) undef,⟨by simp[EE],λj c v hc hv=> ?_⟩,λj v hv=> ?_⟩
  .simp only[D2,D4]at hv;obtain⟨q,hq,rfl⟩:=hv;have K8:j<ks k:=by have:=(BL.1 hq).1;simpa using this
   rw[GY K8]at hq;cases hq;exact hr i x _ c _ hi hc (by simp[Ck _ K8])
  .simp only[D2,D4]at hv;obtain⟨q,hq,rfl⟩:=hv;have K8:j<ks k:=by have:=(BL.1 hq).1;simpa using this
   rw[GY K8]at hq;cases hq;rw[cell_of_row w bb _ us e fr hh];simp[Ck _ K8]
def getD_some{α:Type}{xs:List α}{i:Nat}{d:α}(h:i<xs.length):xs[i]? =I (xs.getD i d):=by simp[h]
def aCl(hP:P=B.P)(hH:Hs B β H w){t:TypeId}{c v:AV}{a:Value}(hx:R2 w β c a)(h:Jp P H t c=I v):
  ∃u,(NE t a).run P w= .ok u w/\R1 w β v u:=by
 unfold Jp at h;cases c<;>simp only at h<;>try cases h
 case ipt k x o=>
  obtain⟨bb,f,us,rfl,hl,hc⟩:=RC.axn hx;obtain⟨u,hu,hr⟩:=XI (P:=P) h hl hc;exact⟨u,by simpa[NE,JG] using hu,hr⟩
 case ptr id z i o=>
  have hx':RC w β (.ptr id z i o) a:=hx;cases hx' with
  | @ptr _ _ _ _ hd n bb f hβ ha hi=>
   cases hid:H id with
   | none=>rw[hid]at h;cases h
   | some ob=>
    have hob:=hH.EA id ob hid;rw[hid]at h;cases ob with
    | box e cs=>
     obtain⟨b',us,h1,h2,h3⟩:=hob;rw[hβ]at h1;obtain⟨rfl,rfl⟩:hd= .pointer (I ⟨b',0,U⟩)/\n=1:=by simpa using h1
     obtain⟨rfl,rfl⟩:b'=bb/\0=f:=by simpa[adr] using ha
     obtain rfl:i=0:=J
     simp only at h;obtain⟨u,hu,hr⟩:=XI (P:=P) (b:=b') (f:=0) h h3 (λj u hj=>by
      rw[cell_of_row w b' _ us e (0,0) h2];simpa using hj)
     refine⟨u, ?_,hr⟩;simpa[NE,JG] using hu
    | row e fz k xs=>
     obtain⟨hd',h1,h2⟩:=hob;rw[hβ]at h1;obtain⟨rfl,rfl⟩:hd=hd'/\n=xs.length:=by simpa using h1
     simp only at h;split at h
     .rename_i hb;obtain rfl:=Bk hb;obtain⟨us,hl,hc⟩:=h2.elem ha<|getD_some (d:=dfl k) hi;obtain⟨u,hu,hr⟩:=XI (P:=P) (b:=bb) (f:=f+i * ks k) h hl (λj u hj=>by
       have:=hc j u hj;rwa[← D3]at this)
      refine⟨u, ?_,hr⟩;simpa[NE,JG,D3] using hu
     .cases h
    | arr e k xs=>
     obtain⟨b',us,h1,hh,hsz,hce,hr⟩:=hob;rw[hβ]at h1;obtain⟨rfl,rfl⟩:hd= .pointer (I ⟨b',0,U⟩)/\n=xs.length:=by simpa using h1
     obtain⟨rfl,rfl⟩:b'=bb/\0=f:=by simpa[adr] using ha
     simp only at h;split at h
     .rename_i na ea hu;split at h
      .rename_i hb;simp only[AE]at hb;obtain rfl:=Bk hb.1;have h1:=DX hb.2;cases h;have hag:(isAgg e).run P w= .ok A0 w:=by unfold isAgg;simp only[Ea,run_underlying hu,Eo];rfl
       refine⟨.agg us, ?_,us.toList,by simp,by simpa using hsz,λi x j c u a1 a2 a3=>hr i x j c u a1 a2<|by simpa using a3⟩;have hr2:=run_loadCells_list (P:=P) w ⟨b',0,U⟩ us.toList (λj v hj=>by
        rw[GX,cell_of_row w b' _ us e (0,0) hh];simpa using hj)
       simp only[Ep,lR]at hr2;have hcs:P.cellsOf e=us.size:=by rw[hP];exact hce.symm
       simp only[NE,JG,loadVar,Ea,FV,Eo,hag,A5,KU h1,hcs,Tf,HP,hr2]
      .cases h
     .split at h
      .rename_i hb;obtain rfl:=Bk hb;have hlt:∀j,j<ks k->i * ks k+j<us.size:=λj hj=>by rw[hsz];exact OH hi hj
       have hx:=getD_some (d:=dfl k) hi;obtain⟨u,hu,hr'⟩:=XI (P:=P) (w:=w) (β:=β) (b:=b') (f:=i * ks k) (us:=(BJ<|ks k).map λj=>us.getD (i * ks k+j) undef) h ⟨by simp[EE],λj c v hc hv=>by
        simp only[D2,D4]at hv;obtain⟨q,hq,rfl⟩:=hv;have K8:j<ks k:=by have:=(BL.1 hq).1;simpa using this
        rw[GY K8]at hq;cases hq;exact hr i _ _ c _ hx hc<|by simp[hlt _ K8]⟩ (λj v hv=>by
        simp only[D2,D4]at hv;obtain⟨q,hq,rfl⟩:=hv;have K8:j<ks k:=by have:=(BL.1 hq).1;simpa using this
        rw[GY K8]at hq;cases hq;rw[cell_of_row w b' _ us e (0,0) hh];simp[hlt _ K8])
       refine⟨u, ?_,hr'⟩;simpa[NE,JG,D3] using hu
      .cases h
end
end Go.VS
namespace Go.VS
open Go
section
variable {P:Program} {B:Ba} {β:Beta} {H:Hp} {w:World} {b:Nat} {tm:Nat->Value} {ρ:Operand->AV} {η:Operand->Value}
def aaO(v:Value):ZX v=v.oneCell':=by cases v<;>rfl
def Wg{t:TypeId}{zs:List AV}(h:I0 P t=I zs):∃i z,P.info? t=I i/\i.zero=I z/\zs=z.cells.toList.map .lit/\ ∀v∈z.cells.toList,v.oneCell'=A0:=by
 unfold I0 at h;cases hi:P.info? t with
 | none=>rw[hi]at h;cases h
 | some i=>
  rw[hi]at h;cases hz:i.zero with
  | none=>simp[hz]at h
  | some z=>
   simp only[hz,A9]at h;split at h
   .rename_i ha;cases h;exact⟨i,z,rfl,hz,rfl,λv hv=>by rw[← aaO];exact C0.1 ha v hv⟩
   .cases h
def aDY{t:TypeId}{i:TypeInfo}{z:Value}(hi:P.info? t=I i)(hz:i.zero=I z):(zeroValue t).run P w= .ok z w:=by
 unfold zeroValue;simp[typeInfo,hi,hz]
def RL.lits(vs:List Value)(h:∀v∈vs,v.oneCell'=A0):RL (RC w β) (vs.map .lit) vs:=by
 refine⟨by simp,λj c u h1 h2=> ?_⟩;rw[D2,h2]at h1;cases h1;exact .lit<|h u<|Cb h2
def SD{c:AV}{cs:List AV}{v:Value}(h:GO c=I cs)(hx:RX w β tm c v):RL (RC w β) cs v.cells.toList:=by
 have sc:∀x:AV,RC w β x v->cs=[x]->RL (RC w β) cs v.cells.toList:=by
  intro x hx e;subst e;have h1:=hx.one;have:v.cells= #[v]:=by cases v<;>first|rfl|cases h1
  rw[this];exact .cons hx .nil
 cases c<;>simp only[GO]at h<;>try cases h
 case lit v'=>
  split at h
  all_goals try cases h
  all_goals try contradiction
  rename_i hn1 hn2 hn3 hn4 _;have e:v=v':=hx;subst e;refine sc _ (.lit ?_) rfl;cases v<;>first|rfl|simp_all
 case sl=>exact sc _ hx rfl
 case own=>exact sc _ hx rfl
 case ptr=>exact sc _ hx rfl
 case ipt=>exact sc _ hx rfl
 case agg=>obtain⟨us,rfl,hl⟩:=RX.agg hx;simpa[Value.cells] using hl
def RL.one{cs:List AV}{us:List Value}(h:RL (RC w β) cs us):∀v∈us,v.oneCell'=A0:=by
 intro v hv;obtain⟨j,hj⟩:=l4.1 hv;have hlt:j<cs.length:=by rw[← h.1];exact(BL.1 hj).1
 exact(h.2 j cs[j] v (by simp[hlt]) hj).one
def aaP(hH:Hs B β H w)(hb:H b=U)(t:TypeId){cs:List AV}{us:Array Value}(hl:RL (RC w β) cs us.toList){r:Result Next}
  (hr:r= .ok (.value<|.pointer<|I ⟨w.heap.size,0,U⟩) (w.alloc<|.cells us t))(n:Nat):Good B β H w b (.ptr b n 0 0) [.box t cs] r:=by
 obtain⟨β',h1,h2,h3,h4⟩:=hH.alloc hb us t (.box t cs) (.pointer<|I ⟨w.heap.size,0,U⟩) 1 ⟨w.heap.size,0,U⟩ rfl rfl
  (λβ' hj hid hk=>⟨w.heap.size,us,hid,heap_alloc_new w _,hl.mono hk⟩)
 refine⟨_,_,β',hr,h1,h2, ?_⟩;have:=RC.ptr (w:=w.alloc<|.cells us t) (β:=β') (id:=b) (sz:=n) (i:=0) (o:=0) h3 (b:=w.heap.size) (f:=0) rfl J;simpa[R2,R1] using this
def aqd(hH:Hs B β H w)(hb:H b=U){t:TypeId}{zs:List AV}(h:I0 P t=I zs){o:Oper}(ho:o.op= .alloc t):Good B β H w b (.ptr b zs.length 0 0) [.box t zs] ((execOp η o).run P w):=by
 obtain⟨i,z,hi,hz,rfl,h1⟩:=Wg h;refine aaP hH hb t (us:=z.cells) (RL.lits _ h1) ?_ _;unfold execOp;rw[ho];simp[Instr.alloc,aDY hi hz,newVar,newRow]
def auh(hη:∀x,RX w β tm (ρ x)<|η x)(hH:Hs B β H w)(hb:H b=U){t:TypeId}{x:Operand}{cs:List AV}(h:GO (ρ x)=I cs){o:Oper}(ho:o.op= .box t x):
  Good B β H w b (.ptr b cs.length 0 0) [.box t cs] ((execOp η o).run P w):=by
 refine aaP hH hb t (us:=(η x).cells) (SD h<|hη x) ?_ _;unfold execOp;rw[ho];simp[Instr.box,newVar,newRow]
def avQ(hP:P=B.P)(hη:∀x,RX w β tm (ρ x)<|η x)(hH:Hs B β H w){t:TypeId}{p:Operand}{v:AV}(h:Jp P H t (ρ p)=I v){o:Oper}(ho:o.op= .load t p):
  Good B β H w b v [] ((execOp η o).run P w):=by
 have hx:R2 w β (ρ p) (η p):=(hη p).of (λg w x e=>by rw[e]at h;cases h);obtain⟨u,hu,hr⟩:=aCl hP hH hx h;refine Good.same hH (u:=u) ?_<|R2.H7 hr;unfold execOp;rw[ho];simp[hu]
def RC.ay0{id z i o:Nat}{v:Value}(h:RC w β (.ptr id z i o) v):∃a,v= .pointer (I a):=by cases h;exact⟨_,rfl⟩
def RC.ay4{k:K}{x:Tof k}{o:Nat}{v:Value}(h:RC w β (.ipt k x o) v):∃a,v= .pointer (I a):=by cases h;exact⟨_,rfl⟩
def yt(hη:∀x,RX w β tm (ρ x)<|η x)(hH:Hs B β H w){p:Operand}{v:AV}(hv:(∃id z i o,v= .ptr id z i o)\/ ∃k x o,v= .ipt k x o)(h:ρ p=v){o:Oper}(ho:o.op= .nilCheck p):
  Good B β H w b v [] ((execOp η o).run P w):=by
 have hx:=hη p;rw[h]at hx;have hp:∃a,η p= .pointer (I a):=by
  obtain⟨id,z,i,o,rfl⟩|⟨k,x,o,rfl⟩:=hv
  .exact RC.ay0 (show RC w β (.ptr id z i o) (η p) from hx)
  .exact RC.ay4<|show RC w β (.ipt k x o) (η p) from hx
 obtain⟨a,ha⟩:=hp;refine Good.same hH (u:=η p) ?_ ?_
 .unfold execOp;rw[ho];simp[ha]
 .rcases hv with⟨id,z,i,o,rfl⟩|⟨k,x,o,rfl⟩<;>exact hx
def apY(hη:∀x,RX w β tm (ρ x)<|η x)(hH:Hs B β H w){x:Operand}{i:Nat}{vs:List AV}{v:AV}(h:ρ x= .tup vs)(hv:vs[i]? =I v){o:Oper}(ho:o.op= .extract x i):
  Good B β H w b v [] ((execOp η o).run P w):=by
 have hx:=hη x;rw[h]at hx;obtain⟨us,e,hl⟩:=RX.tup hx;obtain⟨u,hu,hr⟩:=hl.get hv;refine Good.same hH (u:=u) ?_<|R2.H7 hr;unfold execOp;rw[ho];simp[Instr.extract,e,hu]
def iL{t:TypeId}{f:Nat}{fd:Field}(h:LY P t f=I fd):∃fs,P.underlying t=I (.struct fs)/\fs[f]? =I fd:=by
 unfold LY at h;split at h
 .rename_i fs hu;exact⟨fs,hu,h⟩
 .cases h
def yL(hη:∀x,RX w β tm (ρ x)<|η x)(hH:Hs B β H w){t:TypeId}{x:Operand}{f:Nat}{fd:Field}(h:LY P t f=I fd)(h1:1<=P.cellsOf fd.type){v:AV}
  (hv:(∃id z i o,ρ x= .ptr id z i o/\v= .ptr id z i (o+fd.offset))\/ ∃k y o,ρ x= .ipt k y o/\v= .ipt k y (o+fd.offset)){o:Oper}(ho:o.op= .fieldAddr t x f):
  Good B β H w b v [] ((execOp η o).run P w):=by
 obtain⟨fs,hu,hf⟩:=iL h;have hx:=hη x;have key:∀bb o',η x= .pointer (I ⟨bb,o',U⟩)->(execOp η o).run P w= .ok (.value<|.pointer<|I ⟨bb,o'+fd.offset,U⟩) w:=by
  intro bb o' he;unfold execOp;rw[ho];have hne:¬P.cellsOf fd.type=0:=J
  simp[Instr.fieldAt,run_underlying hu,hf,JG,he,fieldPlace,KU h1,hne,GX]
 obtain⟨id,z,i,o',e1,rfl⟩|⟨k,y,o',e1,rfl⟩:=hv
 .rw[e1]at hx;have hx':RC w β (.ptr id z i o') (η x):=hx;generalize hg:η x=g at hx';cases hx' with
  | @ptr _ _ _ _ hd n bb f' hβ ha hi=>
   refine Good.same hH (key _ _ hg) ?_;have:=RC.ptr (w:=w) (β:=β) (id:=id) (sz:=z) (i:=i) (o:=o'+fd.offset) hβ ha hi;simpa[R2,R1,D3] using this
 .rw[e1]at hx;have hx':RC w β (.ipt k y o') (η x):=hx;generalize hg:η x=g at hx';cases hx' with
  | @ipt _ _ _ bb f' u hM hu' hr=>
   refine Good.same hH (key _ _ hg) ?_;have:=RC.ipt (w:=w) (β:=β) (k:=k) (x:=y) (o:=o'+fd.offset) (b:=bb) (f:=f') u hM hu' hr;simpa[R2,R1,D3] using this
def arB{t:TypeId}{cs:List AV}{o:Nat}{v:AV}{us:List Value}(h:HF P t cs o=I v)(hl:RL (RC w β) cs us):∃u,(part t us.toArray o).run P w= .ok u w/\R1 w β v u:=by
 unfold HF at h;cases ha:L6 P t with
 | none=>rw[ha]at h;cases h
 | some q=>
  rw[ha]at h;cases q with
  | true=>
   simp only at h;split at h
   .rename_i hb;simp only[AE]at hb;have h2:=DX hb.2;cases h;refine⟨.agg ((us.drop o).take<|P.cellsOf t).toArray, ?_,_,rfl,(hl.drop o).take _⟩;unfold part;simp[SZ ha,KU h2]
   .cases h
  | false=>
   simp only at h;obtain⟨u,hu,hr⟩:=hl.get h;refine⟨u, ?_,R1.MH hr⟩;unfold part;simp[SZ ha,hu]
def aqg(hη:∀x,RX w β tm (ρ x)<|η x)(hH:Hs B β H w){t:TypeId}{x:Operand}{f:Nat}{fd:Field}(h:LY P t f=I fd){cs:List AV}(hx:ρ x= .agg cs){v:AV}(hv:HF P fd.type cs fd.offset=I v)
  {o:Oper}(ho:o.op= .field t x f):Good B β H w b v [] ((execOp η o).run P w):=by
 obtain⟨fs,hu,hf⟩:=iL h;have hη':=hη x;rw[hx]at hη';obtain⟨us,e,hl⟩:=RX.agg hη';obtain⟨u,hr,hr'⟩:=arB hv hl;refine Good.same hH (u:=u) ?_<|R2.H7 hr';unfold execOp;rw[ho];simp[Instr.field,run_underlying hu,hf,e,asAgg,hr]
end
end Go.VS
end
