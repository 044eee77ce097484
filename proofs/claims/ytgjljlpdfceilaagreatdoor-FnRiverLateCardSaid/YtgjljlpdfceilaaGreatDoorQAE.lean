/- Part 5. -/
import Derived.WalkKit
import Derived.Test.YtgjljlpdfceilaaGreatDoorQAD
open Array renaming length_toList->FG,toArray_toList->pS
open Bool renaming and_eq_true->AG,false->A3,false_and->AS,false_eq_true->I1,false_or->Bn,true->U,true_and->AY,true_or->C0
open Go.Addr renaming add_lit->HC
open Go.Instr renaming loadAt->No,sureAddr->Jp
open Go.Result renaming andThen_ok->FH
open Go.Sem renaming run_bind->Ex,run_pure->G5
open List renaming all_eq_true->Cb,getElem?_eq_some_iff->BP,getElem?_map->DK,getElem?_range->H7,mem_iff_getElem?->p8,mem_of_getElem?->Cu,range->BB
open Nat renaming add_assoc->DI,add_mul->ER,add_zero->I0,beq->Al,le_of_ble_eq_true->Di,mul_le_mul_right->EH,zero_mul->V0
open Option renaming bind_some->A9,map_eq_some_iff->DJ,none->A0,some->I
set_option linter.all false
noncomputable section
namespace Go.VS
open Go
def RX(w:World)(β:Beta)(tm:Nat->Value):AV->Value->Prop
 | .gd g want x,v=>tm g= .bool want->R2 w β x v
 | c,v=>R2 w β c v
def RT.aq{w:World}{β:Beta}{tm:Nat->Value}{c:AV}{v:Value}(h:RT w β tm c v):RX w β tm c v:=by
 cases c<;>first|exact h|exact h.1
def Good(B:Bg)(β:Beta)(H:Hp)(w:World)(b:Nat)(v:AV)(os:List Ob)(r:Result Next):Prop:=
 ∃u w' β',r= .ok (.value u) w'/\Hs B β' (F4 H b os) w'/\Kp w β w' β'/\R2 w' β' v u
section
variable {P:Program} {B:Bg} {β:Beta} {H:Hp} {w:World} {b:Nat} {tm:Nat->Value}
def Good.same(hH:Hs B β H w){v:AV}{u:Value}{r:Result Next}(hr:r= .ok (.value u) w)(hv:R2 w β v u):Good B β H w b v [] r:=
 ⟨u,w,β,hr,hH,Kp.refl _ _,hv⟩
def P0{v v':AV}{c:Bool}{os:List Ob}(h:okN v=I (c,v',os)):v'=v/\c=U/\os=[]/\ ∀g w x,v≠ .gd g w x:=by
 cases v<;>simp[okN,okA]at h<;>(obtain⟨rfl,rfl,rfl⟩:=h;exact⟨rfl,rfl,rfl,by simp⟩)
def DV{v v':AV}{c:Bool}{os:List Ob}(h:okA v=I (c,v',os)):v'=v/\c=U/\os=[]:=by
 simp[okA]at h;obtain⟨rfl,rfl,rfl⟩:=h;exact⟨rfl,rfl,rfl⟩
def RX.of{c:AV}{v:Value}(h:RX w β tm c v)(hn:∀g w x,c≠ .gd g w x):R2 w β c v:=by
 cases c<;>first|exact h|exact absurd rfl (hn _ _ _)
def RX.lit{v' v:Value}(h:RX w β tm (.lit v') v):v=v':=h
def RX.agg{cs:List AV}{v:Value}(h:RX w β tm (.agg cs) v):∃us:List Value,v= .agg us.toArray/\RL (RC w β) cs us:=h
def RX.tup{cs:List AV}{v:Value}(h:RX w β tm (.tup cs) v):∃us:List Value,v= .tuple us.toArray/\RL (R1 w β) cs us:=h
def asz{ρ:Operand->AV}{η:Operand->Value}(hη:∀x,RX w β tm (ρ x)<|η x)(htm:∀g,η (.tmp g)=tm g)(hc:∀v,η (.const v)=v)(hH:Hs B β H w)
  {c x y:Operand}{q:Bool}{v:AV}{os:List Ob}(h:Pn ρ c x y=I (q,v,os))(hq:q=U){o:Oper}(ho:o.op= .pick c x y):Good B β H w b v os ((execOp η o).run P w):=by
 subst hq;have key:∀(p:Bool),ρ c= .lit (.bool p)->(execOp η o).run P w= .ok (.value<|if p then η x else η y) w:=by
  intro p hp;have hcv:η c= .bool p:=by have:=hη c;rw[hp]at this;exact this
  unfold execOp;rw[ho];simp[hcv,asBool]
 have abR:∀(want:Bool) (z:Operand) (r:Bool),Lc (RO want (ρ z) c)=I r->(η c= .bool want->η z= .bool r):=by
  intro want z r hr hcw;have hz:=hη z;cases hρ:ρ z with
  | gd g w' x'=>
   rw[hρ]at hr hz;unfold RO at hr;cases c with
   | tmp g'=>
    simp only[Gy]at hr;cases h1:Al g' g with
    | false=>rw[h1]at hr;simp[Lc]at hr
    | true=>
     obtain rfl:=Bq h1;cases h2:want == w' with
     | false=>rw[h1,h2]at hr;simp[Lc]at hr
     | true=>
      obtain rfl:want=w':=by simpa using h2
      rw[h1,h2]at hr;have hzz:=hz (by rw[← htm];exact hcw);cases x'<;>simp[Lc]at hr;rename_i vv;cases vv<;>simp at hr;subst hr;exact hzz
   | _=>simp[Lc]at hr
  | lit vv=>
   rw[hρ]at hr hz;have:Lc (AV.lit vv)=I r:=by
    unfold RO at hr;cases c<;>simpa[Gy] using hr
   cases vv<;>simp[Lc]at this;subst this;exact hz
  | _=>
   rw[hρ]at hr;unfold RO at hr;cases c<;>simp[Gy,Lc]at hr
 unfold Pn at h;split at h
 .rename_i p hp;split at h
  .rename_i r hr;obtain⟨rfl,_,rfl⟩:=DV h;refine Good.same hH (key _ hp) ?_;have hcv:η c= .bool p:=by have:=hη c;rw[hp]at this;exact this
   cases p with
   | true=>simp only[A5,C0];exact hc _
   | false=>simp only[I1,if_false,Bn];exact abR A3 _ r hr hcv
  .split at h
   .obtain⟨rfl,_,rfl⟩:=DV h;refine Good.same hH (key _ hp) ?_;simp only[A5];exact hc _
   .obtain⟨rfl,_,rfl,hg⟩:=P0 h;refine Good.same hH (key _ hp) ?_;simp only[I1,if_false];exact(hη _).of hg
 .rename_i p hp _;split at h
  .rename_i r hr;obtain⟨rfl,_,rfl⟩:=DV h;refine Good.same hH (key _ hp) ?_;have hcv:η c= .bool p:=by have:=hη c;rw[hp]at this;exact this
   cases p with
   | true=>simp only[A5,AY];exact abR U _ r hr hcv
   | false=>simp only[I1,if_false,AS];exact hc _
  .split at h
   .obtain⟨rfl,_,rfl,hg⟩:=P0 h;refine Good.same hH (key _ hp) ?_;simp only[A5];exact(hη _).of hg
   .obtain⟨rfl,_,rfl⟩:=DV h;refine Good.same hH (key _ hp) ?_;simp only[I1,if_false];exact hc _
 .rename_i p hp _ _;split at h
  .obtain⟨rfl,_,rfl,hg⟩:=P0 h;refine Good.same hH (key _ hp) ?_;simp only[A5];exact(hη _).of hg
  .obtain⟨rfl,_,rfl,hg⟩:=P0 h;refine Good.same hH (key _ hp) ?_;simp only[I1,if_false];exact(hη _).of hg
 .cases h
end
end Go.VS
namespace Go.VS
open Go
section
variable {P:Program} {B:Bg} {β:Beta} {H:Hp} {w:World} {b:Nat} {tm:Nat->Value}
def RC.azn{k:K}{x:Tof k}{o:Nat}{v:Value}(h:RC w β (.ipt k x o) v):∃bb f us,v= .pointer (I ⟨bb,f+o,A0⟩)/\RL (RC w β) (enc k x) us/\ ∀j u,us[j]? =I u->w.cell? ⟨bb,f+j,A0⟩=I u:=by
 cases h with
 | @ipt _ _ _ bb f u hM hu hr=>
  refine⟨bb,f,(BB<|ks k).map u,rfl,⟨by simp[EV],λj c v hc hv=> ?_⟩,λj v hv=> ?_⟩
  .simp only[DK,DJ]at hv;obtain⟨i,hi,rfl⟩:=hv;rw[H7 (by have:=(BP.1 hi).1;simpa using this)]at hi;cases hi;exact hr _ _ hc
  .simp only[DK,DJ]at hv;obtain⟨i,hi,rfl⟩:=hv;have hlt:j<ks k:=by have:=(BP.1 hi).1;simpa using this
   rw[H7 hlt]at hi;cases hi;exact hu _ hlt
def Oo{i n s j:Nat}(hi:i<n)(hj:j<s):i * s+j<n * s:=by
 have:(i+1) * s<=n * s:=EH _ hi;rw[ER]at this;omega
def Ft.elem{e:TypeId}{fz:Bool}{k:K}{xs:List (Tof k)}{hd:Value}(h:Ft w β e fz k xs hd){bb f:Nat}(ha:adr hd=I ⟨bb,f,A0⟩){i:Nat}{x:Tof k}(hi:xs[i]? =I x):
  ∃us,RL (RC w β) (enc k x) us/\ ∀j u,us[j]? =I u->w.cell? ⟨bb,f+(i * ks k+j),A0⟩=I u:=by
 obtain⟨rfl,_⟩|⟨b',f',cap,us,fr,hd',hh,hfr,hn,hc,hs,hr⟩:=h
 .cases ha
 .have ha':adr hd=I ⟨b',f',A0⟩:=by rw[hd'];rfl
  rw[ha]at ha';cases ha';have hlt:i<xs.length:=(BP.1 hi).1;have D1:∀j,j<ks k->f+(i * ks k+j)<us.size:=λj hj=>by
   have h1:=Oo hlt hj;have h2:xs.length * ks k<=cap * ks k:=EH _ hn;omega
  refine⟨(BB<|ks k).map λj=>us.getD (f+(i * ks k+j)) undef,⟨by simp[EV],λj c v hc hv=> ?_⟩,λj v hv=> ?_⟩
  .simp only[DK,DJ]at hv;obtain⟨q,hq,rfl⟩:=hv;have L3:j<ks k:=by have:=(BP.1 hq).1;simpa using this
   rw[H7 L3]at hq;cases hq;exact hr i x _ c _ hi hc (by simp[D1 _ L3])
  .simp only[DK,DJ]at hv;obtain⟨q,hq,rfl⟩:=hv;have L3:j<ks k:=by have:=(BP.1 hq).1;simpa using this
   rw[H7 L3]at hq;cases hq;rw[cell_of_row w bb _ us e fr hh];simp[D1 _ L3]
def getD_some{α:Type}{xs:List α}{i:Nat}{d:α}(h:i<xs.length):xs[i]? =I (xs.getD i d):=by simp[h]
def aHA(hP:P=B.P)(hH:Hs B β H w){t:TypeId}{c v:AV}{a:Value}(hx:R2 w β c a)(h:KO P H t c=I v):
  ∃u,(No t a).run P w= .ok u w/\R1 w β v u:=by
 unfold KO at h;cases c<;>simp only at h<;>try cases h
 case ipt k x o=>
  obtain⟨bb,f,us,rfl,hl,hc⟩:=RC.azn hx;obtain⟨u,hu,hr⟩:=Zb (P:=P) h hl hc;exact⟨u,by simpa[No,Jp] using hu,hr⟩
 case ptr id z i o=>
  have hx':RC w β (.ptr id z i o) a:=hx;cases hx' with
  | @ptr _ _ _ _ hd n bb f hβ ha hi=>
   cases hid:H id with
   | none=>rw[hid]at h;cases h
   | some ob=>
    have hob:=hH.EU id ob hid;rw[hid]at h;cases ob with
    | box e cs=>
     obtain⟨b',us,h1,h2,h3⟩:=hob;rw[hβ]at h1;obtain⟨rfl,rfl⟩:hd= .pointer (I ⟨b',0,A0⟩)/\n=1:=by simpa using h1
     obtain⟨rfl,rfl⟩:b'=bb/\0=f:=by simpa[adr] using ha
     obtain rfl:i=0:=J
     simp only at h;obtain⟨u,hu,hr⟩:=Zb (P:=P) (b:=b') (f:=0) h h3 (λj u hj=>by
      rw[cell_of_row w b' _ us e (0,0) h2];simpa using hj)
     refine⟨u, ?_,hr⟩;simpa[No,Jp] using hu
    | row e fz k xs=>
     obtain⟨hd',h1,h2⟩:=hob;rw[hβ]at h1;obtain⟨rfl,rfl⟩:hd=hd'/\n=xs.length:=by simpa using h1
     simp only at h;split at h
     .rename_i hb;obtain rfl:=Bq hb;obtain⟨us,hl,hc⟩:=h2.elem ha<|getD_some (d:=dfl k) hi;obtain⟨u,hu,hr⟩:=Zb (P:=P) (b:=bb) (f:=f+i * ks k) h hl (λj u hj=>by
       have:=hc j u hj;rwa[← DI]at this)
      refine⟨u, ?_,hr⟩;simpa[No,Jp,DI] using hu
     .cases h
    | arr e k xs=>
     obtain⟨b',us,h1,hh,hsz,hce,hr⟩:=hob;rw[hβ]at h1;obtain⟨rfl,rfl⟩:hd= .pointer (I ⟨b',0,A0⟩)/\n=xs.length:=by simpa using h1
     obtain⟨rfl,rfl⟩:b'=bb/\0=f:=by simpa[adr] using ha
     simp only at h;split at h
     .rename_i na ea hu;split at h
      .rename_i hb;simp only[AG]at hb;obtain rfl:=Bq hb.1;have h1:=Di hb.2;cases h;have hag:(isAgg e).run P w= .ok U w:=by unfold isAgg;simp only[Ex,run_underlying hu,FH];rfl
       refine⟨.agg us, ?_,us.toList,by simp,by simpa using hsz,λi x j c u a1 a2 a3=>hr i x j c u a1 a2<|by simpa using a3⟩;have hr2:=run_loadCells_list (P:=P) w ⟨b',0,A0⟩ us.toList (λj v hj=>by
        rw[HC,cell_of_row w b' _ us e (0,0) hh];simpa using hj)
       simp only[FG,pS]at hr2;have hcs:P.cellsOf e=us.size:=by rw[hP];exact hce.symm
       simp only[No,Jp,loadVar,Ex,G5,FH,hag,A5,LP h1,hcs,V0,I0,hr2]
      .cases h
     .split at h
      .rename_i hb;obtain rfl:=Bq hb;have hlt:∀j,j<ks k->i * ks k+j<us.size:=λj hj=>by rw[hsz];exact Oo hi hj
       have hx:=getD_some (d:=dfl k) hi;obtain⟨u,hu,hr'⟩:=Zb (P:=P) (w:=w) (β:=β) (b:=b') (f:=i * ks k) (us:=(BB<|ks k).map λj=>us.getD (i * ks k+j) undef) h ⟨by simp[EV],λj c v hc hv=>by
        simp only[DK,DJ]at hv;obtain⟨q,hq,rfl⟩:=hv;have L3:j<ks k:=by have:=(BP.1 hq).1;simpa using this
        rw[H7 L3]at hq;cases hq;exact hr i _ _ c _ hx hc<|by simp[hlt _ L3]⟩ (λj v hv=>by
        simp only[DK,DJ]at hv;obtain⟨q,hq,rfl⟩:=hv;have L3:j<ks k:=by have:=(BP.1 hq).1;simpa using this
        rw[H7 L3]at hq;cases hq;rw[cell_of_row w b' _ us e (0,0) hh];simp[hlt _ L3])
       refine⟨u, ?_,hr'⟩;simpa[No,Jp,DI] using hu
      .cases h
end
end Go.VS
namespace Go.VS
open Go
section
variable {P:Program} {B:Bg} {β:Beta} {H:Hp} {w:World} {b:Nat} {tm:Nat->Value} {ρ:Operand->AV} {η:Operand->Value}
def aJk(v:Value):cn v=v.oneCell':=by cases v<;>rfl
def Yp{t:TypeId}{zs:List AV}(h:Hr P t=I zs):∃i z,P.info? t=I i/\i.zero=I z/\zs=z.cells.toList.map .lit/\ ∀v∈z.cells.toList,v.oneCell'=U:=by
 unfold Hr at h;cases hi:P.info? t with
 | none=>rw[hi]at h;cases h
 | some i=>
  rw[hi]at h;cases hz:i.zero with
  | none=>simp[hz]at h
  | some z=>
   simp only[hz,A9]at h;split at h
   .rename_i ha;cases h;exact⟨i,z,rfl,hz,rfl,λv hv=>by rw[← aJk];exact Cb.1 ha v hv⟩
   .cases h
def aI4{t:TypeId}{i:TypeInfo}{z:Value}(hi:P.info? t=I i)(hz:i.zero=I z):(zeroValue t).run P w= .ok z w:=by
 unfold zeroValue;simp[typeInfo,hi,hz]
def RL.lits(vs:List Value)(h:∀v∈vs,v.oneCell'=U):RL (RC w β) (vs.map .lit) vs:=by
 refine⟨by simp,λj c u h1 h2=> ?_⟩;rw[DK,h2]at h1;cases h1;exact .lit<|h u<|Cu h2
def TX{c:AV}{cs:List AV}{v:Value}(h:Gw c=I cs)(hx:RX w β tm c v):RL (RC w β) cs v.cells.toList:=by
 have sc:∀x:AV,RC w β x v->cs=[x]->RL (RC w β) cs v.cells.toList:=by
  intro x hx e;subst e;have h1:=hx.one;have:v.cells= #[v]:=by cases v<;>first|rfl|cases h1
  rw[this];exact .cons hx .nil
 cases c<;>simp only[Gw]at h<;>try cases h
 case lit v'=>
  split at h
  all_goals try cases h
  all_goals try contradiction
  rename_i hn1 hn2 hn3 hn4 _;have e:v=v':=hx;subst e;refine sc _ (.lit ?_) rfl;cases v<;>first|rfl|simp_all
 case sl=>exact sc _ hx rfl
 case own=>exact sc _ hx rfl
 case ptr=>exact sc _ hx rfl
 case ipt=>exact sc _ hx rfl
 case agg=>obtain⟨us,rfl,hl⟩:=RX.agg hx;simpa[Value.cells] using hl
def RL.one{cs:List AV}{us:List Value}(h:RL (RC w β) cs us):∀v∈us,v.oneCell'=U:=by
 intro v hv;obtain⟨j,hj⟩:=p8.1 hv;have hlt:j<cs.length:=by rw[← h.1];exact(BP.1 hj).1
 exact(h.2 j cs[j] v (by simp[hlt]) hj).one
def aJl(hH:Hs B β H w)(hb:H b=A0)(t:TypeId){cs:List AV}{us:Array Value}(hl:RL (RC w β) cs us.toList){r:Result Next}
  (hr:r= .ok (.value<|.pointer<|I ⟨w.heap.size,0,A0⟩) (w.alloc<|.cells us t))(n:Nat):Good B β H w b (.ptr b n 0 0) [.box t cs] r:=by
 obtain⟨β',h1,h2,h3,h4⟩:=hH.alloc hb us t (.box t cs) (.pointer<|I ⟨w.heap.size,0,A0⟩) 1 ⟨w.heap.size,0,A0⟩ rfl rfl
  (λβ' hj hid hk=>⟨w.heap.size,us,hid,heap_alloc_new w _,hl.mono hk⟩)
 refine⟨_,_,β',hr,h1,h2, ?_⟩;have:=RC.ptr (w:=w.alloc<|.cells us t) (β:=β') (id:=b) (sz:=n) (i:=0) (o:=0) h3 (b:=w.heap.size) (f:=0) rfl J;simpa[R2,R1] using this
def asU(hH:Hs B β H w)(hb:H b=A0){t:TypeId}{zs:List AV}(h:Hr P t=I zs){o:Oper}(ho:o.op= .alloc t):Good B β H w b (.ptr b zs.length 0 0) [.box t zs] ((execOp η o).run P w):=by
 obtain⟨i,z,hi,hz,rfl,h1⟩:=Yp h;refine aJl hH hb t (us:=z.cells) (RL.lits _ h1) ?_ _;unfold execOp;rw[ho];simp[Instr.alloc,aI4 hi hz,newVar,newRow]
def awN(hη:∀x,RX w β tm (ρ x)<|η x)(hH:Hs B β H w)(hb:H b=A0){t:TypeId}{x:Operand}{cs:List AV}(h:Gw (ρ x)=I cs){o:Oper}(ho:o.op= .box t x):
  Good B β H w b (.ptr b cs.length 0 0) [.box t cs] ((execOp η o).run P w):=by
 refine aJl hH hb t (us:=(η x).cells) (TX h<|hη x) ?_ _;unfold execOp;rw[ho];simp[Instr.box,newVar,newRow]
def ax1(hP:P=B.P)(hη:∀x,RX w β tm (ρ x)<|η x)(hH:Hs B β H w){t:TypeId}{p:Operand}{v:AV}(h:KO P H t (ρ p)=I v){o:Oper}(ho:o.op= .load t p):
  Good B β H w b v [] ((execOp η o).run P w):=by
 have hx:R2 w β (ρ p) (η p):=(hη p).of (λg w x e=>by rw[e]at h;cases h);obtain⟨u,hu,hr⟩:=aHA hP hH hx h;refine Good.same hH (u:=u) ?_<|R2.Hh hr;unfold execOp;rw[ho];simp[hu]
def RC.azg{id z i o:Nat}{v:Value}(h:RC w β (.ptr id z i o) v):∃a,v= .pointer (I a):=by cases h;exact⟨_,rfl⟩
def RC.azk{k:K}{x:Tof k}{o:Nat}{v:Value}(h:RC w β (.ipt k x o) v):∃a,v= .pointer (I a):=by cases h;exact⟨_,rfl⟩
def aD9(hη:∀x,RX w β tm (ρ x)<|η x)(hH:Hs B β H w){p:Operand}{v:AV}(hv:(∃id z i o,v= .ptr id z i o)\/ ∃k x o,v= .ipt k x o)(h:ρ p=v){o:Oper}(ho:o.op= .nilCheck p):
  Good B β H w b v [] ((execOp η o).run P w):=by
 have hx:=hη p;rw[h]at hx;have hp:∃a,η p= .pointer (I a):=by
  obtain⟨id,z,i,o,rfl⟩|⟨k,x,o,rfl⟩:=hv
  .exact RC.azg (show RC w β (.ptr id z i o) (η p) from hx)
  .exact RC.azk<|show RC w β (.ipt k x o) (η p) from hx
 obtain⟨a,ha⟩:=hp;refine Good.same hH (u:=η p) ?_ ?_
 .unfold execOp;rw[ho];simp[ha]
 .rcases hv with⟨id,z,i,o,rfl⟩|⟨k,x,o,rfl⟩<;>exact hx
def aqv(hη:∀x,RX w β tm (ρ x)<|η x)(hH:Hs B β H w){x:Operand}{i:Nat}{vs:List AV}{v:AV}(h:ρ x= .tup vs)(hv:vs[i]? =I v){o:Oper}(ho:o.op= .extract x i):
  Good B β H w b v [] ((execOp η o).run P w):=by
 have hx:=hη x;rw[h]at hx;obtain⟨us,e,hl⟩:=RX.tup hx;obtain⟨u,hu,hr⟩:=hl.get hv;refine Good.same hH (u:=u) ?_<|R2.Hh hr;unfold execOp;rw[ho];simp[Instr.extract,e,hu]
def mL{t:TypeId}{f:Nat}{fd:Field}(h:MH P t f=I fd):∃fs,P.underlying t=I (.struct fs)/\fs[f]? =I fd:=by
 unfold MH at h;split at h
 .rename_i fs hu;exact⟨fs,hu,h⟩
 .cases h
def aCE(hη:∀x,RX w β tm (ρ x)<|η x)(hH:Hs B β H w){t:TypeId}{x:Operand}{f:Nat}{fd:Field}(h:MH P t f=I fd)(h1:1<=P.cellsOf fd.type){v:AV}
  (hv:(∃id z i o,ρ x= .ptr id z i o/\v= .ptr id z i (o+fd.offset))\/ ∃k y o,ρ x= .ipt k y o/\v= .ipt k y (o+fd.offset)){o:Oper}(ho:o.op= .fieldAddr t x f):
  Good B β H w b v [] ((execOp η o).run P w):=by
 obtain⟨fs,hu,hf⟩:=mL h;have hx:=hη x;have key:∀bb o',η x= .pointer (I ⟨bb,o',A0⟩)->(execOp η o).run P w= .ok (.value<|.pointer<|I ⟨bb,o'+fd.offset,A0⟩) w:=by
  intro bb o' he;unfold execOp;rw[ho];have hne:¬P.cellsOf fd.type=0:=J
  simp[Instr.fieldAt,run_underlying hu,hf,Jp,he,fieldPlace,LP h1,hne,HC]
 obtain⟨id,z,i,o',e1,rfl⟩|⟨k,y,o',e1,rfl⟩:=hv
 .rw[e1]at hx;have hx':RC w β (.ptr id z i o') (η x):=hx;generalize hg:η x=g at hx';cases hx' with
  | @ptr _ _ _ _ hd n bb f' hβ ha hi=>
   refine Good.same hH (key _ _ hg) ?_;have:=RC.ptr (w:=w) (β:=β) (id:=id) (sz:=z) (i:=i) (o:=o'+fd.offset) hβ ha hi;simpa[R2,R1,DI] using this
 .rw[e1]at hx;have hx':RC w β (.ipt k y o') (η x):=hx;generalize hg:η x=g at hx';cases hx' with
  | @ipt _ _ _ bb f' u hM hu' hr=>
   refine Good.same hH (key _ _ hg) ?_;have:=RC.ipt (w:=w) (β:=β) (k:=k) (x:=y) (o:=o'+fd.offset) (b:=bb) (f:=f') u hM hu' hr;simpa[R2,R1,DI] using this
def at1{t:TypeId}{cs:List AV}{o:Nat}{v:AV}{us:List Value}(h:HV P t cs o=I v)(hl:RL (RC w β) cs us):∃u,(part t us.toArray o).run P w= .ok u w/\R1 w β v u:=by
 unfold HV at h;cases ha:Lm P t with
 | none=>rw[ha]at h;cases h
 | some q=>
  rw[ha]at h;cases q with
  | true=>
   simp only at h;split at h
   .rename_i hb;simp only[AG]at hb;have h2:=Di hb.2;cases h;refine⟨.agg ((us.drop o).take<|P.cellsOf t).toArray, ?_,_,rfl,(hl.drop o).take _⟩;unfold part;simp[Tx ha,LP h2]
   .cases h
  | false=>
   simp only at h;obtain⟨u,hu,hr⟩:=hl.get h;refine⟨u, ?_,R1.N1 hr⟩;unfold part;simp[Tx ha,hu]
def ara(hη:∀x,RX w β tm (ρ x)<|η x)(hH:Hs B β H w){t:TypeId}{x:Operand}{f:Nat}{fd:Field}(h:MH P t f=I fd){cs:List AV}(hx:ρ x= .agg cs){v:AV}(hv:HV P fd.type cs fd.offset=I v)
  {o:Oper}(ho:o.op= .field t x f):Good B β H w b v [] ((execOp η o).run P w):=by
 obtain⟨fs,hu,hf⟩:=mL h;have hη':=hη x;rw[hx]at hη';obtain⟨us,e,hl⟩:=RX.agg hη';obtain⟨u,hr,hr'⟩:=at1 hv hl;refine Good.same hH (u:=u) ?_<|R2.Hh hr';unfold execOp;rw[ho];simp[Instr.field,run_underlying hu,hf,e,asAgg,hr]
end
end Go.VS
end
