/- Part 10. -/
import Derived.ChangeShapes
import Derived.Test.YtimdnaklfelapaaGreatDoorQAI
open Bool renaming and_eq_true→auF
open Go.DataW renaming trod→aww
open Go.Lit renaming int→ayX
open Go.World renaming cell?→ayw
open List renaming drop_drop→aw9,drop_eq_nil_of_le→awE,getElem?_eq_some_iff→auR,getElem?_map→avz,getElem?_range→av3,mapM_cons→ayv,mem_cons_of_mem→auJ,mem_cons_self→auM,mem_cons→au5,mem_map→avH,mem_range→avB,range→au9,take_append_drop→awJ
open Nat renaming add_assoc→avI,beq→auW,zero_le→avM,zero_mul→azl
open Option renaming bind_eq_some_iff→auI,map_eq_some_iff→avc
open Option.some renaming inj→avD
set_option linter.unusedVariables false
set_option linter.unusedSimpArgs false
set_option linter.defProp false
noncomputable section
namespace Go.VS
open Go
inductive CT where
 | int (k:IntKind)
 | bool
 | str
 | sl (k:K)
def kct:K→List CT
 | .int=>[.int .i64]
 | .bool=>[.bool]
 | .u8=>[.int .u8]
 | .str=>[.str]
 | .note=>[.int .i64,.int .i64,.int .i64,.int .i64,.str]
 | .mark=>[.int .i64,.int .i64,.int .i64]
 | .mixed=>[.int .i64,.str]
 | .half=>[.int .i64,.int .i64,.int .i64,.int .i64,.int .i64,.sl .mixed]
 | .keep=>[.int .i64,.int .i64,.int .i64,.sl .note,.sl .mark,.sl .note]
 | .anx=>[.int .i64,.bool,.str,.int .i64,.sl .half]
 | .anJ=>[.int .i64,.int .i64,.str,.bool]
 | .frame=>[.int .i64,.int .i64,.int .i64,.int .i64,.int .i64,.int .i64,.int .i64,.int .i64,.int .i64,.str]
 | .aoc=>[.int .i64,.int .i64,.int .i64,.int .i64,.int .i64,.int .i64,.int .i64,.int .i64,.int .i64,.str]
 | .lk=>[.str,.int .i64,.str]
mutual
def aaF (P:Program):Nat→TypeId→Option (List TypeId)
 | 0,_=>none
 | n+1,t=>match P.underlying t with
  | some (.struct fs)=>(aaG P n 0 fs.toList).bind fun ts=>match auW ts.length (P.cellsOf t) with
   | true=>some ts
   | false=>none
  | some (.int _)=>some [t]
  | some .bool=>some [t]
  | some .string=>some [t]
  | some (.slice _)=>some [t]
  | _=>none
def aaG (P:Program):Nat→Nat→List Field→Option (List TypeId)
 | _,_,[]=>some []
 | 0,_,_::_=>none
 | n+1,o,f::fs=>(aaF P n f.type).bind fun ts=>match auW f.offset o&&auW (P.cellsOf f.type) ts.length with
  | true=>(aaG P n (o+ts.length) fs).bind fun us=>some (ts++us)
  | false=>none
end
mutual
def TY (P:Program):Nat→TypeId→CT→Bool
 | 0,_,_=>false
 | n+1,t,c=>match P.underlying t,c with
  | some (.int k),.int k'=>decide (k=k')
  | some .bool,.bool=>true
  | some .string,.str=>true
  | some (.slice e),.sl k=>auW (P.cellsOf e) (ks k)&&aad P n e k
  | _,_=>false
def aad (P:Program):Nat→TypeId→K→Bool
 | 0,_,_=>false
 | n+1,e,k=>match aaF P 16 e with
  | some ts=>C7 P n ts (kct k)
  | none=>false
def C7 (P:Program):Nat→List TypeId→List CT→Bool
 | _,[],[]=>true
 | n+1,t::ts,c::cs=>TY P n t c&&C7 P n ts cs
 | _,_,_=>false
end
def wfI(n:Int):Prop:=(ayX .i64 n).wf=true
def wfY(n:Int):Prop:=(ayX .u8 n).wf=true
def wfS(s:auB):Prop:=s.size≤maxLen
def wfL{α:Type}(p:α→Prop)(l:List α):Prop:=l.length≤maxLen∧ ∀ x∈l,p x
def ac5(n:anz):Prop:=wfI n.fr∧wfI n.nu∧wfI n.to∧wfI n.un∧wfS n.tx
def ahQ(n:Mark):Prop:=wfI n.mf∧wfI n.mn∧wfI n.mu
def aez(n:anA):Prop:=wfI n.nu∧wfS n.da
def ahS(n:anD):Prop:=wfI n.fr∧wfI n.nu∧wfI n.to∧wfI n.un∧wfI n.sz∧wfL aez n.got
def al6(n:anE):Prop:=wfI n.id∧wfI n.ti∧wfI n.nx∧wfL ac5 n.held∧wfL ahQ n.marks∧wfL ac5 n.inbox
def ahR(n:anv):Prop:=wfI n.id∧wfS n.log∧wfI n.fo∧wfL ahS n.anw
def ahP(n:anB):Prop:=wfI n.src∧wfI n.dst∧wfS n.data
def akb(n:Frame):Prop:=wfI n.ki∧wfI n.src∧wfI n.dst∧wfI n.fr∧wfI n.nu∧wfI n.to∧wfI n.un∧wfI n.sz∧wfI n.mix∧wfS n.da
def akc(n:Event):Prop:=wfI n.ki∧wfI n.at_∧wfI n.fr∧wfI n.nu∧wfI n.wo∧wfI n.mix∧wfI n.kp∧wfI n.to∧wfI n.un∧wfS n.tx
def anm(n:LK):Prop:=wfS n.wo∧wfI n.ki∧wfS n.fi
def wfK:(k:K)→Tof k→Prop
 | .int=>wfI
 | .bool=>fun _=>True
 | .u8=>wfY
 | .str=>wfS
 | .note=>ac5
 | .mark=>ahQ
 | .mixed=>aez
 | .half=>ahS
 | .keep=>al6
 | .anx=>ahR
 | .anJ=>ahP
 | .frame=>akb
 | .aoc=>akc
 | .lk=>anm
def am2(w:World):CT→Value→Prop
 | .int k,c=> ∃ n,c= .int k n∧(ayX k n).wf=true
 | .bool,c=> ∃ b,c= .bool b
 | .str,c=> ∃ s,c= .string s∧wfS s
 | .sl k,c=> ∃ xs:List (Tof k),wfL (wfK k) xs∧ ∀ β:Beta,(∀ b,¬ MZ β b)→RC w β (.sl k xs) c
inductive apU (w:World):List CT→List Value→Prop
 | nil:apU w [] []
 | cons {t:CT} {c:Value} {ts:List CT} {cs:List Value} (h:am2 w t c) (hs:apU w ts cs):apU w (t::ts) (c::cs)
section
variable {w:World}
def RL.apj{R:AV→Value→Prop}{c:AV}{v:Value}(h:R c v):RL R [c] [v]:= .cons h .nil
def alm{k:K}{cs:List Value}(h:apU w (kct k) cs): ∃ x:Tof k,wfK k x∧ ∀ β:Beta,(∀ b,¬ MZ β b)→RL (RC w β) (enc k x) cs:=by
 have L: ∀ {β:Beta} {v:Value},v.oneCell'=true→RC w β (.lit v) v:=fun h=> .lit h;cases k with
 | int=>
  obtain⟨⟩ | ⟨⟨a,rfl,ha⟩,h⟩:=h;cases h;exact⟨a,ha,fun β _=> .apj (L rfl)⟩
 | bool=>
  obtain⟨⟩ | ⟨⟨a,rfl⟩,h⟩:=h;cases h;exact⟨a,trivial,fun β _=> .apj (L rfl)⟩
 | u8=>
  obtain⟨⟩ | ⟨⟨a,rfl,ha⟩,h⟩:=h;cases h;exact⟨a,ha,fun β _=> .apj (L rfl)⟩
 | str=>
  obtain⟨⟩ | ⟨⟨a,rfl,ha⟩,h⟩:=h;cases h;exact⟨a,ha,fun β _=> .apj (L rfl)⟩
 | note=>
  obtain⟨⟩ | ⟨⟨a,rfl,ha⟩,h⟩:=h;obtain⟨⟩ | ⟨⟨b,rfl,hb⟩,h⟩:=h;obtain⟨⟩ | ⟨⟨c,rfl,hc⟩,h⟩:=h;obtain⟨⟩ | ⟨⟨d,rfl,hd⟩,h⟩:=h;obtain⟨⟩ | ⟨⟨e,rfl,he⟩,h⟩:=h;cases h;exact⟨(⟨a,b,c,d,e⟩:anz),⟨ha,hb,hc,hd,he⟩,fun β _=> .cons (L rfl) (.cons (L rfl) (.cons (L rfl) (.cons (L rfl) (.apj (L rfl)))))⟩
 | mark=>
  obtain⟨⟩ | ⟨⟨a,rfl,ha⟩,h⟩:=h;obtain⟨⟩ | ⟨⟨b,rfl,hb⟩,h⟩:=h;obtain⟨⟩ | ⟨⟨c,rfl,hc⟩,h⟩:=h;cases h;exact⟨(⟨a,b,c⟩:Mark),⟨ha,hb,hc⟩,fun β _=> .cons (L rfl) (.cons (L rfl) (.apj (L rfl)))⟩
 | mixed=>
  obtain⟨⟩ | ⟨⟨a,rfl,ha⟩,h⟩:=h;obtain⟨⟩ | ⟨⟨b,rfl,hb⟩,h⟩:=h;cases h;exact⟨(⟨a,b⟩:anA),⟨ha,hb⟩,fun β _=> .cons (L rfl) (.apj (L rfl))⟩
 | half=>
  obtain⟨⟩ | ⟨⟨a,rfl,ha⟩,h⟩:=h;obtain⟨⟩ | ⟨⟨b,rfl,hb⟩,h⟩:=h;obtain⟨⟩ | ⟨⟨c,rfl,hc⟩,h⟩:=h;obtain⟨⟩ | ⟨⟨d,rfl,hd⟩,h⟩:=h;obtain⟨⟩ | ⟨⟨e,rfl,he⟩,h⟩:=h;obtain⟨⟩ | ⟨⟨xs,hx,hr⟩,h⟩:=h;cases h;exact⟨(⟨a,b,c,d,e,xs⟩:anD),⟨ha,hb,hc,hd,he,hx⟩,fun β hβ=> .cons (L rfl) (.cons (L rfl) (.cons (L rfl) (.cons (L rfl) (.cons (L rfl) (.apj (hr β hβ))))))⟩
 | keep=>
  obtain⟨⟩ | ⟨⟨a,rfl,ha⟩,h⟩:=h;obtain⟨⟩ | ⟨⟨b,rfl,hb⟩,h⟩:=h;obtain⟨⟩ | ⟨⟨c,rfl,hc⟩,h⟩:=h;obtain⟨⟩ | ⟨⟨xs,hx,hrx⟩,h⟩:=h;obtain⟨⟩ | ⟨⟨ys,hy,hry⟩,h⟩:=h;obtain⟨⟩ | ⟨⟨zs,hz,hrz⟩,h⟩:=h;cases h;exact⟨(⟨a,b,c,xs,ys,zs⟩:anE),⟨ha,hb,hc,hx,hy,hz⟩,fun β hβ=> .cons (L rfl) (.cons (L rfl) (.cons (L rfl) (.cons (hrx β hβ) (.cons (hry β hβ) (.apj (hrz β hβ))))))⟩
 | anx=>
  obtain⟨⟩ | ⟨⟨a,rfl,ha⟩,h⟩:=h;obtain⟨⟩ | ⟨⟨b,rfl⟩,h⟩:=h;obtain⟨⟩ | ⟨⟨c,rfl,hc⟩,h⟩:=h;obtain⟨⟩ | ⟨⟨d,rfl,hd⟩,h⟩:=h;obtain⟨⟩ | ⟨⟨xs,hx,hr⟩,h⟩:=h;cases h;exact⟨(⟨a,b,c,d,xs⟩:anv),⟨ha,hc,hd,hx⟩,fun β hβ=> .cons (L rfl) (.cons (L rfl) (.cons (L rfl) (.cons (L rfl) (.apj (hr β hβ)))))⟩
 | anJ=>
  obtain⟨⟩ | ⟨⟨a,rfl,ha⟩,h⟩:=h;obtain⟨⟩ | ⟨⟨b,rfl,hb⟩,h⟩:=h;obtain⟨⟩ | ⟨⟨c,rfl,hc⟩,h⟩:=h;obtain⟨⟩ | ⟨⟨d,rfl⟩,h⟩:=h;cases h;exact⟨(⟨a,b,c,d⟩:anB),⟨ha,hb,hc⟩,fun β _=> .cons (L rfl) (.cons (L rfl) (.cons (L rfl) (.apj (L rfl))))⟩
 | frame=>
  obtain⟨⟩ | ⟨⟨a,rfl,ha⟩,h⟩:=h;obtain⟨⟩ | ⟨⟨b,rfl,hb⟩,h⟩:=h;obtain⟨⟩ | ⟨⟨c,rfl,hc⟩,h⟩:=h;obtain⟨⟩ | ⟨⟨d,rfl,hd⟩,h⟩:=h;obtain⟨⟩ | ⟨⟨e,rfl,he⟩,h⟩:=h;obtain⟨⟩ | ⟨⟨f,rfl,hf⟩,h⟩:=h;obtain⟨⟩ | ⟨⟨g,rfl,hg⟩,h⟩:=h;obtain⟨⟩ | ⟨⟨i,rfl,hi⟩,h⟩:=h;obtain⟨⟩ | ⟨⟨j,rfl,hj⟩,h⟩:=h;obtain⟨⟩ | ⟨⟨s,rfl,hs⟩,h⟩:=h;cases h;exact⟨(⟨a,b,c,d,e,f,g,i,j,s⟩:Frame),⟨ha,hb,hc,hd,he,hf,hg,hi,hj,hs⟩,fun β _=> .cons (L rfl) (.cons (L rfl) (.cons (L rfl) (.cons (L rfl) (.cons (L rfl) (.cons (L rfl) (.cons (L rfl) (.cons (L rfl) (.cons (L rfl) (.apj (L rfl))))))))))⟩
 | aoc=>
  obtain⟨⟩ | ⟨⟨a,rfl,ha⟩,h⟩:=h;obtain⟨⟩ | ⟨⟨b,rfl,hb⟩,h⟩:=h;obtain⟨⟩ | ⟨⟨c,rfl,hc⟩,h⟩:=h;obtain⟨⟩ | ⟨⟨d,rfl,hd⟩,h⟩:=h;obtain⟨⟩ | ⟨⟨e,rfl,he⟩,h⟩:=h;obtain⟨⟩ | ⟨⟨f,rfl,hf⟩,h⟩:=h;obtain⟨⟩ | ⟨⟨g,rfl,hg⟩,h⟩:=h;obtain⟨⟩ | ⟨⟨i,rfl,hi⟩,h⟩:=h;obtain⟨⟩ | ⟨⟨j,rfl,hj⟩,h⟩:=h;obtain⟨⟩ | ⟨⟨s,rfl,hs⟩,h⟩:=h;cases h;exact⟨(⟨a,b,c,d,e,f,g,i,j,s⟩:Event),⟨ha,hb,hc,hd,he,hf,hg,hi,hj,hs⟩,fun β _=> .cons (L rfl) (.cons (L rfl) (.cons (L rfl) (.cons (L rfl) (.cons (L rfl) (.cons (L rfl) (.cons (L rfl) (.cons (L rfl) (.cons (L rfl) (.apj (L rfl))))))))))⟩
 | lk=>
  obtain⟨⟩ | ⟨⟨a,rfl,ha⟩,h⟩:=h;obtain⟨⟩ | ⟨⟨b,rfl,hb⟩,h⟩:=h;obtain⟨⟩ | ⟨⟨c,rfl,hc⟩,h⟩:=h;cases h;exact⟨(⟨a,b,c⟩:LK),⟨ha,hb,hc⟩,fun β _=> .cons (L rfl) (.cons (L rfl) (.apj (L rfl)))⟩
end
end Go.VS
namespace Go.VS
open Go
section
variable {H:Type} {aow:TypeId×Value→H} {P:Program} {w:World} {base:Nat} {spare:Nat→Bool} {held:Bool}
def Cells(aow:TypeId×Value→H)(P:Program)(w:World)(base:Nat)(spare:Nat→Bool)(held:Bool):List TypeId→List Value→Prop
 | [],[]=>True
 | t::ts,c::cs=>(∃ eR d ps,aww aow P w base spare held eR t [c]=some (d,ps))∧Cells aow P w base spare held ts cs
 | _,_=>False
def Cells.append: ∀ {ts us:List TypeId} {cs ds:List Value},Cells aow P w base spare held ts cs→Cells aow P w base spare held us ds→Cells aow P w base spare held (ts++us) (cs++ds)
 | [],_,[],_,_,h=>h
 | t::ts,_,c::cs,_,h,k=>⟨h.1,Cells.append h.2 k⟩
 | [],_,_::_,_,h,_=>h.elim
 | _::_,_,[],_,h,_=>h.elim
def HK{α β:Type}{f:α→Option β}: ∀ {l:List α} {r:List β},l.mapM f=some r→ ∀ x∈l,∃ y,f x=some y
 | [],_,_,_,hx=>by cases hx
 | a::l,r,h,x,hx=>by
  rw[ayv]at h;obtain⟨y,h1,h⟩:=auI.1 h;obtain⟨ys,h2,h⟩:=auI.1 h;rcases au5.1 hx with rfl | hx
  ·exact⟨y,h1⟩
  ·exact HK h2 x hx
def TD{eR:Nat}{t:TypeId}{k:IntKind}{cs:List Value}{r:DataW H×List MemPlace}(ht:P.underlying t=some (.int k))(h:aww aow P w base spare held eR t cs=some r): ∃ n,cs=[.int k n]∧(ayX k n).wf=true:=by
 cases eR with
 | zero=>cases h
 | succ eR=>
  unfold aww at h;rw[ht]at h;split at h<;>first | (cases h;done) | skip
  all_goals (rename_i heq;cases heq)
  rename_i k' n;split at h
  ·rename_i hc;obtain⟨rfl,hw⟩:=hc;exact⟨_,rfl,hw⟩
  ·cases h
def Qu{eR:Nat}{t:TypeId}{cs:List Value}{r:DataW H×List MemPlace}(ht:P.underlying t=some .bool)(h:aww aow P w base spare held eR t cs=some r): ∃ b,cs=[.bool b]:=by
 cases eR with
 | zero=>cases h
 | succ eR=>
  unfold aww at h;rw[ht]at h;split at h<;>first | (cases h;done) | skip
  all_goals (rename_i heq;cases heq)
  exact⟨_,rfl⟩
def IU{eR:Nat}{t:TypeId}{cs:List Value}{r:DataW H×List MemPlace}(ht:P.underlying t=some .string)(h:aww aow P w base spare held eR t cs=some r): ∃ s,cs=[.string s]∧wfS s:=by
 cases eR with
 | zero=>cases h
 | succ eR=>
  unfold aww at h;rw[ht]at h;split at h<;>first | (cases h;done) | skip
  all_goals (rename_i heq;cases heq)
  split at h
  ·rename_i hc;exact⟨_,rfl,hc⟩
  ·cases h
def LR{eR:Nat}{t e:TypeId}{cs:List Value}{r:DataW H×List MemPlace}(ht:P.underlying t=some (.slice e))(h:aww aow P w base spare held eR t cs=some r):
  cs=[.slice none 0 0]∨ ∃ a len cap,cs=[.slice (some a) len cap]∧len≤cap∧cap≤maxLen∧ ∀ i,i < len→ ∃ es apP r',w.cells? base (a.add (i * P.cellsOf e)) (P.cellsOf e)=some es∧aww aow P w base spare held apP e es=some r':=by
 cases eR with
 | zero=>cases h
 | succ eR=>
  unfold aww at h;rw[ht]at h;split at h<;>first | (cases h;done) | skip
  all_goals (rename_i heq;cases heq)
  ·exact .inl rfl
  ·rename_i a len cap;refine .inr ⟨a,len,cap,rfl, ?_⟩;simp only at h;split at h
   ·rename_i hc;refine⟨hc.2.1,hc.2.2,fun i hi=> ?_⟩;obtain⟨aui,h1,_⟩:=auI.1 h;obtain⟨y,hy⟩:=HK h1 i (avB.2 hi);obtain⟨es,k1,k2⟩:=auI.1 hy;exact⟨es,eR,y,k1,k2⟩
   ·cases h
def W9{eR:Nat}{t:TypeId}{fs:Array Field}{cs:List Value}{r:DataW H×List MemPlace}(ht:P.underlying t=some (.struct fs))(h:aww aow P w base spare held eR t cs=some r):
  cs.length=P.cellsOf t∧ ∀ f∈fs.toList,∃ apP r',aww aow P w base spare held apP f.type ((cs.drop f.offset).take (P.cellsOf f.type))=some r':=by
 cases eR with
 | zero=>cases h
 | succ eR=>
  simp only[aww,ht]at h;split at h
  ·rename_i hc;obtain⟨xs,h1,_⟩:=avc.1 h;refine⟨hc,fun f hf=> ?_⟩;obtain⟨y,hy⟩:=HK h1 f hf;exact⟨eR,y,hy⟩
  ·cases h
mutual
theorem QL: ∀ (n:Nat) (t:TypeId) {ts:List TypeId} {eR:Nat} {cs:List Value} {r:DataW H×List MemPlace},aaF P n t=some ts→aww aow P w base spare held eR t cs=some r→Cells aow P w base spare held ts cs
 | 0,_,_,_,_,_,h,_=>by cases h
 | n+1,t,ts,eR,cs,r,h,hr=>by
  unfold aaF at h;split at h
  ·rename_i fs ht;obtain⟨us,h1,h⟩:=auI.1 h;split at h
   case h_2=>cases h
   rename_i hl;cases h;obtain⟨k1,k2⟩:=W9 ht hr;have hl:=aI hl;have:=M7 n 0 fs.toList h1 (cs:=cs) (by simp[k1,hl]) (fun f hf=>k2 f hf);simpa using this
  ·rename_i k ht;cases h;obtain⟨x,rfl,_⟩:=TD ht hr;exact⟨⟨_,r.1,r.2,hr⟩,trivial⟩
  ·rename_i ht;cases h;obtain⟨x,rfl⟩:=Qu ht hr;exact⟨⟨_,r.1,r.2,hr⟩,trivial⟩
  ·rename_i ht;cases h;obtain⟨x,rfl,_⟩:=IU ht hr;exact⟨⟨_,r.1,r.2,hr⟩,trivial⟩
  ·rename_i e ht;cases h;rcases LR ht hr with rfl | ⟨a,len,cap,rfl,_⟩
   ·exact⟨⟨_,r.1,r.2,hr⟩,trivial⟩
   ·exact⟨⟨_,r.1,r.2,hr⟩,trivial⟩
  ·cases h
theorem M7: ∀ (n o:Nat) (fs:List Field) {ts:List TypeId} {cs:List Value},aaG P n o fs=some ts→cs.length=o+ts.length→(∀ f∈fs,∃ eR r,aww aow P w base spare held eR f.type ((cs.drop f.offset).take (P.cellsOf f.type))=some r)→
  Cells aow P w base spare held ts (cs.drop o)
 | n,o,[],ts,cs,h,hl,_=>by
  have h:some []=some ts:=by cases n<;>exact h
  cases h;have:cs.drop o=[]:=awE (by simp at hl;omega);rw[this];trivial
 | 0,_,_::_,_,_,h,_,_=>by cases h
 | n+1,o,f::fs,ts,cs,h,hl,hf=>by
  unfold aaG at h;obtain⟨us,h1,h⟩:=auI.1 h;split at h
  case h_2=>cases h
  rename_i hc;simp only[auF]at hc;obtain⟨vs,h2,h⟩:=auI.1 h;cases h;obtain⟨eR,r,hr⟩:=hf f auM;rw[aI hc.1,aI hc.2]at hr;have k1:=QL n f.type h1 hr;have k2:=M7 n (o+us.length) fs h2 (cs:=cs) (by simp at hl ⊢; omega) (fun g hg=>hf g (auJ _ hg));have e:cs.drop o=(cs.drop o).take us.length++cs.drop (o+us.length):=by
   rw[← aw9];exact(awJ _ _).symm
  rw[e];exact k1.append k2
end
def ac0(b f n:Nat):(⟨b,f,none⟩:Addr).add n=⟨b,f+n,none⟩:=by
 unfold Addr.add;split
 ·rename_i h;subst h;rfl
 ·rfl
def ajR{b f n:Nat}{es:List Value}(h:w.cells? base ⟨b,f,none⟩ n=some es):es.length=n∧ ∀ j,j < n→w.cell? ⟨b,f+j,none⟩=some (es.getD j undef):=by
 unfold World.cells? at h;split at h
 case isFalse=>cases h
 have gen: ∀ (l:List Nat) {es:List Value},l.mapM (fun i=>w.cell? ((⟨b,f,none⟩:Addr).add i))=some es→es.length=l.length∧ ∀ j x,l[j]? =some x→w.cell? ⟨b,f+x,none⟩=some (es.getD j undef):=by
  intro l
  induction l with
  | nil=>intro es h;cases h;exact⟨rfl,fun j x hx=>by simp at hx⟩
  | cons a l ih=>
   intro es h;rw[ayv]at h;obtain⟨y,h1,h⟩:=auI.1 h;obtain⟨ys,h2,h⟩:=auI.1 h;cases h;obtain⟨k1,k2⟩:=ih h2;refine⟨by simp[k1],fun j x hx=> ?_⟩;cases j with
   | zero=>
    simp at hx;subst hx;rw[ac0]at h1;simpa using h1
   | succ j=>simpa using k2 j x (by simpa using hx)
 obtain⟨k1,k2⟩:=gen _ h;exact⟨by simpa using k1,fun j hj=>k2 j j (by simp[hj])⟩
mutual
theorem Zv: ∀ (n:Nat) (t:TypeId) (c:CT) {v:Value},TY P n t c=true→(∃ eR d ps,aww aow P w base spare held eR t [v]=some (d,ps))→am2 w c v
 | 0,_,_,_,h,_=>by simp[TY]at h
 | n+1,t,c,v,h,⟨eR,d,ps,hr⟩=>by
  unfold TY at h;split at h
  ·rename_i k k' ht;simp at h;subst h;obtain⟨x,e,hw⟩:=TD ht hr;cases e;exact⟨x,rfl,hw⟩
  ·rename_i ht;obtain⟨x,e⟩:=Qu ht hr;cases e;exact⟨x,rfl⟩
  ·rename_i ht;obtain⟨x,e,hw⟩:=IU ht hr;cases e;exact⟨x,rfl,hw⟩
  ·rename_i e k ht;simp only[auF]at h;have hsz:=aI h.1;rcases LR ht hr with e | ⟨a,len,cap,e,hlc,hcm,hel⟩
   ·cases e;exact⟨[],⟨avM _,by simp⟩,fun β _=> .nil⟩
   ·cases e;rw[hsz]at hel;have hch: ∀ i:Nat,∃ p:Tof k×List Value,i < len→wfK k p.1∧w.cells? base (a.add (i * ks k)) (ks k)=some p.2∧ ∀ β:Beta,(∀ b,¬ MZ β b)→RL (RC w β) (enc k p.1) p.2:=by
     intro i;by_cases hi:i < len
     ·obtain⟨es,apP,r',k1,k2⟩:=hel i hi;obtain⟨x,k3,k4⟩:=ahb n _ k h.2 (eR:=apP) (r:=r') k2;exact⟨(x,es),fun _=>⟨k3,k1,k4⟩⟩
     ·exact⟨(dfl k,[]),fun h=>absurd h hi⟩
    obtain⟨X,hX⟩:=Classical.axiomOfChoice hch;refine⟨(au9 len).map fun i=>(X i).1,⟨by simp;omega,fun x hx=> ?_⟩,fun β hβ=> ?_⟩
    ·obtain⟨i,hi,rfl⟩:=avH.1 hx;exact(hX i (avB.1 hi)).1
    ·cases len with
     | zero=>exact .nil
     | succ len=>
      obtain⟨b,f,sp⟩:=a;have h0:=(hX 0 (by omega)).2.1;have hsp:sp=none:=by
       rw[azl]at h0;unfold World.cells? at h0;split at h0
       case isFalse=>cases h0
       obtain⟨y,hy⟩:=HK h0 0 (avB.2 (qk k));unfold ayw at hy;split at hy
       ·split at hy
        ·cases hy
        ·rename_i hn;cases sp with
         | none=>rfl
         | some x=>exact absurd rfl hn
       ·cases hy
      subst hsp;have anR: ∀ i j,i < len+1→j < ks k→w.cell? ⟨b,f+(i * ks k+j),none⟩=some ((X i).2.getD j undef):=fun i j hi hj=>by
       have h1:=(hX i hi).2.1;rw[ac0]at h1;have:=(ajR h1).2 j hj;rw[← avI];exact this
      refine .sl (fun i j=>(X i).2.getD j undef) ⟨by simp,hlc⟩ (hβ b) (fun i j hi hj=>anR i j (by simpa using hi) hj) (fun i x j c hx hc=> ?_);have hi:i < len+1:=by have:=(auR.1 hx).1;simpa using this
      have hx':x=(X i).1:=by
       rw[avz,av3 hi]at hx;exact(avD hx).symm
      subst hx';have hj:j < ks k:=by rw[← bG k (X i).1];exact(auR.1 hc).1
      have hR:=(hX i hi).2.2 β hβ;have hlen:(X i).2.length=ks k:=by rw[hR.1,bG]
      exact hR.2 j c _ hc (by simp[hlen,hj])
  ·cases h
theorem ahb: ∀ (n:Nat) (e:TypeId) (k:K) {eR:Nat} {cs:List Value} {r:DataW H×List MemPlace},aad P n e k=true→aww aow P w base spare held eR e cs=some r→ ∃ x:Tof k,wfK k x∧ ∀ β:Beta,(∀ b,¬ MZ β b)→RL (RC w β) (enc k x) cs
 | 0,_,_,_,_,_,h,_=>by simp[aad]at h
 | n+1,e,k,eR,cs,r,h,hr=>by
  unfold aad at h;split at h
  ·rename_i ts hts;exact alm (QP n ts (kct k) h (QL 16 e hts hr))
  ·cases h
theorem QP: ∀ (n:Nat) (ts:List TypeId) (ks:List CT) {cs:List Value},C7 P n ts ks=true→Cells aow P w base spare held ts cs→apU w ks cs
 | n,[],[],[],_,_=> .nil
 | n,[],[],_::_,_,h=>h.elim
 | n+1,t::ts,c::ks,v::cs,h,hc=>by
  simp only[C7,auF]at h;exact .cons (Zv n t c h.1 hc.1) (QP n ts ks h.2 hc.2)
 | 0,_::_,_,_,h,_=>by simp[C7]at h
 | n+1,_::_,[],_,h,_=>by simp[C7]at h
 | n,[],_::_,_,h,_=>by cases n<;>simp[C7]at h
 | n+1,_::_,_::_,[],_,hc=>hc.elim
end
end
end Go.VS
end
