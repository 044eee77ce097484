/- Part 10. -/
import Derived.ChangeShapes
import Derived.Test.YtgjljlpdfceilaaGreatDoorQAI
open Bool renaming and_eq_true->AG,false->A3,true->U
open Decidable renaming decide->A1
open Go.DataW renaming trod->HB
open Go.Lit renaming int->Nu
open Go.World renaming cell?->Mu
open List renaming drop_drop->J5,drop_eq_nil_of_le->Mq,getElem?_eq_some_iff->BP,getElem?_map->DK,getElem?_range->H7,mapM_cons->Uq,mem_cons->Bo,mem_cons_of_mem->An,mem_cons_self->Av,mem_map->C3,mem_range->D6,range->BB,take_append_drop->JA
open Nat renaming add_assoc->DI,beq->Al,zero_le->D7,zero_mul->V0
open Option renaming bind_eq_some_iff->Am,map_eq_some_iff->DJ,none->A0,some->I
open Option.some renaming inj->Cn
set_option linter.all false
noncomputable section
namespace Go.VS
open Go
inductive CT where
 | int (k:IntKind)
 | bool
 | str
 | sl (k:K)
def kct:K->List CT
 | .int=>[.int .i64]
 | .bool=>[.bool]
 | .u8=>[.int .u8]
 | .str=>[.str]
 | .note=>[.int .i64,.int .i64,.int .i64,.int .i64,.str]
 | .mark=>[.int .i64,.int .i64,.int .i64]
 | .mixed=>[.int .i64,.str]
 | .half=>[.int .i64,.int .i64,.int .i64,.int .i64,.int .i64,.sl .mixed]
 | .keep=>[.int .i64,.int .i64,.int .i64,.sl .note,.sl .mark,.sl .note]
 | .AN=>[.int .i64,.bool,.str,.int .i64,.sl .half]
 | .Ak=>[.int .i64,.int .i64,.str,.bool]
 | .frame=>[.int .i64,.int .i64,.int .i64,.int .i64,.int .i64,.int .i64,.int .i64,.int .i64,.int .i64,.str]
 | .CO=>[.int .i64,.int .i64,.int .i64,.int .i64,.int .i64,.int .i64,.int .i64,.int .i64,.int .i64,.str]
 | .lk=>[.str,.int .i64,.str]
mutual
def cN (P:Program):Nat->TypeId->Option (List TypeId)
 | 0,_=>A0
 | n+1,t=>match P.underlying t with
  | some (.struct fs)=>(cO P n 0 fs.toList).bind λts=>match Al ts.length (P.cellsOf t) with
   | true=>I ts
   | false=>A0
  | some (.int _)=>I [t]
  | some .bool=>I [t]
  | some .string=>I [t]
  | some (.slice _)=>I [t]
  | _=>A0
def cO (P:Program):Nat->Nat->List Field->Option (List TypeId)
 | _,_,[]=>I []
 | 0,_,_::_=>A0
 | n+1,o,f::fs=>(cN P n f.type).bind λts=>match Al f.offset o&&Al (P.cellsOf f.type) ts.length with
  | true=>(cO P n (o+ts.length) fs).bind λus=>I<|ts++us
  | false=>A0
end
mutual
def VB (P:Program):Nat->TypeId->CT->Bool
 | 0,_,_=>A3
 | n+1,t,c=>match P.underlying t,c with
  | some (.int k),.int k'=>A1 (k=k')
  | some .bool,.bool=>U
  | some .string,.str=>U
  | some (.slice e),.sl k=>Al (P.cellsOf e) (ks k)&&c9 P n e k
  | _,_=>A3
def c9 (P:Program):Nat->TypeId->K->Bool
 | 0,_,_=>A3
 | n+1,e,k=>match cN P 16 e with
  | some ts=>PC P n ts (kct k)
  | none=>A3
def PC (P:Program):Nat->List TypeId->List CT->Bool
 | _,[],[]=>U
 | n+1,t::ts,c::cs=>VB P n t c&&PC P n ts cs
 | _,_,_=>A3
end
def wfI(n:Int):Prop:=(Nu .i64 n).wf=U
def wfY(n:Int):Prop:=(Nu .u8 n).wf=U
def wfS(s:A4):Prop:=s.size<=maxLen
def wfL{α:Type}(p:α->Prop)(l:List α):Prop:=l.length<=maxLen/\ ∀x∈l,p x
def rH(n:A6):Prop:=wfI n.fr/\wfI n.nu/\wfI n.to/\wfI n.un/\wfS n.tx
def aaL(n:Mark):Prop:=wfI n.mf/\wfI n.mn/\wfI n.mu
def aIv(n:AX):Prop:=wfI n.nu/\wfS n.da
def aaM(n:AJ):Prop:=wfI n.fr/\wfI n.nu/\wfI n.to/\wfI n.un/\wfI n.sz/\wfL aIv n.got
def aye(n:AH):Prop:=wfI n.id/\wfI n.ti/\wfI n.nx/\wfL rH n.held/\wfL aaL n.marks/\wfL rH n.inbox
def atr(n:AA):Prop:=wfI n.id/\wfS n.log/\wfI n.fo/\wfL aaM n.AM
def atq(n:AO):Prop:=wfI n.src/\wfI n.dst/\wfS n.data
def aw9(n:Frame):Prop:=wfI n.ki/\wfI n.src/\wfI n.dst/\wfI n.fr/\wfI n.nu/\wfI n.to/\wfI n.un/\wfI n.sz/\wfI n.mix/\wfS n.da
def awA(n:Event):Prop:=wfI n.ki/\wfI n.at_/\wfI n.fr/\wfI n.nu/\wfI n.wo/\wfI n.mix/\wfI n.kp/\wfI n.to/\wfI n.un/\wfS n.tx
def az3(n:LK):Prop:=wfS n.wo/\wfI n.ki/\wfS n.fi
def wfK:(k:K)->Tof k->Prop
 | .int=>wfI
 | .bool=>λ_=>True
 | .u8=>wfY
 | .str=>wfS
 | .note=>rH
 | .mark=>aaL
 | .mixed=>aIv
 | .half=>aaM
 | .keep=>aye
 | .AN=>atr
 | .Ak=>atq
 | .frame=>aw9
 | .CO=>awA
 | .lk=>az3
def sC(w:World):CT->Value->Prop
 | .int k,c=>∃n,c= .int k n/\(Nu k n).wf=U
 | .bool,c=>∃b,c= .bool b
 | .str,c=>∃s,c= .string s/\wfS s
 | .sl k,c=>∃xs:List (Tof k),wfL (wfK k) xs/\ ∀β:Beta,(∀b,¬MZ β b)->RC w β (.sl k xs) c
inductive Vj (w:World):List CT->List Value->Prop
 | nil:Vj w [] []
 | cons {t:CT} {c:Value} {ts:List CT} {cs:List Value} (h:sC w t c) (hs:Vj w ts cs):Vj w (t::ts) (c::cs)
section
variable {w:World}
def RL.Ih{R:AV->Value->Prop}{c:AV}{v:Value}(h:R c v):RL R [c] [v]:= .cons h .nil
def axw{k:K}{cs:List Value}(h:Vj w (kct k) cs):∃x:Tof k,wfK k x/\ ∀β:Beta,(∀b,¬MZ β b)->RL (RC w β) (enc k x) cs:=by
 have L:∀ {β:Beta} {v:Value},v.oneCell'=U->RC w β (.lit v) v:=λh=> .lit h;cases k with
 | int=>
  obtain⟨⟩|⟨⟨a,rfl,ha⟩,h⟩:=h;cases h;exact⟨a,ha,λβ _=> .Ih<|L rfl⟩
 | bool=>
  obtain⟨⟩|⟨⟨a,rfl⟩,h⟩:=h;cases h;exact⟨a,trivial,λβ _=> .Ih<|L rfl⟩
 | u8=>
  obtain⟨⟩|⟨⟨a,rfl,ha⟩,h⟩:=h;cases h;exact⟨a,ha,λβ _=> .Ih<|L rfl⟩
 | str=>
  obtain⟨⟩|⟨⟨a,rfl,ha⟩,h⟩:=h;cases h;exact⟨a,ha,λβ _=> .Ih<|L rfl⟩
 | note=>
  obtain⟨⟩|⟨⟨a,rfl,ha⟩,h⟩:=h;obtain⟨⟩|⟨⟨b,rfl,hb⟩,h⟩:=h;obtain⟨⟩|⟨⟨c,rfl,hc⟩,h⟩:=h;obtain⟨⟩|⟨⟨d,rfl,hd⟩,h⟩:=h;obtain⟨⟩|⟨⟨e,rfl,he⟩,h⟩:=h;cases h;exact⟨(⟨a,b,c,d,e⟩:A6),⟨ha,hb,hc,hd,he⟩,λβ _=> .cons (L rfl)<|.cons (L rfl)<|.cons (L rfl)<|.cons (L rfl)<|.Ih<|L rfl⟩
 | mark=>
  obtain⟨⟩|⟨⟨a,rfl,ha⟩,h⟩:=h;obtain⟨⟩|⟨⟨b,rfl,hb⟩,h⟩:=h;obtain⟨⟩|⟨⟨c,rfl,hc⟩,h⟩:=h;cases h;exact⟨(⟨a,b,c⟩:Mark),⟨ha,hb,hc⟩,λβ _=> .cons (L rfl)<|.cons (L rfl)<|.Ih<|L rfl⟩
 | mixed=>
  obtain⟨⟩|⟨⟨a,rfl,ha⟩,h⟩:=h;obtain⟨⟩|⟨⟨b,rfl,hb⟩,h⟩:=h;cases h;exact⟨(⟨a,b⟩:AX),⟨ha,hb⟩,λβ _=> .cons (L rfl)<|.Ih<|L rfl⟩
 | half=>
  obtain⟨⟩|⟨⟨a,rfl,ha⟩,h⟩:=h;obtain⟨⟩|⟨⟨b,rfl,hb⟩,h⟩:=h;obtain⟨⟩|⟨⟨c,rfl,hc⟩,h⟩:=h;obtain⟨⟩|⟨⟨d,rfl,hd⟩,h⟩:=h;obtain⟨⟩|⟨⟨e,rfl,he⟩,h⟩:=h;obtain⟨⟩|⟨⟨xs,hx,hr⟩,h⟩:=h;cases h;exact⟨(⟨a,b,c,d,e,xs⟩:AJ),⟨ha,hb,hc,hd,he,hx⟩,λβ hβ=> .cons (L rfl)<|.cons (L rfl)<|.cons (L rfl)<|.cons (L rfl)<|.cons (L rfl)<|.Ih<|hr β hβ⟩
 | keep=>
  obtain⟨⟩|⟨⟨a,rfl,ha⟩,h⟩:=h;obtain⟨⟩|⟨⟨b,rfl,hb⟩,h⟩:=h;obtain⟨⟩|⟨⟨c,rfl,hc⟩,h⟩:=h;obtain⟨⟩|⟨⟨xs,hx,hrx⟩,h⟩:=h;obtain⟨⟩|⟨⟨ys,hy,hry⟩,h⟩:=h;obtain⟨⟩|⟨⟨zs,hz,hrz⟩,h⟩:=h;cases h;exact⟨(⟨a,b,c,xs,ys,zs⟩:AH),⟨ha,hb,hc,hx,hy,hz⟩,λβ hβ=> .cons (L rfl)<|.cons (L rfl)<|.cons (L rfl)<|.cons (hrx β hβ)<|.cons (hry β hβ)<|.Ih<|hrz β hβ⟩
 | AN=>
  obtain⟨⟩|⟨⟨a,rfl,ha⟩,h⟩:=h;obtain⟨⟩|⟨⟨b,rfl⟩,h⟩:=h;obtain⟨⟩|⟨⟨c,rfl,hc⟩,h⟩:=h;obtain⟨⟩|⟨⟨d,rfl,hd⟩,h⟩:=h;obtain⟨⟩|⟨⟨xs,hx,hr⟩,h⟩:=h;cases h;exact⟨(⟨a,b,c,d,xs⟩:AA),⟨ha,hc,hd,hx⟩,λβ hβ=> .cons (L rfl)<|.cons (L rfl)<|.cons (L rfl)<|.cons (L rfl)<|.Ih<|hr β hβ⟩
 | Ak=>
  obtain⟨⟩|⟨⟨a,rfl,ha⟩,h⟩:=h;obtain⟨⟩|⟨⟨b,rfl,hb⟩,h⟩:=h;obtain⟨⟩|⟨⟨c,rfl,hc⟩,h⟩:=h;obtain⟨⟩|⟨⟨d,rfl⟩,h⟩:=h;cases h;exact⟨(⟨a,b,c,d⟩:AO),⟨ha,hb,hc⟩,λβ _=> .cons (L rfl)<|.cons (L rfl)<|.cons (L rfl)<|.Ih<|L rfl⟩
 | frame=>
  obtain⟨⟩|⟨⟨a,rfl,ha⟩,h⟩:=h;obtain⟨⟩|⟨⟨b,rfl,hb⟩,h⟩:=h;obtain⟨⟩|⟨⟨c,rfl,hc⟩,h⟩:=h;obtain⟨⟩|⟨⟨d,rfl,hd⟩,h⟩:=h;obtain⟨⟩|⟨⟨e,rfl,he⟩,h⟩:=h;obtain⟨⟩|⟨⟨f,rfl,hf⟩,h⟩:=h;obtain⟨⟩|⟨⟨g,rfl,hg⟩,h⟩:=h;obtain⟨⟩|⟨⟨i,rfl,hi⟩,h⟩:=h;obtain⟨⟩|⟨⟨j,rfl,hj⟩,h⟩:=h;obtain⟨⟩|⟨⟨s,rfl,hs⟩,h⟩:=h;cases h;exact⟨(⟨a,b,c,d,e,f,g,i,j,s⟩:Frame),⟨ha,hb,hc,hd,he,hf,hg,hi,hj,hs⟩,λβ _=> .cons (L rfl)<|.cons (L rfl)<|.cons (L rfl)<|.cons (L rfl)<|.cons (L rfl)<|.cons (L rfl)<|.cons (L rfl)<|.cons (L rfl)<|.cons (L rfl)<|.Ih<|L rfl⟩
 | CO=>
  obtain⟨⟩|⟨⟨a,rfl,ha⟩,h⟩:=h;obtain⟨⟩|⟨⟨b,rfl,hb⟩,h⟩:=h;obtain⟨⟩|⟨⟨c,rfl,hc⟩,h⟩:=h;obtain⟨⟩|⟨⟨d,rfl,hd⟩,h⟩:=h;obtain⟨⟩|⟨⟨e,rfl,he⟩,h⟩:=h;obtain⟨⟩|⟨⟨f,rfl,hf⟩,h⟩:=h;obtain⟨⟩|⟨⟨g,rfl,hg⟩,h⟩:=h;obtain⟨⟩|⟨⟨i,rfl,hi⟩,h⟩:=h;obtain⟨⟩|⟨⟨j,rfl,hj⟩,h⟩:=h;obtain⟨⟩|⟨⟨s,rfl,hs⟩,h⟩:=h;cases h;exact⟨(⟨a,b,c,d,e,f,g,i,j,s⟩:Event),⟨ha,hb,hc,hd,he,hf,hg,hi,hj,hs⟩,λβ _=> .cons (L rfl)<|.cons (L rfl)<|.cons (L rfl)<|.cons (L rfl)<|.cons (L rfl)<|.cons (L rfl)<|.cons (L rfl)<|.cons (L rfl)<|.cons (L rfl)<|.Ih<|L rfl⟩
 | lk=>
  obtain⟨⟩|⟨⟨a,rfl,ha⟩,h⟩:=h;obtain⟨⟩|⟨⟨b,rfl,hb⟩,h⟩:=h;obtain⟨⟩|⟨⟨c,rfl,hc⟩,h⟩:=h;cases h;exact⟨(⟨a,b,c⟩:LK),⟨ha,hb,hc⟩,λβ _=> .cons (L rfl)<|.cons (L rfl)<|.Ih<|L rfl⟩
end
end Go.VS
namespace Go.VS
open Go
section
variable {H:Type} {Ez:TypeId×Value->H} {P:Program} {w:World} {base:Nat} {spare:Nat->Bool} {held:Bool}
def Cells(Ez:TypeId×Value->H)(P:Program)(w:World)(base:Nat)(spare:Nat->Bool)(held:Bool):List TypeId->List Value->Prop
 | [],[]=>True
 | t::ts,c::cs=>(∃Bm d ps,HB Ez P w base spare held Bm t [c]=I (d,ps))/\Cells Ez P w base spare held ts cs
 | _,_=>False
def Cells.append:∀ {ts us:List TypeId} {cs ds:List Value},Cells Ez P w base spare held ts cs->Cells Ez P w base spare held us ds->Cells Ez P w base spare held (ts++us) (cs++ds)
 | [],_,[],_,_,h=>h
 | t::ts,_,c::cs,_,h,k=>⟨h.1,Cells.append h.2 k⟩
 | [],_,_::_,_,h,_=>h.elim
 | _::_,_,[],_,h,_=>h.elim
def ZK{α β:Type}{f:α->Option β}:∀ {l:List α} {r:List β},l.mapM f=I r->∀x∈l,∃y,f x=I y
 | [],_,_,_,hx=>by cases hx
 | a::l,r,h,x,hx=>by
  rw[Uq]at h;obtain⟨y,h1,h⟩:=Am.1 h;obtain⟨ys,h2,h⟩:=Am.1 h;rcases Bo.1 hx with rfl|hx
  .exact⟨y,h1⟩
  .exact ZK h2 x hx
def aFb{Bm:Nat}{t:TypeId}{k:IntKind}{cs:List Value}{r:DataW H×List MemPlace}(ht:P.underlying t=I (.int k))(h:HB Ez P w base spare held Bm t cs=I r):∃n,cs=[.int k n]/\(Nu k n).wf=U:=by
 cases Bm with
 | zero=>cases h
 | succ Bm=>
  unfold HB at h;rw[ht]at h;split at h<;>first|(cases h;done)|skip
  all_goals (rename_i heq;cases heq)
  rename_i k' n;split at h
  .rename_i hc;obtain⟨rfl,hw⟩:=hc;exact⟨_,rfl,hw⟩
  .cases h
def aE1{Bm:Nat}{t:TypeId}{cs:List Value}{r:DataW H×List MemPlace}(ht:P.underlying t=I .bool)(h:HB Ez P w base spare held Bm t cs=I r):∃b,cs=[.bool b]:=by
 cases Bm with
 | zero=>cases h
 | succ Bm=>
  unfold HB at h;rw[ht]at h;split at h<;>first|(cases h;done)|skip
  all_goals (rename_i heq;cases heq)
  exact⟨_,rfl⟩
def aD8{Bm:Nat}{t:TypeId}{cs:List Value}{r:DataW H×List MemPlace}(ht:P.underlying t=I .string)(h:HB Ez P w base spare held Bm t cs=I r):∃s,cs=[.string s]/\wfS s:=by
 cases Bm with
 | zero=>cases h
 | succ Bm=>
  unfold HB at h;rw[ht]at h;split at h<;>first|(cases h;done)|skip
  all_goals (rename_i heq;cases heq)
  split at h
  .rename_i hc;exact⟨_,rfl,hc⟩
  .cases h
def aDZ{Bm:Nat}{t e:TypeId}{cs:List Value}{r:DataW H×List MemPlace}(ht:P.underlying t=I (.slice e))(h:HB Ez P w base spare held Bm t cs=I r):
  cs=[.slice A0 0 0]\/ ∃a len cap,cs=[.slice (I a) len cap]/\len<=cap/\cap<=maxLen/\ ∀i,i<len->∃es Vg r',w.cells? base (a.add<|i * P.cellsOf e) (P.cellsOf e)=I es/\HB Ez P w base spare held Vg e es=I r':=by
 cases Bm with
 | zero=>cases h
 | succ Bm=>
  unfold HB at h;rw[ht]at h;split at h<;>first|(cases h;done)|skip
  all_goals (rename_i heq;cases heq)
  .exact .inl rfl
  .rename_i a len cap;refine .inr ⟨a,len,cap,rfl, ?_⟩;simp only at h;split at h
   .rename_i hc;refine⟨hc.2.1,hc.2.2,λi hi=> ?_⟩;obtain⟨azt,h1,_⟩:=Am.1 h;obtain⟨y,hy⟩:=ZK h1 i<|D6.2 hi;obtain⟨es,k1,k2⟩:=Am.1 hy;exact⟨es,Bm,y,k1,k2⟩
   .cases h
def apP{Bm:Nat}{t:TypeId}{fs:Array Field}{cs:List Value}{r:DataW H×List MemPlace}(ht:P.underlying t=I (.struct fs))(h:HB Ez P w base spare held Bm t cs=I r):
  cs.length=P.cellsOf t/\ ∀f∈fs.toList,∃Vg r',HB Ez P w base spare held Vg f.type ((cs.drop f.offset).take<|P.cellsOf f.type)=I r':=by
 cases Bm with
 | zero=>cases h
 | succ Bm=>
  simp only[HB,ht]at h;split at h
  .rename_i hc;obtain⟨xs,h1,_⟩:=DJ.1 h;refine⟨hc,λf hf=> ?_⟩;obtain⟨y,hy⟩:=ZK h1 f hf;exact⟨Bm,y,hy⟩
  .cases h
mutual
theorem aEB:∀(n:Nat) (t:TypeId) {ts:List TypeId} {Bm:Nat} {cs:List Value} {r:DataW H×List MemPlace},cN P n t=I ts->HB Ez P w base spare held Bm t cs=I r->Cells Ez P w base spare held ts cs
 | 0,_,_,_,_,_,h,_=>by cases h
 | n+1,t,ts,Bm,cs,r,h,hr=>by
  unfold cN at h;split at h
  .rename_i fs ht;obtain⟨us,h1,h⟩:=Am.1 h;split at h
   case h_2=>cases h
   rename_i hl;cases h;obtain⟨k1,k2⟩:=apP ht hr;have hl:=Bq hl;have:=aDj n 0 fs.toList h1 (cs:=cs) (by simp[k1,hl]) (λf hf=>k2 f hf);simpa using this
  .rename_i k ht;cases h;obtain⟨x,rfl,_⟩:=aFb ht hr;exact⟨⟨_,r.1,r.2,hr⟩,trivial⟩
  .rename_i ht;cases h;obtain⟨x,rfl⟩:=aE1 ht hr;exact⟨⟨_,r.1,r.2,hr⟩,trivial⟩
  .rename_i ht;cases h;obtain⟨x,rfl,_⟩:=aD8 ht hr;exact⟨⟨_,r.1,r.2,hr⟩,trivial⟩
  .rename_i e ht;cases h;rcases aDZ ht hr with rfl|⟨a,len,cap,rfl,_⟩
   .exact⟨⟨_,r.1,r.2,hr⟩,trivial⟩
   .exact⟨⟨_,r.1,r.2,hr⟩,trivial⟩
  .cases h
theorem aDj:∀(n o:Nat) (fs:List Field) {ts:List TypeId} {cs:List Value},cO P n o fs=I ts->cs.length=o+ts.length->(∀f∈fs,∃Bm r,HB Ez P w base spare held Bm f.type ((cs.drop f.offset).take<|P.cellsOf f.type)=I r)->
  Cells Ez P w base spare held ts (cs.drop o)
 | n,o,[],ts,cs,h,hl,_=>by
  have h:I []=I ts:=by cases n<;>exact h
  cases h;have:cs.drop o=[]:=Mq (by simp at hl;omega);rw[this];trivial
 | 0,_,_::_,_,_,h,_,_=>by cases h
 | n+1,o,f::fs,ts,cs,h,hl,hf=>by
  unfold cO at h;obtain⟨us,h1,h⟩:=Am.1 h;split at h
  case h_2=>cases h
  rename_i hc;simp only[AG]at hc;obtain⟨vs,h2,h⟩:=Am.1 h;cases h;obtain⟨Bm,r,hr⟩:=hf f Av;rw[Bq hc.1,Bq hc.2]at hr;have k1:=aEB n f.type h1 hr;have k2:=aDj n (o+us.length) fs h2 (cs:=cs) (by simp at hl ⊢; omega) (λg hg=>hf g<|An _ hg);have e:cs.drop o=(cs.drop o).take us.length++cs.drop (o+us.length):=by
   rw[← J5];exact(JA _ _).symm
  rw[e];exact k1.append k2
end
def aIU(b f n:Nat):(⟨b,f,A0⟩:Addr).add n=⟨b,f+n,A0⟩:=by
 unfold Addr.add;split
 .rename_i h;subst h;rfl
 .rfl
def awJ{b f n:Nat}{es:List Value}(h:w.cells? base ⟨b,f,A0⟩ n=I es):es.length=n/\ ∀j,j<n->w.cell? ⟨b,f+j,A0⟩=I (es.getD j undef):=by
 unfold World.cells? at h;split at h
 case isFalse=>cases h
 have gen:∀(l:List Nat) {es:List Value},l.mapM (λi=>w.cell?<|(⟨b,f,A0⟩:Addr).add i)=I es->es.length=l.length/\ ∀j x,l[j]? =I x->w.cell? ⟨b,f+x,A0⟩=I (es.getD j undef):=by
  intro l
  induction l with
  | nil=>intro es h;cases h;exact⟨rfl,λj x hx=>by simp at hx⟩
  | cons a l ih=>
   intro es h;rw[Uq]at h;obtain⟨y,h1,h⟩:=Am.1 h;obtain⟨ys,h2,h⟩:=Am.1 h;cases h;obtain⟨k1,k2⟩:=ih h2;refine⟨by simp[k1],λj x hx=> ?_⟩;cases j with
   | zero=>
    simp at hx;subst hx;rw[aIU]at h1;simpa using h1
   | succ j=>simpa using k2 j x<|by simpa using hx
 obtain⟨k1,k2⟩:=gen _ h;exact⟨by simpa using k1,λj hj=>k2 j j<|by simp[hj]⟩
mutual
theorem aGM:∀(n:Nat) (t:TypeId) (c:CT) {v:Value},VB P n t c=U->(∃Bm d ps,HB Ez P w base spare held Bm t [v]=I (d,ps))->sC w c v
 | 0,_,_,_,h,_=>by simp[VB]at h
 | n+1,t,c,v,h,⟨Bm,d,ps,hr⟩=>by
  unfold VB at h;split at h
  .rename_i k k' ht;simp at h;subst h;obtain⟨x,e,hw⟩:=aFb ht hr;cases e;exact⟨x,rfl,hw⟩
  .rename_i ht;obtain⟨x,e⟩:=aE1 ht hr;cases e;exact⟨x,rfl⟩
  .rename_i ht;obtain⟨x,e,hw⟩:=aD8 ht hr;cases e;exact⟨x,rfl,hw⟩
  .rename_i e k ht;simp only[AG]at h;have hsz:=Bq h.1;rcases aDZ ht hr with e|⟨a,len,cap,e,hlc,hcm,hel⟩
   .cases e;exact⟨[],⟨D7 _,by simp⟩,λβ _=> .nil⟩
   .cases e;rw[hsz]at hel;have hch:∀i:Nat,∃p:Tof k×List Value,i<len->wfK k p.1/\w.cells? base (a.add<|i * ks k) (ks k)=I p.2/\ ∀β:Beta,(∀b,¬MZ β b)->RL (RC w β) (enc k p.1) p.2:=by
     intro i;by_cases hi:i<len
     .obtain⟨es,Vg,r',k1,k2⟩:=hel i hi;obtain⟨x,k3,k4⟩:=auY n _ k h.2 (Bm:=Vg) (r:=r') k2;exact⟨(x,es),λ_=>⟨k3,k1,k4⟩⟩
     .exact⟨(dfl k,[]),λh=>absurd h hi⟩
    obtain⟨X,hX⟩:=Classical.axiomOfChoice hch;refine⟨(BB len).map λi=>(X i).1,⟨by simp;omega,λx hx=> ?_⟩,λβ hβ=> ?_⟩
    .obtain⟨i,hi,rfl⟩:=C3.1 hx;exact(hX i<|D6.1 hi).1
    .cases len with
     | zero=>exact .nil
     | succ len=>
      obtain⟨b,f,sp⟩:=a;have h0:=(hX 0 J).2.1;have hsp:sp=A0:=by
       rw[V0]at h0;unfold World.cells? at h0;split at h0
       case isFalse=>cases h0
       obtain⟨y,hy⟩:=ZK h0 0<|D6.2<|IK k;unfold Mu at hy;split at hy
       .split at hy
        .cases hy
        .rename_i hn;cases sp with
         | none=>rfl
         | some x=>exact absurd rfl hn
       .cases hy
      subst hsp;have D1:∀i j,i<len+1->j<ks k->w.cell? ⟨b,f+(i * ks k+j),A0⟩=I ((X i).2.getD j undef):=λi j hi hj=>by
       have h1:=(hX i hi).2.1;rw[aIU]at h1;have:=(awJ h1).2 j hj;rw[← DI];exact this
      refine .sl (λi j=>(X i).2.getD j undef) ⟨by simp,hlc⟩ (hβ b) (λi j hi hj=>D1 i j (by simpa using hi) hj) (λi x j c hx hc=> ?_);have hi:i<len+1:=by have:=(BP.1 hx).1;simpa using this
      have hx':x=(X i).1:=by
       rw[DK,H7 hi]at hx;exact(Cn hx).symm
      subst hx';have hj:j<ks k:=by rw[← EV k (X i).1];exact(BP.1 hc).1
      have hR:=(hX i hi).2.2 β hβ;have hlen:(X i).2.length=ks k:=by rw[hR.1,EV]
      exact hR.2 j c _ hc (by simp[hlen,hj])
  .cases h
theorem auY:∀(n:Nat) (e:TypeId) (k:K) {Bm:Nat} {cs:List Value} {r:DataW H×List MemPlace},c9 P n e k=U->HB Ez P w base spare held Bm e cs=I r->∃x:Tof k,wfK k x/\ ∀β:Beta,(∀b,¬MZ β b)->RL (RC w β) (enc k x) cs
 | 0,_,_,_,_,_,h,_=>by simp[c9]at h
 | n+1,e,k,Bm,cs,r,h,hr=>by
  unfold c9 at h;split at h
  .rename_i ts hts;exact axw (aEG n ts (kct k) h<|aEB 16 e hts hr)
  .cases h
theorem aEG:∀(n:Nat) (ts:List TypeId) (ks:List CT) {cs:List Value},PC P n ts ks=U->Cells Ez P w base spare held ts cs->Vj w ks cs
 | n,[],[],[],_,_=> .nil
 | n,[],[],_::_,_,h=>h.elim
 | n+1,t::ts,c::ks,v::cs,h,hc=>by
  simp only[PC,AG]at h;exact .cons (aGM n t c h.1 hc.1)<|aEG n ts ks h.2 hc.2
 | 0,_::_,_,_,h,_=>by simp[PC]at h
 | n+1,_::_,[],_,h,_=>by simp[PC]at h
 | n,[],_::_,_,h,_=>by cases n<;>simp[PC]at h
 | n+1,_::_,_::_,[],_,hc=>hc.elim
end
end
end Go.VS
end
