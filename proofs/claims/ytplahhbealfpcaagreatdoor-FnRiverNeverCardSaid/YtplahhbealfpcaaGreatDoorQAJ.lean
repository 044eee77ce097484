/- Part 10. -/
import Derived.ChangeShapes
import Derived.Test.YtplahhbealfpcaaGreatDoorQAI
open Bool renaming and_eq_true->AE,false->A3,true->A0
open Decidable renaming decide->A1
open Go.DataW renaming trod->GW
open Go.Lit renaming int->NO
open Go.World renaming cell?->M7
open List renaming drop_drop->Jx,drop_eq_nil_of_le->Ly,getElem?_eq_some_iff->BL,getElem?_map->D2,getElem?_range->GY,mapM_cons->TW,mem_cons->Bj,mem_cons_of_mem->Am,mem_cons_self->Ap,mem_map->DE,mem_range->DD,range->BJ,take_append_drop->JH
open Nat renaming add_assoc->D3,beq->Ag,zero_le->Cu,zero_mul->Tf
open Option renaming bind_eq_some_iff->Aj,map_eq_some_iff->D4,none->U,some->I
open Option.some renaming inj->C8
set_option linter.all false
noncomputable section
namespace Go.VS
open Go
inductive CT where
 | int (k:IntKind)
 | bool
 | str
 | sl (k:K)
def kct:K->List CT
 | .int=>[.int .i64]
 | .bool=>[.bool]
 | .u8=>[.int .u8]
 | .str=>[.str]
 | .note=>[.int .i64,.int .i64,.int .i64,.int .i64,.str]
 | .mark=>[.int .i64,.int .i64,.int .i64]
 | .mixed=>[.int .i64,.str]
 | .half=>[.int .i64,.int .i64,.int .i64,.int .i64,.int .i64,.sl .mixed]
 | .keep=>[.int .i64,.int .i64,.int .i64,.sl .note,.sl .mark,.sl .note]
 | .AQ=>[.int .i64,.bool,.str,.int .i64,.sl .half]
 | .An=>[.int .i64,.int .i64,.str,.bool]
 | .frame=>[.int .i64,.int .i64,.int .i64,.int .i64,.int .i64,.int .i64,.int .i64,.int .i64,.int .i64,.str]
 | .BK=>[.int .i64,.int .i64,.int .i64,.int .i64,.int .i64,.int .i64,.int .i64,.int .i64,.int .i64,.str]
 | .lk=>[.str,.int .i64,.str]
mutual
def Yu (P:Program):Nat->TypeId->Option (List TypeId)
 | 0,_=>U
 | n+1,t=>match P.underlying t with
  | some (.struct fs)=>(ZF P n 0 fs.toList).bind λts=>match Ag ts.length (P.cellsOf t) with
   | true=>I ts
   | false=>U
  | some (.int _)=>I [t]
  | some .bool=>I [t]
  | some .string=>I [t]
  | some (.slice _)=>I [t]
  | _=>U
def ZF (P:Program):Nat->Nat->List Field->Option (List TypeId)
 | _,_,[]=>I []
 | 0,_,_::_=>U
 | n+1,o,f::fs=>(Yu P n f.type).bind λts=>match Ag f.offset o&&Ag (P.cellsOf f.type) ts.length with
  | true=>(ZF P n (o+ts.length) fs).bind λus=>I<|ts++us
  | false=>U
end
mutual
def TK (P:Program):Nat->TypeId->CT->Bool
 | 0,_,_=>A3
 | n+1,t,c=>match P.underlying t,c with
  | some (.int k),.int k'=>A1 (k=k')
  | some .bool,.bool=>A0
  | some .string,.str=>A0
  | some (.slice e),.sl k=>Ag (P.cellsOf e) (ks k)&&Yv P n e k
  | _,_=>A3
def Yv (P:Program):Nat->TypeId->K->Bool
 | 0,_,_=>A3
 | n+1,e,k=>match Yu P 16 e with
  | some ts=>Oc P n ts (kct k)
  | none=>A3
def Oc (P:Program):Nat->List TypeId->List CT->Bool
 | _,[],[]=>A0
 | n+1,t::ts,c::cs=>TK P n t c&&Oc P n ts cs
 | _,_,_=>A3
end
def wfI(n:Int):Prop:=(NO .i64 n).wf=A0
def wfY(n:Int):Prop:=(NO .u8 n).wf=A0
def wfS(s:A4):Prop:=s.size<=maxLen
def wfL{α:Type}(p:α->Prop)(l:List α):Prop:=l.length<=maxLen/\ ∀x∈l,p x
def mR(n:A6):Prop:=wfI n.fr/\wfI n.nu/\wfI n.to/\wfI n.un/\wfS n.tx
def aai(n:Mark):Prop:=wfI n.mf/\wfI n.mn/\wfI n.mu
def aa8(n:AT):Prop:=wfI n.nu/\wfS n.da
def aaj(n:AH):Prop:=wfI n.fr/\wfI n.nu/\wfI n.to/\wfI n.un/\wfI n.sz/\wfL aa8 n.got
def awF(n:AG):Prop:=wfI n.id/\wfI n.ti/\wfI n.nx/\wfL mR n.held/\wfL aai n.marks/\wfL mR n.inbox
def atb(n:AA):Prop:=wfI n.id/\wfS n.log/\wfI n.fo/\wfL aaj n.AN
def ata(n:AS):Prop:=wfI n.src/\wfI n.dst/\wfS n.data
def auq(n:Frame):Prop:=wfI n.ki/\wfI n.src/\wfI n.dst/\wfI n.fr/\wfI n.nu/\wfI n.to/\wfI n.un/\wfI n.sz/\wfI n.mix/\wfS n.da
def auR(n:Event):Prop:=wfI n.ki/\wfI n.at_/\wfI n.fr/\wfI n.nu/\wfI n.wo/\wfI n.mix/\wfI n.kp/\wfI n.to/\wfI n.un/\wfS n.tx
def axb(n:LK):Prop:=wfS n.wo/\wfI n.ki/\wfS n.fi
def wfK:(k:K)->Tof k->Prop
 | .int=>wfI
 | .bool=>λ_=>True
 | .u8=>wfY
 | .str=>wfS
 | .note=>mR
 | .mark=>aai
 | .mixed=>aa8
 | .half=>aaj
 | .keep=>awF
 | .AQ=>atb
 | .An=>ata
 | .frame=>auq
 | .BK=>auR
 | .lk=>axb
def nB(w:World):CT->Value->Prop
 | .int k,c=>∃n,c= .int k n/\(NO k n).wf=A0
 | .bool,c=>∃b,c= .bool b
 | .str,c=>∃s,c= .string s/\wfS s
 | .sl k,c=>∃xs:List (Tof k),wfL (wfK k) xs/\ ∀β:Beta,(∀b,¬MZ β b)->RC w β (.sl k xs) c
inductive UC (w:World):List CT->List Value->Prop
 | nil:UC w [] []
 | cons {t:CT} {c:Value} {ts:List CT} {cs:List Value} (h:nB w t c) (hs:UC w ts cs):UC w (t::ts) (c::cs)
section
variable {w:World}
def RL.IE{R:AV->Value->Prop}{c:AV}{v:Value}(h:R c v):RL R [c] [v]:= .cons h .nil
def avF{k:K}{cs:List Value}(h:UC w (kct k) cs):∃x:Tof k,wfK k x/\ ∀β:Beta,(∀b,¬MZ β b)->RL (RC w β) (enc k x) cs:=by
 have L:∀ {β:Beta} {v:Value},v.oneCell'=A0->RC w β (.lit v) v:=λh=> .lit h;cases k with
 | int=>
  obtain⟨⟩|⟨⟨a,rfl,ha⟩,h⟩:=h;cases h;exact⟨a,ha,λβ _=> .IE<|L rfl⟩
 | bool=>
  obtain⟨⟩|⟨⟨a,rfl⟩,h⟩:=h;cases h;exact⟨a,trivial,λβ _=> .IE<|L rfl⟩
 | u8=>
  obtain⟨⟩|⟨⟨a,rfl,ha⟩,h⟩:=h;cases h;exact⟨a,ha,λβ _=> .IE<|L rfl⟩
 | str=>
  obtain⟨⟩|⟨⟨a,rfl,ha⟩,h⟩:=h;cases h;exact⟨a,ha,λβ _=> .IE<|L rfl⟩
 | note=>
  obtain⟨⟩|⟨⟨a,rfl,ha⟩,h⟩:=h;obtain⟨⟩|⟨⟨b,rfl,hb⟩,h⟩:=h;obtain⟨⟩|⟨⟨c,rfl,hc⟩,h⟩:=h;obtain⟨⟩|⟨⟨d,rfl,hd⟩,h⟩:=h;obtain⟨⟩|⟨⟨e,rfl,he⟩,h⟩:=h;cases h;exact⟨(⟨a,b,c,d,e⟩:A6),⟨ha,hb,hc,hd,he⟩,λβ _=> .cons (L rfl)<|.cons (L rfl)<|.cons (L rfl)<|.cons (L rfl)<|.IE<|L rfl⟩
 | mark=>
  obtain⟨⟩|⟨⟨a,rfl,ha⟩,h⟩:=h;obtain⟨⟩|⟨⟨b,rfl,hb⟩,h⟩:=h;obtain⟨⟩|⟨⟨c,rfl,hc⟩,h⟩:=h;cases h;exact⟨(⟨a,b,c⟩:Mark),⟨ha,hb,hc⟩,λβ _=> .cons (L rfl)<|.cons (L rfl)<|.IE<|L rfl⟩
 | mixed=>
  obtain⟨⟩|⟨⟨a,rfl,ha⟩,h⟩:=h;obtain⟨⟩|⟨⟨b,rfl,hb⟩,h⟩:=h;cases h;exact⟨(⟨a,b⟩:AT),⟨ha,hb⟩,λβ _=> .cons (L rfl)<|.IE<|L rfl⟩
 | half=>
  obtain⟨⟩|⟨⟨a,rfl,ha⟩,h⟩:=h;obtain⟨⟩|⟨⟨b,rfl,hb⟩,h⟩:=h;obtain⟨⟩|⟨⟨c,rfl,hc⟩,h⟩:=h;obtain⟨⟩|⟨⟨d,rfl,hd⟩,h⟩:=h;obtain⟨⟩|⟨⟨e,rfl,he⟩,h⟩:=h;obtain⟨⟩|⟨⟨xs,hx,hr⟩,h⟩:=h;cases h;exact⟨(⟨a,b,c,d,e,xs⟩:AH),⟨ha,hb,hc,hd,he,hx⟩,λβ hβ=> .cons (L rfl)<|.cons (L rfl)<|.cons (L rfl)<|.cons (L rfl)<|.cons (L rfl)<|.IE<|hr β hβ⟩
 | keep=>
  obtain⟨⟩|⟨⟨a,rfl,ha⟩,h⟩:=h;obtain⟨⟩|⟨⟨b,rfl,hb⟩,h⟩:=h;obtain⟨⟩|⟨⟨c,rfl,hc⟩,h⟩:=h;obtain⟨⟩|⟨⟨xs,hx,hrx⟩,h⟩:=h;obtain⟨⟩|⟨⟨ys,hy,hry⟩,h⟩:=h;obtain⟨⟩|⟨⟨zs,hz,hrz⟩,h⟩:=h;cases h;exact⟨(⟨a,b,c,xs,ys,zs⟩:AG),⟨ha,hb,hc,hx,hy,hz⟩,λβ hβ=> .cons (L rfl)<|.cons (L rfl)<|.cons (L rfl)<|.cons (hrx β hβ)<|.cons (hry β hβ)<|.IE<|hrz β hβ⟩
 | AQ=>
  obtain⟨⟩|⟨⟨a,rfl,ha⟩,h⟩:=h;obtain⟨⟩|⟨⟨b,rfl⟩,h⟩:=h;obtain⟨⟩|⟨⟨c,rfl,hc⟩,h⟩:=h;obtain⟨⟩|⟨⟨d,rfl,hd⟩,h⟩:=h;obtain⟨⟩|⟨⟨xs,hx,hr⟩,h⟩:=h;cases h;exact⟨(⟨a,b,c,d,xs⟩:AA),⟨ha,hc,hd,hx⟩,λβ hβ=> .cons (L rfl)<|.cons (L rfl)<|.cons (L rfl)<|.cons (L rfl)<|.IE<|hr β hβ⟩
 | An=>
  obtain⟨⟩|⟨⟨a,rfl,ha⟩,h⟩:=h;obtain⟨⟩|⟨⟨b,rfl,hb⟩,h⟩:=h;obtain⟨⟩|⟨⟨c,rfl,hc⟩,h⟩:=h;obtain⟨⟩|⟨⟨d,rfl⟩,h⟩:=h;cases h;exact⟨(⟨a,b,c,d⟩:AS),⟨ha,hb,hc⟩,λβ _=> .cons (L rfl)<|.cons (L rfl)<|.cons (L rfl)<|.IE<|L rfl⟩
 | frame=>
  obtain⟨⟩|⟨⟨a,rfl,ha⟩,h⟩:=h;obtain⟨⟩|⟨⟨b,rfl,hb⟩,h⟩:=h;obtain⟨⟩|⟨⟨c,rfl,hc⟩,h⟩:=h;obtain⟨⟩|⟨⟨d,rfl,hd⟩,h⟩:=h;obtain⟨⟩|⟨⟨e,rfl,he⟩,h⟩:=h;obtain⟨⟩|⟨⟨f,rfl,hf⟩,h⟩:=h;obtain⟨⟩|⟨⟨g,rfl,hg⟩,h⟩:=h;obtain⟨⟩|⟨⟨i,rfl,hi⟩,h⟩:=h;obtain⟨⟩|⟨⟨j,rfl,hj⟩,h⟩:=h;obtain⟨⟩|⟨⟨s,rfl,hs⟩,h⟩:=h;cases h;exact⟨(⟨a,b,c,d,e,f,g,i,j,s⟩:Frame),⟨ha,hb,hc,hd,he,hf,hg,hi,hj,hs⟩,λβ _=> .cons (L rfl)<|.cons (L rfl)<|.cons (L rfl)<|.cons (L rfl)<|.cons (L rfl)<|.cons (L rfl)<|.cons (L rfl)<|.cons (L rfl)<|.cons (L rfl)<|.IE<|L rfl⟩
 | BK=>
  obtain⟨⟩|⟨⟨a,rfl,ha⟩,h⟩:=h;obtain⟨⟩|⟨⟨b,rfl,hb⟩,h⟩:=h;obtain⟨⟩|⟨⟨c,rfl,hc⟩,h⟩:=h;obtain⟨⟩|⟨⟨d,rfl,hd⟩,h⟩:=h;obtain⟨⟩|⟨⟨e,rfl,he⟩,h⟩:=h;obtain⟨⟩|⟨⟨f,rfl,hf⟩,h⟩:=h;obtain⟨⟩|⟨⟨g,rfl,hg⟩,h⟩:=h;obtain⟨⟩|⟨⟨i,rfl,hi⟩,h⟩:=h;obtain⟨⟩|⟨⟨j,rfl,hj⟩,h⟩:=h;obtain⟨⟩|⟨⟨s,rfl,hs⟩,h⟩:=h;cases h;exact⟨(⟨a,b,c,d,e,f,g,i,j,s⟩:Event),⟨ha,hb,hc,hd,he,hf,hg,hi,hj,hs⟩,λβ _=> .cons (L rfl)<|.cons (L rfl)<|.cons (L rfl)<|.cons (L rfl)<|.cons (L rfl)<|.cons (L rfl)<|.cons (L rfl)<|.cons (L rfl)<|.cons (L rfl)<|.IE<|L rfl⟩
 | lk=>
  obtain⟨⟩|⟨⟨a,rfl,ha⟩,h⟩:=h;obtain⟨⟩|⟨⟨b,rfl,hb⟩,h⟩:=h;obtain⟨⟩|⟨⟨c,rfl,hc⟩,h⟩:=h;cases h;exact⟨(⟨a,b,c⟩:LK),⟨ha,hb,hc⟩,λβ _=> .cons (L rfl)<|.cons (L rfl)<|.IE<|L rfl⟩
end
end Go.VS
namespace Go.VS
open Go
section
variable {H:Type} {Ed:TypeId×Value->H} {P:Program} {w:World} {base:Nat} {spare:Nat->Bool} {held:Bool}
def Cells(Ed:TypeId×Value->H)(P:Program)(w:World)(base:Nat)(spare:Nat->Bool)(held:Bool):List TypeId->List Value->Prop
 | [],[]=>True
 | t::ts,c::cs=>(∃Bg d ps,GW Ed P w base spare held Bg t [c]=I (d,ps))/\Cells Ed P w base spare held ts cs
 | _,_=>False
def Cells.append:∀ {ts us:List TypeId} {cs ds:List Value},Cells Ed P w base spare held ts cs->Cells Ed P w base spare held us ds->Cells Ed P w base spare held (ts++us) (cs++ds)
 | [],_,[],_,_,h=>h
 | t::ts,_,c::cs,_,h,k=>⟨h.1,Cells.append h.2 k⟩
 | [],_,_::_,_,h,_=>h.elim
 | _::_,_,[],_,h,_=>h.elim
def X6{α β:Type}{f:α->Option β}:∀ {l:List α} {r:List β},l.mapM f=I r->∀x∈l,∃y,f x=I y
 | [],_,_,_,hx=>by cases hx
 | a::l,r,h,x,hx=>by
  rw[TW]at h;obtain⟨y,h1,h⟩:=Aj.1 h;obtain⟨ys,h2,h⟩:=Aj.1 h;rcases Bj.1 hx with rfl|hx
  .exact⟨y,h1⟩
  .exact X6 h2 x hx
def aAx{Bg:Nat}{t:TypeId}{k:IntKind}{cs:List Value}{r:DataW H×List MemPlace}(ht:P.underlying t=I (.int k))(h:GW Ed P w base spare held Bg t cs=I r):∃n,cs=[.int k n]/\(NO k n).wf=A0:=by
 cases Bg with
 | zero=>cases h
 | succ Bg=>
  unfold GW at h;rw[ht]at h;split at h<;>first|(cases h;done)|skip
  all_goals (rename_i heq;cases heq)
  rename_i k' n;split at h
  .rename_i hc;obtain⟨rfl,hw⟩:=hc;exact⟨_,rfl,hw⟩
  .cases h
def aAh{Bg:Nat}{t:TypeId}{cs:List Value}{r:DataW H×List MemPlace}(ht:P.underlying t=I .bool)(h:GW Ed P w base spare held Bg t cs=I r):∃b,cs=[.bool b]:=by
 cases Bg with
 | zero=>cases h
 | succ Bg=>
  unfold GW at h;rw[ht]at h;split at h<;>first|(cases h;done)|skip
  all_goals (rename_i heq;cases heq)
  exact⟨_,rfl⟩
def yr{Bg:Nat}{t:TypeId}{cs:List Value}{r:DataW H×List MemPlace}(ht:P.underlying t=I .string)(h:GW Ed P w base spare held Bg t cs=I r):∃s,cs=[.string s]/\wfS s:=by
 cases Bg with
 | zero=>cases h
 | succ Bg=>
  unfold GW at h;rw[ht]at h;split at h<;>first|(cases h;done)|skip
  all_goals (rename_i heq;cases heq)
  split at h
  .rename_i hc;exact⟨_,rfl,hc⟩
  .cases h
def zz{Bg:Nat}{t e:TypeId}{cs:List Value}{r:DataW H×List MemPlace}(ht:P.underlying t=I (.slice e))(h:GW Ed P w base spare held Bg t cs=I r):
  cs=[.slice U 0 0]\/ ∃a len cap,cs=[.slice (I a) len cap]/\len<=cap/\cap<=maxLen/\ ∀i,i<len->∃es U9 r',w.cells? base (a.add<|i * P.cellsOf e) (P.cellsOf e)=I es/\GW Ed P w base spare held U9 e es=I r':=by
 cases Bg with
 | zero=>cases h
 | succ Bg=>
  unfold GW at h;rw[ht]at h;split at h<;>first|(cases h;done)|skip
  all_goals (rename_i heq;cases heq)
  .exact .inl rfl
  .rename_i a len cap;refine .inr ⟨a,len,cap,rfl, ?_⟩;simp only at h;split at h
   .rename_i hc;refine⟨hc.2.1,hc.2.2,λi hi=> ?_⟩;obtain⟨azv,h1,_⟩:=Aj.1 h;obtain⟨y,hy⟩:=X6 h1 i<|DD.2 hi;obtain⟨es,k1,k2⟩:=Aj.1 hy;exact⟨es,Bg,y,k1,k2⟩
   .cases h
def aoH{Bg:Nat}{t:TypeId}{fs:Array Field}{cs:List Value}{r:DataW H×List MemPlace}(ht:P.underlying t=I (.struct fs))(h:GW Ed P w base spare held Bg t cs=I r):
  cs.length=P.cellsOf t/\ ∀f∈fs.toList,∃U9 r',GW Ed P w base spare held U9 f.type ((cs.drop f.offset).take<|P.cellsOf f.type)=I r':=by
 cases Bg with
 | zero=>cases h
 | succ Bg=>
  simp only[GW,ht]at h;split at h
  .rename_i hc;obtain⟨xs,h1,_⟩:=D4.1 h;refine⟨hc,λf hf=> ?_⟩;obtain⟨y,hy⟩:=X6 h1 f hf;exact⟨Bg,y,hy⟩
  .cases h
mutual
theorem aAr:∀(n:Nat) (t:TypeId) {ts:List TypeId} {Bg:Nat} {cs:List Value} {r:DataW H×List MemPlace},Yu P n t=I ts->GW Ed P w base spare held Bg t cs=I r->Cells Ed P w base spare held ts cs
 | 0,_,_,_,_,_,h,_=>by cases h
 | n+1,t,ts,Bg,cs,r,h,hr=>by
  unfold Yu at h;split at h
  .rename_i fs ht;obtain⟨us,h1,h⟩:=Aj.1 h;split at h
   case h_2=>cases h
   rename_i hl;cases h;obtain⟨k1,k2⟩:=aoH ht hr;have hl:=Bk hl;have:=aA3 n 0 fs.toList h1 (cs:=cs) (by simp[k1,hl]) (λf hf=>k2 f hf);simpa using this
  .rename_i k ht;cases h;obtain⟨x,rfl,_⟩:=aAx ht hr;exact⟨⟨_,r.1,r.2,hr⟩,trivial⟩
  .rename_i ht;cases h;obtain⟨x,rfl⟩:=aAh ht hr;exact⟨⟨_,r.1,r.2,hr⟩,trivial⟩
  .rename_i ht;cases h;obtain⟨x,rfl,_⟩:=yr ht hr;exact⟨⟨_,r.1,r.2,hr⟩,trivial⟩
  .rename_i e ht;cases h;rcases zz ht hr with rfl|⟨a,len,cap,rfl,_⟩
   .exact⟨⟨_,r.1,r.2,hr⟩,trivial⟩
   .exact⟨⟨_,r.1,r.2,hr⟩,trivial⟩
  .cases h
theorem aA3:∀(n o:Nat) (fs:List Field) {ts:List TypeId} {cs:List Value},ZF P n o fs=I ts->cs.length=o+ts.length->(∀f∈fs,∃Bg r,GW Ed P w base spare held Bg f.type ((cs.drop f.offset).take<|P.cellsOf f.type)=I r)->
  Cells Ed P w base spare held ts (cs.drop o)
 | n,o,[],ts,cs,h,hl,_=>by
  have h:I []=I ts:=by cases n<;>exact h
  cases h;have:cs.drop o=[]:=Ly (by simp at hl;omega);rw[this];trivial
 | 0,_,_::_,_,_,h,_,_=>by cases h
 | n+1,o,f::fs,ts,cs,h,hl,hf=>by
  unfold ZF at h;obtain⟨us,h1,h⟩:=Aj.1 h;split at h
  case h_2=>cases h
  rename_i hc;simp only[AE]at hc;obtain⟨vs,h2,h⟩:=Aj.1 h;cases h;obtain⟨Bg,r,hr⟩:=hf f Ap;rw[Bk hc.1,Bk hc.2]at hr;have k1:=aAr n f.type h1 hr;have k2:=aA3 n (o+us.length) fs h2 (cs:=cs) (by simp at hl ⊢; omega) (λg hg=>hf g<|Am _ hg);have e:cs.drop o=(cs.drop o).take us.length++cs.drop (o+us.length):=by
   rw[← Jx];exact(JH _ _).symm
  rw[e];exact k1.append k2
end
def aDu(b f n:Nat):(⟨b,f,U⟩:Addr).add n=⟨b,f+n,U⟩:=by
 unfold Addr.add;split
 .rename_i h;subst h;rfl
 .rfl
def aue{b f n:Nat}{es:List Value}(h:w.cells? base ⟨b,f,U⟩ n=I es):es.length=n/\ ∀j,j<n->w.cell? ⟨b,f+j,U⟩=I (es.getD j undef):=by
 unfold World.cells? at h;split at h
 case isFalse=>cases h
 have gen:∀(l:List Nat) {es:List Value},l.mapM (λi=>w.cell?<|(⟨b,f,U⟩:Addr).add i)=I es->es.length=l.length/\ ∀j x,l[j]? =I x->w.cell? ⟨b,f+x,U⟩=I (es.getD j undef):=by
  intro l
  induction l with
  | nil=>intro es h;cases h;exact⟨rfl,λj x hx=>by simp at hx⟩
  | cons a l ih=>
   intro es h;rw[TW]at h;obtain⟨y,h1,h⟩:=Aj.1 h;obtain⟨ys,h2,h⟩:=Aj.1 h;cases h;obtain⟨k1,k2⟩:=ih h2;refine⟨by simp[k1],λj x hx=> ?_⟩;cases j with
   | zero=>
    simp at hx;subst hx;rw[aDu]at h1;simpa using h1
   | succ j=>simpa using k2 j x<|by simpa using hx
 obtain⟨k1,k2⟩:=gen _ h;exact⟨by simpa using k1,λj hj=>k2 j j<|by simp[hj]⟩
mutual
theorem aCU:∀(n:Nat) (t:TypeId) (c:CT) {v:Value},TK P n t c=A0->(∃Bg d ps,GW Ed P w base spare held Bg t [v]=I (d,ps))->nB w c v
 | 0,_,_,_,h,_=>by simp[TK]at h
 | n+1,t,c,v,h,⟨Bg,d,ps,hr⟩=>by
  unfold TK at h;split at h
  .rename_i k k' ht;simp at h;subst h;obtain⟨x,e,hw⟩:=aAx ht hr;cases e;exact⟨x,rfl,hw⟩
  .rename_i ht;obtain⟨x,e⟩:=aAh ht hr;cases e;exact⟨x,rfl⟩
  .rename_i ht;obtain⟨x,e,hw⟩:=yr ht hr;cases e;exact⟨x,rfl,hw⟩
  .rename_i e k ht;simp only[AE]at h;have hsz:=Bk h.1;rcases zz ht hr with e|⟨a,len,cap,e,hlc,hcm,hel⟩
   .cases e;exact⟨[],⟨Cu _,by simp⟩,λβ _=> .nil⟩
   .cases e;rw[hsz]at hel;have hch:∀i:Nat,∃p:Tof k×List Value,i<len->wfK k p.1/\w.cells? base (a.add<|i * ks k) (ks k)=I p.2/\ ∀β:Beta,(∀b,¬MZ β b)->RL (RC w β) (enc k p.1) p.2:=by
     intro i;by_cases hi:i<len
     .obtain⟨es,U9,r',k1,k2⟩:=hel i hi;obtain⟨x,k3,k4⟩:=asS n _ k h.2 (Bg:=U9) (r:=r') k2;exact⟨(x,es),λ_=>⟨k3,k1,k4⟩⟩
     .exact⟨(dfl k,[]),λh=>absurd h hi⟩
    obtain⟨X,hX⟩:=Classical.axiomOfChoice hch;refine⟨(BJ len).map λi=>(X i).1,⟨by simp;omega,λx hx=> ?_⟩,λβ hβ=> ?_⟩
    .obtain⟨i,hi,rfl⟩:=DE.1 hx;exact(hX i<|DD.1 hi).1
    .cases len with
     | zero=>exact .nil
     | succ len=>
      obtain⟨b,f,sp⟩:=a;have h0:=(hX 0 J).2.1;have hsp:sp=U:=by
       rw[Tf]at h0;unfold World.cells? at h0;split at h0
       case isFalse=>cases h0
       obtain⟨y,hy⟩:=X6 h0 0<|DD.2<|Ht k;unfold M7 at hy;split at hy
       .split at hy
        .cases hy
        .rename_i hn;cases sp with
         | none=>rfl
         | some x=>exact absurd rfl hn
       .cases hy
      subst hsp;have Ck:∀i j,i<len+1->j<ks k->w.cell? ⟨b,f+(i * ks k+j),U⟩=I ((X i).2.getD j undef):=λi j hi hj=>by
       have h1:=(hX i hi).2.1;rw[aDu]at h1;have:=(aue h1).2 j hj;rw[← D3];exact this
      refine .sl (λi j=>(X i).2.getD j undef) ⟨by simp,hlc⟩ (hβ b) (λi j hi hj=>Ck i j (by simpa using hi) hj) (λi x j c hx hc=> ?_);have hi:i<len+1:=by have:=(BL.1 hx).1;simpa using this
      have hx':x=(X i).1:=by
       rw[D2,GY hi]at hx;exact(C8 hx).symm
      subst hx';have hj:j<ks k:=by rw[← EE k (X i).1];exact(BL.1 hc).1
      have hR:=(hX i hi).2.2 β hβ;have hlen:(X i).2.length=ks k:=by rw[hR.1,EE]
      exact hR.2 j c _ hc (by simp[hlen,hj])
  .cases h
theorem asS:∀(n:Nat) (e:TypeId) (k:K) {Bg:Nat} {cs:List Value} {r:DataW H×List MemPlace},Yv P n e k=A0->GW Ed P w base spare held Bg e cs=I r->∃x:Tof k,wfK k x/\ ∀β:Beta,(∀b,¬MZ β b)->RL (RC w β) (enc k x) cs
 | 0,_,_,_,_,_,h,_=>by simp[Yv]at h
 | n+1,e,k,Bg,cs,r,h,hr=>by
  unfold Yv at h;split at h
  .rename_i ts hts;exact avF (aAT n ts (kct k) h<|aAr 16 e hts hr)
  .cases h
theorem aAT:∀(n:Nat) (ts:List TypeId) (ks:List CT) {cs:List Value},Oc P n ts ks=A0->Cells Ed P w base spare held ts cs->UC w ks cs
 | n,[],[],[],_,_=> .nil
 | n,[],[],_::_,_,h=>h.elim
 | n+1,t::ts,c::ks,v::cs,h,hc=>by
  simp only[Oc,AE]at h;exact .cons (aCU n t c h.1 hc.1)<|aAT n ts ks h.2 hc.2
 | 0,_::_,_,_,h,_=>by simp[Oc]at h
 | n+1,_::_,[],_,h,_=>by simp[Oc]at h
 | n,[],_::_,_,h,_=>by cases n<;>simp[Oc]at h
 | n+1,_::_,_::_,[],_,hc=>hc.elim
end
end
end Go.VS
end
