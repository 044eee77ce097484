/- Part 10. -/
import Derived.ChangeShapes
import Derived.Test.YtadnafhbeojhoaaGreatDoorQAI
open Bool renaming and_eq_true->AI,false->A3,true->A1
open Decidable renaming decide->A0
open Go.DataW renaming trod->Gv
open Go.Lit renaming int->N7
open Go.World renaming cell?->Lw
open List renaming drop_drop->Js,drop_eq_nil_of_le->KR,getElem?_eq_some_iff->BP,getElem?_map->DE,getElem?_range->Gd,mapM_cons->WO,mem_cons->Bk,mem_cons_of_mem->Al,mem_cons_self->Ap,mem_map->DP,mem_range->DV,range->BN,take_append_drop->Kh
open Nat renaming add_assoc->DH,beq->Aj,zero_le->Cw,zero_mul->SE
open Option renaming bind_eq_some_iff->An,map_eq_some_iff->DL,none->U,some->I
open Option.some renaming inj->EI
set_option linter.all false
noncomputable section
namespace Go.VS
open Go
inductive CT where
 | int (k:IntKind)
 | bool
 | str
 | sl (k:K)
def kct:K->List CT
 | .int=>[.int .i64]
 | .bool=>[.bool]
 | .u8=>[.int .u8]
 | .str=>[.str]
 | .note=>[.int .i64,.int .i64,.int .i64,.int .i64,.str]
 | .mark=>[.int .i64,.int .i64,.int .i64]
 | .mixed=>[.int .i64,.str]
 | .half=>[.int .i64,.int .i64,.int .i64,.int .i64,.int .i64,.sl .mixed]
 | .keep=>[.int .i64,.int .i64,.int .i64,.sl .note,.sl .mark,.sl .note]
 | .AN=>[.int .i64,.bool,.str,.int .i64,.sl .half]
 | .Ai=>[.int .i64,.int .i64,.str,.bool]
 | .frame=>[.int .i64,.int .i64,.int .i64,.int .i64,.int .i64,.int .i64,.int .i64,.int .i64,.int .i64,.str]
 | .GI=>[.int .i64,.int .i64,.int .i64,.int .i64,.int .i64,.int .i64,.int .i64,.int .i64,.int .i64,.str]
 | .lk=>[.str,.int .i64,.str]
mutual
def ab (P:Program):Nat->TypeId->Option (List TypeId)
 | 0,_=>U
 | n+1,t=>match P.underlying t with
  | some (.struct fs)=>(dr P n 0 fs.toList).bind λts=>match Aj ts.length (P.cellsOf t) with
   | true=>I ts
   | false=>U
  | some (.int _)=>I [t]
  | some .bool=>I [t]
  | some .string=>I [t]
  | some (.slice _)=>I [t]
  | _=>U
def dr (P:Program):Nat->Nat->List Field->Option (List TypeId)
 | _,_,[]=>I []
 | 0,_,_::_=>U
 | n+1,o,f::fs=>(ab P n f.type).bind λts=>match Aj f.offset o&&Aj (P.cellsOf f.type) ts.length with
  | true=>(dr P n (o+ts.length) fs).bind λus=>I<|ts++us
  | false=>U
end
mutual
def T9 (P:Program):Nat->TypeId->CT->Bool
 | 0,_,_=>A3
 | n+1,t,c=>match P.underlying t,c with
  | some (.int k),.int k'=>A0 (k=k')
  | some .bool,.bool=>A1
  | some .string,.str=>A1
  | some (.slice e),.sl k=>Aj (P.cellsOf e) (ks k)&&bW P n e k
  | _,_=>A3
def bW (P:Program):Nat->TypeId->K->Bool
 | 0,_,_=>A3
 | n+1,e,k=>match ab P 16 e with
  | some ts=>PN P n ts (kct k)
  | none=>A3
def PN (P:Program):Nat->List TypeId->List CT->Bool
 | _,[],[]=>A1
 | n+1,t::ts,c::cs=>T9 P n t c&&PN P n ts cs
 | _,_,_=>A3
end
def wfI(n:Int):Prop:=(N7 .i64 n).wf=A1
def wfY(n:Int):Prop:=(N7 .u8 n).wf=A1
def wfS(s:A4):Prop:=s.size<=maxLen
def wfL{α:Type}(p:α->Prop)(l:List α):Prop:=l.length<=maxLen/\ ∀x∈l,p x
def pK(n:A7):Prop:=wfI n.fr/\wfI n.nu/\wfI n.to/\wfI n.un/\wfS n.tx
def xC(n:Mark):Prop:=wfI n.mf/\wfI n.mn/\wfI n.mu
def aBX(n:AQ):Prop:=wfI n.nu/\wfS n.da
def ac9(n:AH):Prop:=wfI n.fr/\wfI n.nu/\wfI n.to/\wfI n.un/\wfI n.sz/\wfL aBX n.got
def ajL(n:AJ):Prop:=wfI n.id/\wfI n.ti/\wfI n.nx/\wfL pK n.held/\wfL xC n.marks/\wfL pK n.inbox
def ajU(n:AA):Prop:=wfI n.id/\wfS n.log/\wfI n.fo/\wfL ac9 n.AE
def aeL(n:AT):Prop:=wfI n.src/\wfI n.dst/\wfS n.data
def are(n:Frame):Prop:=wfI n.ki/\wfI n.src/\wfI n.dst/\wfI n.fr/\wfI n.nu/\wfI n.to/\wfI n.un/\wfI n.sz/\wfI n.mix/\wfS n.da
def aoO(n:Event):Prop:=wfI n.ki/\wfI n.at_/\wfI n.fr/\wfI n.nu/\wfI n.wo/\wfI n.mix/\wfI n.kp/\wfI n.to/\wfI n.un/\wfS n.tx
def avT(n:LK):Prop:=wfS n.wo/\wfI n.ki/\wfS n.fi
def wfK:(k:K)->Tof k->Prop
 | .int=>wfI
 | .bool=>λ_=>True
 | .u8=>wfY
 | .str=>wfS
 | .note=>pK
 | .mark=>xC
 | .mixed=>aBX
 | .half=>ac9
 | .keep=>ajL
 | .AN=>ajU
 | .Ai=>aeL
 | .frame=>are
 | .GI=>aoO
 | .lk=>avT
def iH(w:World):CT->Value->Prop
 | .int k,c=>∃n,c= .int k n/\(N7 k n).wf=A1
 | .bool,c=>∃b,c= .bool b
 | .str,c=>∃s,c= .string s/\wfS s
 | .sl k,c=>∃xs:List (Tof k),wfL (wfK k) xs/\ ∀β:Beta,(∀b,¬MZ β b)->RC w β (.sl k xs) c
inductive VM (w:World):List CT->List Value->Prop
 | nil:VM w [] []
 | cons {t:CT} {c:Value} {ts:List CT} {cs:List Value} (h:iH w t c) (hs:VM w ts cs):VM w (t::ts) (c::cs)
section
variable {w:World}
def RL.IK{R:AV->Value->Prop}{c:AV}{v:Value}(h:R c v):RL R [c] [v]:= .cons h .nil
def asX{k:K}{cs:List Value}(h:VM w (kct k) cs):∃x:Tof k,wfK k x/\ ∀β:Beta,(∀b,¬MZ β b)->RL (RC w β) (enc k x) cs:=by
 have L:∀ {β:Beta} {v:Value},v.oneCell'=A1->RC w β (.lit v) v:=λh=> .lit h;cases k with
 | int=>
  obtain⟨⟩|⟨⟨a,rfl,ha⟩,h⟩:=h;cases h;exact⟨a,ha,λβ _=> .IK<|L rfl⟩
 | bool=>
  obtain⟨⟩|⟨⟨a,rfl⟩,h⟩:=h;cases h;exact⟨a,trivial,λβ _=> .IK<|L rfl⟩
 | u8=>
  obtain⟨⟩|⟨⟨a,rfl,ha⟩,h⟩:=h;cases h;exact⟨a,ha,λβ _=> .IK<|L rfl⟩
 | str=>
  obtain⟨⟩|⟨⟨a,rfl,ha⟩,h⟩:=h;cases h;exact⟨a,ha,λβ _=> .IK<|L rfl⟩
 | note=>
  obtain⟨⟩|⟨⟨a,rfl,ha⟩,h⟩:=h;obtain⟨⟩|⟨⟨b,rfl,hb⟩,h⟩:=h;obtain⟨⟩|⟨⟨c,rfl,hc⟩,h⟩:=h;obtain⟨⟩|⟨⟨d,rfl,hd⟩,h⟩:=h;obtain⟨⟩|⟨⟨e,rfl,he⟩,h⟩:=h;cases h;exact⟨(⟨a,b,c,d,e⟩:A7),⟨ha,hb,hc,hd,he⟩,λβ _=> .cons (L rfl)<|.cons (L rfl)<|.cons (L rfl)<|.cons (L rfl)<|.IK<|L rfl⟩
 | mark=>
  obtain⟨⟩|⟨⟨a,rfl,ha⟩,h⟩:=h;obtain⟨⟩|⟨⟨b,rfl,hb⟩,h⟩:=h;obtain⟨⟩|⟨⟨c,rfl,hc⟩,h⟩:=h;cases h;exact⟨(⟨a,b,c⟩:Mark),⟨ha,hb,hc⟩,λβ _=> .cons (L rfl)<|.cons (L rfl)<|.IK<|L rfl⟩
 | mixed=>
  obtain⟨⟩|⟨⟨a,rfl,ha⟩,h⟩:=h;obtain⟨⟩|⟨⟨b,rfl,hb⟩,h⟩:=h;cases h;exact⟨(⟨a,b⟩:AQ),⟨ha,hb⟩,λβ _=> .cons (L rfl)<|.IK<|L rfl⟩
 | half=>
  obtain⟨⟩|⟨⟨a,rfl,ha⟩,h⟩:=h;obtain⟨⟩|⟨⟨b,rfl,hb⟩,h⟩:=h;obtain⟨⟩|⟨⟨c,rfl,hc⟩,h⟩:=h;obtain⟨⟩|⟨⟨d,rfl,hd⟩,h⟩:=h;obtain⟨⟩|⟨⟨e,rfl,he⟩,h⟩:=h;obtain⟨⟩|⟨⟨xs,hx,hr⟩,h⟩:=h;cases h;exact⟨(⟨a,b,c,d,e,xs⟩:AH),⟨ha,hb,hc,hd,he,hx⟩,λβ hβ=> .cons (L rfl)<|.cons (L rfl)<|.cons (L rfl)<|.cons (L rfl)<|.cons (L rfl)<|.IK<|hr β hβ⟩
 | keep=>
  obtain⟨⟩|⟨⟨a,rfl,ha⟩,h⟩:=h;obtain⟨⟩|⟨⟨b,rfl,hb⟩,h⟩:=h;obtain⟨⟩|⟨⟨c,rfl,hc⟩,h⟩:=h;obtain⟨⟩|⟨⟨xs,hx,hrx⟩,h⟩:=h;obtain⟨⟩|⟨⟨ys,hy,hry⟩,h⟩:=h;obtain⟨⟩|⟨⟨zs,hz,hrz⟩,h⟩:=h;cases h;exact⟨(⟨a,b,c,xs,ys,zs⟩:AJ),⟨ha,hb,hc,hx,hy,hz⟩,λβ hβ=> .cons (L rfl)<|.cons (L rfl)<|.cons (L rfl)<|.cons (hrx β hβ)<|.cons (hry β hβ)<|.IK<|hrz β hβ⟩
 | AN=>
  obtain⟨⟩|⟨⟨a,rfl,ha⟩,h⟩:=h;obtain⟨⟩|⟨⟨b,rfl⟩,h⟩:=h;obtain⟨⟩|⟨⟨c,rfl,hc⟩,h⟩:=h;obtain⟨⟩|⟨⟨d,rfl,hd⟩,h⟩:=h;obtain⟨⟩|⟨⟨xs,hx,hr⟩,h⟩:=h;cases h;exact⟨(⟨a,b,c,d,xs⟩:AA),⟨ha,hc,hd,hx⟩,λβ hβ=> .cons (L rfl)<|.cons (L rfl)<|.cons (L rfl)<|.cons (L rfl)<|.IK<|hr β hβ⟩
 | Ai=>
  obtain⟨⟩|⟨⟨a,rfl,ha⟩,h⟩:=h;obtain⟨⟩|⟨⟨b,rfl,hb⟩,h⟩:=h;obtain⟨⟩|⟨⟨c,rfl,hc⟩,h⟩:=h;obtain⟨⟩|⟨⟨d,rfl⟩,h⟩:=h;cases h;exact⟨(⟨a,b,c,d⟩:AT),⟨ha,hb,hc⟩,λβ _=> .cons (L rfl)<|.cons (L rfl)<|.cons (L rfl)<|.IK<|L rfl⟩
 | frame=>
  obtain⟨⟩|⟨⟨a,rfl,ha⟩,h⟩:=h;obtain⟨⟩|⟨⟨b,rfl,hb⟩,h⟩:=h;obtain⟨⟩|⟨⟨c,rfl,hc⟩,h⟩:=h;obtain⟨⟩|⟨⟨d,rfl,hd⟩,h⟩:=h;obtain⟨⟩|⟨⟨e,rfl,he⟩,h⟩:=h;obtain⟨⟩|⟨⟨f,rfl,hf⟩,h⟩:=h;obtain⟨⟩|⟨⟨g,rfl,hg⟩,h⟩:=h;obtain⟨⟩|⟨⟨i,rfl,hi⟩,h⟩:=h;obtain⟨⟩|⟨⟨j,rfl,hj⟩,h⟩:=h;obtain⟨⟩|⟨⟨s,rfl,hs⟩,h⟩:=h;cases h;exact⟨(⟨a,b,c,d,e,f,g,i,j,s⟩:Frame),⟨ha,hb,hc,hd,he,hf,hg,hi,hj,hs⟩,λβ _=> .cons (L rfl)<|.cons (L rfl)<|.cons (L rfl)<|.cons (L rfl)<|.cons (L rfl)<|.cons (L rfl)<|.cons (L rfl)<|.cons (L rfl)<|.cons (L rfl)<|.IK<|L rfl⟩
 | GI=>
  obtain⟨⟩|⟨⟨a,rfl,ha⟩,h⟩:=h;obtain⟨⟩|⟨⟨b,rfl,hb⟩,h⟩:=h;obtain⟨⟩|⟨⟨c,rfl,hc⟩,h⟩:=h;obtain⟨⟩|⟨⟨d,rfl,hd⟩,h⟩:=h;obtain⟨⟩|⟨⟨e,rfl,he⟩,h⟩:=h;obtain⟨⟩|⟨⟨f,rfl,hf⟩,h⟩:=h;obtain⟨⟩|⟨⟨g,rfl,hg⟩,h⟩:=h;obtain⟨⟩|⟨⟨i,rfl,hi⟩,h⟩:=h;obtain⟨⟩|⟨⟨j,rfl,hj⟩,h⟩:=h;obtain⟨⟩|⟨⟨s,rfl,hs⟩,h⟩:=h;cases h;exact⟨(⟨a,b,c,d,e,f,g,i,j,s⟩:Event),⟨ha,hb,hc,hd,he,hf,hg,hi,hj,hs⟩,λβ _=> .cons (L rfl)<|.cons (L rfl)<|.cons (L rfl)<|.cons (L rfl)<|.cons (L rfl)<|.cons (L rfl)<|.cons (L rfl)<|.cons (L rfl)<|.cons (L rfl)<|.IK<|L rfl⟩
 | lk=>
  obtain⟨⟩|⟨⟨a,rfl,ha⟩,h⟩:=h;obtain⟨⟩|⟨⟨b,rfl,hb⟩,h⟩:=h;obtain⟨⟩|⟨⟨c,rfl,hc⟩,h⟩:=h;cases h;exact⟨(⟨a,b,c⟩:LK),⟨ha,hb,hc⟩,λβ _=> .cons (L rfl)<|.cons (L rfl)<|.IK<|L rfl⟩
end
end Go.VS
namespace Go.VS
open Go
section
variable {H:Type} {Ee:TypeId×Value->H} {P:Program} {w:World} {base:Nat} {spare:Nat->Bool} {held:Bool}
def Cells(Ee:TypeId×Value->H)(P:Program)(w:World)(base:Nat)(spare:Nat->Bool)(held:Bool):List TypeId->List Value->Prop
 | [],[]=>True
 | t::ts,c::cs=>(∃Bj d ps,Gv Ee P w base spare held Bj t [c]=I (d,ps))/\Cells Ee P w base spare held ts cs
 | _,_=>False
def Cells.append:∀ {ts us:List TypeId} {cs ds:List Value},Cells Ee P w base spare held ts cs->Cells Ee P w base spare held us ds->Cells Ee P w base spare held (ts++us) (cs++ds)
 | [],_,[],_,_,h=>h
 | t::ts,_,c::cs,_,h,k=>⟨h.1,Cells.append h.2 k⟩
 | [],_,_::_,_,h,_=>h.elim
 | _::_,_,[],_,h,_=>h.elim
def WT{α β:Type}{f:α->Option β}:∀ {l:List α} {r:List β},l.mapM f=I r->∀x∈l,∃y,f x=I y
 | [],_,_,_,hx=>by cases hx
 | a::l,r,h,x,hx=>by
  rw[WO]at h;obtain⟨y,h1,h⟩:=An.1 h;obtain⟨ys,h2,h⟩:=An.1 h;rcases Bk.1 hx with rfl|hx
  .exact⟨y,h1⟩
  .exact WT h2 x hx
def abb{Bj:Nat}{t:TypeId}{k:IntKind}{cs:List Value}{r:DataW H×List MemPlace}(ht:P.underlying t=I (.int k))(h:Gv Ee P w base spare held Bj t cs=I r):∃n,cs=[.int k n]/\(N7 k n).wf=A1:=by
 cases Bj with
 | zero=>cases h
 | succ Bj=>
  unfold Gv at h;rw[ht]at h;split at h<;>first|(cases h;done)|skip
  all_goals (rename_i heq;cases heq)
  rename_i k' n;split at h
  .rename_i hc;obtain⟨rfl,hw⟩:=hc;exact⟨_,rfl,hw⟩
  .cases h
def uY{Bj:Nat}{t:TypeId}{cs:List Value}{r:DataW H×List MemPlace}(ht:P.underlying t=I .bool)(h:Gv Ee P w base spare held Bj t cs=I r):∃b,cs=[.bool b]:=by
 cases Bj with
 | zero=>cases h
 | succ Bj=>
  unfold Gv at h;rw[ht]at h;split at h<;>first|(cases h;done)|skip
  all_goals (rename_i heq;cases heq)
  exact⟨_,rfl⟩
def aaF{Bj:Nat}{t:TypeId}{cs:List Value}{r:DataW H×List MemPlace}(ht:P.underlying t=I .string)(h:Gv Ee P w base spare held Bj t cs=I r):∃s,cs=[.string s]/\wfS s:=by
 cases Bj with
 | zero=>cases h
 | succ Bj=>
  unfold Gv at h;rw[ht]at h;split at h<;>first|(cases h;done)|skip
  all_goals (rename_i heq;cases heq)
  split at h
  .rename_i hc;exact⟨_,rfl,hc⟩
  .cases h
def abW{Bj:Nat}{t e:TypeId}{cs:List Value}{r:DataW H×List MemPlace}(ht:P.underlying t=I (.slice e))(h:Gv Ee P w base spare held Bj t cs=I r):
  cs=[.slice U 0 0]\/ ∃a len cap,cs=[.slice (I a) len cap]/\len<=cap/\cap<=maxLen/\ ∀i,i<len->∃es SJ r',w.cells? base (a.add<|i * P.cellsOf e) (P.cellsOf e)=I es/\Gv Ee P w base spare held SJ e es=I r':=by
 cases Bj with
 | zero=>cases h
 | succ Bj=>
  unfold Gv at h;rw[ht]at h;split at h<;>first|(cases h;done)|skip
  all_goals (rename_i heq;cases heq)
  .exact .inl rfl
  .rename_i a len cap;refine .inr ⟨a,len,cap,rfl, ?_⟩;simp only at h;split at h
   .rename_i hc;refine⟨hc.2.1,hc.2.2,λi hi=> ?_⟩;obtain⟨aFz,h1,_⟩:=An.1 h;obtain⟨y,hy⟩:=WT h1 i<|DV.2 hi;obtain⟨es,k1,k2⟩:=An.1 hy;exact⟨es,Bj,y,k1,k2⟩
   .cases h
def al8{Bj:Nat}{t:TypeId}{fs:Array Field}{cs:List Value}{r:DataW H×List MemPlace}(ht:P.underlying t=I (.struct fs))(h:Gv Ee P w base spare held Bj t cs=I r):
  cs.length=P.cellsOf t/\ ∀f∈fs.toList,∃SJ r',Gv Ee P w base spare held SJ f.type ((cs.drop f.offset).take<|P.cellsOf f.type)=I r':=by
 cases Bj with
 | zero=>cases h
 | succ Bj=>
  simp only[Gv,ht]at h;split at h
  .rename_i hc;obtain⟨xs,h1,_⟩:=DL.1 h;refine⟨hc,λf hf=> ?_⟩;obtain⟨y,hy⟩:=WT h1 f hf;exact⟨Bj,y,hy⟩
  .cases h
mutual
theorem vu:∀(n:Nat) (t:TypeId) {ts:List TypeId} {Bj:Nat} {cs:List Value} {r:DataW H×List MemPlace},ab P n t=I ts->Gv Ee P w base spare held Bj t cs=I r->Cells Ee P w base spare held ts cs
 | 0,_,_,_,_,_,h,_=>by cases h
 | n+1,t,ts,Bj,cs,r,h,hr=>by
  unfold ab at h;split at h
  .rename_i fs ht;obtain⟨us,h1,h⟩:=An.1 h;split at h
   case h_2=>cases h
   rename_i hl;cases h;obtain⟨k1,k2⟩:=al8 ht hr;have hl:=Bn hl;have:=vq n 0 fs.toList h1 (cs:=cs) (by simp[k1,hl]) (λf hf=>k2 f hf);simpa using this
  .rename_i k ht;cases h;obtain⟨x,rfl,_⟩:=abb ht hr;exact⟨⟨_,r.1,r.2,hr⟩,trivial⟩
  .rename_i ht;cases h;obtain⟨x,rfl⟩:=uY ht hr;exact⟨⟨_,r.1,r.2,hr⟩,trivial⟩
  .rename_i ht;cases h;obtain⟨x,rfl,_⟩:=aaF ht hr;exact⟨⟨_,r.1,r.2,hr⟩,trivial⟩
  .rename_i e ht;cases h;rcases abW ht hr with rfl|⟨a,len,cap,rfl,_⟩
   .exact⟨⟨_,r.1,r.2,hr⟩,trivial⟩
   .exact⟨⟨_,r.1,r.2,hr⟩,trivial⟩
  .cases h
theorem vq:∀(n o:Nat) (fs:List Field) {ts:List TypeId} {cs:List Value},dr P n o fs=I ts->cs.length=o+ts.length->(∀f∈fs,∃Bj r,Gv Ee P w base spare held Bj f.type ((cs.drop f.offset).take<|P.cellsOf f.type)=I r)->
  Cells Ee P w base spare held ts (cs.drop o)
 | n,o,[],ts,cs,h,hl,_=>by
  have h:I []=I ts:=by cases n<;>exact h
  cases h;have:cs.drop o=[]:=KR (by simp at hl;omega);rw[this];trivial
 | 0,_,_::_,_,_,h,_,_=>by cases h
 | n+1,o,f::fs,ts,cs,h,hl,hf=>by
  unfold dr at h;obtain⟨us,h1,h⟩:=An.1 h;split at h
  case h_2=>cases h
  rename_i hc;simp only[AI]at hc;obtain⟨vs,h2,h⟩:=An.1 h;cases h;obtain⟨Bj,r,hr⟩:=hf f Ap;rw[Bn hc.1,Bn hc.2]at hr;have k1:=vu n f.type h1 hr;have k2:=vq n (o+us.length) fs h2 (cs:=cs) (by simp at hl ⊢; omega) (λg hg=>hf g<|Al _ hg);have e:cs.drop o=(cs.drop o).take us.length++cs.drop (o+us.length):=by
   rw[← Js];exact(Kh _ _).symm
  rw[e];exact k1.append k2
end
def sw(b f n:Nat):(⟨b,f,U⟩:Addr).add n=⟨b,f+n,U⟩:=by
 unfold Addr.add;split
 .rename_i h;subst h;rfl
 .rfl
def aih{b f n:Nat}{es:List Value}(h:w.cells? base ⟨b,f,U⟩ n=I es):es.length=n/\ ∀j,j<n->w.cell? ⟨b,f+j,U⟩=I (es.getD j undef):=by
 unfold World.cells? at h;split at h
 case isFalse=>cases h
 have gen:∀(l:List Nat) {es:List Value},l.mapM (λi=>w.cell?<|(⟨b,f,U⟩:Addr).add i)=I es->es.length=l.length/\ ∀j x,l[j]? =I x->w.cell? ⟨b,f+x,U⟩=I (es.getD j undef):=by
  intro l
  induction l with
  | nil=>intro es h;cases h;exact⟨rfl,λj x hx=>by simp at hx⟩
  | cons a l ih=>
   intro es h;rw[WO]at h;obtain⟨y,h1,h⟩:=An.1 h;obtain⟨ys,h2,h⟩:=An.1 h;cases h;obtain⟨k1,k2⟩:=ih h2;refine⟨by simp[k1],λj x hx=> ?_⟩;cases j with
   | zero=>
    simp at hx;subst hx;rw[sw]at h1;simpa using h1
   | succ j=>simpa using k2 j x<|by simpa using hx
 obtain⟨k1,k2⟩:=gen _ h;exact⟨by simpa using k1,λj hj=>k2 j j<|by simp[hj]⟩
mutual
theorem aFi:∀(n:Nat) (t:TypeId) (c:CT) {v:Value},T9 P n t c=A1->(∃Bj d ps,Gv Ee P w base spare held Bj t [v]=I (d,ps))->iH w c v
 | 0,_,_,_,h,_=>by simp[T9]at h
 | n+1,t,c,v,h,⟨Bj,d,ps,hr⟩=>by
  unfold T9 at h;split at h
  .rename_i k k' ht;simp at h;subst h;obtain⟨x,e,hw⟩:=abb ht hr;cases e;exact⟨x,rfl,hw⟩
  .rename_i ht;obtain⟨x,e⟩:=uY ht hr;cases e;exact⟨x,rfl⟩
  .rename_i ht;obtain⟨x,e,hw⟩:=aaF ht hr;cases e;exact⟨x,rfl,hw⟩
  .rename_i e k ht;simp only[AI]at h;have hsz:=Bn h.1;rcases abW ht hr with e|⟨a,len,cap,e,hlc,hcm,hel⟩
   .cases e;exact⟨[],⟨Cw _,by simp⟩,λβ _=> .nil⟩
   .cases e;rw[hsz]at hel;have hch:∀i:Nat,∃p:Tof k×List Value,i<len->wfK k p.1/\w.cells? base (a.add<|i * ks k) (ks k)=I p.2/\ ∀β:Beta,(∀b,¬MZ β b)->RL (RC w β) (enc k p.1) p.2:=by
     intro i;by_cases hi:i<len
     .obtain⟨es,SJ,r',k1,k2⟩:=hel i hi;obtain⟨x,k3,k4⟩:=asM n _ k h.2 (Bj:=SJ) (r:=r') k2;exact⟨(x,es),λ_=>⟨k3,k1,k4⟩⟩
     .exact⟨(dfl k,[]),λh=>absurd h hi⟩
    obtain⟨X,hX⟩:=Classical.axiomOfChoice hch;refine⟨(BN len).map λi=>(X i).1,⟨by simp;omega,λx hx=> ?_⟩,λβ hβ=> ?_⟩
    .obtain⟨i,hi,rfl⟩:=DP.1 hx;exact(hX i<|DV.1 hi).1
    .cases len with
     | zero=>exact .nil
     | succ len=>
      obtain⟨b,f,sp⟩:=a;have h0:=(hX 0 J).2.1;have hsp:sp=U:=by
       rw[SE]at h0;unfold World.cells? at h0;split at h0
       case isFalse=>cases h0
       obtain⟨y,hy⟩:=WT h0 0<|DV.2<|Hc k;unfold Lw at hy;split at hy
       .split at hy
        .cases hy
        .rename_i hn;cases sp with
         | none=>rfl
         | some x=>exact absurd rfl hn
       .cases hy
      subst hsp;have Cv:∀i j,i<len+1->j<ks k->w.cell? ⟨b,f+(i * ks k+j),U⟩=I ((X i).2.getD j undef):=λi j hi hj=>by
       have h1:=(hX i hi).2.1;rw[sw]at h1;have:=(aih h1).2 j hj;rw[← DH];exact this
      refine .sl (λi j=>(X i).2.getD j undef) ⟨by simp,hlc⟩ (hβ b) (λi j hi hj=>Cv i j (by simpa using hi) hj) (λi x j c hx hc=> ?_);have hi:i<len+1:=by have:=(BP.1 hx).1;simpa using this
      have hx':x=(X i).1:=by
       rw[DE,Gd hi]at hx;exact(EI hx).symm
      subst hx';have hj:j<ks k:=by rw[← EH k (X i).1];exact(BP.1 hc).1
      have hR:=(hX i hi).2.2 β hβ;have hlen:(X i).2.length=ks k:=by rw[hR.1,EH]
      exact hR.2 j c _ hc (by simp[hlen,hj])
  .cases h
theorem asM:∀(n:Nat) (e:TypeId) (k:K) {Bj:Nat} {cs:List Value} {r:DataW H×List MemPlace},bW P n e k=A1->Gv Ee P w base spare held Bj e cs=I r->∃x:Tof k,wfK k x/\ ∀β:Beta,(∀b,¬MZ β b)->RL (RC w β) (enc k x) cs
 | 0,_,_,_,_,_,h,_=>by simp[bW]at h
 | n+1,e,k,Bj,cs,r,h,hr=>by
  unfold bW at h;split at h
  .rename_i ts hts;exact asX (aAV n ts (kct k) h<|vu 16 e hts hr)
  .cases h
theorem aAV:∀(n:Nat) (ts:List TypeId) (ks:List CT) {cs:List Value},PN P n ts ks=A1->Cells Ee P w base spare held ts cs->VM w ks cs
 | n,[],[],[],_,_=> .nil
 | n,[],[],_::_,_,h=>h.elim
 | n+1,t::ts,c::ks,v::cs,h,hc=>by
  simp only[PN,AI]at h;exact .cons (aFi n t c h.1 hc.1)<|aAV n ts ks h.2 hc.2
 | 0,_::_,_,_,h,_=>by simp[PN]at h
 | n+1,_::_,[],_,h,_=>by simp[PN]at h
 | n,[],_::_,_,h,_=>by cases n<;>simp[PN]at h
 | n+1,_::_,_::_,[],_,hc=>hc.elim
end
end
end Go.VS
end
