/- An evaluator of the program's own code with its soundness, the printed texts of the functions, and plain laws of them (part 10). -/
import Derived.ChangeShapes
import Derived.Test.YtimdnaklfelapaaGreatDoorQAI
set_option linter.unusedVariables false
set_option linter.unusedSimpArgs false
set_option linter.defProp false
open Bool renaming and_eq_true→aqt
open Go.DataW renaming trod→ase
open Go.Lit renaming int→auF
open Go.World renaming cell?→at7
open List renaming drop_drop→asP,drop_eq_nil_of_le→asm,getElem?_eq_some_iff→aqF,getElem?_map→ari,getElem?_range→arP,mapM_cons→at6,mem_cons→aqS,mem_cons_of_mem→aqx,mem_cons_self→aqA,mem_map→arv,mem_range→arl,range→aqW,take_append_drop→ass
open Nat renaming add_assoc→arw,beq→aqK,zero_le→arB,zero_mul→au3
open Option renaming bind_eq_some_iff→aqw,map_eq_some_iff→aqY
open Option.some renaming inj→asb
noncomputable section
namespace Go.VS
open Go
inductive CT where
 | int (k:IntKind)
 | bool
 | str
 | sl (k:K)
def kct:K→List CT
 | .int=>[.int .i64]
 | .bool=>[.bool]
 | .u8=>[.int .u8]
 | .str=>[.str]
 | .note=>[.int .i64,.int .i64,.int .i64,.int .i64,.str]
 | .mark=>[.int .i64,.int .i64,.int .i64]
 | .mixed=>[.int .i64,.str]
 | .half=>[.int .i64,.int .i64,.int .i64,.int .i64,.int .i64,.sl .mixed]
 | .keep=>[.int .i64,.int .i64,.int .i64,.sl .note,.sl .mark,.sl .note]
 | .ajU=>[.int .i64,.bool,.str,.int .i64,.sl .half]
 | .aj4=>[.int .i64,.int .i64,.str,.bool]
 | .frame=>[.int .i64,.int .i64,.int .i64,.int .i64,.int .i64,.int .i64,.int .i64,.int .i64,.int .i64,.str]
 | .akw=>[.int .i64,.int .i64,.int .i64,.int .i64,.int .i64,.int .i64,.int .i64,.int .i64,.int .i64,.str]
 | .lk=>[.str,.int .i64,.str]
mutual
def W1 (P:Program):Nat→TypeId→Option (List TypeId)
 | 0,_=>none
 | n+1,t=>match P.underlying t with
  | some (.struct fs)=>(W2 P n 0 fs.toList).bind fun ts=>match aqK ts.length (P.cellsOf t) with
   | true=>some ts
   | false=>none
  | some (.int _)=>some [t]
  | some .bool=>some [t]
  | some .string=>some [t]
  | some (.slice _)=>some [t]
  | _=>none
def W2 (P:Program):Nat→Nat→List Field→Option (List TypeId)
 | _,_,[]=>some []
 | 0,_,_::_=>none
 | n+1,o,f::fs=>(W1 P n f.type).bind fun ts=>match aqK f.offset o&&aqK (P.cellsOf f.type) ts.length with
  | true=>(W2 P n (o+ts.length) fs).bind fun us=>some (ts++us)
  | false=>none
end
mutual
def Qx (P:Program):Nat→TypeId→CT→Bool
 | 0,_,_=>false
 | n+1,t,c=>match P.underlying t,c with
  | some (.int k),.int k'=>decide (k=k')
  | some .bool,.bool=>true
  | some .string,.str=>true
  | some (.slice e),.sl k=>aqK (P.cellsOf e) (ks k)&&WA P n e k
  | _,_=>false
def WA (P:Program):Nat→TypeId→K→Bool
 | 0,_,_=>false
 | n+1,e,k=>match W1 P 16 e with
  | some ts=>AA P n ts (kct k)
  | none=>false
def AA (P:Program):Nat→List TypeId→List CT→Bool
 | _,[],[]=>true
 | n+1,t::ts,c::cs=>Qx P n t c&&AA P n ts cs
 | _,_,_=>false
end
def wfI(n:Int):Prop:=(auF .i64 n).wf=true
def wfY(n:Int):Prop:=(auF .u8 n).wf=true
def wfS(s:aqp):Prop:=s.size≤maxLen
def wfL{α:Type}(p:α→Prop)(l:List α):Prop:=l.length≤maxLen∧ ∀ x∈l,p x
def Zu(n:ajT):Prop:=wfI n.fr∧wfI n.nu∧wfI n.to∧wfI n.un∧wfS n.tx
def aeg(n:Mark):Prop:=wfI n.mf∧wfI n.mn∧wfI n.mu
def aa3(n:ajV):Prop:=wfI n.nu∧wfS n.da
def aej(n:ajY):Prop:=wfI n.fr∧wfI n.nu∧wfI n.to∧wfI n.un∧wfI n.sz∧wfL aa3 n.got
def ait(n:ajZ):Prop:=wfI n.id∧wfI n.ti∧wfI n.nx∧wfL Zu n.held∧wfL aeg n.marks∧wfL Zu n.inbox
def aei(n:ajR):Prop:=wfI n.id∧wfS n.log∧wfI n.fo∧wfL aej n.ajS
def aef(n:ajW):Prop:=wfI n.src∧wfI n.dst∧wfS n.data
def agA(n:Frame):Prop:=wfI n.ki∧wfI n.src∧wfI n.dst∧wfI n.fr∧wfI n.nu∧wfI n.to∧wfI n.un∧wfI n.sz∧wfI n.mix∧wfS n.da
def agB(n:Event):Prop:=wfI n.ki∧wfI n.at_∧wfI n.fr∧wfI n.nu∧wfI n.wo∧wfI n.mix∧wfI n.kp∧wfI n.to∧wfI n.un∧wfS n.tx
def ajF(n:LK):Prop:=wfS n.wo∧wfI n.ki∧wfS n.fi
def wfK:(k:K)→Tof k→Prop
 | .int=>wfI
 | .bool=>fun _=>True
 | .u8=>wfY
 | .str=>wfS
 | .note=>Zu
 | .mark=>aeg
 | .mixed=>aa3
 | .half=>aej
 | .keep=>ait
 | .ajU=>aei
 | .aj4=>aef
 | .frame=>agA
 | .akw=>agB
 | .lk=>ajF
def ajp(w:World):CT→Value→Prop
 | .int k,c=> ∃ n,c= .int k n∧(auF k n).wf=true
 | .bool,c=> ∃ b,c= .bool b
 | .str,c=> ∃ s,c= .string s∧wfS s
 | .sl k,c=> ∃ xs:List (Tof k),wfL (wfK k) xs∧ ∀ β:Beta,(∀ b,¬ MZ β b)→RC w β (.sl k xs) c
inductive al3 (w:World):List CT→List Value→Prop
 | nil:al3 w [] []
 | cons {t:CT} {c:Value} {ts:List CT} {cs:List Value} (h:ajp w t c) (hs:al3 w ts cs):al3 w (t::ts) (c::cs)
section
variable {w:World}
def RL.alr{R:AV→Value→Prop}{c:AV}{v:Value}(h:R c v):RL R [c] [v]:= .cons h .nil
def ahI{k:K}{cs:List Value}(h:al3 w (kct k) cs): ∃ x:Tof k,wfK k x∧ ∀ β:Beta,(∀ b,¬ MZ β b)→RL (RC w β) (enc k x) cs:=by
 have L: ∀ {β:Beta} {v:Value},v.oneCell'=true→RC w β (.lit v) v:=fun h=> .lit h;cases k with
 | int=>
  obtain⟨⟩ | ⟨⟨a,rfl,ha⟩,h⟩:=h;cases h;exact⟨a,ha,fun β _=> .alr (L rfl)⟩
 | bool=>
  obtain⟨⟩ | ⟨⟨a,rfl⟩,h⟩:=h;cases h;exact⟨a,trivial,fun β _=> .alr (L rfl)⟩
 | u8=>
  obtain⟨⟩ | ⟨⟨a,rfl,ha⟩,h⟩:=h;cases h;exact⟨a,ha,fun β _=> .alr (L rfl)⟩
 | str=>
  obtain⟨⟩ | ⟨⟨a,rfl,ha⟩,h⟩:=h;cases h;exact⟨a,ha,fun β _=> .alr (L rfl)⟩
 | note=>
  obtain⟨⟩ | ⟨⟨a,rfl,ha⟩,h⟩:=h;obtain⟨⟩ | ⟨⟨b,rfl,hb⟩,h⟩:=h;obtain⟨⟩ | ⟨⟨c,rfl,hc⟩,h⟩:=h;obtain⟨⟩ | ⟨⟨d,rfl,hd⟩,h⟩:=h;obtain⟨⟩ | ⟨⟨e,rfl,he⟩,h⟩:=h;cases h;exact⟨(⟨a,b,c,d,e⟩:ajT),⟨ha,hb,hc,hd,he⟩,fun β _=> .cons (L rfl) (.cons (L rfl) (.cons (L rfl) (.cons (L rfl) (.alr (L rfl)))))⟩
 | mark=>
  obtain⟨⟩ | ⟨⟨a,rfl,ha⟩,h⟩:=h;obtain⟨⟩ | ⟨⟨b,rfl,hb⟩,h⟩:=h;obtain⟨⟩ | ⟨⟨c,rfl,hc⟩,h⟩:=h;cases h;exact⟨(⟨a,b,c⟩:Mark),⟨ha,hb,hc⟩,fun β _=> .cons (L rfl) (.cons (L rfl) (.alr (L rfl)))⟩
 | mixed=>
  obtain⟨⟩ | ⟨⟨a,rfl,ha⟩,h⟩:=h;obtain⟨⟩ | ⟨⟨b,rfl,hb⟩,h⟩:=h;cases h;exact⟨(⟨a,b⟩:ajV),⟨ha,hb⟩,fun β _=> .cons (L rfl) (.alr (L rfl))⟩
 | half=>
  obtain⟨⟩ | ⟨⟨a,rfl,ha⟩,h⟩:=h;obtain⟨⟩ | ⟨⟨b,rfl,hb⟩,h⟩:=h;obtain⟨⟩ | ⟨⟨c,rfl,hc⟩,h⟩:=h;obtain⟨⟩ | ⟨⟨d,rfl,hd⟩,h⟩:=h;obtain⟨⟩ | ⟨⟨e,rfl,he⟩,h⟩:=h;obtain⟨⟩ | ⟨⟨xs,hx,hr⟩,h⟩:=h;cases h;exact⟨(⟨a,b,c,d,e,xs⟩:ajY),⟨ha,hb,hc,hd,he,hx⟩,fun β hβ=> .cons (L rfl) (.cons (L rfl) (.cons (L rfl) (.cons (L rfl) (.cons (L rfl) (.alr (hr β hβ))))))⟩
 | keep=>
  obtain⟨⟩ | ⟨⟨a,rfl,ha⟩,h⟩:=h;obtain⟨⟩ | ⟨⟨b,rfl,hb⟩,h⟩:=h;obtain⟨⟩ | ⟨⟨c,rfl,hc⟩,h⟩:=h;obtain⟨⟩ | ⟨⟨xs,hx,hrx⟩,h⟩:=h;obtain⟨⟩ | ⟨⟨ys,hy,hry⟩,h⟩:=h;obtain⟨⟩ | ⟨⟨zs,hz,hrz⟩,h⟩:=h;cases h;exact⟨(⟨a,b,c,xs,ys,zs⟩:ajZ),⟨ha,hb,hc,hx,hy,hz⟩,fun β hβ=> .cons (L rfl) (.cons (L rfl) (.cons (L rfl) (.cons (hrx β hβ) (.cons (hry β hβ) (.alr (hrz β hβ))))))⟩
 | ajU=>
  obtain⟨⟩ | ⟨⟨a,rfl,ha⟩,h⟩:=h;obtain⟨⟩ | ⟨⟨b,rfl⟩,h⟩:=h;obtain⟨⟩ | ⟨⟨c,rfl,hc⟩,h⟩:=h;obtain⟨⟩ | ⟨⟨d,rfl,hd⟩,h⟩:=h;obtain⟨⟩ | ⟨⟨xs,hx,hr⟩,h⟩:=h;cases h;exact⟨(⟨a,b,c,d,xs⟩:ajR),⟨ha,hc,hd,hx⟩,fun β hβ=> .cons (L rfl) (.cons (L rfl) (.cons (L rfl) (.cons (L rfl) (.alr (hr β hβ)))))⟩
 | aj4=>
  obtain⟨⟩ | ⟨⟨a,rfl,ha⟩,h⟩:=h;obtain⟨⟩ | ⟨⟨b,rfl,hb⟩,h⟩:=h;obtain⟨⟩ | ⟨⟨c,rfl,hc⟩,h⟩:=h;obtain⟨⟩ | ⟨⟨d,rfl⟩,h⟩:=h;cases h;exact⟨(⟨a,b,c,d⟩:ajW),⟨ha,hb,hc⟩,fun β _=> .cons (L rfl) (.cons (L rfl) (.cons (L rfl) (.alr (L rfl))))⟩
 | frame=>
  obtain⟨⟩ | ⟨⟨a,rfl,ha⟩,h⟩:=h;obtain⟨⟩ | ⟨⟨b,rfl,hb⟩,h⟩:=h;obtain⟨⟩ | ⟨⟨c,rfl,hc⟩,h⟩:=h;obtain⟨⟩ | ⟨⟨d,rfl,hd⟩,h⟩:=h;obtain⟨⟩ | ⟨⟨e,rfl,he⟩,h⟩:=h;obtain⟨⟩ | ⟨⟨f,rfl,hf⟩,h⟩:=h;obtain⟨⟩ | ⟨⟨g,rfl,hg⟩,h⟩:=h;obtain⟨⟩ | ⟨⟨i,rfl,hi⟩,h⟩:=h;obtain⟨⟩ | ⟨⟨j,rfl,hj⟩,h⟩:=h;obtain⟨⟩ | ⟨⟨s,rfl,hs⟩,h⟩:=h;cases h;exact⟨(⟨a,b,c,d,e,f,g,i,j,s⟩:Frame),⟨ha,hb,hc,hd,he,hf,hg,hi,hj,hs⟩,fun β _=> .cons (L rfl) (.cons (L rfl) (.cons (L rfl) (.cons (L rfl) (.cons (L rfl) (.cons (L rfl) (.cons (L rfl) (.cons (L rfl) (.cons (L rfl) (.alr (L rfl))))))))))⟩
 | akw=>
  obtain⟨⟩ | ⟨⟨a,rfl,ha⟩,h⟩:=h;obtain⟨⟩ | ⟨⟨b,rfl,hb⟩,h⟩:=h;obtain⟨⟩ | ⟨⟨c,rfl,hc⟩,h⟩:=h;obtain⟨⟩ | ⟨⟨d,rfl,hd⟩,h⟩:=h;obtain⟨⟩ | ⟨⟨e,rfl,he⟩,h⟩:=h;obtain⟨⟩ | ⟨⟨f,rfl,hf⟩,h⟩:=h;obtain⟨⟩ | ⟨⟨g,rfl,hg⟩,h⟩:=h;obtain⟨⟩ | ⟨⟨i,rfl,hi⟩,h⟩:=h;obtain⟨⟩ | ⟨⟨j,rfl,hj⟩,h⟩:=h;obtain⟨⟩ | ⟨⟨s,rfl,hs⟩,h⟩:=h;cases h;exact⟨(⟨a,b,c,d,e,f,g,i,j,s⟩:Event),⟨ha,hb,hc,hd,he,hf,hg,hi,hj,hs⟩,fun β _=> .cons (L rfl) (.cons (L rfl) (.cons (L rfl) (.cons (L rfl) (.cons (L rfl) (.cons (L rfl) (.cons (L rfl) (.cons (L rfl) (.cons (L rfl) (.alr (L rfl))))))))))⟩
 | lk=>
  obtain⟨⟩ | ⟨⟨a,rfl,ha⟩,h⟩:=h;obtain⟨⟩ | ⟨⟨b,rfl,hb⟩,h⟩:=h;obtain⟨⟩ | ⟨⟨c,rfl,hc⟩,h⟩:=h;cases h;exact⟨(⟨a,b,c⟩:LK),⟨ha,hb,hc⟩,fun β _=> .cons (L rfl) (.cons (L rfl) (.alr (L rfl)))⟩
end
end Go.VS
namespace Go.VS
open Go
section
variable {H:Type} {akJ:TypeId×Value→H} {P:Program} {w:World} {base:Nat} {spare:Nat→Bool} {held:Bool}
def Cells(akJ:TypeId×Value→H)(P:Program)(w:World)(base:Nat)(spare:Nat→Bool)(held:Bool):List TypeId→List Value→Prop
 | [],[]=>True
 | t::ts,c::cs=>(∃ dQ d ps,ase akJ P w base spare held dQ t [c]=some (d,ps))∧Cells akJ P w base spare held ts cs
 | _,_=>False
def Cells.append: ∀ {ts us:List TypeId} {cs ds:List Value},Cells akJ P w base spare held ts cs→Cells akJ P w base spare held us ds→Cells akJ P w base spare held (ts++us) (cs++ds)
 | [],_,[],_,_,h=>h
 | t::ts,_,c::cs,_,h,k=>⟨h.1,Cells.append h.2 k⟩
 | [],_,_::_,_,h,_=>h.elim
 | _::_,_,[],_,h,_=>h.elim
def EE{α β:Type}{f:α→Option β}: ∀ {l:List α} {r:List β},l.mapM f=some r→ ∀ x∈l,∃ y,f x=some y
 | [],_,_,_,hx=>by cases hx
 | a::l,r,h,x,hx=>by
  rw[at6]at h;obtain⟨y,h1,h⟩:=aqw.1 h;obtain⟨ys,h2,h⟩:=aqw.1 h;rcases aqS.1 hx with rfl | hx
  ·exact⟨y,h1⟩
  ·exact EE h2 x hx
def Qd{dQ:Nat}{t:TypeId}{k:IntKind}{cs:List Value}{r:DataW H×List MemPlace}(ht:P.underlying t=some (.int k))(h:ase akJ P w base spare held dQ t cs=some r): ∃ n,cs=[.int k n]∧(auF k n).wf=true:=by
 cases dQ with
 | zero=>cases h
 | succ dQ=>
  unfold ase at h;rw[ht]at h;split at h<;>first | (cases h;done) | skip
  all_goals (rename_i heq;cases heq)
  rename_i k' n;split at h
  ·rename_i hc;obtain⟨rfl,hw⟩:=hc;exact⟨_,rfl,hw⟩
  ·cases h
def M9{dQ:Nat}{t:TypeId}{cs:List Value}{r:DataW H×List MemPlace}(ht:P.underlying t=some .bool)(h:ase akJ P w base spare held dQ t cs=some r): ∃ b,cs=[.bool b]:=by
 cases dQ with
 | zero=>cases h
 | succ dQ=>
  unfold ase at h;rw[ht]at h;split at h<;>first | (cases h;done) | skip
  all_goals (rename_i heq;cases heq)
  exact⟨_,rfl⟩
def FE{dQ:Nat}{t:TypeId}{cs:List Value}{r:DataW H×List MemPlace}(ht:P.underlying t=some .string)(h:ase akJ P w base spare held dQ t cs=some r): ∃ s,cs=[.string s]∧wfS s:=by
 cases dQ with
 | zero=>cases h
 | succ dQ=>
  unfold ase at h;rw[ht]at h;split at h<;>first | (cases h;done) | skip
  all_goals (rename_i heq;cases heq)
  split at h
  ·rename_i hc;exact⟨_,rfl,hc⟩
  ·cases h
def IF{dQ:Nat}{t e:TypeId}{cs:List Value}{r:DataW H×List MemPlace}(ht:P.underlying t=some (.slice e))(h:ase akJ P w base spare held dQ t cs=some r):
  cs=[.slice none 0 0]∨ ∃ a len cap,cs=[.slice (some a) len cap]∧len≤cap∧cap≤maxLen∧ ∀ i,i < len→ ∃ es alY r',w.cells? base (a.add (i * P.cellsOf e)) (P.cellsOf e)=some es∧ase akJ P w base spare held alY e es=some r':=by
 cases dQ with
 | zero=>cases h
 | succ dQ=>
  unfold ase at h;rw[ht]at h;split at h<;>first | (cases h;done) | skip
  all_goals (rename_i heq;cases heq)
  ·exact .inl rfl
  ·rename_i a len cap;refine .inr ⟨a,len,cap,rfl, ?_⟩;simp only at h;split at h
   ·rename_i hc;refine⟨hc.2.1,hc.2.2,fun i hi=> ?_⟩;obtain⟨ap4,h1,_⟩:=aqw.1 h;obtain⟨y,hy⟩:=EE h1 i (arl.2 hi);obtain⟨es,k1,k2⟩:=aqw.1 hy;exact⟨es,dQ,y,k1,k2⟩
   ·cases h
def TG{dQ:Nat}{t:TypeId}{fs:Array Field}{cs:List Value}{r:DataW H×List MemPlace}(ht:P.underlying t=some (.struct fs))(h:ase akJ P w base spare held dQ t cs=some r):
  cs.length=P.cellsOf t∧ ∀ f∈fs.toList,∃ alY r',ase akJ P w base spare held alY f.type ((cs.drop f.offset).take (P.cellsOf f.type))=some r':=by
 cases dQ with
 | zero=>cases h
 | succ dQ=>
  simp only[ase,ht]at h;split at h
  ·rename_i hc;obtain⟨xs,h1,_⟩:=aqY.1 h;refine⟨hc,fun f hf=> ?_⟩;obtain⟨y,hy⟩:=EE h1 f hf;exact⟨dQ,y,hy⟩
  ·cases h
mutual
theorem Ns: ∀ (n:Nat) (t:TypeId) {ts:List TypeId} {dQ:Nat} {cs:List Value} {r:DataW H×List MemPlace},W1 P n t=some ts→ase akJ P w base spare held dQ t cs=some r→Cells akJ P w base spare held ts cs
 | 0,_,_,_,_,_,h,_=>by cases h
 | n+1,t,ts,dQ,cs,r,h,hr=>by
  unfold W1 at h;split at h
  ·rename_i fs ht;obtain⟨us,h1,h⟩:=aqw.1 h;split at h
   case h_2=>cases h
   rename_i hl;cases h;obtain⟨k1,k2⟩:=TG ht hr;have hl:=aD hl;have:=JT n 0 fs.toList h1 (cs:=cs) (by simp[k1,hl]) (fun f hf=>k2 f hf);simpa using this
  ·rename_i k ht;cases h;obtain⟨x,rfl,_⟩:=Qd ht hr;exact⟨⟨_,r.1,r.2,hr⟩,trivial⟩
  ·rename_i ht;cases h;obtain⟨x,rfl⟩:=M9 ht hr;exact⟨⟨_,r.1,r.2,hr⟩,trivial⟩
  ·rename_i ht;cases h;obtain⟨x,rfl,_⟩:=FE ht hr;exact⟨⟨_,r.1,r.2,hr⟩,trivial⟩
  ·rename_i e ht;cases h;rcases IF ht hr with rfl | ⟨a,len,cap,rfl,_⟩
   ·exact⟨⟨_,r.1,r.2,hr⟩,trivial⟩
   ·exact⟨⟨_,r.1,r.2,hr⟩,trivial⟩
  ·cases h
theorem JT: ∀ (n o:Nat) (fs:List Field) {ts:List TypeId} {cs:List Value},W2 P n o fs=some ts→cs.length=o+ts.length→(∀ f∈fs,∃ dQ r,ase akJ P w base spare held dQ f.type ((cs.drop f.offset).take (P.cellsOf f.type))=some r)→
  Cells akJ P w base spare held ts (cs.drop o)
 | n,o,[],ts,cs,h,hl,_=>by
  have h:some []=some ts:=by cases n<;>exact h
  cases h;have:cs.drop o=[]:=asm (by simp at hl;omega);rw[this];trivial
 | 0,_,_::_,_,_,h,_,_=>by cases h
 | n+1,o,f::fs,ts,cs,h,hl,hf=>by
  unfold W2 at h;obtain⟨us,h1,h⟩:=aqw.1 h;split at h
  case h_2=>cases h
  rename_i hc;simp only[aqt]at hc;obtain⟨vs,h2,h⟩:=aqw.1 h;cases h;obtain⟨dQ,r,hr⟩:=hf f aqA;rw[aD hc.1,aD hc.2]at hr;have k1:=Ns n f.type h1 hr;have k2:=JT n (o+us.length) fs h2 (cs:=cs) (by simp at hl ⊢; omega) (fun g hg=>hf g (aqx _ hg));have e:cs.drop o=(cs.drop o).take us.length++cs.drop (o+us.length):=by
   rw[← asP];exact(ass _ _).symm
  rw[e];exact k1.append k2
end
def Zp(b f n:Nat):(⟨b,f,none⟩:Addr).add n=⟨b,f+n,none⟩:=by
 unfold Addr.add;split
 ·rename_i h;subst h;rfl
 ·rfl
def agi{b f n:Nat}{es:List Value}(h:w.cells? base ⟨b,f,none⟩ n=some es):es.length=n∧ ∀ j,j < n→w.cell? ⟨b,f+j,none⟩=some (es.getD j undef):=by
 unfold World.cells? at h;split at h
 case isFalse=>cases h
 have gen: ∀ (l:List Nat) {es:List Value},l.mapM (fun i=>w.cell? ((⟨b,f,none⟩:Addr).add i))=some es→es.length=l.length∧ ∀ j x,l[j]? =some x→w.cell? ⟨b,f+x,none⟩=some (es.getD j undef):=by
  intro l
  induction l with
  | nil=>intro es h;cases h;exact⟨rfl,fun j x hx=>by simp at hx⟩
  | cons a l ih=>
   intro es h;rw[at6]at h;obtain⟨y,h1,h⟩:=aqw.1 h;obtain⟨ys,h2,h⟩:=aqw.1 h;cases h;obtain⟨k1,k2⟩:=ih h2;refine⟨by simp[k1],fun j x hx=> ?_⟩;cases j with
   | zero=>
    simp at hx;subst hx;rw[Zp]at h1;simpa using h1
   | succ j=>simpa using k2 j x (by simpa using hx)
 obtain⟨k1,k2⟩:=gen _ h;exact⟨by simpa using k1,fun j hj=>k2 j j (by simp[hj])⟩
mutual
theorem VZ: ∀ (n:Nat) (t:TypeId) (c:CT) {v:Value},Qx P n t c=true→(∃ dQ d ps,ase akJ P w base spare held dQ t [v]=some (d,ps))→ajp w c v
 | 0,_,_,_,h,_=>by simp[Qx]at h
 | n+1,t,c,v,h,⟨dQ,d,ps,hr⟩=>by
  unfold Qx at h;split at h
  ·rename_i k k' ht;simp at h;subst h;obtain⟨x,e,hw⟩:=Qd ht hr;cases e;exact⟨x,rfl,hw⟩
  ·rename_i ht;obtain⟨x,e⟩:=M9 ht hr;cases e;exact⟨x,rfl⟩
  ·rename_i ht;obtain⟨x,e,hw⟩:=FE ht hr;cases e;exact⟨x,rfl,hw⟩
  ·rename_i e k ht;simp only[aqt]at h;have hsz:=aD h.1;rcases IF ht hr with e | ⟨a,len,cap,e,hlc,hcm,hel⟩
   ·cases e;exact⟨[],⟨arB _,by simp⟩,fun β _=> .nil⟩
   ·cases e;rw[hsz]at hel;have hch: ∀ i:Nat,∃ p:Tof k×List Value,i < len→wfK k p.1∧w.cells? base (a.add (i * ks k)) (ks k)=some p.2∧ ∀ β:Beta,(∀ b,¬ MZ β b)→RL (RC w β) (enc k p.1) p.2:=by
     intro i;by_cases hi:i < len
     ·obtain⟨es,alY,r',k1,k2⟩:=hel i hi;obtain⟨x,k3,k4⟩:=adC n _ k h.2 (dQ:=alY) (r:=r') k2;exact⟨(x,es),fun _=>⟨k3,k1,k4⟩⟩
     ·exact⟨(dfl k,[]),fun h=>absurd h hi⟩
    obtain⟨X,hX⟩:=Classical.axiomOfChoice hch;refine⟨(aqW len).map fun i=>(X i).1,⟨by simp;omega,fun x hx=> ?_⟩,fun β hβ=> ?_⟩
    ·obtain⟨i,hi,rfl⟩:=arv.1 hx;exact(hX i (arl.1 hi)).1
    ·cases len with
     | zero=>exact .nil
     | succ len=>
      obtain⟨b,f,sp⟩:=a;have h0:=(hX 0 (by omega)).2.1;have hsp:sp=none:=by
       rw[au3]at h0;unfold World.cells? at h0;split at h0
       case isFalse=>cases h0
       obtain⟨y,hy⟩:=EE h0 0 (arl.2 (oy k));unfold at7 at hy;split at hy
       ·split at hy
        ·cases hy
        ·rename_i hn;cases sp with
         | none=>rfl
         | some x=>exact absurd rfl hn
       ·cases hy
      subst hsp;have akc: ∀ i j,i < len+1→j < ks k→w.cell? ⟨b,f+(i * ks k+j),none⟩=some ((X i).2.getD j undef):=fun i j hi hj=>by
       have h1:=(hX i hi).2.1;rw[Zp]at h1;have:=(agi h1).2 j hj;rw[← arw];exact this
      refine .sl (fun i j=>(X i).2.getD j undef) ⟨by simp,hlc⟩ (hβ b) (fun i j hi hj=>akc i j (by simpa using hi) hj) (fun i x j c hx hc=> ?_);have hi:i < len+1:=by have:=(aqF.1 hx).1;simpa using this
      have hx':x=(X i).1:=by
       rw[ari,arP hi]at hx;exact(asb hx).symm
      subst hx';have hj:j < ks k:=by rw[← bh k (X i).1];exact(aqF.1 hc).1
      have hR:=(hX i hi).2.2 β hβ;have hlen:(X i).2.length=ks k:=by rw[hR.1,bh]
      exact hR.2 j c _ hc (by simp[hlen,hj])
  ·cases h
theorem adC: ∀ (n:Nat) (e:TypeId) (k:K) {dQ:Nat} {cs:List Value} {r:DataW H×List MemPlace},WA P n e k=true→ase akJ P w base spare held dQ e cs=some r→ ∃ x:Tof k,wfK k x∧ ∀ β:Beta,(∀ b,¬ MZ β b)→RL (RC w β) (enc k x) cs
 | 0,_,_,_,_,_,h,_=>by simp[WA]at h
 | n+1,e,k,dQ,cs,r,h,hr=>by
  unfold WA at h;split at h
  ·rename_i ts hts;exact ahI (Nw n ts (kct k) h (Ns 16 e hts hr))
  ·cases h
theorem Nw: ∀ (n:Nat) (ts:List TypeId) (ks:List CT) {cs:List Value},AA P n ts ks=true→Cells akJ P w base spare held ts cs→al3 w ks cs
 | n,[],[],[],_,_=> .nil
 | n,[],[],_::_,_,h=>h.elim
 | n+1,t::ts,c::ks,v::cs,h,hc=>by
  simp only[AA,aqt]at h;exact .cons (VZ n t c h.1 hc.1) (Nw n ts ks h.2 hc.2)
 | 0,_::_,_,_,h,_=>by simp[AA]at h
 | n+1,_::_,[],_,h,_=>by simp[AA]at h
 | n,[],_::_,_,h,_=>by cases n<;>simp[AA]at h
 | n+1,_::_,_::_,[],_,hc=>hc.elim
end
end
end Go.VS
end
