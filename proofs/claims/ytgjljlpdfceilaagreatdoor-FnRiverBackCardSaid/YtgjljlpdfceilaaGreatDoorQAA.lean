/- Part 1. -/
import Derived.Calls
import Derived.KernelRfl
import Derived.Orders
import Derived.Below
import Derived.Laws.Cells
import Derived.Laws.CopyRow
import Derived.Laws.Append
import Derived.Laws.AppendOwn
import Derived.Laws.Rows
import Derived.Lib.ItoaNum
import Derived.Lib.LaidTab
import Derived.Laws.Entries
import Derived.ChangeKeysEq
open Array renaming getElem?_eq_some_iff->HC,toArray_toList->lu,toList_setIfInBounds->lS
open BitVec renaming ofInt->FC
open Bool renaming and_eq_false_iff->Lx,and_eq_true->AD,false->A0,false_eq_true->Hc,false_ne_true->CQ,not_eq_true->GL,true->Y
open Classical renaming choose->My,choose_spec->Il
open Decidable renaming decide->U
open Go.Addr renaming add_lit->Gh
open Go.Lib renaming TabIs->M3,pow10Tab->N4
open Go.Region renaming binds->Fh
open Go.Result renaming andThen_ok->F2
open Go.Sem renaming run_bind->Ef
open Go.World renaming block_lt_of_cell?->TT,cell?->M1
open List renaming all_eq_true->DK,append_nil->CJ,eq_nil_of_length_eq_zero->Dw,getElem?_drop->Hd,getElem?_eq_some_iff->BO,getElem?_map->D7,getElem?_take->Ge,length_nil->CO,mem_of_getElem?->Ci,replicate->BS,take_append_drop->JK
open Nat renaming add_assoc->D8,add_mul->EG,add_zero->Hh,beq->Ag,beq_eq->HD,ble->Dx,blt->IG,eq_of_beq_eq_true->Yk,land->Oi,le_of_ble_eq_true->DW,le_refl->Ar,le_trans->CV,lor->BN,lt_of_lt_of_le->Gf,min->F1,mul_le_mul_right->E6
open Option renaming none->G,some->I
open Option.some renaming injEq->Bs
open UInt8 renaming ofNat->K5
set_option linter.all false
noncomputable section
namespace Go.VS
theorem aFb{p:Prop}(h:p:=by kernel_rfl):p:=h
theorem aE9{p:Prop}(h:p:=by decide):p:=h
theorem aE4{p:Prop}(h:p:=by simp):p:=h
theorem y7{p:Prop}(h:p:=by simp;omega):p:=h
theorem J{p:Prop}(h:p:=by omega):p:=h
open Go
universe u
theorem A8 {c : Prop} {h : Decidable c} (hnc :¬c) {α : Sort u} {t e : α} : (ite c t e) = e := if_neg hnc
theorem A5 {c : Prop} {h : Decidable c} (hc : c) {α : Sort u} {t e : α} : (ite c t e) = t := if_pos hc
theorem AR {p : Prop} [inst : Decidable p] (h : p) : U p = Y := decide_eq_true h
theorem BE {p : Prop} [inst : Decidable p] (h :¬p) : U p = A0 := decide_eq_false h
theorem Bd {p : Prop} [inst : Decidable p] (h : U p = Y) : p := of_decide_eq_true h
theorem LG {p : Prop} [inst : Decidable p] (h : U p = A0) :¬p := of_decide_eq_false h
theorem A2 {α : Sort u} {_ : Decidable True} (t e : α) : (ite True t e) = t := if_true t e
theorem AT (h : Decidable True) : @U True h = Y := decide_true h
theorem Af (h : Decidable False) : @U False h = A0 := decide_false h
abbrev A1 := ByteArray
abbrev D := Unit
theorem A4 {α : Sort u} {t e : α} : (ite (A0 = Y) t e) = e := if_neg CQ
structure A3 where
 fr:Int
 nu:Int
 to:Int
 un:Int
 tx:A1
structure Mark where
 mf:Int
 mn:Int
 mu:Int
structure AN where
 nu:Int
 da:A1
structure AE where
 fr:Int
 nu:Int
 to:Int
 un:Int
 sz:Int
 got:List AN
structure AJ where
 id:Int
 ti:Int
 nx:Int
 held:List A3
 marks:List Mark
 inbox:List A3
structure A7 where
 id:Int
 up:Bool
 log:A1
 fo:Int
 AH:List AE
structure AL where
 src:Int
 dst:Int
 data:A1
 sp:Bool
structure Frame where
 ki:Int
 src:Int
 dst:Int
 fr:Int
 nu:Int
 to:Int
 un:Int
 sz:Int
 mix:Int
 da:A1
structure Event where
 ki:Int
 at_:Int
 fr:Int
 nu:Int
 wo:Int
 mix:Int
 kp:Int
 to:Int
 un:Int
 tx:A1
structure LK where
 wo:A1
 ki:Int
 fi:A1
structure Shelf where
 lg:A1
 fd:Int
structure AA where
 ti:Int
 A9:List A7
 Ao:List Bool
 AS:List AL
 AY:List A3
 got:List A3
structure Rd where
 b:List Int
 p:Int
structure Sim where
 r:Rd
 wt:Int
 wk:List A7
 wl:List Bool
 wr:List AL
 ws:List A3
 wg:List A3
 ls:List Event
inductive K where
 | int|bool|u8|str|note|mark|mixed|half|keep|AQ|Ak|frame|CM|lk
abbrev Tof:K->Type
 | .int=>Int
 | .bool=>Bool
 | .u8=>Int
 | .str=>A1
 | .note=>A3
 | .mark=>Mark
 | .mixed=>AN
 | .half=>AE
 | .keep=>AJ
 | .AQ=>A7
 | .Ak=>AL
 | .frame=>Frame
 | .CM=>Event
 | .lk=>LK
def ks:K->Nat
 | .int=>1
 | .bool=>1
 | .u8=>1
 | .str=>1
 | .note=>5
 | .mark=>3
 | .mixed=>2
 | .half=>6
 | .keep=>6
 | .AQ=>5
 | .Ak=>4
 | .frame=>10
 | .CM=>10
 | .lk=>3
def noB:A1:=⟨#[]⟩
def B(l:List UInt8):A1:=⟨l.toArray⟩
def dfl:(k:K)->Tof k
 | .int=>(0:Int)
 | .bool=>A0
 | .u8=>(0:Int)
 | .str=>noB
 | .note=>(⟨0,0,0,0,noB⟩:A3)
 | .mark=>(⟨0,0,0⟩:Mark)
 | .mixed=>(⟨0,noB⟩:AN)
 | .half=>(⟨0,0,0,0,0,[]⟩:AE)
 | .keep=>(⟨0,0,0,[],[],[]⟩:AJ)
 | .AQ=>(⟨0,A0,noB,0,[]⟩:A7)
 | .Ak=>(⟨0,0,noB,A0⟩:AL)
 | .frame=>(⟨0,0,0,0,0,0,0,0,0,noB⟩:Frame)
 | .CM=>(⟨0,0,0,0,0,0,0,0,0,noB⟩:Event)
 | .lk=>(⟨noB,0,noB⟩:LK)
inductive AV where
 | un
 | lit (v:Value)
 | sl (k:K) (xs:List (Tof k))
 | arr (k:K) (xs:List (Tof k))
 | own (id:Nat)
 | ptr (id sz i o:Nat)
 | ipt (k:K) (x:Tof k) (o:Nat)
 | agg (cs:List AV)
 | tup (vs:List AV)
 | gd (g:Nat) (w:Bool) (v:AV)
abbrev AV.i(n:Int):AV:= .lit<|.int .i64 n
abbrev AV.b(n:Bool):AV:= .lit<|.bool n
abbrev AV.s(n:A1):AV:= .lit<|.string n
abbrev AV.y(n:Int):AV:= .lit<|.int .u8 n
def enc:(k:K)->Tof k->List AV
 | .int,n=>[.i n]
 | .bool,b=>[.b b]
 | .u8,n=>[.y n]
 | .str,s=>[.s s]
 | .note,n=>[.i n.fr,.i n.nu,.i n.to,.i n.un,.s n.tx]
 | .mark,n=>[.i n.mf,.i n.mn,.i n.mu]
 | .mixed,n=>[.i n.nu,.s n.da]
 | .half,n=>[.i n.fr,.i n.nu,.i n.to,.i n.un,.i n.sz,.sl .mixed n.got]
 | .keep,n=>[.i n.id,.i n.ti,.i n.nx,.sl .note n.held,.sl .mark n.marks,.sl .note n.inbox]
 | .AQ,n=>[.i n.id,.b n.up,.s n.log,.i n.fo,.sl .half n.AH]
 | .Ak,n=>[.i n.src,.i n.dst,.s n.data,.b n.sp]
 | .frame,n=>[.i n.ki,.i n.src,.i n.dst,.i n.fr,.i n.nu,.i n.to,.i n.un,.i n.sz,.i n.mix,.s n.da]
 | .CM,n=>[.i n.ki,.i n.at_,.i n.fr,.i n.nu,.i n.wo,.i n.mix,.i n.kp,.i n.to,.i n.un,.s n.tx]
 | .lk,n=>[.s n.wo,.i n.ki,.s n.fi]
inductive Ob where
 | box (e:TypeId) (cs:List AV)
 | row (e:TypeId) (fz:Bool) (k:K) (xs:List (Tof k))
 | arr (e:TypeId) (k:K) (xs:List (Tof k))
abbrev Hp:=Nat->Option Ob
def Ii:(a b:K)->List (Tof a)->Option (List<|Tof b)
 | .int,.int,xs=>I xs
 | .bool,.bool,xs=>I xs
 | .u8,.u8,xs=>I xs
 | .str,.str,xs=>I xs
 | .note,.note,xs=>I xs
 | .mark,.mark,xs=>I xs
 | .mixed,.mixed,xs=>I xs
 | .half,.half,xs=>I xs
 | .keep,.keep,xs=>I xs
 | .AQ,.AQ,xs=>I xs
 | .Ak,.Ak,xs=>I xs
 | .frame,.frame,xs=>I xs
 | .CM,.CM,xs=>I xs
 | .lk,.lk,xs=>I xs
 | _,_,_=>G
def CD(H:Hp)(k:K):AV->Option (List<|Tof k)
 | .sl k' xs=>Ii k' k xs
 | .lit (.slice G 0 0)=>I []
 | .own id=>match H id with
  | some (.row _ _ k' xs)=>Ii k' k xs
  | _=>G
 | _=>G
def dec(H:Hp):(k:K)->List AV->Option (Tof k)
 | .int,[.lit (.int .i64 n)]=>I n
 | .bool,[.lit (.bool b)]=>I b
 | .u8,[.lit (.int .u8 n)]=>I n
 | .str,[.lit (.string s)]=>I s
 | .note,[.lit (.int .i64 a),.lit (.int .i64 b),.lit (.int .i64 c),.lit (.int .i64 d),.lit (.string s)]=>I (⟨a,b,c,d,s⟩:A3)
 | .mark,[.lit (.int .i64 a),.lit (.int .i64 b),.lit (.int .i64 c)]=>I (⟨a,b,c⟩:Mark)
 | .mixed,[.lit (.int .i64 a),.lit (.string s)]=>I (⟨a,s⟩:AN)
 | .half,[.lit (.int .i64 a),.lit (.int .i64 b),.lit (.int .i64 c),.lit (.int .i64 d),.lit (.int .i64 e),x]=>
  (CD H .mixed x).bind λl=>I (⟨a,b,c,d,e,l⟩:AE)
 | .keep,[.lit (.int .i64 a),.lit (.int .i64 b),.lit (.int .i64 c),x,y,z]=>
  (CD H .note x).bind λl=>(CD H .mark y).bind λm=>(CD H .note z).bind λn=>I (⟨a,b,c,l,m,n⟩:AJ)
 | .AQ,[.lit (.int .i64 a),.lit (.bool u),.lit (.string s),.lit (.int .i64 b),x]=>
  (CD H .half x).bind λl=>I (⟨a,u,s,b,l⟩:A7)
 | .Ak,[.lit (.int .i64 a),.lit (.int .i64 b),.lit (.string s),.lit (.bool u)]=>I (⟨a,b,s,u⟩:AL)
 | .frame,[.lit (.int .i64 a),.lit (.int .i64 b),.lit (.int .i64 c),.lit (.int .i64 d),.lit (.int .i64 e),.lit (.int .i64 f),.lit (.int .i64 g),.lit (.int .i64 h),.lit (.int .i64 i),.lit (.string s)]=>
  I (⟨a,b,c,d,e,f,g,h,i,s⟩:Frame)
 | .CM,[.lit (.int .i64 a),.lit (.int .i64 b),.lit (.int .i64 c),.lit (.int .i64 d),.lit (.int .i64 e),.lit (.int .i64 f),.lit (.int .i64 g),.lit (.int .i64 h),.lit (.int .i64 i),.lit (.string s)]=>
  I (⟨a,b,c,d,e,f,g,h,i,s⟩:Event)
 | .lk,[.lit (.string a),.lit (.int .i64 b),.lit (.string c)]=>I (⟨a,b,c⟩:LK)
 | _,_=>G
end Go.VS
end
noncomputable section
namespace Go.VS
open Go
def upd{α:Type}(f:Nat->α)(i:Nat)(v:α):Nat->α:=λj=>match Ag j i with
 | true=>v
 | false=>f j
structure S where
 n:Nat
 T:Nat->AV
 H:Hp
 nid:Nat
 st:List (Nat->AV)
 pins:List Nat
 gs:Nat->Bool
def ZY:Value->Bool
 | .agg _=>A0
 | .tuple _=>A0
 | _=>Y
def ofV:Value->AV
 | .agg cs=>match cs.toList.all ZY with
  | true=> .agg (cs.toList.map .lit)
  | false=> .un
 | v=> .lit v
def S.ev(s:S):Operand->AV
 | .tmp t=>s.T t
 | .const v=>ofV v
 | _=> .un
def S.put(s:S)(d:Option Nat)(v:AV):S:=match d with
 | none=>s
 | some t=>{ s with T:=upd s.T t v }
def S.has(s:S)(d:Option Nat):Bool:=match d with
 | none=>Y
 | some t=>IG t s.n&& !(s.pins.any λp=>Ag p t)&& !(s.gs t)
def Eo(H:Hp)(b:Nat):List Ob->Hp
 | []=>H
 | o::os=>Eo (upd H b<|I o) (b+1) os
def Fu(f:AV->AV):AV->AV
 | .agg cs=> .agg (cs.map f)
 | v=>f v
def GF(f:AV->AV):AV->AV
 | .tup vs=> .tup (vs.map<|Fu f)
 | v=>Fu f v
def Ex(f:AV->AV):AV->AV
 | .gd g w v=> .gd g w (GF f v)
 | v=>GF f v
def CI(f:AV->AV):Option Ob->Option Ob
 | some (.box e cs)=>I (.box e<|cs.map f)
 | o=>o
def S.map(s:S)(f:AV->AV):S:=
 { s with T:=λt=>Ex f<|s.T t,H:=λj=>CI f<|s.H j,st:=s.st.map λT t=>Ex f (T t) }
def S.EH(s:S)(id:Nat)(o:Option Ob):S:={ s with H:=upd s.H id o }
def kl1(id:Nat):AV->AV
 | .own j=>match Ag j id with
  | true=> .un
  | false=> .own j
 | .ptr j z i o=>match Ag j id with
  | true=> .un
  | false=> .ptr j z i o
 | v=>v
def fz1(id:Nat)(k:K)(xs:List (Tof k)):AV->AV
 | .own j=>match Ag j id with
  | true=> .sl k xs
  | false=> .own j
 | .ptr j z i o=>match Ag j id with
  | true=> .un
  | false=> .ptr j z i o
 | v=>v
def S.kill(s:S)(id:Nat):S:=(s.map<|kl1 id).EH id G
def S.freeze(s:S)(id:Nat):S:=match s.H id with
 | some (.row _ _ k xs)=>(s.map<|fz1 id k xs).EH id G
 | _=>s.kill id
def L6(P:Program)(t:TypeId):Option Bool:=match P.underlying t with
 | some (.struct _)=>I Y
 | some (.array _ _)=>I Y
 | some _=>I A0
 | none=>G
def Lc(P:Program)(t:TypeId)(f:Nat):Option Field:=match P.underlying t with
 | some (.struct fs)=>fs[f]?
 | _=>G
def GY:AV->Option (List AV)
 | .un=>G
 | .gd _ _ _=>G
 | .lit (.tuple _)=>G
 | .lit (.agg _)=>G
 | .tup _=>G
 | .arr _ _=>G
 | .agg cs=>I cs
 | v=>I [v]
def I4(P:Program)(t:TypeId):Option (List AV):=(P.info? t).bind λi=>i.zero.bind λz=>match z.cells.toList.all ZY with
 | true=>I (z.cells.toList.map .lit)
 | false=>G
def ZZ:AV->AV->Bool
 | .lit (.int k n),.lit (.int k' m)=>U (k=k')&&U (n=m)
 | .lit (.bool a),.lit (.bool b)=>a == b
 | .lit (.string a),.lit (.string b)=>Ag a.size 0&&Ag b.size 0
 | .lit (.slice G 0 0),.sl _ []=>Y
 | _,_=>A0
def M6:List AV->List AV->Bool
 | [],[]=>Y
 | a::l,b::m=>ZZ a b&&M6 l m
 | _,_=>A0
def zok(P:Program)(t:TypeId)(k:K):Bool:=match I4 P t with
 | some zs=>M6 zs (enc k<|dfl k)
 | none=>A0
def IW(P:Program)(t:TypeId):Option TypeId:=match P.underlying t with
 | some (.slice e)=>I e
 | _=>G
def inb(i:Int)(n:Nat):Bool:=U (0<=i)&&U (i<(n:Int))
def bt(s:A1)(i:Int):Int:=((s.data.toList.getD i.toNat 0).toNat:Int)
def rd{α:Type}(d:α)(xs:List α)(i:Int):α:=xs.getD i.toNat d
def BA(s:A1):List Int:=s.data.toList.map λb=>(b.toNat:Int)
def BH(xs:List Int):A1:=⟨(xs.map λn=>K5 n.toNat).toArray⟩
def Dt(k:IntKind)(a b:Int):Int:=k.wrap ((FC k.bits a ^^^ FC k.bits b).toNat:Int)
def abe(k:IntKind)(a b:Int):Int:=k.wrap ((FC k.bits a &&& FC k.bits b).toNat:Int)
def ior(k:IntKind)(a b:Int):Int:=k.wrap ((FC k.bits a ||| FC k.bits b).toNat:Int)
def w64(n:Int):Int:=IntKind.i64.wrap n
def w8(n:Int):Int:=IntKind.u8.wrap n
def Ac(n:Nat):Bool:=U<|n<=4294967296
abbrev PR:=Option<|Bool×AV×List Ob
def okA(v:AV):PR:=I (Y,v,[])
def okN:AV->PR
 | .gd _ _ _=>G
 | v=>okA v
def HQ(P:Program)(t:TypeId)(cs:List AV)(o:Nat):Option AV:=match L6 P t with
 | some Y=>match Dx (o+P.cellsOf t) cs.length&&Dx 1 (P.cellsOf t) with
  | true=>I (.agg<|(cs.drop o).take<|P.cellsOf t)
  | false=>G
 | some A0=>cs[o]?
 | none=>G
def Jr(P:Program)(H:Hp)(t:TypeId):AV->Option AV
 | .ipt k x o=>HQ P t (enc k x) o
 | .ptr id z i o=>match H id with
  | some (.box _ cs)=>match i with
   | 0=>HQ P t cs o
   | _=>G
  | some (.row _ _ k xs)=>match Ag z (ks k) with
   | true=>HQ P t (enc k<|xs.getD i<|dfl k) o
   | false=>G
  | some (.arr e k xs)=>match P.underlying t with
   | some (.array _ _)=>match Ag e t&&Dx 1 (P.cellsOf t),i,o with
    | true,0,0=>I (.arr k xs)
    | _,_,_=>G
   | _=>match Ag z (ks k) with
    | true=>HQ P t (enc k<|xs.getD i<|dfl k) o
    | false=>G
  | none=>G
 | _=>G
def Tm(op:BinOp)(k:IntKind)(a b:Int):PR:=match op with
 | .add=>okA (.lit<|.int k<|k.wrap<|a+b)
 | .sub=>okA (.lit<|.int k<|k.wrap<|a - b)
 | .mul=>okA (.lit<|.int k<|k.wrap<|a * b)
 | .quo=>I (!decide (b=0),.lit<|.int k<|k.wrap<|a.tdiv b,[])
 | .rem=>I (!decide (b=0),.lit<|.int k<|a.tmod b,[])
 | .xor=>okA (.lit<|.int k<|Dt k a b)
 | .and=>okA (.lit<|.int k<|abe k a b)
 | .or=>okA (.lit<|.int k<|ior k a b)
 | .eql=>okA (.b<|U<|a=b)
 | .neq=>okA (.b<|!decide (a=b))
 | .lss=>okA (.b<|U<|a<b)
 | .leq=>okA (.b<|U<|a<=b)
 | .gtr=>okA (.b<|U<|b<a)
 | .geq=>okA (.b<|U<|b<=a)
 | _=>G
def Tl(op:BinOp)(a b:A1):PR:=match op with
 | .add=>I (U<|a.size+b.size<=4611686018427387904,.s<|a++b,[])
 | .eql=>okA (.b<|U<|a=b)
 | .neq=>okA (.b<|!decide (a=b))
 | _=>G
def eqC:List AV->List AV->Option Bool
 | [],[]=>I Y
 | .lit (.int k a)::l,.lit (.int k' b)::m=>match U (k=k') with
  | true=>(eqC l m).bind λr=>I<|U (a=b)&&r
  | false=>G
 | .lit (.bool a)::l,.lit (.bool b)::m=>(eqC l m).bind λr=>I<|U (a=b)&&r
 | .lit (.string a)::l,.lit (.string b)::m=>(eqC l m).bind λr=>I<|U (a=b)&&r
 | _,_=>G
def ZQ(P:Program):Nat->List Field->List AV->Bool
 | _,[],_=>Y
 | n,f::fs,c::cs=>(match P.underlying f.type,c with
  | some .bool,.lit (.bool _)=>Y
  | some (.int _),.lit (.int _ _)=>Y
  | some .string,.lit (.string _)=>Y
  | _,_=>A0)&&Ag f.offset n&& !(f.name == "_")&&ZQ P (n+1) fs cs
 | _,_,_=>A0
def nP(P:Program)(t:TypeId)(cs:List AV):Bool:=match P.underlying t with
 | some (.struct fs)=>ZQ P 0 fs.toList cs&&Ag fs.size cs.length&& !P.stoodInHeld t&& !P.eqGuardType P.depth t
 | _=>A0
def P1(P:Program)(op:BinOp)(t:TypeId):AV->AV->PR
 | .lit (.int k a),.lit (.int k' b)=>match U (k=k') with
  | true=>Tm op k a b
  | false=>G
 | .lit (.string a),.lit (.string b)=>Tl op a b
 | .lit (.bool a),.lit (.bool b)=>match P.underlying t,op with
  | some .bool,.eql=>okA (.b<|U<|a=b)
  | some .bool,.neq=>okA (.b<|!decide (a=b))
  | _,_=>G
 | .agg a,.agg b=>match nP P t a,Ag a.length b.length,eqC a b,op with
  | true,Y,I r,.eql=>okA (.b r)
  | true,Y,I r,.neq=>okA (.b<|!r)
  | _,_,_,_=>G
 | _,_=>G
def unA:UnOp->AV->PR
 | .not,.lit (.bool b)=>okA (.b<|!b)
 | .neg,.lit (.int k n)=>okA (.lit<|.int k<|k.wrap<|0 - n)
 | _,_=>G
def Ga(g:Nat)(w:Bool):AV->AV
 | .gd g' w' v=>match Ag g g',w == w' with
  | true,Y=>v
  | _,_=> .gd g' w' v
 | v=>v
def QA(w:Bool)(v:AV):Operand->AV
 | .tmp g=>Ga g w v
 | _=>v
def Kl:AV->Option Bool
 | .lit (.bool b)=>I b
 | _=>G
def OV(ρ:Operand->AV)(c a b:Operand):PR:=match ρ c,a,b with
 | .lit (.bool q),.const (.bool Y),b=>match Kl (QA A0 (ρ b) c) with
  | some y=>okA (.b<|q||y)
  | none=>match q with
   | true=>okA (.b Y)
   | false=>okN (ρ b)
 | .lit (.bool q),a,.const (.bool A0)=>match Kl (QA Y (ρ a) c) with
  | some x=>okA (.b<|q&&x)
  | none=>match q with
   | true=>okN (ρ a)
   | false=>okA (.b A0)
 | .lit (.bool q),a,b=>match q with
  | true=>okN (ρ a)
  | false=>okN (ρ b)
 | _,_,_=>G
def I2(ρ:Operand->AV):Nat->List (Nat×Operand)->Option (List AV)
 | _,[]=>I []
 | n,(i,x)::l=>match Ag i n with
  | true=>(I2 ρ (n+1) l).bind λvs=>I<|ρ x::vs
  | false=>G
def Mi(k:K):List AV->Option (List<|Tof k)
 | []=>I []
 | v::l=>(GY v).bind λcs=>(dec (λ_=>G) k cs).bind λx=>(Mi k l).bind λxs=>I<|x::xs
def Gw(cs:List AV)(o:Nat)(ys:List AV):List AV:=cs.take o++ys++cs.drop (o+ys.length)
def I0(P:Program)(ρ:Operand->AV)(t:TypeId):List (Nat×Operand)->List AV->Option (List AV)
 | [],cs=>I cs
 | (i,x)::l,cs=>(Lc P t i).bind λf=>(GY<|ρ x).bind λys=>
  match Ag ys.length (P.cellsOf f.type)&&Dx (f.offset+ys.length) cs.length with
  | true=>I0 P ρ t l (Gw cs f.offset ys)
  | false=>G
def JG(lo hi:Option AV)(n:Nat):Option (Bool×Int×Int):=match lo,hi with
 | none,G=>I (Y,0,n)
 | some (.lit (.int _ l)),G=>I (U (0<=l)&&U (l<=(n:Int)),l,n)
 | none,I (.lit (.int _ h))=>I (U (0<=h)&&U (h<=(n:Int)),0,h)
 | some (.lit (.int _ l)),I (.lit (.int _ h))=>I ((U (0<=h)&&U (h<=(n:Int)))&&(U (0<=l)&&U (l<=h)),l,h)
 | _,_=>G
def Ij{α:Type}(lo hi:Option AV)(l h:Int)(xs:List α):List α:=match lo,hi with
 | none,G=>xs
 | some _,G=>xs.drop l.toNat
 | none,I _=>xs.take h.toNat
 | some _,I _=>(xs.take h.toNat).drop l.toNat
def J0(P:Program)(H:Hp)(t:TypeId)(v:AV):Bool:=match P.underlying t,v with
 | some .string,.lit (.string _)=>Y
 | some (.slice e),.sl k _=>Ag (P.cellsOf e) (ks k)
 | some (.slice e),.lit (.slice _ _ _)=>Dx 1 (P.cellsOf e)
 | some (.slice e),.own id=>match H id with
  | some (.row _ _ k _)=>Ag (P.cellsOf e) (ks k)
  | _=>A0
 | _,_=>A0
def QD(lo hi:Option AV):AV->PR
 | .lit (.string s)=>(JG lo hi s.size).bind fun(c,l,h)=>I (c,.s<|s.extract l.toNat h.toNat,[])
 | .sl k xs=>(JG lo hi xs.length).bind fun(c,l,h)=>I (c,.sl k<|Ij lo hi l h xs,[])
 | .lit (.slice G 0 0)=>(JG lo hi 0).bind fun(c,_,_)=>I (c,.lit<|.slice G 0 0,[])
 | _=>G
def Ih(P:Program)(src dst:TypeId)(b:AV):PR:=match P.underlying src,P.underlying dst,b with
 | some _,I (.int k),.lit (.int _ n)=>okA (.lit<|.int k<|k.wrap n)
 | some .string,I .string,.lit (.string s)=>okA (.s s)
 | some .string,I (.slice e),.lit (.string s)=>match P.underlying e with
  | some (.int .u8)=>I (Ac s.size,.own 0,[.row e Y .u8 (BA s)])
  | _=>G
 | _,_,_=>G
def Qs(P:Program)(t:TypeId)(i:Int):AV->PR
 | .lit (.string s)=>match P.underlying t with
  | some .string=>I (inb i s.size,.y<|bt s i,[])
  | _=>G
 | .arr k xs=>match P.underlying t with
  | some (.array n e)=>match Ag (ks k) 1&&Ag (P.cellsOf e) 1,L6 P e with
   | true,I A0=>(HQ P e (enc k<|rd (dfl k) xs i) 0).bind λv=>I (inb i xs.length&&inb i n,v,[])
   | _,_=>G
  | _=>G
 | _=>G
def Mc(P:Program)(H:Hp)(t:TypeId)(i:Int):AV->PR
 | .sl k xs=>match P.underlying t with
  | some (.slice e)=>match Ag (P.cellsOf e) (ks k) with
   | true=>I (inb i xs.length,.ipt k (rd (dfl k) xs i) 0,[])
   | false=>G
  | _=>G
 | .own id=>match P.underlying t,H id with
  | some (.slice e),I (.row _ _ k xs)=>match Ag (P.cellsOf e) (ks k) with
   | true=>I (inb i xs.length,.ptr id (ks k) i.toNat 0,[])
   | false=>G
  | _,_=>G
 | .ptr id z 0 0=>match P.underlying t,H id with
  | some (.array n e),I (.arr e' k xs)=>match Ag (P.cellsOf e) (ks k)&&Ag (P.cellsOf t) (n * ks k)&&Ag e' t with
   | true=>I (inb i xs.length,.ptr id (ks k) i.toNat 0,[])
   | false=>G
  | _,_=>G
 | _=>G
def J9(P:Program)(ρ:Operand->AV)(H:Hp)(c:Call):PR:=match c.callee,c.args.toList,c.argTypes.toList with
 | .builtin .len,[x],[t]=>match P.underlying t,ρ x with
  | some .string,.lit (.string s)=>okA (.i s.size)
  | some (.slice _),.sl _ xs=>okA (.i xs.length)
  | some (.slice _),.lit (.slice G 0 0)=>okA (.i 0)
  | some (.slice _),.own id=>match H id with
   | some (.row _ _ _ xs)=>okA (.i xs.length)
   | _=>G
  | some (.array n _),_=>okA (.i n)
  | _,_=>G
 | .builtin .min,[x,y],_=>match ρ x,ρ y with
  | .lit (.int k a),.lit (.int k' c)=>match U (k=k') with
   | true=>okA (.lit<|.int k<|if c<a then c else a)
   | false=>G
  | _,_=>G
 | .builtin .max,[x,y],_=>match ρ x,ρ y with
  | .lit (.int k a),.lit (.int k' c)=>match U (k=k') with
   | true=>okA (.lit<|.int k<|if a<c then c else a)
   | false=>G
  | _,_=>G
 | _,_,_=>G
def CA(P:Program)(kd:TypeId->Option K)(ρ:Operand->AV)(H:Hp)(b:Nat):Op->PR
 | .move x=>okN (ρ x)
 | .assign x=>okN (ρ x)
 | .pick c x y=>OV ρ c x y
 | .alloc t=>match P.underlying t with
  | some (.array n e)=>(kd e).bind λk=>(I4 P t).bind λzs=>match M6 zs ((BS n<|dfl k).flatMap<|enc k)&&Ag (P.cellsOf t) (n * ks k)&&Dx 1 n with
   | true=>I (Y,.ptr b (ks k) 0 0,[.arr t k (BS n<|dfl k)])
   | false=>G
  | _=>(I4 P t).bind λzs=>I (Y,.ptr b zs.length 0 0,[.box t zs])
 | .box t x=>(GY<|ρ x).bind λcs=>I (Y,.ptr b cs.length 0 0,[.box t cs])
 | .build t ps=>(I4 P t).bind λzs=>match P.underlying t with
  | some (.struct fs)=>match fs.toList.all λf=>(P.info? f.type).isSome with
   | true=>(I0 P ρ t ps.toList zs).bind λcs=>okA<|.agg cs
   | false=>G
  | _=>G
 | .buildSlice t len ps=>(IW P t).bind λe=>(kd e).bind λk=>(I2 ρ 0 ps.toList).bind λvs=>(Mi k vs).bind λxs=>
  match Ag vs.length len&&Ag (P.cellsOf e) (ks k)&&Dx len 65536&&zok P e k with
  | true=>I (Y,.own b,[.row e A0 k xs])
  | false=>G
 | .load t p=>(Jr P H t<|ρ p).bind okA
 | .nilCheck p=>match ρ p with
  | .ptr id z i o=>okA (.ptr id z i o)
  | .ipt k x o=>okA (.ipt k x o)
  | _=>G
 | .binOp op t x y _=>P1 P op t (ρ x) (ρ y)
 | .unOp op _ x=>unA op (ρ x)
 | .convert src dst x=>match P.underlying src,P.underlying dst with
  | some (.slice e),I .string=>match P.underlying e with
   | some (.int .u8)=>(CD H .u8<|ρ x).bind λxs=>okA<|.s<|BH xs
   | _=>G
  | _,_=>match Ih P src dst (ρ x) with
   | some (c,.own _,os)=>I (c,.own b,os)
   | r=>r
 | .makeSlice t l c=>match ρ l,ρ c,(match l,c with
   | .tmp i,.tmp j=>Ag i j
   | _,_=>A0) with
  | .lit (.int .i64 n),_,Y=>(IW P t).bind λe=>(kd e).bind λk=>
   match zok P e k&&Ag (P.cellsOf e) (ks k)&&Dx (P.bytesOf e) 256 with
   | true=>I (U (0<=n)&&U (n<=4294967296),.own b,[.row e A0 k (BS n.toNat<|dfl k)])
   | false=>G
  | .lit (.int .i64 n),.lit (.int .i64 m),A0=>match U (n=m) with
   | true=>(IW P t).bind λe=>(kd e).bind λk=>
    match zok P e k&&Ag (P.cellsOf e) (ks k)&&Dx (P.bytesOf e) 256 with
    | true=>I (U (0<=n)&&U (n<=4294967296),.own b,[.row e A0 k (BS n.toNat<|dfl k)])
    | false=>G
   | false=>G
  | _,_,_=>G
 | .slice t x lo hi G=>match J0 P H t (ρ x) with
  | true=>QD (lo.map ρ) (hi.map ρ) (ρ x)
  | false=>G
 | .fieldAddr t x f=>(Lc P t f).bind λfd=>match Dx 1 (P.cellsOf fd.type) with
  | true=>match ρ x with
   | .ptr id z i o=>okA (.ptr id z i<|o+fd.offset)
   | .ipt k v o=>okA (.ipt k v<|o+fd.offset)
   | _=>G
  | false=>G
 | .field t x f=>(Lc P t f).bind λfd=>match ρ x with
  | .agg cs=>(HQ P fd.type cs fd.offset).bind okA
  | _=>G
 | .indexAddr t x ix=>match ρ ix with
  | .lit (.int _ i)=>Mc P H t i (ρ x)
  | _=>G
 | .index t x ix=>match ρ ix with
  | .lit (.int _ i)=>Qs P t i (ρ x)
  | _=>G
 | .extract x i=>match ρ x with
  | .tup vs=>(vs[i]?).bind okA
  | _=>G
 | .call c=>J9 P ρ H c
 | _=>G
abbrev Dp:AV:= .lit undef
def Gz:AV->Option Nat
 | .own id=>I id
 | _=>G
def nop:AV->Bool
 | .lit (.pointer (I _))=>A0
 | .lit _=>Y
 | .sl _ _=>Y
 | .own _=>Y
 | _=>A0
def nQ(o n:Nat)(cs:List AV):Bool:=Dx (o+n) cs.length&&(Dx 1 o||nop (cs.headD<|.lit<|.bool A0))
def IZ(P:Program)(t:TypeId)(s:S):AV->AV->Option S
 | .ptr id z i o,x=>match s.H id with
  | some (.box e cs)=>match i with
   | 0=>(GY x).bind λys=>match Ag ys.length (P.cellsOf t)&&Dx 1 (P.cellsOf t)&&nQ o ys.length cs with
    | true=>I (s.EH id<|I<|.box e<|Gw cs o ys)
    | false=>G
   | _=>G
  | some (.row e fz k xs)=>(GY x).bind λys=>match Ag ys.length (P.cellsOf t)&&Dx 1 (P.cellsOf t)&&Dx (o+ys.length) (ks k)&&Ag z (ks k)&& !((ys.filterMap Gz).any λj=>Ag j id) with
   | true=>(dec s.H k<|Gw (enc k<|xs.getD i<|dfl k) o ys).bind λy=>
    I (((ys.filterMap Gz).foldl S.freeze s).EH id<|I<|.row e fz k<|xs.set i y)
   | false=>G
  | some (.arr e k xs)=>(GY x).bind λys=>match Ag ys.length (P.cellsOf t)&&Dx 1 (P.cellsOf t)&&Dx (o+ys.length) (ks k)&&Ag z (ks k) with
   | true=>(dec (λ_=>G) k<|Gw (enc k<|xs.getD i<|dfl k) o ys).bind λy=>I<|s.EH id<|I<|.arr e k<|xs.set i y
   | false=>G
  | none=>G
 | _,_=>G
def Jy(H:Hp)(k:K):AV->Option (List<|Tof k)
 | .lit (.string s)=>match k with
  | .u8=>I (BA s)
  | _=>G
 | v=>CD H k v
def Kb(P:Program)(kd:TypeId->Option K)(t t2:TypeId)(s:S)(b:Nat)(x y:AV):Option (Bool×AV×S):=
 (IW P t).bind λe=>(kd e).bind λk=>(Jy s.H k y).bind λys=>
 match Ag (P.cellsOf e) (ks k)&&Dx (P.bytesOf e) 256&&zok P e k&&(match P.underlying t2 with
   | some .string=>Y
   | some (.slice _)=>Y
   | _=>A0),x with
 | true,.lit (.slice G 0 0)=>I (Ac ys.length,.own b,s.EH b<|I<|.row e A0 k ys)
 | true,.own id=>match s.H id,(match y with
   | .own j=>Ag j id
   | _=>A0) with
  | some (.row e' A0 k' xs),A0=>match Ag e e' with
   | true=>(Ii k' k xs).bind λxs=>I (Ac<|xs.length+ys.length,.own id,(s.map<|kl1 id).EH id<|I<|.row e A0 k<|xs++ys)
   | false=>G
  | _,_=>G
 | _,_=>G
def Kj(P:Program)(t:TypeId)(s:S)(x y:AV):Option (AV×S):=match x with
 | .own id=>match s.H id,(match y with
   | .own j=>Ag j id
   | _=>A0) with
  | some (.row e fz k xs),A0=>(IW P t).bind λe'=>match Ag (P.cellsOf e') (ks k) with
   | true=>(Jy s.H k y).bind λys=>I (.i (F1 ys.length xs.length:Nat),s.EH id<|I<|.row e fz k<|ys.take xs.length++xs.drop ys.length)
   | false=>G
  | _,_=>G
 | _=>G
def KX(s:S)(id:Nat)(z:Bool)(lo hi:Option AV):Option (Bool×AV×S):=match s.H id with
 | some (.row e fz k xs)=>(JG lo hi xs.length).bind fun(c,l,h)=>match z,hi with
  | true,G=>I (c,.own id,(s.map<|kl1 id).EH id<|I<|.row e fz k<|Ij lo hi l h xs)
  | true,I _=>G
  | false,_=>I (c,.sl k<|Ij lo hi l h xs,s.freeze id)
 | _=>G
inductive Sh where
 | int (k:IntKind)
 | bool
 | str
 | sl (k:K)
 | row (e:TypeId) (k:K)
 | fz (k:K)
 | agg (l:List Sh)
 | Cf (e:TypeId) (k:K)
 | abx (e:TypeId) (k:K)
 | arr (k:K)
 | same (t:Nat)
 | box (e:TypeId) (l:List Sh)
mutual
abbrev LT:Sh->Type
 | .int _=>Int
 | .bool=>Bool
 | .str=>A1
 | .sl k=>List (Tof k)
 | .row _ k=>List (Tof k)
 | .fz k=>List (Tof k)
 | .Cf _ k=>List (Tof k)
 | .abx _ k=>List (Tof k)
 | .arr k=>List (Tof k)
 | .same _=>D
 | .agg l=>LTs l
 | .box _ l=>LTs l
abbrev LTs:List Sh->Type
 | []=>D
 | h::l=>LT h×LTs l
end
mutual
def Bn (E:Nat->AV) (H:Hp):(h:Sh)->AV->Option (LT h)
 | .int k,.lit (.int k' n)=>match U (k=k') with
  | true=>I n
  | false=>G
 | .bool,.lit (.bool b)=>I b
 | .str,.lit (.string s)=>I s
 | .sl k,.sl k' xs=>Ii k' k xs
 | .sl _,.lit (.slice G 0 0)=>I []
 | .row _ _,.lit (.slice G 0 0)=>I []
 | .row e k,.own id=>match H id with
  | some (.row e' A0 k' xs)=>match Ag e e' with
   | true=>Ii k' k xs
   | false=>G
  | _=>G
 | .fz k,v=>CD H k v
 | .Cf e k,.own id=>match H id with
  | some (.row e' Y k' xs)=>match Ag e e' with
   | true=>Ii k' k xs
   | false=>G
  | _=>G
 | .abx e k,.ptr id z 0 0=>match H id with
  | some (.arr e' k' xs)=>match Ag e e'&&Ag z (ks k) with
   | true=>Ii k' k xs
   | false=>G
  | _=>G
 | .arr k,.arr k' xs=>Ii k' k xs
 | .same t,.ptr id _ 0 0=>match E t with
  | .ptr id' _ 0 0=>match Ag id id' with
   | true=>I ()
   | false=>G
  | _=>G
 | .agg l,.agg cs=>GD E H l cs
 | .box e l,.ptr id _ 0 0=>match H id with
  | some (.box e' cs)=>match Ag e e' with
   | true=>GD E H l cs
   | false=>G
  | _=>G
 | _,_=>G
def GD (E:Nat->AV) (H:Hp):(l:List Sh)->List AV->Option (LTs l)
 | [],[]=>I ()
 | h::l,c::cs=>(Bn E H h c).bind λx=>(GD E H l cs).bind λxs=>I (x,xs)
 | _,_=>G
end
mutual
def Cc (H:Hp):Sh->AV->List Nat
 | .row _ _,.own id=>[id]
 | .Cf _ _,.own id=>[id]
 | .abx _ _,.ptr id _ 0 0=>[id]
 | .agg l,.agg cs=>Bi H l cs
 | .box _ l,.ptr id _ 0 0=>match H id with
  | some (.box _ cs)=>Bi H l cs++[id]
  | _=>[]
 | _,_=>[]
def Bi (H:Hp):List Sh->List AV->List Nat
 | h::l,c::cs=>Cc H h c++Bi H l cs
 | _,_=>[]
end
mutual
def CC (H:Hp):Sh->AV->List Nat
 | .row _ _,.own id=>[id]
 | .Cf _ _,.own id=>[id]
 | .abx _ _,.ptr id _ 0 0=>[id]
 | .agg l,.agg cs=>Ca H l cs
 | .box _ l,.ptr id _ 0 0=>match H id with
  | some (.box _ cs)=>Ca H l cs
  | _=>[]
 | _,_=>[]
def Ca (H:Hp):List Sh->List AV->List Nat
 | h::l,c::cs=>CC H h c++Ca H l cs
 | _,_=>[]
end
mutual
def Ck (H:Hp):Sh->AV->List Nat
 | .fz _,.own id=>[id]
 | .agg l,.agg cs=>Cs H l cs
 | .box _ l,.ptr id _ 0 0=>match H id with
  | some (.box _ cs)=>Cs H l cs
  | _=>[]
 | _,_=>[]
def Cs (H:Hp):List Sh->List AV->List Nat
 | h::l,c::cs=>Ck H h c++Cs H l cs
 | _,_=>[]
end
def Mr:List Nat->Bool
 | []=>Y
 | a::l=> !(l.any λb=>Ag a b)&&Mr l
def off(l m:List Nat):Bool:=l.all λa=> !(m.any λb=>Ag a b)
mutual
def BI (E:Nat->AV) (H:Hp) (b:Nat):(h:Sh)->LT h->AV×Hp×Nat
 | .int k,n=>(.lit<|.int k n,H,b)
 | .bool,x=>(.b x,H,b)
 | .str,s=>(.s s,H,b)
 | .sl k,xs=>(.sl k xs,H,b)
 | .row e k,xs=>(.own b,upd H b<|I<|.row e A0 k xs,b+1)
 | .fz k,xs=>(.sl k xs,H,b)
 | .Cf e k,xs=>(.own b,upd H b<|I<|.row e Y k xs,b+1)
 | .abx e k,xs=>(.ptr b (ks k) 0 0,upd H b<|I<|.arr e k xs,b+1)
 | .arr k,xs=>(.arr k xs,H,b)
 | .same t,_=>(E t,H,b)
 | .agg l,x=>match Aj E H b l x with
  | (cs,H,b)=>(.agg cs,H,b)
 | .box e l,x=>match Aj E H b l x with
  | (cs,H,b)=>(.ptr b cs.length 0 0,upd H b<|I<|.box e cs,b+1)
def Aj (E:Nat->AV) (H:Hp) (b:Nat):(l:List Sh)->LTs l->List AV×Hp×Nat
 | [],_=>([],H,b)
 | h::l,x=>match BI E H b h x.1 with
  | (c,H,b)=>match Aj E H b l x.2 with
   | (cs,H,b)=>(c::cs,H,b)
end
mutual
def Cy (E:Nat->AV) (H:Hp) (b:Nat):(h:Sh)->AV->LT h->AV×Hp×Nat
 | .box e l,.ptr id z 0 0,x=>match H id with
  | some (.box _ cs)=>match BP E H b l cs x with
   | (ds,H,b)=>(.ptr id z 0 0,upd H id<|I<|.box e ds,b)
  | _=>(.un,H,b)
 | .same _,v,_=>(v,H,b)
 | h,_,x=>BI E H b h x
def BP (E:Nat->AV) (H:Hp) (b:Nat):(l:List Sh)->List AV->LTs l->List AV×Hp×Nat
 | [],_,_=>([],H,b)
 | h::l,cs,x=>match Cy E H b h (cs.headD .un) x.1 with
  | (d,H,b)=>match BP E H b l cs.tail x.2 with
   | (ds,H,b)=>(d::ds,H,b)
end
def Te:Sh->Bool
 | .box _ _=>Y
 | _=>A0
abbrev B1:List Sh->List Sh
 | []=>[]
 | .box e l::ps=> .box e l::B1 ps
 | .int _::ps=>B1 ps
 | .bool::ps=>B1 ps
 | .str::ps=>B1 ps
 | .sl _::ps=>B1 ps
 | .row _ _::ps=>B1 ps
 | .fz _::ps=>B1 ps
 | .Cf _ _::ps=>B1 ps
 | .abx _ _::ps=>B1 ps
 | .arr _::ps=>B1 ps
 | .same _::ps=>B1 ps
 | .agg _::ps=>B1 ps
def Fq:List Sh->List AV->List AV
 | .box _ _::ps,v::vs=>v::Fq ps vs
 | _::ps,_::vs=>Fq ps vs
 | _,_=>[]
def Qg:K->Bool
 | .half=>A0
 | .keep=>A0
 | .AQ=>A0
 | _=>Y
mutual
def M8:Sh->Bool
 | .sl _=>Y
 | .fz _=>Y
 | .row _ k=> !Qg k
 | .Cf _ k=> !Qg k
 | .abx _ k=> !Qg k
 | .arr k=> !Qg k
 | .agg l=>CN l
 | .box _ l=>CN l
 | _=>A0
def CN:List Sh->Bool
 | []=>A0
 | h::l=>M8 h||CN l
end
structure DO where
 ps:List Sh
 rs:List Sh
 g:LTs ps->Option (LTs rs×LTs (B1 ps))
def Lq:List AV->AV
 | [v]=>v
 | vs=> .tup vs
def GK(q:Bool)(ids:List Nat)(s:S):S:=match q with
 | true=>ids.foldl S.freeze s
 | false=>s
def HT{Ω:Type}(m:DO)(s:S)(b:Nat)(d:Option Nat)(as:List AV)(k:S->Option Ω):Option Ω:=
 let E:Nat->AV:=λi=>(as[i]?).getD .un
 match GD E s.H m.ps as,Mr (Bi s.H m.ps as)&&off (Cs s.H m.ps as) (Bi s.H m.ps as) with
 | some x,Y=>(m.g x).bind λr=>
  let s1:=(Ca s.H m.ps as).foldl S.kill s
  let s2:S:=GK (CN m.rs||CN (B1 m.ps)) (Cs s.H m.ps as) s1
  match BP E s2.H b (B1 m.ps) (Fq m.ps as) r.2 with
  | (_,H,b1)=>match Aj E H b1 m.rs r.1 with
   | (vs,H,b2)=>match Dx b2 (b+16) with
    | true=>k ({ s2 with H:=H }.put d<|Lq vs)
    | false=>G
 | _,_=>G
structure Cx where
 P:Program
 kd:TypeId->Option K
 Γ:Nat->Option Nat->Option DO
 cz:Nat->Bool
 sp:Nat->Bool
abbrev Inl(Ω:Type):=Nat->Option Nat->List AV->S->(S->Option Ω)->Option Ω
def Ke(ρ:Operand->AV)(ps:List (Nat×Operand)):List Nat:=ps.flatMap λp=>match ρ p.2 with
 | .agg cs=>cs.filterMap Gz
 | v=>(Gz v).toList
def CG{Ω:Type}(C:Cx)(inl:Inl Ω)(o:Oper)(b:Nat)(s:S)(k:S->Option Ω):Option Ω:=
 match s.has o.dst with
 | false=>G
 | true=>match o.op with
  | .store t p x=>match IZ C.P t s (s.ev p) (s.ev x) with
   | some s=>k (s.put o.dst Dp)
   | none=>G
  | .call c=>match c.callee,c.args.toList,c.argTypes.toList with
   | .value (.func f),as,_=>match C.Γ f o.dst with
    | some m=>HT m s b o.dst (as.map s.ev) k
    | none=>inl f o.dst (as.map s.ev) s k
   | .builtin .append,[x,y],[t,u]=>match Kb C.P C.kd t u s b (s.ev x) (s.ev y) with
    | some (q,v,s)=>if q then k (s.put o.dst v) else G
    | none=>G
   | .builtin .copy,[x,y],[t,_]=>match Kj C.P t s (s.ev x) (s.ev y) with
    | some (v,s)=>k (s.put o.dst v)
    | none=>G
   | _,_,_=>match CA C.P C.kd s.ev s.H b o.op with
    | some (q,v,os)=>if q then k ({ s with H:=Eo s.H b os }.put o.dst v) else G
    | none=>G
  | .slice t x lo hi G=>match s.ev x with
   | .own id=>match J0 C.P s.H t (.own id) with
    | false=>G
    | true=>match KX s id (match o.dst with
     | some d=>C.cz d
     | none=>A0) (lo.map s.ev) (hi.map s.ev) with
    | some (c,v,s)=>if c then k (s.put o.dst v) else G
    | none=>G
   | _=>match CA C.P C.kd s.ev s.H b (.slice t x lo hi G) with
    | some (c,v,os)=>if c then k ({ s with H:=Eo s.H b os }.put o.dst v) else G
    | none=>G
  | .buildSlice t n ps=>
   let s:=(Ke s.ev ps.toList).foldl S.freeze s
   match CA C.P C.kd s.ev s.H b (.buildSlice t n ps) with
   | some (c,v,os)=>if c then k ({ s with H:=Eo s.H b os }.put o.dst v) else G
   | none=>G
  | op=>match CA C.P C.kd s.ev s.H b op with
   | some (c,v,os)=>if c then k ({ s with H:=Eo s.H b os }.put o.dst v) else G
   | none=>G
mutual
def GH:Sh->Bool
 | .int _=>Y
 | .bool=>Y
 | .str=>Y
 | .agg l=>Ml l
 | _=>A0
def Ml:List Sh->Bool
 | []=>Y
 | h::l=>GH h&&Ml l
end
mutual
def axK:(h:Sh)->LT h
 | .int _=>(0:Int)
 | .bool=>A0
 | .str=>noB
 | .sl _=>[]
 | .row _ _=>[]
 | .fz _=>[]
 | .Cf _ _=>[]
 | .abx _ _=>[]
 | .arr _=>[]
 | .same _=>()
 | .agg l=>Lj l
 | .box _ l=>Lj l
def Lj:(l:List Sh)->LTs l
 | []=>()
 | h::l=>(axK h,Lj l)
end
def spA(C:Cx)(b:Nat)(d:Option Nat)(ρ:Operand->AV)(H:Hp):Op->Option (Bool×AV)
 | .call c=>match c.callee,c.args.toList,c.argTypes.toList with
  | .value (.func f),as,_=>(C.Γ f d).bind λm=>
   let E:Nat->AV:=λi=>((as.map ρ)[i]?).getD .un
   match Ml m.rs&&(B1 m.ps).isEmpty&&(Ca H m.ps<|as.map ρ).isEmpty&&(Bi H m.ps<|as.map ρ).isEmpty with
   | true=>(GD E H m.ps<|as.map ρ).bind λx=>I ((m.g x).isSome,Lq (Aj E H b m.rs ((m.g x).getD (Lj m.rs,Lj<|B1 m.ps)).1).1)
   | false=>G
  | .builtin .append,_,_=>G
  | .builtin .copy,_,_=>G
  | _,_,_=>match J9 C.P ρ H c with
   | some (q,v,[])=>I (q,v)
   | _=>G
 | .store _ _ _=>G
 | .buildSlice _ _ _=>G
 | .slice t x lo hi G=>match ρ x with
  | .own _=>G
  | _=>match CA C.P C.kd ρ H b (.slice t x lo hi G) with
   | some (q,v,[])=>I (q,v)
   | _=>G
 | op=>match CA C.P C.kd ρ H b op with
  | some (q,v,[])=>I (q,v)
  | _=>G
def eqW(c want:Bool):Bool:=match want with
 | true=>c
 | false=> !c
def Al(c q:Bool):Bool:=match q with
 | true=>Y
 | false=> !c
def Ls(ops:Array Oper)(s:S):Nat->Oper->Option Bool
 | 0,_=>G
 | n+1,o=>match o.guard with
  | none=>I Y
  | some (j,want)=>(ops[j]?).bind λoj=>oj.dst.bind λg=>match s.T g with
   | .lit (.bool c)=>I (eqW c want)
   | .lit (.tuple _)=>I A0
   | .gd g' w' (.lit (.bool c))=>match oj.guard with
    | some (j',w2)=>match (ops[j']?).bind (·.dst) with
     | some g2=>match Ag g' g2,w' == w2 with
      | true,Y=>(Ls ops s n oj).bind λb=>I<|b&&eqW c want
      | _,_=>G
     | none=>G
    | none=>G
   | _=>G
def abh(c:Option Bool)(q:Bool):Bool:=match c with
 | some c=>Al c q
 | none=>q
def nU:AV->Bool
 | .gd _ _ _=>A0
 | _=>Y
def S.narrow(s:S)(g:Nat)(w:Bool):S:={ s with T:=upd (λt=>Ga g w<|s.T t) g (.b w) }
def evG{Ω:Type}(C:Cx)(inl:Inl Ω)(ops:Array Oper)(o:Oper)(b:Nat)(s:S)(k:S->Option Ω):Option Ω:=
 match o.guard with
 | none=>CG C inl o b s k
 | some (j,want)=>match (ops[j]?).bind (·.dst),(match o.dst with
   | some d=>C.sp d
   | none=>A0) with
  | none,_=>G
  | some g,Y=>match { s with gs:=upd s.gs g Y }.has o.dst,spA C b o.dst (s.narrow g want).ev s.H o.op with
   | true,I (q,v)=>match nU v with
    | true=>if abh (Ls ops s 4 o) q then k { s.put o.dst (.gd g want v) with gs:=upd s.gs g Y } else G
    | false=>G
   | _,_=>G
  | some g,A0=>match s.T g with
   | .lit (.bool c)=>
    let yes:Option Ω:=CG C inl o b { s with T:=upd s.T g (.b want) } k
    let no:Option Ω:=match s.has o.dst with
     | true=>k ({ s with T:=upd s.T g (.b<|!want) }.put o.dst Dp)
     | false=>G
    match want with
    | true=>if c then yes else no
    | false=>if c then no else yes
   | .lit (.tuple _)=>match s.has o.dst with
    | true=>k (s.put o.dst Dp)
    | false=>G
   | _=>G
def OZ{Ω:Type}(C:Cx)(inl:Inl Ω)(ops:Array Oper):List Oper->S->(S->Option Ω)->Option Ω
 | [],s,k=>k s
 | o::l,s,k=>evG C inl ops o s.nid s λs=>OZ C inl ops l { s with nid:=s.nid+16 } k
def ZH(Ω:Type):Inl Ω:=λ_ _ _ _ _=>G
mutual
def Dk:Sh->Bool
 | .agg _=>A0
 | .same _=>A0
 | .arr _=>A0
 | .box _ l=>Hy l
 | _=>Y
def Hy:List Sh->Bool
 | []=>Y
 | h::l=>Dk h&&Hy l
end
def abU:Sh->Bool
 | .agg l=>Hy l
 | .arr _=>Y
 | h=>Dk h
def Yu:List Sh->Bool
 | []=>Y
 | h::l=>abU h&&Yu l
def okS(m:DO):Bool:=Yu m.rs&&Hy (B1 m.ps)
def OQ(H:Hp)(x y:AV):List Nat:=match x with
 | .ptr id _ _ _=>match H id with
  | some (.row _ _ _ _)=>id::((GY y).getD []).filterMap Gz
  | _=>[id]
 | _=>[]
def fzl(q:Bool)(l:List Nat):List Nat:=match q with
 | true=>l
 | false=>[]
def Ju(v:AV):List Nat:=(Gz v).toList
def E4(C:Cx)(s:S)(o:Oper):Option (List Nat):=match o.op with
 | .store _ p x=>I (OQ s.H (s.ev p)<|s.ev x)
 | .call c=>match c.callee,c.args.toList with
  | .value (.func f),as=>match C.Γ f o.dst with
   | some m=>match (B1 m.ps).isEmpty with
    | true=>I (Ca s.H m.ps (as.map s.ev)++fzl (CN m.rs||CN (B1 m.ps)) (Cs s.H m.ps<|as.map s.ev))
    | false=>G
   | none=>G
  | .builtin .append,x::_=>I (Ju<|s.ev x)
  | .builtin .copy,x::_=>I (Ju<|s.ev x)
  | _,_=>I []
 | .slice _ x _ _ G=>I (Ju<|s.ev x)
 | .buildSlice _ _ ps=>I (Ke s.ev ps.toList)
 | _=>I []
def JH(C:Cx)(s:S)(o:Oper):List Nat:=match o.op with
 | .call c=>match c.callee,c.args.toList with
  | .value (.func f),as=>match C.Γ f o.dst with
   | some m=>Ca s.H m.ps (as.map s.ev)++fzl (CN m.rs||CN (B1 m.ps)) (Cs s.H m.ps<|as.map s.ev)
   | none=>[]
  | _,_=>[]
 | _=>[]
def okO(C:Cx)(o:Oper):Bool:=match o.op with
 | .call c=>match c.callee with
  | .value (.func f)=>match C.Γ f o.dst with
   | some m=>okS m
   | none=>A0
  | _=>Y
 | _=>Y
mutual
def Ie:Sh->Bool
 | .agg _=>A0
 | .arr _=>A0
 | .box _ l=>Mj l
 | _=>Y
def Mj:List Sh->Bool
 | []=>Y
 | h::l=>Ie h&&Mj l
end
def nX:Sh->Bool
 | .agg l=>Mj l
 | .arr _=>Y
 | h=>Ie h
def Jp:List Sh->Bool
 | []=>Y
 | h::l=>nX h&&Jp l
def NE:AV->Option (List Nat)
 | .own id=>I [id]
 | .ptr id _ _ _=>I [id]
 | .agg _=>G
 | .tup _=>G
 | .gd _ _ _=>G
 | _=>I []
def ZW:List AV->Option (List Nat)
 | []=>I []
 | c::cs=>(NE c).bind λa=>(ZW cs).bind λb=>I<|a++b
def ND:AV->Option (List Nat)
 | .agg cs=>ZW cs
 | v=>NE v
def nW:List AV->Option (List Nat)
 | []=>I []
 | c::cs=>(ND c).bind λa=>(nW cs).bind λb=>I<|a++b
def Zi:AV->Option (List Nat)
 | .tup vs=>nW vs
 | v=>ND v
def Tk:AV->Option (List Nat)
 | .gd _ _ v=>Zi v
 | v=>Zi v
def bit(i:Nat):Nat:=Nat.shiftLeft 1 i
def msk:List Nat->Nat
 | []=>0
 | i::l=>BN (bit i) (msk l)
def nm(b:Nat):Nat:=Nat.shiftLeft 65535 b
def dsj(a b:Nat):Bool:=Ag (Oi a b) 0
def sbs(a b:Nat):Bool:=Ag (Oi a b) a
def tst(a i:Nat):Bool:= !(dsj a<|bit i)
def ab8(H:Hp)(id:Nat):Option (List Nat):=match H id with
 | some (.box _ cs)=>ZW cs
 | _=>I []
def Yw(H:Hp):List Nat->Option (List Nat)
 | []=>I []
 | i::l=>(ab8 H i).bind λa=>(Yw H l).bind λb=>I<|a++b
def clo(H:Hp):Nat->List Nat->Option Nat
 | 0,[]=>I 0
 | 0,_::_=>G
 | n+1,l=>match l with
  | []=>I 0
  | i::l=>(Yw H<|i::l).bind λm=>(clo H n m).bind λr=>I<|BN (msk<|i::l) r
def Yy(ops:Array Oper):Nat->Oper->List Nat
 | 0,_=>[]
 | n+1,o=>match o.guard with
  | none=>[]
  | some (j,_)=>match ops[j]? with
   | some oj=>oj.dst.toList++Yy ops n oj
   | none=>[]
abbrev DD(ops:Array Oper)(o:Oper):List Nat:=o.looksAt ops++Yy ops 4 o
def mov:Op->Bool
 | .move _=>Y
 | .assign _=>Y
 | .nilCheck _=>Y
 | .binOp _ _ _ _ _=>Y
 | .unOp _ _ _=>Y
 | .fieldAddr _ _ _=>Y
 | .field _ _ _=>Y
 | .extract _ _=>Y
 | .index _ _ _=>Y
 | .build _ _=>Y
 | _=>A0
def pur(o:Oper):Bool:=match o.op with
 | .store _ _ _=>A0
 | .call _=>A0
 | .slice _ _ _ _ _=>A0
 | .buildSlice _ _ _=>A0
 | _=>Y
structure Rec where
 i:Nat
 b:Nat
 F:Nat
 N:Nat
 W:Nat
 K:Nat
 anc:Nat
 V:List Nat
 o:Oper
def HV(i:Nat):List Rec->Option Rec
 | []=>G
 | r::l=>match Ag r.i i with
  | true=>I r
  | false=>HV i l
def Qi(acc:List Rec):List Edge->Option Nat
 | []=>I 0
 | e::l=>match Fh .any e with
  | true=>(HV e.on acc).bind λr=>(Qi acc l).bind λm=>I<|BN (BN (bit e.on) r.anc) m
  | false=>Qi acc l
def nK(t:Nat):Option Nat->Bool
 | some d=>Ag d t
 | none=>A0
def abW(t:Nat)(l:List Nat):Bool:=l.any λx=>Ag x t
def P2(d:Option Nat)(l:List Nat):Bool:=match d with
 | some t=> !(abW t l)
 | none=>Y
def nM(d e:Option Nat):Bool:=match d,e with
 | some a,I b=> !(Ag a b)
 | _,_=>Y
def Qh(t:Nat):List Rec->Option Rec
 | []=>G
 | r::l=>match nK t r.o.dst with
  | true=>I r
  | false=>Qh t l
def ZV(s0:S)(acc:List Rec):List Nat->Option (List Nat)
 | []=>I []
 | t::l=>(match Qh t acc with
  | some r=>I r.V
  | none=>Tk (s0.T t)).bind λa=>(ZV s0 acc l).bind λb=>I<|a++b
def mvO(o:Oper):Bool:=mov o.op&&pur o&&o.guard.isNone
def OT(anc:Nat):List Rec->Nat->Nat
 | [],F=>F
 | r::l,F=>OT anc l (match tst anc r.i&& !(dsj r.W F)&& !(mvO r.o) with
  | true=>BN r.F F
  | false=>F)
def abM(C:Cx)(ops:Array Oper)(s0:S)(o:Oper)(i b:Nat)(acc:List Rec)(s:S):Option Rec:=
 (Qi acc o.after.toList).bind λanc=>(ZV s0 acc<|DD ops o).bind λl=>(clo s0.H 4 l).bind λc=>
 let F:=match mvO o with
  | true=>BN (msk l) (nm b)
  | false=>OT anc acc (BN c<|nm b)
 let W:=match E4 C s o with
  | none=>F
  | some l=>BN (msk l) (nm b)
 let K:=match E4 C s o with
  | none=>BN (msk<|JH C s o) (nm b)
  | some l=>BN (msk l) (nm b)
 let N:=match mvO o with
  | true=>nm b
  | false=>match pur o,o.guard with
   | true,G=>BN (msk l) (nm b)
   | _,_=>F
 match sbs W F with
 | true=>I { i:=i,b:=b,F:=F,N:=N,W:=W,K:=K,anc:=anc,V:=[],o:=o }
 | false=>G
def axY:Op->Bool
 | .load _ _=>Y
 | _=>A0
def abk(C:Cx)(ops:Array Oper)(s:S):Nat->Nat->AV
 | 0,t=>s.T t
 | n+1,t=>match ops.toList.find? (λo=>nK t o.dst) with
  | none=>s.T t
  | some o=>match mov o.op||axY o.op with
   | true=>(match CA C.P C.kd (λx=>match x with
     | .tmp t=>abk C ops s n t
     | x=>s.ev x) s.H s.nid o.op with
    | some (_,v,_)=>v
    | none=> .un)
   | false=> .un
def axR(o:Oper):Option Nat:=match o.op with
 | .slice _ (.tmp x) _ _ G=>I x
 | _=>G
def nS:List Nat->List Nat
 | []=>[]
 | i::l=>match l.any (Ag i) with
  | true=>i::nS l
  | false=>nS l
def Qm(C:Cx)(ops:Array Oper)(s:S):List Nat:=match ops.toList.filterMap axR with
 | []=>[]
 | [_]=>[]
 | xs=>nS (xs.filterMap λx=>Gz<|abk C ops s 4 x)
def chk(ops:Array Oper)(x r:Rec):Bool:=
 nM x.o.dst r.o.dst&&match tst r.anc x.i with
  | true=>(dsj x.W r.N||sbs x.F r.F)&&(P2 x.o.dst (DD ops r.o)||(sbs (msk x.V) r.F&&(mov r.o.op||sbs (msk x.V) r.N)))&&dsj x.F (nm r.b)
  | false=>(dsj x.K r.F&&dsj r.K x.F)&&(dsj x.W r.N&&dsj r.W x.N)&&(dsj x.W r.W&&(dsj x.F (nm r.b)&&dsj r.F (nm x.b)))&&P2 x.o.dst (DD ops r.o)&&P2 r.o.dst (DD ops x.o)
def vOf(s:S):Option Nat->Option (List Nat)
 | none=>I []
 | some t=>Tk (s.T t)
def evD{Ω:Type}(C:Cx)(ops:Array Oper)(s0:S):List Oper->Nat->Nat->List Rec->S->(S->Option Ω)->Option Ω
 | [],_,b,_,s,k=>k { s with nid:=b }
 | o::l,i,b,acc,s,k=>match abM C ops s0 o i b acc s with
  | none=>G
  | some r=>match acc.all (λx=>chk ops x r)&&okO C o&&P2 o.dst (DD ops o) with
   | true=>evG C (ZH Ω) ops o b s λs'=>(vOf s' o.dst).bind λV=>evD C ops s0 l (i+1) (b+16) ({ r with V:=V } ::acc) s' k
   | false=>G
abbrev Sch:=List<|Nat×Sh
abbrev Lv(c:Sch):Type:=LTs (c.map (·.2))
def mb(H:Hp)(T:Nat->AV):(c:Sch)->Option (Lv c)
 | []=>I ()
 | (t,h)::c=>(Bn T H h<|T t).bind λx=>(mb H T c).bind λxs=>I (x,xs)
def OE(H:Hp)(T:Nat->AV):Sch->List Nat
 | []=>[]
 | (t,h)::c=>Cc H h (T t)++OE H T c
def mV(H:Hp)(T:Nat->AV):Sch->List Nat
 | []=>[]
 | (t,h)::c=>Ck H h (T t)++mV H T c
def Mg(T:Nat->AV)(H:Hp)(b:Nat):(c:Sch)->Lv c->(Nat->AV)×Hp×Nat
 | [],_=>(T,H,b)
 | (t,h)::c,x=>match BI T H b h x.1 with
  | (v,H,b)=>Mg (upd T t v) H b c x.2
def mkS(n:Nat)(p:List Nat)(c:Sch)(x:Lv c):S:=match Mg (λ_=> .un) (λ_=>G) 0 c x with
 | (T,H,b)=>{ n:=n,T:=T,H:=H,nid:=b,st:=[],pins:=p,gs:=λ_=>A0 }
def abK(n:Nat)(c:Sch):Bool:=Mr (c.map (·.1))&&Jp (c.map (·.2))&&c.all λx=>IG x.1 n
def rdS(c:Sch)(s:S):Option (Lv c):=match s.st,Mr (OE s.H s.T c)&&off (mV s.H s.T c) (OE s.H s.T c),abK s.n c with
 | [],Y,Y=>mb s.H s.T c
 | _,_,_=>G
structure Loop where
 sch:Sch
 KE:Sch
 xid:Nat
 KD:Sch
 run:Lv sch->Option (Lv KD ⊕ Lv KE)
inductive Adv where
 | nil
 | one (a:Adv)
 | two (a b:Adv)
 | join (c:Sch) (a b:Adv)
 | loop (l:Loop)
def Adv.a:Adv->Adv
 | .one a=>a
 | .two a _=>a
 | .join _ a _=>a
 | _=> .nil
def Adv.z:Adv->Adv
 | .two _ b=>b
 | .join _ _ b=>b
 | _=> .nil
structure Kt (Ω:Type) where
 nrm:S->Option Ω
 ret:S->Option Ω
 ext:Nat->S->Option Ω
def BT{Ω X:Type}(f:X->Option Ω)(m:Option (Ω ⊕ X)):Option Ω:=m.bind λr=>match r with
 | .inl o=>I o
 | .inr x=>f x
def AO{A B4 Ω:Type}(m:Option (A ⊕ B4))(f:A->Option Ω)(g:B4->Option Ω):Option Ω:=m.bind λr=>match r with
 | .inl a=>f a
 | .inr b=>g b
def HY{X H5:Type}(b:X->Option (X ⊕ H5)):Nat->X->Option H5
 | 0,_=>G
 | n+1,x=>(b x).bind λr=>match r with
  | .inl y=>HY b n y
  | .inr z=>I z
open Classical in
def AW {X H5:Type} (b:X->Option (X ⊕ H5)) (x:X):Option H5:=
 if h:∃n y,HY b n x=I y then I (My<|Il h) else G
def evk(C:Cx)(inl:(Ω:Type)->Inl Ω):Code->(Ω:Type)->Adv->Kt Ω->S->Option Ω
 | .skip,_,_,k,s=>k.nrm s
 | .region _ ops A0,Ω,_,k,s=>OZ C (inl Ω) ops ops.toList s k.nrm
 | .region _ ops Y,_,_,k,s=>evD C ops ((Qm C ops s).foldl S.freeze s) ops.toList 0 s.nid [] ((Qm C ops s).foldl S.freeze s) k.nrm
 | .seq a b,Ω,.join c u v,k,s=>
  BT (λx=>evk C inl b Ω v k<|mkS s.n s.pins c x) (evk C inl a (Ω ⊕ Lv c) u { nrm:=λs=>(rdS c s).bind λx=>I<|.inr x,ret:=λs=>(k.ret s).bind λo=>I<|.inl o,ext:=λj s=>(k.ext j s).bind λo=>I (.inl o) } s)
 | .seq a b,Ω,v,k,s=>evk C inl a Ω v.a { k with nrm:=evk C inl b Ω v.z k } s
 | .cond c x y,Ω,v,k,s=>match s.ev c with
  | .lit (.bool b)=>if b then evk C inl x Ω v.a k s else evk C inl y Ω v.z k s
  | _=>G
 | .block id c,Ω,v,k,s=>evk C inl c Ω v.a { k with ext:=λj s=>match Ag j id with
  | true=>k.nrm s
  | false=>k.ext j s } s
 | .loop _,_,.loop l,k,s=>(rdS l.sch s).bind λx=>AO (l.run x) (λy=>k.ret<|mkS s.n s.pins l.KD y) λy=>k.ext l.xid (mkS s.n s.pins l.KE y)
 | .exit id,_,_,k,s=>k.ext id s
 | .ret,_,_,k,s=>k.ret s
 | _,_,_,_,_=>G
def Q3(P:Program)(s:S):List ResultVar->Option (List AV)
 | []=>I []
 | .tmp t::l=>(Q3 P s l).bind λvs=>I<|s.T t::vs
 | .cell a t::l=>(Jr P s.H t<|s.T a).bind λv=>(Q3 P s l).bind λvs=>I<|v::vs
def Dz(i:Nat):List Sh->List Nat
 | []=>[]
 | h::ps=>match Te h with
  | true=>i::Dz (i+1) ps
  | false=>Dz (i+1) ps
def Qr(n:Nat)(ps:List Sh)(x:LTs ps):S:=match Aj (λ_=> .un) (λ_=>G) 0 ps x with
 | (vs,H,b)=>{ n:=n,T:=λt=>(vs[t]?).getD Dp,H:=H,nid:=b,st:=[],pins:=Dz 0 ps,gs:=λ_=>A0 }
def fin(P:Program)(fn:Func)(m:DO)(s:S):Option (LTs m.rs×LTs (B1 m.ps)):=
 (Q3 P s fn.results.toList).bind λvs=>
 match Mr (Bi s.H (m.rs++B1 m.ps)<|vs++(Dz 0 m.ps).map s.T)&&off (Cs s.H (m.rs++B1 m.ps)<|vs++(Dz 0 m.ps).map s.T) (Bi s.H (m.rs++B1 m.ps)<|vs++(Dz 0 m.ps).map s.T) with
 | true=>(GD s.T s.H m.rs vs).bind λr=>(GD s.T s.H (B1 m.ps)<|(Dz 0 m.ps).map s.T).bind λq=>I (r,q)
 | false=>G
def evF(C:Cx)(inl:(Ω:Type)->Inl Ω)(fn:Func)(body:Code)(v:Adv)(m:DO)(x:LTs m.ps):Option (LTs m.rs×LTs (B1 m.ps)):=
 evk C inl body _ v { nrm:=fin C.P fn m,ret:=fin C.P fn m,ext:=λ_ _=>G } (Qr fn.ntmps m.ps x)
def Zj(C:Cx)(inl:(Ω:Type)->Inl Ω)(fn:Func)(v:Adv)(m:DO)(x:LTs m.ps):Option (LTs m.rs×LTs (B1 m.ps)):=
 match fn.body with
 | some b=>evF C inl fn b v m x
 | none=>G
def P3:List Nat->Code->Code
 | [],c=>c
 | 0::l,.seq a _=>P3 l a
 | 1::l,.seq _ b=>P3 l b
 | 0::l,.cond _ a _=>P3 l a
 | 1::l,.cond _ _ b=>P3 l b
 | 0::l,.block _ a=>P3 l a
 | 0::l,.loop a=>P3 l a
 | _::_,c=>c
def Kh(fn:Func):Code:=fn.body.getD .skip
def evL(C:Cx)(inl:(Ω:Type)->Inl Ω)(n:Nat)(p:List Nat)(c:Code)(v:Adv)(l:Loop)(x:Lv l.sch):Option (Lv l.sch ⊕ (Lv l.KD ⊕ Lv l.KE)):=
 evk C inl c _ v { nrm:=λs=>(rdS l.sch s).bind λy=>I<|.inl y,ret:=λs=>(rdS l.KD s).bind λy=>I<|.inr<|.inl y,ext:=λj s=>match Ag j l.xid with
  | true=>(rdS l.KE s).bind λy=>I<|.inr<|.inr y
  | false=>G } (mkS n p l.sch x)
def AF:(Ω:Type)->Inl Ω:=ZH
def Oy:AV->AV
 | .gd _ _ _=> .un
 | v=>v
def plB:AV->Bool
 | .tup _=>A0
 | .gd _ _ _=>A0
 | _=>Y
def NC(C:Cx):Nat->(Ω:Type)->Inl Ω
 | 0=>AF
 | n+1=>λΩ f d as s k=>match C.P.funcs[f]? with
  | none=>G
  | some fn=>match fn.body,fn.name == "runtime.NumGoroutine" with
   | some body,A0=>
    let back:S->Option Ω:=λs'=>match s'.st,Q3 C.P s' fn.results.toList with
     | T::st,I vs=>match vs.all plB with
      | true=>k ({ s' with n:=s.n,T:=λt=>Oy<|T t,st:=st,pins:=s.pins,gs:=λ_=>A0 }.put d<|Lq vs)
      | false=>G
     | _,_=>G
    match Ag as.length fn.params.size&&Dx as.length fn.ntmps&&as.all plB with
    | true=>evk C (NC C n) body Ω .nil { nrm:=back,ret:=back,ext:=λ_ _=>G } { s with n:=fn.ntmps,T:=λt=>(as[t]?).getD Dp,st:=s.T::s.st,pins:=[],gs:=λ_=>A0 }
    | false=>G
   | _,_=>G
end Go.VS
end
noncomputable section
namespace Go.VS
open Go
structure Beta where
 f:Nat->Option (Value×Nat)
 Z:Nat->Prop
instance:CoeFun Beta (λ_=>Nat->Option (Value×Nat)):=⟨Beta.f⟩
def Beta.up(β:Beta)(id:Nat)(v:Option (Value×Nat)):Beta:=⟨upd β.f id v,β.Z⟩
def Beta.Tp(β:Beta)(id:Nat)(v:Option (Value×Nat)):(β.up id v) id=v:=by simp[Beta.up,upd]
def Beta.NM(β:Beta){id j:Nat}(v:Option (Value×Nat))(h:j≠id):(β.up id v) j=β j:=by
 have:Ag j id=A0:=by rw[← GL,HD];exact h
 simp[Beta.up,upd,this]
def adr:Value->Option Addr
 | .pointer (I a)=>I a
 | .slice (I a) _ _=>I a
 | _=>G
def Qq:Value->Bool
 | .slice _ _ _=>Y
 | _=>A0
def MB(β:Beta)(b:Nat):Prop:=∃id hd n a,β id=I (hd,n)/\adr hd=I a/\a.block=b
def MZ(β:Beta)(b:Nat):Prop:=MB β b\/β.Z b
inductive RC (w:World) (β:Beta):AV->Value->Prop
 | un {v:Value} (h:v.oneCell'=Y):RC w β .un v
 | lit {v:Value} (h:v.oneCell'=Y):RC w β (.lit v) v
 | nil {k:K} {a:Option Addr} {cap:Nat} :RC w β (.sl k []) (.slice a 0 cap)
 | sl {k:K} {xs:List (Tof k)} {b f cap n:Nat} (u:Nat->Nat->Value) (hn:n=xs.length/\n<=cap) (hM:¬MZ β b)
   (hu:∀i j,i<xs.length->j<ks k->w.cell? ⟨b,f+(i * ks k+j),G⟩=I (u i j))
   (hr:∀i x j c,xs[i]? =I x->(enc k x)[j]? =I c->RC w β c (u i j)):RC w β (.sl k xs) (.slice (I ⟨b,f,G⟩) n cap)
 | own {id:Nat} {hd:Value} {n:Nat} (h:β id=I (hd,n)) (hs:Qq hd=Y):RC w β (.own id) hd
 | ptr {id sz i o:Nat} {hd:Value} {n b f:Nat} (h:β id=I (hd,n)) (ha:adr hd=I ⟨b,f,G⟩) (hi:i<n):RC w β (.ptr id sz i o) (.pointer (I ⟨b,f+(i * sz+o),G⟩))
 | ipt {k:K} {x:Tof k} {o b f:Nat} (u:Nat->Value) (hM:¬MZ β b)
   (hu:∀j,j<ks k->w.cell? ⟨b,f+j,G⟩=I (u j))
   (hr:∀j c,(enc k x)[j]? =I c->RC w β c (u j)):RC w β (.ipt k x o) (.pointer<|I ⟨b,f+o,G⟩)
def EK:∀(k:K) (x:Tof k),(enc k x).length=ks k:=by
 intro k x;cases k<;>rfl
def Hz(k:K):0<ks k:=by cases k<;>decide
def RC.one{w:World}{β:Beta}{c:AV}{v:Value}(h:RC w β c v):v.oneCell'=Y:=by
 cases h with
 | un h=>exact h
 | lit h=>exact h
 | @own id _ n h hs=>cases v<;>simp_all [Qq,Value.oneCell']
 | _=>rfl
def RC.mono{w w':World}{β β':Beta}(hβ:∀id p,β id=I p->β' id=I p)
  (hc:∀b o v,¬MZ β b->w.cell? ⟨b,o,G⟩=I v->w'.cell? ⟨b,o,G⟩=I v)
  (hM:∀b,¬MZ β b->b<w.heap.size->¬MZ β' b){c:AV}{v:Value}(h:RC w β c v):RC w' β' c v:=by
 induction h with
 | un h=>exact .un h
 | lit h=>exact .lit h
 | nil=>exact .nil
 | @sl k xs b f cap n u hn hm hu hr ih=>
  cases xs with
  | nil=>obtain⟨rfl,_⟩:=hn;exact .nil
  | cons x l=>
   refine .sl u hn (hM b hm ?_) (λi j hi hj=>hc _ _ _ hm<|hu i j hi hj) ih;have:=hu 0 0 aE4<|Hz k;exact block_lt_of_cell this
 | own h hs=>exact .own (hβ _ _ h) hs
 | ptr h ha hi=>exact .ptr (hβ _ _ h) ha hi
 | @ipt k x o b f u hm hu hr ih=>
  exact .ipt u (hM b hm<|block_lt_of_cell<|hu 0<|Hz k) (λj hj=>hc _ _ _ hm<|hu j hj) ih
def RL(R:AV->Value->Prop)(cs:List AV)(us:List Value):Prop:=us.length=cs.length/\ ∀(j:Nat) (c:AV) (u:Value),cs[j]? =I c->us[j]? =I u->R c u
def RL.nil{R:AV->Value->Prop}:RL R [] []:=⟨rfl,λj c u h=>by simp at h⟩
def RL.cons{R:AV->Value->Prop}{c:AV}{u:Value}{cs:List AV}{us:List Value}(h:R c u)(hl:RL R cs us):RL R (c::cs) (u::us):=by
 refine⟨by simp[hl.1],λj c' u' h1 h2=> ?_⟩;cases j with
 | zero=>simp at h1 h2;subst h1;subst h2;exact h
 | succ j=>simp at h1 h2;exact hl.2 j c' u' h1 h2
def RL.C7{R:AV->Value->Prop}{c:AV}{cs:List AV}{us:List Value}(h:RL R (c::cs) us):∃u us',us=u::us'/\R c u/\RL R cs us':=by
 cases us with
 | nil=>exact absurd h.1<|by simp
 | cons u us=>exact⟨u,us,rfl,h.2 0 c u rfl rfl,by simpa using h.1,λj c' u' h1 h2=>h.2 (j+1) c' u' (by simpa using h1)<|by simpa using h2⟩
def RL.of_nil{R:AV->Value->Prop}{us:List Value}(h:RL R [] us):us=[]:=Dw<|by simpa using h.1
def RL.mono{R R':AV->Value->Prop}{cs:List AV}{us:List Value}(h:RL R cs us)(hr:∀c u,R c u->R' c u):RL R' cs us:=⟨h.1,λj c u h1 h2=>hr _ _<|h.2 j c u h1 h2⟩
def RL.append{R:AV->Value->Prop}{cs ds:List AV}{us vs:List Value}(h:RL R cs us)(k:RL R ds vs):RL R (cs++ds) (us++vs):=by
 induction cs generalizing us with
 | nil=>rw[h.of_nil];exact k
 | cons c cs ih=>obtain⟨u,us',rfl,h1,h2⟩:=h.C7;exact .cons h1<|ih h2
def RL.take{R:AV->Value->Prop}{cs:List AV}{us:List Value}(h:RL R cs us)(n:Nat):RL R (cs.take n) (us.take n):=by
 refine⟨by simp[h.1],λj c u h1 h2=> ?_⟩;rw[Ge]at h1 h2;split at h1
 .rw[A5 ‹_›]at h2;exact h.2 j c u h1 h2
 .cases h1
def RL.drop{R:AV->Value->Prop}{cs:List AV}{us:List Value}(h:RL R cs us)(n:Nat):RL R (cs.drop n) (us.drop n):=by
 refine⟨by simp[h.1],λj c u h1 h2=> ?_⟩;rw[Hd]at h1 h2;exact h.2 _ c u h1 h2
def RL.get{R:AV->Value->Prop}{cs:List AV}{us:List Value}(h:RL R cs us){j:Nat}{c:AV}(hj:cs[j]? =I c):∃u,us[j]? =I u/\R c u:=by
 have hlt:j<us.length:=by rw[h.1];exact(BO.1 hj).1
 exact⟨us[j],by simp[hlt],h.2 j c _ hj<|by simp[hlt]⟩
def RL.map{R R':AV->Value->Prop}{cs:List AV}{us:List Value}(f:AV->AV)(h:RL R cs us)(hr:∀c u,R c u->R' (f c) u):RL R' (cs.map f) us:=by
 refine⟨by simp[h.1],λj c u h1 h2=> ?_⟩;rw[D7]at h1;cases hc:cs[j]? with
 | none=>rw[hc]at h1;cases h1
 | some c'=>rw[hc]at h1;simp at h1;subst h1;exact hr _ _<|h.2 j c' u hc h2
def R1(w:World)(β:Beta):AV->Value->Prop
 | .un,_=>True
 | .lit v',v=>v=v'
 | .agg cs,v=>∃us:List Value,v= .agg us.toArray/\RL (RC w β) cs us
 | .arr k xs,v=>∃us:List Value,v= .agg us.toArray/\us.length=xs.length * ks k/\ ∀i x j c u,xs[i]? =I x->(enc k x)[j]? =I c->us[i * ks k+j]? =I u->RC w β c u
 | .tup _,_=>False
 | .gd _ _ _,_=>False
 | .sl k xs,v=>RC w β (.sl k xs) v
 | .own id,v=>RC w β (.own id) v
 | .ptr id sz i o,v=>RC w β (.ptr id sz i o) v
 | .ipt k x o,v=>RC w β (.ipt k x o) v
def R2(w:World)(β:Beta):AV->Value->Prop
 | .tup vs,v=>∃us:List Value,v= .tuple us.toArray/\RL (R1 w β) vs us
 | x,v=>R1 w β x v
def RT(w:World)(β:Beta)(tm:Nat->Value):AV->Value->Prop
 | .gd g want x,v=>(tm g= .bool want->R2 w β x v)/\(tm g≠ .bool want->v=undef)
 | x,v=>R2 w β x v
section mono
variable {w w':World} {β β':Beta} (hβ:∀c v,RC w β c v->RC w' β' c v)
include hβ
def R1.mono{c:AV}{v:Value}(h:R1 w β c v):R1 w' β' c v:=by
 cases c<;>simp only[R1]at h ⊢
 case lit=>exact h
 case agg=>obtain⟨us,e,h⟩:=h;exact⟨us,e,h.mono hβ⟩
 case arr=>obtain⟨us,e,hl,h⟩:=h;exact⟨us,e,hl,λi x j c u h1 h2 h3=>hβ _ _<|h i x j c u h1 h2 h3⟩
 all_goals exact hβ _ _ h
def R2.mono{c:AV}{v:Value}(h:R2 w β c v):R2 w' β' c v:=by
 cases c<;>simp only[R2]at h ⊢
 case tup=>obtain⟨us,e,h⟩:=h;exact⟨us,e,h.mono λc u=>R1.mono hβ⟩
 all_goals exact R1.mono hβ h
def RT.mono{tm:Nat->Value}{c:AV}{v:Value}(h:RT w β tm c v):RT w' β' tm c v:=by
 cases c<;>simp only[RT]at h ⊢
 case gd=>exact⟨λe=>R2.mono hβ<|h.1 e,h.2⟩
 all_goals exact R2.mono hβ h
end mono
def FV(w:World)(β:Beta)(e:TypeId)(fz:Bool)(k:K)(xs:List (Tof k))(hd:Value):Prop:=
 (hd= .slice G 0 0/\xs=[])\/
 ∃b f cap us fr,hd= .slice (I ⟨b,f,G⟩) xs.length cap/\
  w.heap[b]? =I (.cells us e fr)/\fr=(if fz then(us.size,us.size+1) else(0,0))/\xs.length<=cap/\cap<=maxLen/\f+cap * ks k<=us.size/\
  ∀i x j c u,xs[i]? =I x->(enc k x)[j]? =I c->us[f+(i * ks k+j)]? =I u->RC w β c u
def E7(P:Program)(w:World)(β:Beta)(id:Nat):Ob->Prop
 | .box e cs=>∃b us,β id=I (.pointer<|I ⟨b,0,G⟩,1)/\w.heap[b]? =I (.cells us e (0,0))/\RL (RC w β) cs us.toList
 | .row e fz k xs=>∃hd,β id=I (hd,xs.length)/\FV w β e fz k xs hd
 | .arr e k xs=>∃b us,β id=I (.pointer<|I ⟨b,0,G⟩,xs.length)/\w.heap[b]? =I (.cells us e (0,0))/\us.size=xs.length * ks k/\us.size=P.cellsOf e/\
  ∀i x j c u,xs[i]? =I x->(enc k x)[j]? =I c->us[i * ks k+j]? =I u->RC w β c u
def GV(P:Program)(w:World):Prop:=w.ShapedOpen P/\(P.globalNamed "internal/strconv.uint64pow10" ≠G->M3 P w "internal/strconv.uint64pow10" .u64 N4)
def NK(P:Program)(w:World)(O:Nat->Prop):Prop:=∃w0:World,GV P w0/\ ∀b,b<P.globals.size->¬O b/\b<w.heap.size/\w.heap[b]? =w0.heap[b]?
structure Bb where
 P:Program
 w0:World
 O:Nat->Prop
 tm0:Nat->Value
 Z:Nat->Prop
 gl:NK P w0 O
def BY(a:Act):Nat->Value:=λt=>a.tmps.getD t undef
def OX(P:Program)(e:TypeId):Bool:=match I4 P e with
 | some (.lit (.pointer G)::_)=>Y
 | _=>A0
def Pk(P:Program)(w w':World):Prop:=∀(b:Nat) (us:Array Value) (e:TypeId) (fr:Nat×Nat) (a:Addr),w.heap[b]? =I (.cells us e fr)->us[0]? =I (.pointer<|I a)->OX P e=Y->
 ∃us' fr',w'.heap[b]? =I (.cells us' e fr')/\us'[0]? =I (.pointer<|I a)
def Pk.refl(P:Program)(w:World):Pk P w w:=λ_ us _ fr _ h1 h2 _=>⟨us,fr,h1,h2⟩
def Pk.trans{P:Program}{w w' w'':World}(h:Pk P w w')(k:Pk P w' w''):Pk P w w'':=λb us e fr a h1 h2 h3=>by
 obtain⟨us',fr',h4,h5⟩:=h b us e fr a h1 h2 h3;exact k b us' e fr' a h4 h5 h3
def Pk.old{P:Program}{w w':World}(h:∀j,j<w.heap.size->w'.heap[j]? =w.heap[j]?):Pk P w w':=λb us e fr a h1 h2 _=>by
 have hlt:b<w.heap.size:=(HC.1 h1).1;exact⟨us,fr,(h b hlt).trans h1,h2⟩
structure Hs (B:Bb) (β:Beta) (H:Hp) (w:World):Prop where
 EI:∀id ob,H id=I ob->E7 B.P w β id ob
 dom:∀id p,β id=I p->∃ob,H id=I ob
 inj:∀i j p q a a',β i=I p->β j=I q->adr p.1=I a->adr q.1=I a'->a.block=a'.block->i=j
 old:∀b,MB β b->(B.O b\/B.w0.heap.size<=b)/\b<w.heap.size
 os:w.os=B.w0.os
 tape:w.tape=B.w0.tape
 output:w.output=B.w0.output
 size:B.w0.heap.size<=w.heap.size
 block:∀b,b<B.w0.heap.size->¬B.O b->w.heap[b]? =B.w0.heap[b]?
 z:β.Z=B.Z
 zn:∀id p a,β id=I p->adr p.1=I a->¬β.Z a.block
 zl:∀b,β.Z b->b<w.heap.size
 pk:Pk B.P B.w0 w
structure St (B:Bb) (β:Beta) (stk:List (Array Value)) (s:S) (a:Act) (w:World):Prop where
 T:∀t,RT w β (BY a) (s.T t) (BY a t)
 stack:stk.length=s.st.length/\ ∀(i:Nat) (T:Nat->AV) (tm:Array Value),s.st[i]? =I T->stk[i]? =I tm->∀t,RT w β (λt=>tm.getD t undef) (T t) (tm.getD t undef)
 n:a.tmps.size=s.n
 defers:a.defers=[]
 pins:∀t∈s.pins,BY a t=B.tm0 t
 gs:∀t g want x,s.T t= .gd g want x->s.gs g=Y
 hs:Hs B β s.H w
def Kp(w:World)(β:Beta)(w':World)(β':Beta):Prop:=∀c v,RC w β c v->RC w' β' c v
def Kp.refl(w:World)(β:Beta):Kp w β w β:=λ_ _ h=>h
section
variable {B:Bb} {β:Beta} {H:Hp} {w:World}
def Kp.heap{w':World}(h:w'.heap=w.heap):Kp w β w' β:=λc v x=>RC.mono (λ_ _ h=>h) (λb o v _ hc=>by
 rw[show w'.cell? ⟨b,o,G⟩=w.cell? ⟨b,o,G⟩ from by simp only[M1,h]];exact hc) (λ_ h _=>h) x
def E7.mono{P:Program}{w':World}{β':Beta}{id:Nat}{ob:Ob}(h:E7 P w β id ob)(hβ:β' id=β id)(hk:Kp w β w' β')
  (hb:∀p a,β id=I p->adr p.1=I a->w'.heap[a.block]? =w.heap[a.block]?):E7 P w' β' id ob:=by
 cases ob with
 | box e cs=>
  obtain⟨b,us,h1,h2,h3⟩:=h;refine⟨b,us,by rw[hβ];exact h1, ?_,h3.mono hk⟩;have e1:w'.heap[b]? =w.heap[b]? :=hb _ ⟨b,0,G⟩ h1 rfl;rw[e1];exact h2
 | row e fz k xs=>
  obtain⟨hd,h1,h2⟩:=h;refine⟨hd,by rw[hβ];exact h1, ?_⟩;obtain h2|⟨b,f,cap,us,fr,hd',hh,hfr,hn,hc,hs,hr⟩:=h2
  .exact .inl h2
  .have ha:adr hd=I ⟨b,f,G⟩:=by rw[hd'];rfl
   have e1:w'.heap[b]? =w.heap[b]? :=hb _ _ h1 ha;exact .inr ⟨b,f,cap,us,fr,hd',by rw[e1];exact hh,hfr,hn,hc,hs,λi x j c u a1 a2 a3=>hk _ _<|hr i x j c u a1 a2 a3⟩
 | arr e k xs=>
  obtain⟨b,us,h1,h2,h3,h4,h5⟩:=h;have e1:w'.heap[b]? =w.heap[b]? :=hb _ ⟨b,0,G⟩ h1 rfl;exact⟨b,us,by rw[hβ];exact h1,by rw[e1];exact h2,h3,h4,λi x j c u a1 a2 a3=>hk _ _<|h5 i x j c u a1 a2 a3⟩
def Hs.drew(h:Hs B β H w):Hs B β H w.drew where
 EI id ob hi:=(h.EI id ob hi).mono rfl (Kp.heap rfl) (λ_ _ _ _=>rfl)
 dom:=h.dom
 inj:=h.inj
 old:=h.old
 os:=h.os
 tape:=h.tape
 output:=h.output
 size:=h.size
 block:=h.block
 z:=h.z
 zn:=h.zn
 zl:=h.zl
 pk:=h.pk
def Hs.alloc(h:Hs B β H w){id:Nat}(hid:H id=G)(us:Array Value)(e:TypeId)(ob:Ob)(hd:Value)(n:Nat)(a:Addr)
  (ha:adr hd=I a)(hab:a.block=w.heap.size)
  (hob:∀β',(∀j,j≠id->β' j=β j)->β' id=I (hd,n)->Kp w β (w.alloc<|.cells us e) β'->E7 B.P (w.alloc<|.cells us e) β' id ob):
  ∃β',Hs B β' (upd H id<|I ob) (w.alloc<|.cells us e)/\Kp w β (w.alloc<|.cells us e) β'/\β' id=I (hd,n)/\ ∀j,j≠id->β' j=β j:=by
 have Tv:β id=G:=by
  cases hb:β id with
  | none=>rfl
  | some p=>obtain⟨ob',ho⟩:=h.dom id p hb;rw[hid]at ho;cases ho
 let β':Beta:=β.up id<|I (hd,n)
 have up:∀ {α:Type} (f:Nat->α) (v:α),upd f id v id=v:=λf v=>by simp[upd]
 have un:∀ {α:Type} (f:Nat->α) (v:α) (j:Nat),j≠id->upd f id v j=f j:=λf v j hj=>by
  have:Ag j id=A0:=by rw[← GL,HD];exact hj
  simp[upd,this]
 have hM:∀b,MB β' b->MB β b\/b=w.heap.size:=by
  rintro b ⟨j,hd',n',a',hj,ha',hb⟩;by_cases e:j=id
  .subst e;rw[show β' j=I (hd,n) from up _ _]at hj;cases hj;rw[ha]at ha';cases ha';exact .inr (hb▸hab)
  .rw[show β' j=β j from un _ _ j e]at hj;exact .inl ⟨j,hd',n',a',hj,ha',hb⟩
 have hk:Kp w β (w.alloc<|.cells us e) β':=λc v x=>RC.mono
  (λj p hj=>by
   by_cases e:j=id
   .subst e;rw[Tv]at hj;cases hj
   .rw[show β' j=β j from un _ _ j e];exact hj)
  (λb o v _ hc=>by rw[World.cell?_alloc_lt w _ _<|TT w _ hc];exact hc)
  (λb hb hlt hm=>by
   obtain hm|hm:=hm
   .rcases hM b hm with h1|h1
    .exact hb (.inl h1)
    .omega
   .exact hb<|.inr hm) x
 refine⟨β', ?_,hk,up _ _,λj hj=>un _ _ j hj⟩;constructor
 .intro j ob' hj;by_cases e':j=id
  .subst e';rw[up]at hj;cases hj;exact hob β' (λj hj=>un _ _ j hj) (up _ _) hk
  .rw[un _ _ j e']at hj;refine(h.EI j ob' hj).mono (un _ _ j e') hk (λp a' hp ha'=> ?_);have hlt:=(h.old a'.block ⟨j,p.1,p.2,a',hp,ha',rfl⟩).2;exact heap_alloc_old w _ _ hlt
 .intro j p hj;by_cases e':j=id
  .subst e';exact⟨ob,up _ _⟩
  .rw[show β' j=β j from un _ _ j e']at hj;obtain⟨ob',ho⟩:=h.dom j p hj;exact⟨ob',by rw[un _ _ j e'];exact ho⟩
 .intro i j p q a1 a2 hi hj h1 h2 hb;by_cases ei:i=id<;>by_cases ej:j=id
  .rw[ei,ej]
  .subst ei;rw[show β' i=_ from up _ _]at hi;cases hi;rw[ha]at h1;cases h1;rw[show β' j=β j from un _ _ j ej]at hj;have:=(h.old a2.block ⟨j,q.1,q.2,a2,hj,h2,rfl⟩).2;omega
  .subst ej;rw[show β' j=_ from up _ _]at hj;cases hj;rw[ha]at h2;cases h2;rw[show β' i=β i from un _ _ i ei]at hi;have:=(h.old a1.block ⟨i,p.1,p.2,a1,hi,h1,rfl⟩).2;omega
  .rw[show β' i=β i from un _ _ i ei]at hi;rw[show β' j=β j from un _ _ j ej]at hj;exact h.inj i j p q a1 a2 hi hj h1 h2 hb
 .intro b hb;obtain h1|h1:=hM b hb
  .have:=h.old b h1;exact⟨this.1,by simp;omega⟩
  .refine⟨.inr<|h1▸h.size,by simp;omega⟩
 .exact h.os
 .exact h.tape
 .exact h.output
 .have:=h.size;simp;omega
 .intro b hb hO;rw[heap_alloc_old w _ _ (by have:=h.size;omega)];exact h.block b hb hO
 .exact h.z
 .intro j p a1 hj h1 hz;by_cases e':j=id
  .subst e';rw[show β' j=_ from up _ _]at hj;cases hj;rw[ha]at h1;cases h1;have:=h.zl _ hz;omega
  .rw[show β' j=β j from un _ _ j e']at hj;exact h.zn j p a1 hj h1 hz
 .intro b hb;have:=h.zl b hb;simp;omega
 .exact h.pk.trans<|Pk.old λj hj=>heap_alloc_old w _ _ hj
end
end Go.VS
end
noncomputable section
namespace Go.VS
open Go
def Bf{α:Type}(f:Nat->α)(i:Nat)(v:α):upd f i v i=v:=by simp[upd]
def BB{α:Type}(f:Nat->α){i j:Nat}(v:α)(h:j≠i):upd f i v j=f j:=by
 have:Ag j i=A0:=by rw[← GL,HD];exact h
 simp[upd,this]
def Bm{a b:Nat}(h:Ag a b=Y):a=b:=Yk h
def SO{a b:Nat}(h:Ag a b=A0):a≠b:=λe=>by subst e;simp at h
def GQ:AV->Bool
 | .un=>Y
 | .lit _=>Y
 | .sl _ _=>Y
 | .ipt _ _ _=>Y
 | .arr _ _=>Y
 | _=>A0
def aa2(k:K)(x:Tof k):(enc k x).all GQ=Y:=by cases k<;>rfl
def IU(k:K)(x:Tof k){j:Nat}{c:AV}(h:(enc k x)[j]? =I c):GQ c=Y:=
 DK.1 (aa2 k x) c (Ci h)
def RC.imm{w w':World}{β β':Beta}
  (hc:∀b o v,¬MZ β b->w.cell? ⟨b,o,G⟩=I v->w'.cell? ⟨b,o,G⟩=I v)
  (hM:∀b,¬MZ β b->b<w.heap.size->¬MZ β' b){c:AV}{v:Value}(h:RC w β c v):GQ c=Y->RC w' β' c v:=by
 induction h with
 | un h=>exact λ_=> .un h
 | lit h=>exact λ_=> .lit h
 | nil=>exact λ_=> .nil
 | @sl k xs b f cap n u hn hm hu hr ih=>
  intro _;cases xs with
  | nil=>obtain⟨rfl,_⟩:=hn;exact .nil
  | cons x l=>
   refine .sl u hn (hM b hm ?_) (λi j hi hj=>hc _ _ _ hm<|hu i j hi hj) (λi x j c h1 h2=>ih i x j c h1 h2<|IU k x h2);exact block_lt_of_cell<|hu 0 0 aE4<|Hz k
 | own h hs=>intro h;cases h
 | ptr h ha hi=>intro h;cases h
 | @ipt k x o b f u hm hu hr ih=>
  intro _;exact .ipt u (hM b hm<|block_lt_of_cell<|hu 0<|Hz k) (λj hj=>hc _ _ _ hm<|hu j hj) λj c h2=>ih j c h2<|IU k x h2
def Kf(f:AV->AV)(w:World)(β:Beta)(w':World)(β':Beta):Prop:=∀c v,RC w β c v->RC w' β' (f c) v
section
variable {P:Program} {w:World}
def SR{t:TypeId}{b:Bool}(h:L6 P t=I b):(isAgg t).run P w= .ok b w:=by
 unfold L6 at h;cases hu:P.underlying t with
 | none=>rw[hu]at h;cases h
 | some d=>rw[hu]at h;unfold isAgg;simp only[Ef,run_underlying hu,F2];cases d<;>simp at h<;>subst h<;>rfl
def apD{t:TypeId}(h:1<=P.cellsOf t):∃i,P.info? t=I i:=by
 unfold Program.cellsOf at h;cases hi:P.info? t with
 | none=>rw[hi]at h;simp at h
 | some i=>exact⟨i,rfl⟩
def KY{t:TypeId}(h:1<=P.cellsOf t):(sizeOf t).run P w= .ok (P.cellsOf t) w:=by
 obtain⟨i,hi⟩:=apD h;exact run_sizeOf _ hi
def X9{β:Beta}{t:TypeId}{cs:List AV}{o:Nat}{v:AV}(h:HQ P t cs o=I v){b f:Nat}{us:List Value}(hl:RL (RC w β) cs us)
  (hc:∀j u,us[j]? =I u->w.cell? ⟨b,f+j,G⟩=I u):∃u,(loadVar t ⟨b,f+o,G⟩).run P w= .ok u w/\R1 w β v u:=by
 unfold HQ at h;cases ha:L6 P t with
 | none=>rw[ha]at h;cases h
 | some q=>
  rw[ha]at h;cases q with
  | true=>
   simp only at h;split at h
   .rename_i hb;simp only[AD]at hb;have h1:=DW hb.1;have h2:=DW hb.2;cases h;have hlen:((us.drop o).take<|P.cellsOf t).length=P.cellsOf t:=by simp[hl.1];omega
    refine⟨.agg ((us.drop o).take<|P.cellsOf t).toArray, ?_,_,rfl,(hl.drop o).take _⟩;unfold loadVar;simp only[Ef,SR ha,F2,A2,KY h2];have hr:=run_loadCells_list (P:=P) w ⟨b,f+o,G⟩ ((us.drop o).take<|P.cellsOf t) (λj u hj=>by
     rw[Gh];rw[Ge]at hj;split at hj
     .rw[Hd]at hj;have:=hc _ _ hj;rw[D8];exact this
     .cases hj)
    rw[hlen]at hr;rw[hr];rfl
   .cases h
  | false=>
   simp only at h;obtain⟨u,hu,hr⟩:=hl.get h;refine⟨u, ?_, ?_⟩
   .unfold loadVar;simp only[Ef,SR ha,F2,Hc,if_false];have:=hc _ _ hu;simp[this]
   .cases v<;>first
     | exact hr
     | (cases hr;first|rfl|trivial)
     | trivial
def WZ(g o:Nat)(t:TypeId)(fr:Nat×Nat):∀(vs:List Value) (i:Nat) (cur:Array Value) (w:World),w.heap[g]? =I (.cells cur t fr)->o+i+vs.length<=cur.size->
  (fr=(0,0)\/cur.size<=fr.1)->(∀v∈vs,v.oneCell'=Y)->
  (storeCells ⟨g,o,G⟩ vs i).run P w= .ok () (w.setRow g (cur.toList.take (o+i)++vs++cur.toList.drop (o+i+vs.length)).toArray)
 | [],i,cur,w,hg,_,_,_=>by
  simp only[storeCells,CJ,CO,Hh,JK,lu];rw[setRow_self w g cur t fr hg];rfl
 | v::rest,i,cur,w,hg,hl,hfr,h1=>by
  have hi:o+i<cur.size:=by simp at hl;omega
  have oW:(⟨g,o,G⟩:Addr).add i=⟨g,o+i,G⟩:=Gh _ _ _;have Cl:w.cell? ⟨g,o+i,G⟩=I cur[o+i]:=by simp[M1,hg,hi]
  have azd:w.frozen? ⟨g,o+i,G⟩=A0:=by
   obtain⟨lo,hi'⟩:=fr;simp only[World.frozen?,hg];obtain h|h:=hfr
   .cases h;simp
   .simp only[Lx,decide_eq_false_iff_not];left;simp at h;omega
  have hst:(store ((⟨g,o,G⟩:Addr).add i) v).run P w= .ok () (w.setRow g<|cur.setIfInBounds (o+i) v):=by
   rw[oW,run_store P w _ v _<|h1 v aE4,Cl];simp[azd,setCell_eq_setRow w g (o+i) cur t fr v hg]
  have ih:=WZ g o t fr rest (i+1) (cur.setIfInBounds (o+i) v) (w.setRow g<|cur.setIfInBounds (o+i) v) (setRow_heap w g cur _ t _ hg) (by simp at hl ⊢; omega) (by simpa using hfr) (λx hx=>h1 x<|by simp[hx]);simp only[storeCells,Ef,hst,F2,ih,setRow_setRow];congr 3;have e:=list_seg_step cur.toList (o+i) v rest (by simp at hl ⊢; omega);simpa[lS,D8] using e
end
def R1.M9{w:World}{β:Beta}{c:AV}{v:Value}(h:RC w β c v):R1 w β c v:=by
 cases h with
 | un h=>trivial
 | lit h=>rfl
 | nil=>exact RC.nil
 | sl u hn hm hu hr=>exact RC.sl u hn hm hu hr
 | own h hs=>exact RC.own h hs
 | ptr h ha hi=>exact RC.ptr h ha hi
 | ipt u hm hu hr=>exact RC.ipt u hm hu hr
section
variable {B:Bb} {β β':Beta} {H:Hp} {w w':World} {f:AV->AV}
def R1.map(hf:∀c,GQ c=Y->f c=c)(hk:Kf f w β w' β'){c:AV}{v:Value}(h:R1 w β c v):R1 w' β' (Fu f c) v:=by
 cases c<;>simp only[R1]at h
 case un=>show R1 w' β' (f .un) v;rw[hf .un rfl];trivial
 case lit v'=>show R1 w' β' (f<|.lit v') v;rw[hf _ rfl];exact h
 case sl=>exact R1.M9<|hk _ _ h
 case own=>exact R1.M9<|hk _ _ h
 case ptr=>exact R1.M9<|hk _ _ h
 case ipt=>exact R1.M9<|hk _ _ h
 case arr k xs=>
  obtain⟨us,e,hl,hr⟩:=h;show R1 w' β' (f<|.arr k xs) v;rw[hf _ rfl];refine⟨us,e,hl,λi x j c u h1 h2 h3=> ?_⟩;have:=hk _ _<|hr i x j c u h1 h2 h3;rwa[hf _<|IU k x h2]at this
 case agg cs=>
  obtain⟨us,e,hr⟩:=h;exact⟨us,e,hr.map f hk⟩
def R2.HG{w:World}{β:Beta}{c:AV}{v:Value}(h:R1 w β c v):R2 w β c v:=by cases c<;>first|exact h|exact h.elim
def R2.map(hf:∀c,GQ c=Y->f c=c)(hk:Kf f w β w' β'){c:AV}{v:Value}(h:R2 w β c v):R2 w' β' (GF f c) v:=by
 match c,h with
 | .tup vs,⟨us,e,hr⟩=>exact⟨us,e,hr.map _ λc u=>R1.map hf hk⟩
 | .un,h=>exact R2.HG<|R1.map hf hk (c:= .un) h
 | .lit a,h=>exact R2.HG<|R1.map hf hk (c:= .lit a) h
 | .sl k xs,h=>exact R2.HG<|R1.map hf hk (c:= .sl k xs) h
 | .arr k xs,h=>exact R2.HG<|R1.map hf hk (c:= .arr k xs) h
 | .own id,h=>exact R2.HG<|R1.map hf hk (c:= .own id) h
 | .ptr a b c d,h=>exact R2.HG<|R1.map hf hk (c:= .ptr a b c d) h
 | .ipt k x o,h=>exact R2.HG<|R1.map hf hk (c:= .ipt k x o) h
 | .agg cs,h=>exact R2.HG<|R1.map hf hk (c:= .agg cs) h
 | .gd a b c,h=>exact R2.HG<|R1.map hf hk (c:= .gd a b c) h
def RT.HF{w:World}{β:Beta}{tm:Nat->Value}{c:AV}{v:Value}(h:R2 w β c v):RT w β tm c v:=by cases c<;>first|exact h|exact h.elim
def RT.map(hf:∀c,GQ c=Y->f c=c)(hk:Kf f w β w' β'){tm:Nat->Value}{c:AV}{v:Value}(h:RT w β tm c v):RT w' β' tm (Ex f c) v:=by
 match c,h with
 | .gd g want x,h=>exact⟨λe=>R2.map hf hk<|h.1 e,h.2⟩
 | .un,h=>exact RT.HF<|R2.map hf hk (c:= .un) h
 | .lit a,h=>exact RT.HF<|R2.map hf hk (c:= .lit a) h
 | .sl k xs,h=>exact RT.HF<|R2.map hf hk (c:= .sl k xs) h
 | .arr k xs,h=>exact RT.HF<|R2.map hf hk (c:= .arr k xs) h
 | .own id,h=>exact RT.HF<|R2.map hf hk (c:= .own id) h
 | .ptr a b c d,h=>exact RT.HF<|R2.map hf hk (c:= .ptr a b c d) h
 | .ipt k x o,h=>exact RT.HF<|R2.map hf hk (c:= .ipt k x o) h
 | .agg cs,h=>exact RT.HF<|R2.map hf hk (c:= .agg cs) h
 | .tup vs,h=>exact RT.HF<|R2.map hf hk (c:= .tup vs) h
def Hs.ac4(h:Hs B β H w)(hf:∀c,GQ c=Y->f c=c)(hk:Kf f w β w' β'){id:Nat}{ob:Option Ob}
  (hβ:∀j,j≠id->β' j=β j)
  (hid:(β' id=G/\ob=G)\/ ∃ob' hd n,ob=I ob'/\β' id=I (hd,n)/\E7 B.P w' β' id ob'/\ ∀a,adr hd=I a->(∃p a0,β id=I p/\adr p.1=I a0/\a0.block=a.block)\/(w.heap.size<=a.block/\a.block<w'.heap.size))
  (G4:∀j p a,j≠id->β j=I p->adr p.1=I a->w'.heap[a.block]? =w.heap[a.block]?)
  (hos:w'.os=w.os)(KA:w'.tape=w.tape)(F3:w'.output=w.output)(FD:w.heap.size<=w'.heap.size)
  (oH:∀b,b<B.w0.heap.size->¬B.O b->w'.heap[b]? =w.heap[b]?)(hz:∀b,β'.Z b->β.Z b\/(β' id=G/\ ∃p a0,β id=I p/\adr p.1=I a0/\a0.block=b))(hpk:Pk B.P w w'):
  Hs { B with Z:=β'.Z } β' (upd (λj=>CI f<|H j) id ob) w':=by
 have hold:∀b,MB β b->(B.O b\/B.w0.heap.size<=b)/\b<w'.heap.size:=λb hb=>⟨(h.old b hb).1,Gf (h.old b hb).2 FD⟩;have Zo:∀hd n a,β' id=I (hd,n)->adr hd=I a->MB β a.block/\(∃p a0,β id=I p/\adr p.1=I a0/\a0.block=a.block)\/(w.heap.size<=a.block/\a.block<w'.heap.size):=by
  intro hd n a h1 h2;obtain⟨h3,_⟩|⟨ob',hd',n',_,h3,_,h4⟩:=hid
  .rw[h3]at h1;cases h1
  .rw[h3]at h1;cases h1;obtain⟨p,a0,h5,h6,h7⟩|h5:=h4 a h2
   .exact .inl ⟨⟨id,p.1,p.2,a0,h5,h6,h7⟩,p,a0,h5,h6,h7⟩
   .exact .inr h5
 constructor
 .intro j ob' hj;by_cases e:j=id
  .subst e;rw[Bf]at hj;obtain⟨_,h3⟩|⟨acL,hd',n',h3,_,h5,_⟩:=hid
   .rw[h3]at hj;cases hj
   .rw[h3]at hj;cases hj;exact h5
  .rw[BB _ _ e]at hj;cases hj0:H j with
   | none=>simp[hj0,CI]at hj
   | some ob0=>
    have hob:=h.EI j ob0 hj0;rw[hj0]at hj;cases ob0 with
    | box e' cs=>
     simp only[CI,Bs]at hj;subst hj;obtain⟨b,us,h1,h2,h3⟩:=hob;refine⟨b,us,by rw[hβ j e];exact h1, ?_,h3.map f hk⟩;have e1:w'.heap[b]? =w.heap[b]? :=G4 j _ ⟨b,0,G⟩ e h1 rfl;rw[e1];exact h2
    | row e' fz k xs=>
     simp only[CI,Bs]at hj;subst hj;obtain⟨hd,h1,h2⟩:=hob;refine⟨hd,by rw[hβ j e];exact h1, ?_⟩;obtain h2|⟨b,f',cap,us,fr,hd',hh,hfr,hn,hc,hs,hr⟩:=h2
     .exact .inl h2
     .have ha:adr hd=I ⟨b,f',G⟩:=by rw[hd'];rfl
      have e1:w'.heap[b]? =w.heap[b]? :=G4 j _ _ e h1 ha;refine .inr ⟨b,f',cap,us,fr,hd',by rw[e1];exact hh,hfr,hn,hc,hs,λi x j c u a1 a2 a3=> ?_⟩;have:=hk _ _<|hr i x j c u a1 a2 a3;rwa[hf _<|IU k x a2]at this
    | arr e' k xs=>
     simp only[CI,Bs]at hj;subst hj;obtain⟨b,us,h1,h2,h3,h4,h5⟩:=hob;have e1:w'.heap[b]? =w.heap[b]? :=G4 j _ ⟨b,0,G⟩ e h1 rfl;refine⟨b,us,by rw[hβ j e];exact h1,by rw[e1];exact h2,h3,h4,λi x j c u a1 a2 a3=> ?_⟩;have:=hk _ _<|h5 i x j c u a1 a2 a3;rwa[hf _<|IU k x a2]at this
 .intro j p hj;by_cases e:j=id
  .subst e;obtain⟨h3,_⟩|⟨acL,hd',n',h3,_,_,_⟩:=hid
   .rw[h3]at hj;cases hj
   .exact⟨acL,by rw[Bf];exact h3⟩
  .rw[hβ j e]at hj;obtain⟨ob',ho⟩:=h.dom j p hj;rw[BB _ _ e,ho];cases ob'<;>exact⟨_,rfl⟩
 .intro i j p q a1 a2 hi hj h1 h2 hb;by_cases ei:i=id<;>by_cases ej:j=id
  .rw[ei,ej]
  .subst ei;rw[hβ j ej]at hj;obtain⟨_,p0,a0,h5,h6,h7⟩|h5:=Zo p.1 p.2 a1 hi h1
   .exact h.inj _ _ _ _ _ _ h5 hj h6 h2 (h7.trans hb)
   .have:=(h.old a2.block ⟨j,q.1,q.2,a2,hj,h2,rfl⟩).2;omega
  .subst ej;rw[hβ i ei]at hi;obtain⟨_,p0,a0,h5,h6,h7⟩|h5:=Zo q.1 q.2 a2 hj h2
   .exact h.inj _ _ _ _ _ _ hi h5 h1 h6 (hb.trans h7.symm)
   .have:=(h.old a1.block ⟨i,p.1,p.2,a1,hi,h1,rfl⟩).2;omega
  .rw[hβ i ei]at hi;rw[hβ j ej]at hj;exact h.inj i j p q a1 a2 hi hj h1 h2 hb
 .rintro b ⟨j,hd,n,a,hj,ha,hb⟩;by_cases e:j=id
  .subst e;obtain⟨h5,_⟩|h5:=Zo hd n a hj ha
   .exact hold b (hb▸h5)
   .exact⟨.inr (by have:=h.size;show B.w0.heap.size<=b;omega),J⟩
  .rw[hβ j e]at hj;exact hold b ⟨j,hd,n,a,hj,ha,hb⟩
 .rw[hos];exact h.os
 .rw[KA];exact h.tape
 .rw[F3];exact h.output
 .exact CV h.size FD
 .intro b hb hO;rw[oH b hb hO];exact h.block b hb hO
 .rfl
 .intro j p a hj ha hzb;obtain hzb|⟨h1,p0,a0,h2,h3,h4⟩:=hz _ hzb
  .by_cases e:j=id
   .subst e;obtain⟨_,p0,a0,h5,h6,h7⟩|h5:=Zo p.1 p.2 a hj ha
    .exact h.zn _ _ _ h5 h6 (h7▸hzb)
    .have:=h.zl _ hzb;omega
   .rw[hβ j e]at hj;exact h.zn j p a hj ha hzb
  .by_cases e:j=id
   .subst e;rw[h1]at hj;cases hj
   .rw[hβ j e]at hj;exact e (h.inj _ _ _ _ _ _ hj h2 ha h3 h4.symm)
 .intro b hb;obtain hb|⟨_,p0,a0,h2,h3,h4⟩:=hz _ hb
  .exact Gf (h.zl b hb) FD
  .exact(hold b ⟨id,p0.1,p0.2,a0,h2,h3,h4⟩).2
 .exact h.pk.trans hpk
def Hs.U7(h:Hs B β H w)(hf:∀c,GQ c=Y->f c=c)(hk:Kf f w β w' β'){id:Nat}{ob:Option Ob}
  (hβ:∀j,j≠id->β' j=β j)
  (hid:(β' id=G/\ob=G)\/ ∃ob' hd n,ob=I ob'/\β' id=I (hd,n)/\E7 B.P w' β' id ob'/\ ∀a,adr hd=I a->(∃p a0,β id=I p/\adr p.1=I a0/\a0.block=a.block)\/(w.heap.size<=a.block/\a.block<w'.heap.size))
  (G4:∀j p a,j≠id->β j=I p->adr p.1=I a->w'.heap[a.block]? =w.heap[a.block]?)
  (hos:w'.os=w.os)(KA:w'.tape=w.tape)(F3:w'.output=w.output)(FD:w.heap.size<=w'.heap.size)
  (oH:∀b,b<B.w0.heap.size->¬B.O b->w'.heap[b]? =w.heap[b]?)(hz:β'.Z=β.Z)(hpk:Pk B.P w w'):
  Hs B β' (upd (λj=>CI f<|H j) id ob) w':=by
 have:=h.ac4 hf hk hβ hid G4 hos KA F3 FD oH (λb hb=> .inl (by rw[← hz];exact hb)) hpk;have e:{ B with Z:=β'.Z } =B:=by
  have h1:=h.z;rw[hz,h1]
 rwa[e]at this
def axk{id:Nat}{b:Nat}(h:MB (β.up id G) b):MB β b:=by
 obtain⟨j,hd,n,a,hj,ha,hb⟩:=h;by_cases e:j=id
 .subst e;rw[Beta.Tp]at hj;cases hj
 .rw[Beta.NM _ _ e]at hj;exact⟨j,hd,n,a,hj,ha,hb⟩
def abb{id:Nat}{b:Nat}(h:MZ (β.up id G) b):MZ β b:=h.imp axk λh=>h
def J2(id:Nat):∀c,GQ c=Y->kl1 id c=c:=by
 intro c h;cases c<;>first|rfl|cases h
def kE(id:Nat)(k:K)(xs:List (Tof k)):∀c,GQ c=Y->fz1 id k xs c=c:=by
 intro c h;cases c<;>first|rfl|cases h
def Kf.kill{id:Nat}(hβ:∀j,j≠id->β' j=β j)
  (hc:∀b o v,¬MZ β b->w.cell? ⟨b,o,G⟩=I v->w'.cell? ⟨b,o,G⟩=I v)
  (hM:∀b,¬MZ β b->b<w.heap.size->¬MZ β' b):Kf (kl1 id) w β w' β':=by
 intro c v h;have DA:=h.one;cases h with
 | @own j _ n h hs=>
  simp only[kl1];split
  .exact .un DA
  .rename_i hb;exact .own (by rw[hβ _<|SO hb];exact h) hs
 | @ptr j sz i o hd n b f h ha hi=>
  simp only[kl1];split
  .exact .un DA
  .rename_i hb;exact .ptr (by rw[hβ _<|SO hb];exact h) ha hi
 | un h=>exact .un h
 | lit h=>exact .lit h
 | nil=>exact .nil
 | sl u hn hm hu hr=>exact RC.imm hc hM (.sl u hn hm hu hr) rfl
 | ipt u hm hu hr=>exact RC.imm hc hM (.ipt u hm hu hr) rfl
def Hs.ac6(h:Hs B β H w)(id:Nat):Hs B (β.up id G) (upd (λj=>CI (kl1 id)<|H j) id G) w/\Kf (kl1 id) w β w (β.up id G):=
 have hk:Kf (kl1 id) w β w (β.up id G):=Kf.kill (λj e=>BB _ _ e) (λ_ _ _ _ h=>h) (λ_ h _ hm=>h<|abb hm)
 ⟨h.U7 (J2 id) hk (λj e=>BB _ _ e) (.inl ⟨Bf _ _ _,rfl⟩) (λ_ _ _ _ _ _=>rfl) rfl rfl rfl (Ar _) (λ_ _ _=>rfl) rfl (Pk.refl _ _),hk⟩
def Hs.kill(h:Hs B β H w)(id:Nat):∃β',Hs B β' (upd (λj=>CI (kl1 id)<|H j) id G) w/\Kf (kl1 id) w β w β':=⟨_,h.ac6 id⟩
def Hs.Zs(h:Hs B β H w){id:Nat}{e:TypeId}{fz:Bool}{k:K}{xs:List (Tof k)}(hid:H id=I (.row e fz k xs)):
  Hs B (β.up id G) (upd (λj=>CI (fz1 id k xs)<|H j) id G) w/\Kf (fz1 id k xs) w β w (β.up id G):=by
 have hM:∀b,¬MZ β b->b<w.heap.size->¬MZ (β.up id G) b:=λ_ h _ hm=>h<|abb hm;obtain⟨hd,hb,p7⟩:=h.EI id _ hid;have hk:Kf (fz1 id k xs) w β w (β.up id G):=by
  intro c v hc;have DA:=hc.one;cases hc with
  | @own j _ n h1 hs=>
   simp only[fz1];split
   .rename_i hbq;obtain rfl:=Bm hbq;rw[hb]at h1;cases h1;obtain⟨e1,e2⟩|⟨b,f',cap,us,fr,hd',hh,hfr,hn,Hj,hsz,hr⟩:=p7
    .subst e1;subst e2;exact .nil
    .subst hd';have acY:adr (.slice (I ⟨b,f',G⟩) xs.length cap)=I ⟨b,f',G⟩:=rfl;have Cl:∀i j,i<xs.length->j<ks k->f'+(i * ks k+j)<us.size:=by
      intro i j hi hj;have h1:(i+1) * ks k<=cap * ks k:=E6 _ J;rw[EG]at h1;omega
     refine .sl (λi j=>us.getD (f'+(i * ks k+j)) undef) ⟨rfl,hn⟩ ?_ (λi j hi hj=> ?_) (λi x j c h2 h3=> ?_)
     .rintro(⟨j',hd2,n2,a2,h2,h3,h4⟩|hz)
      .by_cases e':j'=j
       .subst e';rw[Beta.Tp]at h2;cases h2
       .rw[Beta.NM _ _ e']at h2;exact e' (h.inj _ _ _ _ _ _ h2 hb h3 acY h4)
      .exact h.zn _ _ _ hb acY hz
     .rw[cell_of_row w b _ us e fr hh];have:=Cl i j hi hj;simp[this]
     .have hi:i<xs.length:=(BO.1 h2).1;have hj:j<ks k:=by rw[← EK k x];exact(BO.1 h3).1
      have:=Cl i j hi hj;have h5:=hr i x j c (us.getD (f'+(i * ks k+j)) undef) h2 h3 (by simp[this]);exact RC.imm (λ_ _ _ _ h=>h) hM h5 (IU k x h3)
   .rename_i hbq;exact .own (by rw[Beta.NM _ _<|SO hbq];exact h1) hs
  | @ptr j sz i o hd n b f h1 ha hi=>
   simp only[fz1];split
   .exact .un DA
   .rename_i hbq;exact .ptr (by rw[Beta.NM _ _<|SO hbq];exact h1) ha hi
  | un h=>exact .un h
  | lit h=>exact .lit h
  | nil=>exact .nil
  | sl u hn hm hu hr=>exact RC.imm (λ_ _ _ _ h=>h) hM (.sl u hn hm hu hr) rfl
  | ipt u hm hu hr=>exact RC.imm (λ_ _ _ _ h=>h) hM (.ipt u hm hu hr) rfl
 exact⟨h.U7 (kE id k xs) hk (λj e=>BB _ _ e) (.inl ⟨Bf _ _ _,rfl⟩) (λ_ _ _ _ _ _=>rfl) rfl rfl rfl (Ar _) (λ_ _ _=>rfl) rfl (Pk.refl _ _),hk⟩
def Hs.freeze(h:Hs B β H w){id:Nat}{e:TypeId}{fz:Bool}{k:K}{xs:List (Tof k)}(hid:H id=I (.row e fz k xs)):
  ∃β',Hs B β' (upd (λj=>CI (fz1 id k xs)<|H j) id G) w/\Kf (fz1 id k xs) w β w β':=⟨_,h.Zs hid⟩
end
end Go.VS
end
