/- Part 1. -/
import Derived.Calls
import Derived.KernelRfl
import Derived.Orders
import Derived.Below
import Derived.Laws.Cells
import Derived.Laws.CopyRow
import Derived.Laws.Append
import Derived.Laws.AppendOwn
import Derived.Laws.Rows
import Derived.Lib.ItoaNum
import Derived.Lib.LaidTab
import Derived.Laws.Entries
import Derived.ChangeKeysEq
open Array renaming getElem?_eq_some_iff->HH,toArray_toList->nB,toList_setIfInBounds->mR
open BitVec renaming ofInt->F9
open Bool renaming and_eq_false_iff->MN,and_eq_true->AE,false->A0,false_eq_true->Hj,false_ne_true->CF,not_eq_true->GK,true->Y
open Classical renaming choose->NK,choose_spec->J3
open Decidable renaming decide->U
open Go.Addr renaming add_lit->Gh
open Go.Lib renaming TabIs->MU,pow10Tab->NT
open Go.Region renaming binds->Fj
open Go.Result renaming andThen_ok->F2
open Go.Sem renaming run_bind->Eh
open Go.World renaming block_lt_of_cell?->U7,cell?->MT
open List renaming all_eq_true->DB,append_nil->CE,eq_nil_of_length_eq_zero->Df,getElem?_drop->Hk,getElem?_eq_some_iff->BR,getElem?_map->DA,getElem?_take->Gk,length_nil->CL,mem_of_getElem?->Cp,replicate->BZ,take_append_drop->JZ
open Nat renaming add_assoc->D8,add_mul->EH,add_zero->Ho,beq->Af,beq_eq->HJ,ble->Dv,blt->IJ,eq_of_beq_eq_true->Zt,land->P9,le_of_ble_eq_true->DL,le_refl->Ar,le_trans->C6,lor->BQ,lt_of_lt_of_le->Gl,min->F1,mul_le_mul_right->E3
open Option renaming none->G,some->I
open Option.some renaming injEq->Bv
open UInt8 renaming ofNat->KM
set_option linter.all false
noncomputable section
namespace Go.VS
theorem aHf{p:Prop}(h:p:=by kernel_rfl):p:=h
theorem aHd{p:Prop}(h:p:=by decide):p:=h
theorem aG9{p:Prop}(h:p:=by simp):p:=h
theorem y8{p:Prop}(h:p:=by simp;omega):p:=h
theorem J{p:Prop}(h:p:=by omega):p:=h
open Go
universe u
theorem A9 {c : Prop} {h : Decidable c} (hnc :¬c) {α : Sort u} {t e : α} : (ite c t e) = e := if_neg hnc
theorem A5 {c : Prop} {h : Decidable c} (hc : c) {α : Sort u} {t e : α} : (ite c t e) = t := if_pos hc
theorem AR {p : Prop} [inst : Decidable p] (h : p) : U p = Y := decide_eq_true h
theorem BH {p : Prop} [inst : Decidable p] (h :¬p) : U p = A0 := decide_eq_false h
theorem BW {p : Prop} [inst : Decidable p] (h : U p = Y) : p := of_decide_eq_true h
theorem JV {p : Prop} [inst : Decidable p] (h : U p = A0) :¬p := of_decide_eq_false h
theorem A2 {α : Sort u} {_ : Decidable True} (t e : α) : (ite True t e) = t := if_true t e
theorem AW (h : Decidable True) : @U True h = Y := decide_true h
theorem Ad (h : Decidable False) : @U False h = A0 := decide_false h
abbrev A1 := ByteArray
abbrev D := Unit
theorem A4 {α : Sort u} {t e : α} : (ite (A0 = Y) t e) = e := if_neg CF
structure A3 where
 fr:Int
 nu:Int
 to:Int
 un:Int
 tx:A1
structure Mark where
 mf:Int
 mn:Int
 mu:Int
structure AQ where
 nu:Int
 da:A1
structure AD where
 fr:Int
 nu:Int
 to:Int
 un:Int
 sz:Int
 got:List AQ
structure AL where
 id:Int
 ti:Int
 nx:Int
 held:List A3
 marks:List Mark
 inbox:List A3
structure A7 where
 id:Int
 up:Bool
 log:A1
 fo:Int
 AG:List AD
structure AK where
 src:Int
 dst:Int
 data:A1
 sp:Bool
structure Frame where
 ki:Int
 src:Int
 dst:Int
 fr:Int
 nu:Int
 to:Int
 un:Int
 sz:Int
 mix:Int
 da:A1
structure Event where
 ki:Int
 at_:Int
 fr:Int
 nu:Int
 wo:Int
 mix:Int
 kp:Int
 to:Int
 un:Int
 tx:A1
structure LK where
 wo:A1
 ki:Int
 fi:A1
structure Shelf where
 lg:A1
 fd:Int
structure AA where
 ti:Int
 A8:List A7
 An:List Bool
 AM:List AK
 AX:List A3
 got:List A3
structure Rd where
 b:List Int
 p:Int
structure Sim where
 r:Rd
 wt:Int
 wk:List A7
 wl:List Bool
 wr:List AK
 ws:List A3
 wg:List A3
 ls:List Event
inductive K where
 | int|bool|u8|str|note|mark|mixed|half|keep|AN|Ai|frame|Hq|lk
abbrev Tof:K->Type
 | .int=>Int
 | .bool=>Bool
 | .u8=>Int
 | .str=>A1
 | .note=>A3
 | .mark=>Mark
 | .mixed=>AQ
 | .half=>AD
 | .keep=>AL
 | .AN=>A7
 | .Ai=>AK
 | .frame=>Frame
 | .Hq=>Event
 | .lk=>LK
def ks:K->Nat
 | .int=>1
 | .bool=>1
 | .u8=>1
 | .str=>1
 | .note=>5
 | .mark=>3
 | .mixed=>2
 | .half=>6
 | .keep=>6
 | .AN=>5
 | .Ai=>4
 | .frame=>10
 | .Hq=>10
 | .lk=>3
def noB:A1:=⟨#[]⟩
def B(l:List UInt8):A1:=⟨l.toArray⟩
def dfl:(k:K)->Tof k
 | .int=>(0:Int)
 | .bool=>A0
 | .u8=>(0:Int)
 | .str=>noB
 | .note=>(⟨0,0,0,0,noB⟩:A3)
 | .mark=>(⟨0,0,0⟩:Mark)
 | .mixed=>(⟨0,noB⟩:AQ)
 | .half=>(⟨0,0,0,0,0,[]⟩:AD)
 | .keep=>(⟨0,0,0,[],[],[]⟩:AL)
 | .AN=>(⟨0,A0,noB,0,[]⟩:A7)
 | .Ai=>(⟨0,0,noB,A0⟩:AK)
 | .frame=>(⟨0,0,0,0,0,0,0,0,0,noB⟩:Frame)
 | .Hq=>(⟨0,0,0,0,0,0,0,0,0,noB⟩:Event)
 | .lk=>(⟨noB,0,noB⟩:LK)
inductive AV where
 | un
 | lit (v:Value)
 | sl (k:K) (xs:List (Tof k))
 | arr (k:K) (xs:List (Tof k))
 | own (id:Nat)
 | ptr (id sz i o:Nat)
 | ipt (k:K) (x:Tof k) (o:Nat)
 | agg (cs:List AV)
 | tup (vs:List AV)
 | gd (g:Nat) (w:Bool) (v:AV)
abbrev AV.i(n:Int):AV:= .lit<|.int .i64 n
abbrev AV.b(n:Bool):AV:= .lit<|.bool n
abbrev AV.s(n:A1):AV:= .lit<|.string n
abbrev AV.y(n:Int):AV:= .lit<|.int .u8 n
def enc:(k:K)->Tof k->List AV
 | .int,n=>[.i n]
 | .bool,b=>[.b b]
 | .u8,n=>[.y n]
 | .str,s=>[.s s]
 | .note,n=>[.i n.fr,.i n.nu,.i n.to,.i n.un,.s n.tx]
 | .mark,n=>[.i n.mf,.i n.mn,.i n.mu]
 | .mixed,n=>[.i n.nu,.s n.da]
 | .half,n=>[.i n.fr,.i n.nu,.i n.to,.i n.un,.i n.sz,.sl .mixed n.got]
 | .keep,n=>[.i n.id,.i n.ti,.i n.nx,.sl .note n.held,.sl .mark n.marks,.sl .note n.inbox]
 | .AN,n=>[.i n.id,.b n.up,.s n.log,.i n.fo,.sl .half n.AG]
 | .Ai,n=>[.i n.src,.i n.dst,.s n.data,.b n.sp]
 | .frame,n=>[.i n.ki,.i n.src,.i n.dst,.i n.fr,.i n.nu,.i n.to,.i n.un,.i n.sz,.i n.mix,.s n.da]
 | .Hq,n=>[.i n.ki,.i n.at_,.i n.fr,.i n.nu,.i n.wo,.i n.mix,.i n.kp,.i n.to,.i n.un,.s n.tx]
 | .lk,n=>[.s n.wo,.i n.ki,.s n.fi]
inductive Ob where
 | box (e:TypeId) (cs:List AV)
 | row (e:TypeId) (fz:Bool) (k:K) (xs:List (Tof k))
 | arr (e:TypeId) (k:K) (xs:List (Tof k))
abbrev Hp:=Nat->Option Ob
def It:(a b:K)->List (Tof a)->Option (List<|Tof b)
 | .int,.int,xs=>I xs
 | .bool,.bool,xs=>I xs
 | .u8,.u8,xs=>I xs
 | .str,.str,xs=>I xs
 | .note,.note,xs=>I xs
 | .mark,.mark,xs=>I xs
 | .mixed,.mixed,xs=>I xs
 | .half,.half,xs=>I xs
 | .keep,.keep,xs=>I xs
 | .AN,.AN,xs=>I xs
 | .Ai,.Ai,xs=>I xs
 | .frame,.frame,xs=>I xs
 | .Hq,.Hq,xs=>I xs
 | .lk,.lk,xs=>I xs
 | _,_,_=>G
def CJ(H:Hp)(k:K):AV->Option (List<|Tof k)
 | .sl k' xs=>It k' k xs
 | .lit (.slice G 0 0)=>I []
 | .own id=>match H id with
  | some (.row _ _ k' xs)=>It k' k xs
  | _=>G
 | _=>G
def dec(H:Hp):(k:K)->List AV->Option (Tof k)
 | .int,[.lit (.int .i64 n)]=>I n
 | .bool,[.lit (.bool b)]=>I b
 | .u8,[.lit (.int .u8 n)]=>I n
 | .str,[.lit (.string s)]=>I s
 | .note,[.lit (.int .i64 a),.lit (.int .i64 b),.lit (.int .i64 c),.lit (.int .i64 d),.lit (.string s)]=>I (⟨a,b,c,d,s⟩:A3)
 | .mark,[.lit (.int .i64 a),.lit (.int .i64 b),.lit (.int .i64 c)]=>I (⟨a,b,c⟩:Mark)
 | .mixed,[.lit (.int .i64 a),.lit (.string s)]=>I (⟨a,s⟩:AQ)
 | .half,[.lit (.int .i64 a),.lit (.int .i64 b),.lit (.int .i64 c),.lit (.int .i64 d),.lit (.int .i64 e),x]=>
  (CJ H .mixed x).bind λl=>I (⟨a,b,c,d,e,l⟩:AD)
 | .keep,[.lit (.int .i64 a),.lit (.int .i64 b),.lit (.int .i64 c),x,y,z]=>
  (CJ H .note x).bind λl=>(CJ H .mark y).bind λm=>(CJ H .note z).bind λn=>I (⟨a,b,c,l,m,n⟩:AL)
 | .AN,[.lit (.int .i64 a),.lit (.bool u),.lit (.string s),.lit (.int .i64 b),x]=>
  (CJ H .half x).bind λl=>I (⟨a,u,s,b,l⟩:A7)
 | .Ai,[.lit (.int .i64 a),.lit (.int .i64 b),.lit (.string s),.lit (.bool u)]=>I (⟨a,b,s,u⟩:AK)
 | .frame,[.lit (.int .i64 a),.lit (.int .i64 b),.lit (.int .i64 c),.lit (.int .i64 d),.lit (.int .i64 e),.lit (.int .i64 f),.lit (.int .i64 g),.lit (.int .i64 h),.lit (.int .i64 i),.lit (.string s)]=>
  I (⟨a,b,c,d,e,f,g,h,i,s⟩:Frame)
 | .Hq,[.lit (.int .i64 a),.lit (.int .i64 b),.lit (.int .i64 c),.lit (.int .i64 d),.lit (.int .i64 e),.lit (.int .i64 f),.lit (.int .i64 g),.lit (.int .i64 h),.lit (.int .i64 i),.lit (.string s)]=>
  I (⟨a,b,c,d,e,f,g,h,i,s⟩:Event)
 | .lk,[.lit (.string a),.lit (.int .i64 b),.lit (.string c)]=>I (⟨a,b,c⟩:LK)
 | _,_=>G
end Go.VS
end
noncomputable section
namespace Go.VS
open Go
def upd{α:Type}(f:Nat->α)(i:Nat)(v:α):Nat->α:=λj=>match Af j i with
 | true=>v
 | false=>f j
structure S where
 n:Nat
 T:Nat->AV
 H:Hp
 nid:Nat
 st:List (Nat->AV)
 pins:List Nat
 gs:Nat->Bool
def ai:Value->Bool
 | .agg _=>A0
 | .tuple _=>A0
 | _=>Y
def ofV:Value->AV
 | .agg cs=>match cs.toList.all ai with
  | true=> .agg (cs.toList.map .lit)
  | false=> .un
 | v=> .lit v
def S.ev(s:S):Operand->AV
 | .tmp t=>s.T t
 | .const v=>ofV v
 | _=> .un
def S.put(s:S)(d:Option Nat)(v:AV):S:=match d with
 | none=>s
 | some t=>{ s with T:=upd s.T t v }
def S.has(s:S)(d:Option Nat):Bool:=match d with
 | none=>Y
 | some t=>IJ t s.n&& !(s.pins.any λp=>Af p t)&& !(s.gs t)
def En(H:Hp)(b:Nat):List Ob->Hp
 | []=>H
 | o::os=>En (upd H b<|I o) (b+1) os
def Fv(f:AV->AV):AV->AV
 | .agg cs=> .agg (cs.map f)
 | v=>f v
def GD(f:AV->AV):AV->AV
 | .tup vs=> .tup (vs.map<|Fv f)
 | v=>Fv f v
def Ew(f:AV->AV):AV->AV
 | .gd g w v=> .gd g w (GD f v)
 | v=>GD f v
def CP(f:AV->AV):Option Ob->Option Ob
 | some (.box e cs)=>I (.box e<|cs.map f)
 | o=>o
def S.map(s:S)(f:AV->AV):S:=
 { s with T:=λt=>Ew f<|s.T t,H:=λj=>CP f<|s.H j,st:=s.st.map λT t=>Ew f (T t) }
def S.EI(s:S)(id:Nat)(o:Option Ob):S:={ s with H:=upd s.H id o }
def kl1(id:Nat):AV->AV
 | .own j=>match Af j id with
  | true=> .un
  | false=> .own j
 | .ptr j z i o=>match Af j id with
  | true=> .un
  | false=> .ptr j z i o
 | v=>v
def fz1(id:Nat)(k:K)(xs:List (Tof k)):AV->AV
 | .own j=>match Af j id with
  | true=> .sl k xs
  | false=> .own j
 | .ptr j z i o=>match Af j id with
  | true=> .un
  | false=> .ptr j z i o
 | v=>v
def S.kill(s:S)(id:Nat):S:=(s.map<|kl1 id).EI id G
def S.freeze(s:S)(id:Nat):S:=match s.H id with
 | some (.row _ _ k xs)=>(s.map<|fz1 id k xs).EI id G
 | _=>s.kill id
def LQ(P:Program)(t:TypeId):Option Bool:=match P.underlying t with
 | some (.struct _)=>I Y
 | some (.array _ _)=>I Y
 | some _=>I A0
 | none=>G
def Lt(P:Program)(t:TypeId)(f:Nat):Option Field:=match P.underlying t with
 | some (.struct fs)=>fs[f]?
 | _=>G
def Ga:AV->Option (List AV)
 | .un=>G
 | .gd _ _ _=>G
 | .lit (.tuple _)=>G
 | .lit (.agg _)=>G
 | .tup _=>G
 | .arr _ _=>G
 | .agg cs=>I cs
 | v=>I [v]
def Ha(P:Program)(t:TypeId):Option (List AV):=(P.info? t).bind λi=>i.zero.bind λz=>match z.cells.toList.all ai with
 | true=>I (z.cells.toList.map .lit)
 | false=>G
def ah:AV->AV->Bool
 | .lit (.int k n),.lit (.int k' m)=>U (k=k')&&U (n=m)
 | .lit (.bool a),.lit (.bool b)=>a == b
 | .lit (.string a),.lit (.string b)=>Af a.size 0&&Af b.size 0
 | .lit (.slice G 0 0),.sl _ []=>Y
 | _,_=>A0
def Ma:List AV->List AV->Bool
 | [],[]=>Y
 | a::l,b::m=>ah a b&&Ma l m
 | _,_=>A0
def zok(P:Program)(t:TypeId)(k:K):Bool:=match Ha P t with
 | some zs=>Ma zs (enc k<|dfl k)
 | none=>A0
def IX(P:Program)(t:TypeId):Option TypeId:=match P.underlying t with
 | some (.slice e)=>I e
 | _=>G
def inb(i:Int)(n:Nat):Bool:=U (0<=i)&&U (i<(n:Int))
def bt(s:A1)(i:Int):Int:=((s.data.toList.getD i.toNat 0).toNat:Int)
def rd{α:Type}(d:α)(xs:List α)(i:Int):α:=xs.getD i.toNat d
def B9(s:A1):List Int:=s.data.toList.map λb=>(b.toNat:Int)
def BF(xs:List Int):A1:=⟨(xs.map λn=>KM n.toNat).toArray⟩
def Ds(k:IntKind)(a b:Int):Int:=k.wrap ((F9 k.bits a ^^^ F9 k.bits b).toNat:Int)
def abi(k:IntKind)(a b:Int):Int:=k.wrap ((F9 k.bits a &&& F9 k.bits b).toNat:Int)
def ior(k:IntKind)(a b:Int):Int:=k.wrap ((F9 k.bits a ||| F9 k.bits b).toNat:Int)
def w64(n:Int):Int:=IntKind.i64.wrap n
def w8(n:Int):Int:=IntKind.u8.wrap n
def Ab(n:Nat):Bool:=U<|n<=4294967296
abbrev PR:=Option<|Bool×AV×List Ob
def okA(v:AV):PR:=I (Y,v,[])
def okN:AV->PR
 | .gd _ _ _=>G
 | v=>okA v
def HZ(P:Program)(t:TypeId)(cs:List AV)(o:Nat):Option AV:=match LQ P t with
 | some Y=>match Dv (o+P.cellsOf t) cs.length&&Dv 1 (P.cellsOf t) with
  | true=>I (.agg<|(cs.drop o).take<|P.cellsOf t)
  | false=>G
 | some A0=>cs[o]?
 | none=>G
def K6(P:Program)(H:Hp)(t:TypeId):AV->Option AV
 | .ipt k x o=>HZ P t (enc k x) o
 | .ptr id z i o=>match H id with
  | some (.box _ cs)=>match i with
   | 0=>HZ P t cs o
   | _=>G
  | some (.row _ _ k xs)=>match Af z (ks k) with
   | true=>HZ P t (enc k<|xs.getD i<|dfl k) o
   | false=>G
  | some (.arr e k xs)=>match P.underlying t with
   | some (.array _ _)=>match Af e t&&Dv 1 (P.cellsOf t),i,o with
    | true,0,0=>I (.arr k xs)
    | _,_,_=>G
   | _=>match Af z (ks k) with
    | true=>HZ P t (enc k<|xs.getD i<|dfl k) o
    | false=>G
  | none=>G
 | _=>G
def UZ(op:BinOp)(k:IntKind)(a b:Int):PR:=match op with
 | .add=>okA (.lit<|.int k<|k.wrap<|a+b)
 | .sub=>okA (.lit<|.int k<|k.wrap<|a - b)
 | .mul=>okA (.lit<|.int k<|k.wrap<|a * b)
 | .quo=>I (!decide (b=0),.lit<|.int k<|k.wrap<|a.tdiv b,[])
 | .rem=>I (!decide (b=0),.lit<|.int k<|a.tmod b,[])
 | .xor=>okA (.lit<|.int k<|Ds k a b)
 | .and=>okA (.lit<|.int k<|abi k a b)
 | .or=>okA (.lit<|.int k<|ior k a b)
 | .eql=>okA (.b<|U<|a=b)
 | .neq=>okA (.b<|!decide (a=b))
 | .lss=>okA (.b<|U<|a<b)
 | .leq=>okA (.b<|U<|a<=b)
 | .gtr=>okA (.b<|U<|b<a)
 | .geq=>okA (.b<|U<|b<=a)
 | _=>G
def UY(op:BinOp)(a b:A1):PR:=match op with
 | .add=>I (U<|a.size+b.size<=4611686018427387904,.s<|a++b,[])
 | .eql=>okA (.b<|U<|a=b)
 | .neq=>okA (.b<|!decide (a=b))
 | _=>G
def eqC:List AV->List AV->Option Bool
 | [],[]=>I Y
 | .lit (.int k a)::l,.lit (.int k' b)::m=>match U (k=k') with
  | true=>(eqC l m).bind λr=>I<|U (a=b)&&r
  | false=>G
 | .lit (.bool a)::l,.lit (.bool b)::m=>(eqC l m).bind λr=>I<|U (a=b)&&r
 | .lit (.string a)::l,.lit (.string b)::m=>(eqC l m).bind λr=>I<|U (a=b)&&r
 | _,_=>G
def ab(P:Program):Nat->List Field->List AV->Bool
 | _,[],_=>Y
 | n,f::fs,c::cs=>(match P.underlying f.type,c with
  | some .bool,.lit (.bool _)=>Y
  | some (.int _),.lit (.int _ _)=>Y
  | some .string,.lit (.string _)=>Y
  | _,_=>A0)&&Af f.offset n&& !(f.name == "_")&&ab P (n+1) fs cs
 | _,_,_=>A0
def oX(P:Program)(t:TypeId)(cs:List AV):Bool:=match P.underlying t with
 | some (.struct fs)=>ab P 0 fs.toList cs&&Af fs.size cs.length&& !P.stoodInHeld t&& !P.eqGuardType P.depth t
 | _=>A0
def PN(P:Program)(op:BinOp)(t:TypeId):AV->AV->PR
 | .lit (.int k a),.lit (.int k' b)=>match U (k=k') with
  | true=>UZ op k a b
  | false=>G
 | .lit (.string a),.lit (.string b)=>UY op a b
 | .lit (.bool a),.lit (.bool b)=>match P.underlying t,op with
  | some .bool,.eql=>okA (.b<|U<|a=b)
  | some .bool,.neq=>okA (.b<|!decide (a=b))
  | _,_=>G
 | .agg a,.agg b=>match oX P t a,Af a.length b.length,eqC a b,op with
  | true,Y,I r,.eql=>okA (.b r)
  | true,Y,I r,.neq=>okA (.b<|!r)
  | _,_,_,_=>G
 | _,_=>G
def unA:UnOp->AV->PR
 | .not,.lit (.bool b)=>okA (.b<|!b)
 | .neg,.lit (.int k n)=>okA (.lit<|.int k<|k.wrap<|0 - n)
 | _,_=>G
def Gb(g:Nat)(w:Bool):AV->AV
 | .gd g' w' v=>match Af g g',w == w' with
  | true,Y=>v
  | _,_=> .gd g' w' v
 | v=>v
def QZ(w:Bool)(v:AV):Operand->AV
 | .tmp g=>Gb g w v
 | _=>v
def LC:AV->Option Bool
 | .lit (.bool b)=>I b
 | _=>G
def Ow(ρ:Operand->AV)(c a b:Operand):PR:=match ρ c,a,b with
 | .lit (.bool q),.const (.bool Y),b=>match LC (QZ A0 (ρ b) c) with
  | some y=>okA (.b<|q||y)
  | none=>match q with
   | true=>okA (.b Y)
   | false=>okN (ρ b)
 | .lit (.bool q),a,.const (.bool A0)=>match LC (QZ Y (ρ a) c) with
  | some x=>okA (.b<|q&&x)
  | none=>match q with
   | true=>okN (ρ a)
   | false=>okA (.b A0)
 | .lit (.bool q),a,b=>match q with
  | true=>okN (ρ a)
  | false=>okN (ρ b)
 | _,_,_=>G
def I6(ρ:Operand->AV):Nat->List (Nat×Operand)->Option (List AV)
 | _,[]=>I []
 | n,(i,x)::l=>match Af i n with
  | true=>(I6 ρ (n+1) l).bind λvs=>I<|ρ x::vs
  | false=>G
def M7(k:K):List AV->Option (List<|Tof k)
 | []=>I []
 | v::l=>(Ga v).bind λcs=>(dec (λ_=>G) k cs).bind λx=>(M7 k l).bind λxs=>I<|x::xs
def H5(cs:List AV)(o:Nat)(ys:List AV):List AV:=cs.take o++ys++cs.drop (o+ys.length)
def I7(P:Program)(ρ:Operand->AV)(t:TypeId):List (Nat×Operand)->List AV->Option (List AV)
 | [],cs=>I cs
 | (i,x)::l,cs=>(Lt P t i).bind λf=>(Ga<|ρ x).bind λys=>
  match Af ys.length (P.cellsOf f.type)&&Dv (f.offset+ys.length) cs.length with
  | true=>I7 P ρ t l (H5 cs f.offset ys)
  | false=>G
def JU(lo hi:Option AV)(n:Nat):Option (Bool×Int×Int):=match lo,hi with
 | none,G=>I (Y,0,n)
 | some (.lit (.int _ l)),G=>I (U (0<=l)&&U (l<=(n:Int)),l,n)
 | none,I (.lit (.int _ h))=>I (U (0<=h)&&U (h<=(n:Int)),0,h)
 | some (.lit (.int _ l)),I (.lit (.int _ h))=>I ((U (0<=h)&&U (h<=(n:Int)))&&(U (0<=l)&&U (l<=h)),l,h)
 | _,_=>G
def Ix{α:Type}(lo hi:Option AV)(l h:Int)(xs:List α):List α:=match lo,hi with
 | none,G=>xs
 | some _,G=>xs.drop l.toNat
 | none,I _=>xs.take h.toNat
 | some _,I _=>(xs.take h.toNat).drop l.toNat
def JD(P:Program)(H:Hp)(t:TypeId)(v:AV):Bool:=match P.underlying t,v with
 | some .string,.lit (.string _)=>Y
 | some (.slice e),.sl k _=>Af (P.cellsOf e) (ks k)
 | some (.slice e),.lit (.slice _ _ _)=>Dv 1 (P.cellsOf e)
 | some (.slice e),.own id=>match H id with
  | some (.row _ _ k _)=>Af (P.cellsOf e) (ks k)
  | _=>A0
 | _,_=>A0
def Qa(lo hi:Option AV):AV->PR
 | .lit (.string s)=>(JU lo hi s.size).bind fun(c,l,h)=>I (c,.s<|s.extract l.toNat h.toNat,[])
 | .sl k xs=>(JU lo hi xs.length).bind fun(c,l,h)=>I (c,.sl k<|Ix lo hi l h xs,[])
 | .lit (.slice G 0 0)=>(JU lo hi 0).bind fun(c,_,_)=>I (c,.lit<|.slice G 0 0,[])
 | _=>G
def Is(P:Program)(src dst:TypeId)(b:AV):PR:=match P.underlying src,P.underlying dst,b with
 | some _,I (.int k),.lit (.int _ n)=>okA (.lit<|.int k<|k.wrap n)
 | some .string,I .string,.lit (.string s)=>okA (.s s)
 | some .string,I (.slice e),.lit (.string s)=>match P.underlying e with
  | some (.int .u8)=>I (Ab s.size,.own 0,[.row e Y .u8 (B9 s)])
  | _=>G
 | _,_,_=>G
def RU(P:Program)(t:TypeId)(i:Int):AV->PR
 | .lit (.string s)=>match P.underlying t with
  | some .string=>I (inb i s.size,.y<|bt s i,[])
  | _=>G
 | .arr k xs=>match P.underlying t with
  | some (.array n e)=>match Af (ks k) 1&&Af (P.cellsOf e) 1,LQ P e with
   | true,I A0=>(HZ P e (enc k<|rd (dfl k) xs i) 0).bind λv=>I (inb i xs.length&&inb i n,v,[])
   | _,_=>G
  | _=>G
 | _=>G
def N6(P:Program)(H:Hp)(t:TypeId)(i:Int):AV->PR
 | .sl k xs=>match P.underlying t with
  | some (.slice e)=>match Af (P.cellsOf e) (ks k) with
   | true=>I (inb i xs.length,.ipt k (rd (dfl k) xs i) 0,[])
   | false=>G
  | _=>G
 | .own id=>match P.underlying t,H id with
  | some (.slice e),I (.row _ _ k xs)=>match Af (P.cellsOf e) (ks k) with
   | true=>I (inb i xs.length,.ptr id (ks k) i.toNat 0,[])
   | false=>G
  | _,_=>G
 | .ptr id z 0 0=>match P.underlying t,H id with
  | some (.array n e),I (.arr e' k xs)=>match Af (P.cellsOf e) (ks k)&&Af (P.cellsOf t) (n * ks k)&&Af e' t with
   | true=>I (inb i xs.length,.ptr id (ks k) i.toNat 0,[])
   | false=>G
  | _,_=>G
 | _=>G
def JO(P:Program)(ρ:Operand->AV)(H:Hp)(c:Call):PR:=match c.callee,c.args.toList,c.argTypes.toList with
 | .builtin .len,[x],[t]=>match P.underlying t,ρ x with
  | some .string,.lit (.string s)=>okA (.i s.size)
  | some (.slice _),.sl _ xs=>okA (.i xs.length)
  | some (.slice _),.lit (.slice G 0 0)=>okA (.i 0)
  | some (.slice _),.own id=>match H id with
   | some (.row _ _ _ xs)=>okA (.i xs.length)
   | _=>G
  | some (.array n _),_=>okA (.i n)
  | _,_=>G
 | .builtin .min,[x,y],_=>match ρ x,ρ y with
  | .lit (.int k a),.lit (.int k' c)=>match U (k=k') with
   | true=>okA (.lit<|.int k<|if c<a then c else a)
   | false=>G
  | _,_=>G
 | .builtin .max,[x,y],_=>match ρ x,ρ y with
  | .lit (.int k a),.lit (.int k' c)=>match U (k=k') with
   | true=>okA (.lit<|.int k<|if a<c then c else a)
   | false=>G
  | _,_=>G
 | _,_,_=>G
def CI(P:Program)(kd:TypeId->Option K)(ρ:Operand->AV)(H:Hp)(b:Nat):Op->PR
 | .move x=>okN (ρ x)
 | .assign x=>okN (ρ x)
 | .pick c x y=>Ow ρ c x y
 | .alloc t=>match P.underlying t with
  | some (.array n e)=>(kd e).bind λk=>(Ha P t).bind λzs=>match Ma zs ((BZ n<|dfl k).flatMap<|enc k)&&Af (P.cellsOf t) (n * ks k)&&Dv 1 n with
   | true=>I (Y,.ptr b (ks k) 0 0,[.arr t k (BZ n<|dfl k)])
   | false=>G
  | _=>(Ha P t).bind λzs=>I (Y,.ptr b zs.length 0 0,[.box t zs])
 | .box t x=>(Ga<|ρ x).bind λcs=>I (Y,.ptr b cs.length 0 0,[.box t cs])
 | .build t ps=>(Ha P t).bind λzs=>match P.underlying t with
  | some (.struct fs)=>match fs.toList.all λf=>(P.info? f.type).isSome with
   | true=>(I7 P ρ t ps.toList zs).bind λcs=>okA<|.agg cs
   | false=>G
  | _=>G
 | .buildSlice t len ps=>(IX P t).bind λe=>(kd e).bind λk=>(I6 ρ 0 ps.toList).bind λvs=>(M7 k vs).bind λxs=>
  match Af vs.length len&&Af (P.cellsOf e) (ks k)&&Dv len 65536&&zok P e k with
  | true=>I (Y,.own b,[.row e A0 k xs])
  | false=>G
 | .load t p=>(K6 P H t<|ρ p).bind okA
 | .nilCheck p=>match ρ p with
  | .ptr id z i o=>okA (.ptr id z i o)
  | .ipt k x o=>okA (.ipt k x o)
  | _=>G
 | .binOp op t x y _=>PN P op t (ρ x) (ρ y)
 | .unOp op _ x=>unA op (ρ x)
 | .convert src dst x=>match P.underlying src,P.underlying dst with
  | some (.slice e),I .string=>match P.underlying e with
   | some (.int .u8)=>(CJ H .u8<|ρ x).bind λxs=>okA<|.s<|BF xs
   | _=>G
  | _,_=>match Is P src dst (ρ x) with
   | some (c,.own _,os)=>I (c,.own b,os)
   | r=>r
 | .makeSlice t l c=>match ρ l,ρ c,(match l,c with
   | .tmp i,.tmp j=>Af i j
   | _,_=>A0) with
  | .lit (.int .i64 n),_,Y=>(IX P t).bind λe=>(kd e).bind λk=>
   match zok P e k&&Af (P.cellsOf e) (ks k)&&Dv (P.bytesOf e) 256 with
   | true=>I (U (0<=n)&&U (n<=4294967296),.own b,[.row e A0 k (BZ n.toNat<|dfl k)])
   | false=>G
  | .lit (.int .i64 n),.lit (.int .i64 m),A0=>match U (n=m) with
   | true=>(IX P t).bind λe=>(kd e).bind λk=>
    match zok P e k&&Af (P.cellsOf e) (ks k)&&Dv (P.bytesOf e) 256 with
    | true=>I (U (0<=n)&&U (n<=4294967296),.own b,[.row e A0 k (BZ n.toNat<|dfl k)])
    | false=>G
   | false=>G
  | _,_,_=>G
 | .slice t x lo hi G=>match JD P H t (ρ x) with
  | true=>Qa (lo.map ρ) (hi.map ρ) (ρ x)
  | false=>G
 | .fieldAddr t x f=>(Lt P t f).bind λfd=>match Dv 1 (P.cellsOf fd.type) with
  | true=>match ρ x with
   | .ptr id z i o=>okA (.ptr id z i<|o+fd.offset)
   | .ipt k v o=>okA (.ipt k v<|o+fd.offset)
   | _=>G
  | false=>G
 | .field t x f=>(Lt P t f).bind λfd=>match ρ x with
  | .agg cs=>(HZ P fd.type cs fd.offset).bind okA
  | _=>G
 | .indexAddr t x ix=>match ρ ix with
  | .lit (.int _ i)=>N6 P H t i (ρ x)
  | _=>G
 | .index t x ix=>match ρ ix with
  | .lit (.int _ i)=>RU P t i (ρ x)
  | _=>G
 | .extract x i=>match ρ x with
  | .tup vs=>(vs[i]?).bind okA
  | _=>G
 | .call c=>JO P ρ H c
 | _=>G
abbrev Dp:AV:= .lit undef
def H6:AV->Option Nat
 | .own id=>I id
 | _=>G
def nop:AV->Bool
 | .lit (.pointer (I _))=>A0
 | .lit _=>Y
 | .sl _ _=>Y
 | .own _=>Y
 | _=>A0
def oY(o n:Nat)(cs:List AV):Bool:=Dv (o+n) cs.length&&(Dv 1 o||nop (cs.headD<|.lit<|.bool A0))
def Ik(P:Program)(t:TypeId)(s:S):AV->AV->Option S
 | .ptr id z i o,x=>match s.H id with
  | some (.box e cs)=>match i with
   | 0=>(Ga x).bind λys=>match Af ys.length (P.cellsOf t)&&Dv 1 (P.cellsOf t)&&oY o ys.length cs with
    | true=>I (s.EI id<|I<|.box e<|H5 cs o ys)
    | false=>G
   | _=>G
  | some (.row e fz k xs)=>(Ga x).bind λys=>match Af ys.length (P.cellsOf t)&&Dv 1 (P.cellsOf t)&&Dv (o+ys.length) (ks k)&&Af z (ks k)&& !((ys.filterMap H6).any λj=>Af j id) with
   | true=>(dec s.H k<|H5 (enc k<|xs.getD i<|dfl k) o ys).bind λy=>
    I (((ys.filterMap H6).foldl S.freeze s).EI id<|I<|.row e fz k<|xs.set i y)
   | false=>G
  | some (.arr e k xs)=>(Ga x).bind λys=>match Af ys.length (P.cellsOf t)&&Dv 1 (P.cellsOf t)&&Dv (o+ys.length) (ks k)&&Af z (ks k) with
   | true=>(dec (λ_=>G) k<|H5 (enc k<|xs.getD i<|dfl k) o ys).bind λy=>I<|s.EI id<|I<|.arr e k<|xs.set i y
   | false=>G
  | none=>G
 | _,_=>G
def KA(H:Hp)(k:K):AV->Option (List<|Tof k)
 | .lit (.string s)=>match k with
  | .u8=>I (B9 s)
  | _=>G
 | v=>CJ H k v
def L6(P:Program)(kd:TypeId->Option K)(t t2:TypeId)(s:S)(b:Nat)(x y:AV):Option (Bool×AV×S):=
 (IX P t).bind λe=>(kd e).bind λk=>(KA s.H k y).bind λys=>
 match Af (P.cellsOf e) (ks k)&&Dv (P.bytesOf e) 256&&zok P e k&&(match P.underlying t2 with
   | some .string=>Y
   | some (.slice _)=>Y
   | _=>A0),x with
 | true,.lit (.slice G 0 0)=>I (Ab ys.length,.own b,s.EI b<|I<|.row e A0 k ys)
 | true,.own id=>match s.H id,(match y with
   | .own j=>Af j id
   | _=>A0) with
  | some (.row e' A0 k' xs),A0=>match Af e e' with
   | true=>(It k' k xs).bind λxs=>I (Ab<|xs.length+ys.length,.own id,(s.map<|kl1 id).EI id<|I<|.row e A0 k<|xs++ys)
   | false=>G
  | _,_=>G
 | _,_=>G
def LD(P:Program)(t:TypeId)(s:S)(x y:AV):Option (AV×S):=match x with
 | .own id=>match s.H id,(match y with
   | .own j=>Af j id
   | _=>A0) with
  | some (.row e fz k xs),A0=>(IX P t).bind λe'=>match Af (P.cellsOf e') (ks k) with
   | true=>(KA s.H k y).bind λys=>I (.i (F1 ys.length xs.length:Nat),s.EI id<|I<|.row e fz k<|ys.take xs.length++xs.drop ys.length)
   | false=>G
  | _,_=>G
 | _=>G
def Ky(s:S)(id:Nat)(z:Bool)(lo hi:Option AV):Option (Bool×AV×S):=match s.H id with
 | some (.row e fz k xs)=>(JU lo hi xs.length).bind fun(c,l,h)=>match z,hi with
  | true,G=>I (c,.own id,(s.map<|kl1 id).EI id<|I<|.row e fz k<|Ix lo hi l h xs)
  | true,I _=>G
  | false,_=>I (c,.sl k<|Ix lo hi l h xs,s.freeze id)
 | _=>G
inductive Sh where
 | int (k:IntKind)
 | bool
 | str
 | sl (k:K)
 | row (e:TypeId) (k:K)
 | fz (k:K)
 | agg (l:List Sh)
 | Cj (e:TypeId) (k:K)
 | abx (e:TypeId) (k:K)
 | arr (k:K)
 | same (t:Nat)
 | box (e:TypeId) (l:List Sh)
mutual
abbrev LT:Sh->Type
 | .int _=>Int
 | .bool=>Bool
 | .str=>A1
 | .sl k=>List (Tof k)
 | .row _ k=>List (Tof k)
 | .fz k=>List (Tof k)
 | .Cj _ k=>List (Tof k)
 | .abx _ k=>List (Tof k)
 | .arr k=>List (Tof k)
 | .same _=>D
 | .agg l=>LTs l
 | .box _ l=>LTs l
abbrev LTs:List Sh->Type
 | []=>D
 | h::l=>LT h×LTs l
end
mutual
def Bs (E:Nat->AV) (H:Hp):(h:Sh)->AV->Option (LT h)
 | .int k,.lit (.int k' n)=>match U (k=k') with
  | true=>I n
  | false=>G
 | .bool,.lit (.bool b)=>I b
 | .str,.lit (.string s)=>I s
 | .sl k,.sl k' xs=>It k' k xs
 | .sl _,.lit (.slice G 0 0)=>I []
 | .row _ _,.lit (.slice G 0 0)=>I []
 | .row e k,.own id=>match H id with
  | some (.row e' A0 k' xs)=>match Af e e' with
   | true=>It k' k xs
   | false=>G
  | _=>G
 | .fz k,v=>CJ H k v
 | .Cj e k,.own id=>match H id with
  | some (.row e' Y k' xs)=>match Af e e' with
   | true=>It k' k xs
   | false=>G
  | _=>G
 | .abx e k,.ptr id z 0 0=>match H id with
  | some (.arr e' k' xs)=>match Af e e'&&Af z (ks k) with
   | true=>It k' k xs
   | false=>G
  | _=>G
 | .arr k,.arr k' xs=>It k' k xs
 | .same t,.ptr id _ 0 0=>match E t with
  | .ptr id' _ 0 0=>match Af id id' with
   | true=>I ()
   | false=>G
  | _=>G
 | .agg l,.agg cs=>GC E H l cs
 | .box e l,.ptr id _ 0 0=>match H id with
  | some (.box e' cs)=>match Af e e' with
   | true=>GC E H l cs
   | false=>G
  | _=>G
 | _,_=>G
def GC (E:Nat->AV) (H:Hp):(l:List Sh)->List AV->Option (LTs l)
 | [],[]=>I ()
 | h::l,c::cs=>(Bs E H h c).bind λx=>(GC E H l cs).bind λxs=>I (x,xs)
 | _,_=>G
end
mutual
def Cg (H:Hp):Sh->AV->List Nat
 | .row _ _,.own id=>[id]
 | .Cj _ _,.own id=>[id]
 | .abx _ _,.ptr id _ 0 0=>[id]
 | .agg l,.agg cs=>Bo H l cs
 | .box _ l,.ptr id _ 0 0=>match H id with
  | some (.box _ cs)=>Bo H l cs++[id]
  | _=>[]
 | _,_=>[]
def Bo (H:Hp):List Sh->List AV->List Nat
 | h::l,c::cs=>Cg H h c++Bo H l cs
 | _,_=>[]
end
mutual
def CK (H:Hp):Sh->AV->List Nat
 | .row _ _,.own id=>[id]
 | .Cj _ _,.own id=>[id]
 | .abx _ _,.ptr id _ 0 0=>[id]
 | .agg l,.agg cs=>Ce H l cs
 | .box _ l,.ptr id _ 0 0=>match H id with
  | some (.box _ cs)=>Ce H l cs
  | _=>[]
 | _,_=>[]
def Ce (H:Hp):List Sh->List AV->List Nat
 | h::l,c::cs=>CK H h c++Ce H l cs
 | _,_=>[]
end
mutual
def Cr (H:Hp):Sh->AV->List Nat
 | .fz _,.own id=>[id]
 | .agg l,.agg cs=>Cv H l cs
 | .box _ l,.ptr id _ 0 0=>match H id with
  | some (.box _ cs)=>Cv H l cs
  | _=>[]
 | _,_=>[]
def Cv (H:Hp):List Sh->List AV->List Nat
 | h::l,c::cs=>Cr H h c++Cv H l cs
 | _,_=>[]
end
def NG:List Nat->Bool
 | []=>Y
 | a::l=> !(l.any λb=>Af a b)&&NG l
def off(l m:List Nat):Bool:=l.all λa=> !(m.any λb=>Af a b)
mutual
def BL (E:Nat->AV) (H:Hp) (b:Nat):(h:Sh)->LT h->AV×Hp×Nat
 | .int k,n=>(.lit<|.int k n,H,b)
 | .bool,x=>(.b x,H,b)
 | .str,s=>(.s s,H,b)
 | .sl k,xs=>(.sl k xs,H,b)
 | .row e k,xs=>(.own b,upd H b<|I<|.row e A0 k xs,b+1)
 | .fz k,xs=>(.sl k xs,H,b)
 | .Cj e k,xs=>(.own b,upd H b<|I<|.row e Y k xs,b+1)
 | .abx e k,xs=>(.ptr b (ks k) 0 0,upd H b<|I<|.arr e k xs,b+1)
 | .arr k,xs=>(.arr k xs,H,b)
 | .same t,_=>(E t,H,b)
 | .agg l,x=>match Aj E H b l x with
  | (cs,H,b)=>(.agg cs,H,b)
 | .box e l,x=>match Aj E H b l x with
  | (cs,H,b)=>(.ptr b cs.length 0 0,upd H b<|I<|.box e cs,b+1)
def Aj (E:Nat->AV) (H:Hp) (b:Nat):(l:List Sh)->LTs l->List AV×Hp×Nat
 | [],_=>([],H,b)
 | h::l,x=>match BL E H b h x.1 with
  | (c,H,b)=>match Aj E H b l x.2 with
   | (cs,H,b)=>(c::cs,H,b)
end
mutual
def D3 (E:Nat->AV) (H:Hp) (b:Nat):(h:Sh)->AV->LT h->AV×Hp×Nat
 | .box e l,.ptr id z 0 0,x=>match H id with
  | some (.box _ cs)=>match BT E H b l cs x with
   | (ds,H,b)=>(.ptr id z 0 0,upd H id<|I<|.box e ds,b)
  | _=>(.un,H,b)
 | .same _,v,_=>(v,H,b)
 | h,_,x=>BL E H b h x
def BT (E:Nat->AV) (H:Hp) (b:Nat):(l:List Sh)->List AV->LTs l->List AV×Hp×Nat
 | [],_,_=>([],H,b)
 | h::l,cs,x=>match D3 E H b h (cs.headD .un) x.1 with
  | (d,H,b)=>match BT E H b l cs.tail x.2 with
   | (ds,H,b)=>(d::ds,H,b)
end
def UR:Sh->Bool
 | .box _ _=>Y
 | _=>A0
abbrev B2:List Sh->List Sh
 | []=>[]
 | .box e l::ps=> .box e l::B2 ps
 | .int _::ps=>B2 ps
 | .bool::ps=>B2 ps
 | .str::ps=>B2 ps
 | .sl _::ps=>B2 ps
 | .row _ _::ps=>B2 ps
 | .fz _::ps=>B2 ps
 | .Cj _ _::ps=>B2 ps
 | .abx _ _::ps=>B2 ps
 | .arr _::ps=>B2 ps
 | .same _::ps=>B2 ps
 | .agg _::ps=>B2 ps
def Fq:List Sh->List AV->List AV
 | .box _ _::ps,v::vs=>v::Fq ps vs
 | _::ps,_::vs=>Fq ps vs
 | _,_=>[]
def R8:K->Bool
 | .half=>A0
 | .keep=>A0
 | .AN=>A0
 | _=>Y
mutual
def MW:Sh->Bool
 | .sl _=>Y
 | .fz _=>Y
 | .row _ k=> !R8 k
 | .Cj _ k=> !R8 k
 | .abx _ k=> !R8 k
 | .arr k=> !R8 k
 | .agg l=>CV l
 | .box _ l=>CV l
 | _=>A0
def CV:List Sh->Bool
 | []=>A0
 | h::l=>MW h||CV l
end
structure DZ where
 ps:List Sh
 rs:List Sh
 g:LTs ps->Option (LTs rs×LTs (B2 ps))
def MG:List AV->AV
 | [v]=>v
 | vs=> .tup vs
def GJ(q:Bool)(ids:List Nat)(s:S):S:=match q with
 | true=>ids.foldl S.freeze s
 | false=>s
def Hb{Ω:Type}(m:DZ)(s:S)(b:Nat)(d:Option Nat)(as:List AV)(k:S->Option Ω):Option Ω:=
 let E:Nat->AV:=λi=>(as[i]?).getD .un
 match GC E s.H m.ps as,NG (Bo s.H m.ps as)&&off (Cv s.H m.ps as) (Bo s.H m.ps as) with
 | some x,Y=>(m.g x).bind λr=>
  let s1:=(Ce s.H m.ps as).foldl S.kill s
  let s2:S:=GJ (CV m.rs||CV (B2 m.ps)) (Cv s.H m.ps as) s1
  match BT E s2.H b (B2 m.ps) (Fq m.ps as) r.2 with
  | (_,H,b1)=>match Aj E H b1 m.rs r.1 with
   | (vs,H,b2)=>match Dv b2 (b+16) with
    | true=>k ({ s2 with H:=H }.put d<|MG vs)
    | false=>G
 | _,_=>G
structure Cx where
 P:Program
 kd:TypeId->Option K
 Γ:Nat->Option Nat->Option DZ
 cz:Nat->Bool
 sp:Nat->Bool
abbrev Inl(Ω:Type):=Nat->Option Nat->List AV->S->(S->Option Ω)->Option Ω
def L9(ρ:Operand->AV)(ps:List (Nat×Operand)):List Nat:=ps.flatMap λp=>match ρ p.2 with
 | .agg cs=>cs.filterMap H6
 | v=>(H6 v).toList
def CR{Ω:Type}(C:Cx)(inl:Inl Ω)(o:Oper)(b:Nat)(s:S)(k:S->Option Ω):Option Ω:=
 match s.has o.dst with
 | false=>G
 | true=>match o.op with
  | .store t p x=>match Ik C.P t s (s.ev p) (s.ev x) with
   | some s=>k (s.put o.dst Dp)
   | none=>G
  | .call c=>match c.callee,c.args.toList,c.argTypes.toList with
   | .value (.func f),as,_=>match C.Γ f o.dst with
    | some m=>Hb m s b o.dst (as.map s.ev) k
    | none=>inl f o.dst (as.map s.ev) s k
   | .builtin .append,[x,y],[t,u]=>match L6 C.P C.kd t u s b (s.ev x) (s.ev y) with
    | some (q,v,s)=>if q then k (s.put o.dst v) else G
    | none=>G
   | .builtin .copy,[x,y],[t,_]=>match LD C.P t s (s.ev x) (s.ev y) with
    | some (v,s)=>k (s.put o.dst v)
    | none=>G
   | _,_,_=>match CI C.P C.kd s.ev s.H b o.op with
    | some (q,v,os)=>if q then k ({ s with H:=En s.H b os }.put o.dst v) else G
    | none=>G
  | .slice t x lo hi G=>match s.ev x with
   | .own id=>match JD C.P s.H t (.own id) with
    | false=>G
    | true=>match Ky s id (match o.dst with
     | some d=>C.cz d
     | none=>A0) (lo.map s.ev) (hi.map s.ev) with
    | some (c,v,s)=>if c then k (s.put o.dst v) else G
    | none=>G
   | _=>match CI C.P C.kd s.ev s.H b (.slice t x lo hi G) with
    | some (c,v,os)=>if c then k ({ s with H:=En s.H b os }.put o.dst v) else G
    | none=>G
  | .buildSlice t n ps=>
   let s:=(L9 s.ev ps.toList).foldl S.freeze s
   match CI C.P C.kd s.ev s.H b (.buildSlice t n ps) with
   | some (c,v,os)=>if c then k ({ s with H:=En s.H b os }.put o.dst v) else G
   | none=>G
  | op=>match CI C.P C.kd s.ev s.H b op with
   | some (c,v,os)=>if c then k ({ s with H:=En s.H b os }.put o.dst v) else G
   | none=>G
mutual
def GF:Sh->Bool
 | .int _=>Y
 | .bool=>Y
 | .str=>Y
 | .agg l=>NA l
 | _=>A0
def NA:List Sh->Bool
 | []=>Y
 | h::l=>GF h&&NA l
end
mutual
def ayx:(h:Sh)->LT h
 | .int _=>(0:Int)
 | .bool=>A0
 | .str=>noB
 | .sl _=>[]
 | .row _ _=>[]
 | .fz _=>[]
 | .Cj _ _=>[]
 | .abx _ _=>[]
 | .arr _=>[]
 | .same _=>()
 | .agg l=>M9 l
 | .box _ l=>M9 l
def M9:(l:List Sh)->LTs l
 | []=>()
 | h::l=>(ayx h,M9 l)
end
def spA(C:Cx)(b:Nat)(d:Option Nat)(ρ:Operand->AV)(H:Hp):Op->Option (Bool×AV)
 | .call c=>match c.callee,c.args.toList,c.argTypes.toList with
  | .value (.func f),as,_=>(C.Γ f d).bind λm=>
   let E:Nat->AV:=λi=>((as.map ρ)[i]?).getD .un
   match NA m.rs&&(B2 m.ps).isEmpty&&(Ce H m.ps<|as.map ρ).isEmpty&&(Bo H m.ps<|as.map ρ).isEmpty with
   | true=>(GC E H m.ps<|as.map ρ).bind λx=>I ((m.g x).isSome,MG (Aj E H b m.rs ((m.g x).getD (M9 m.rs,M9<|B2 m.ps)).1).1)
   | false=>G
  | .builtin .append,_,_=>G
  | .builtin .copy,_,_=>G
  | _,_,_=>match JO C.P ρ H c with
   | some (q,v,[])=>I (q,v)
   | _=>G
 | .store _ _ _=>G
 | .buildSlice _ _ _=>G
 | .slice t x lo hi G=>match ρ x with
  | .own _=>G
  | _=>match CI C.P C.kd ρ H b (.slice t x lo hi G) with
   | some (q,v,[])=>I (q,v)
   | _=>G
 | op=>match CI C.P C.kd ρ H b op with
  | some (q,v,[])=>I (q,v)
  | _=>G
def eqW(c want:Bool):Bool:=match want with
 | true=>c
 | false=> !c
def Ak(c q:Bool):Bool:=match q with
 | true=>Y
 | false=> !c
def MJ(ops:Array Oper)(s:S):Nat->Oper->Option Bool
 | 0,_=>G
 | n+1,o=>match o.guard with
  | none=>I Y
  | some (j,want)=>(ops[j]?).bind λoj=>oj.dst.bind λg=>match s.T g with
   | .lit (.bool c)=>I (eqW c want)
   | .lit (.tuple _)=>I A0
   | .gd g' w' (.lit (.bool c))=>match oj.guard with
    | some (j',w2)=>match (ops[j']?).bind (·.dst) with
     | some g2=>match Af g' g2,w' == w2 with
      | true,Y=>(MJ ops s n oj).bind λb=>I<|b&&eqW c want
      | _,_=>G
     | none=>G
    | none=>G
   | _=>G
def abl(c:Option Bool)(q:Bool):Bool:=match c with
 | some c=>Ak c q
 | none=>q
def pE:AV->Bool
 | .gd _ _ _=>A0
 | _=>Y
def S.narrow(s:S)(g:Nat)(w:Bool):S:={ s with T:=upd (λt=>Gb g w<|s.T t) g (.b w) }
def evG{Ω:Type}(C:Cx)(inl:Inl Ω)(ops:Array Oper)(o:Oper)(b:Nat)(s:S)(k:S->Option Ω):Option Ω:=
 match o.guard with
 | none=>CR C inl o b s k
 | some (j,want)=>match (ops[j]?).bind (·.dst),(match o.dst with
   | some d=>C.sp d
   | none=>A0) with
  | none,_=>G
  | some g,Y=>match { s with gs:=upd s.gs g Y }.has o.dst,spA C b o.dst (s.narrow g want).ev s.H o.op with
   | true,I (q,v)=>match pE v with
    | true=>if abl (MJ ops s 4 o) q then k { s.put o.dst (.gd g want v) with gs:=upd s.gs g Y } else G
    | false=>G
   | _,_=>G
  | some g,A0=>match s.T g with
   | .lit (.bool c)=>
    let yes:Option Ω:=CR C inl o b { s with T:=upd s.T g (.b want) } k
    let no:Option Ω:=match s.has o.dst with
     | true=>k ({ s with T:=upd s.T g (.b<|!want) }.put o.dst Dp)
     | false=>G
    match want with
    | true=>if c then yes else no
    | false=>if c then no else yes
   | .lit (.tuple _)=>match s.has o.dst with
    | true=>k (s.put o.dst Dp)
    | false=>G
   | _=>G
def PC{Ω:Type}(C:Cx)(inl:Inl Ω)(ops:Array Oper):List Oper->S->(S->Option Ω)->Option Ω
 | [],s,k=>k s
 | o::l,s,k=>evG C inl ops o s.nid s λs=>PC C inl ops l { s with nid:=s.nid+16 } k
def aM(Ω:Type):Inl Ω:=λ_ _ _ _ _=>G
mutual
def Dl:Sh->Bool
 | .agg _=>A0
 | .same _=>A0
 | .arr _=>A0
 | .box _ l=>I3 l
 | _=>Y
def I3:List Sh->Bool
 | []=>Y
 | h::l=>Dl h&&I3 l
end
def abO:Sh->Bool
 | .agg l=>I3 l
 | .arr _=>Y
 | h=>Dl h
def aG:List Sh->Bool
 | []=>Y
 | h::l=>abO h&&aG l
def okS(m:DZ):Bool:=aG m.rs&&I3 (B2 m.ps)
def Om(H:Hp)(x y:AV):List Nat:=match x with
 | .ptr id _ _ _=>match H id with
  | some (.row _ _ _ _)=>id::((Ga y).getD []).filterMap H6
  | _=>[id]
 | _=>[]
def fzl(q:Bool)(l:List Nat):List Nat:=match q with
 | true=>l
 | false=>[]
def KC(v:AV):List Nat:=(H6 v).toList
def E0(C:Cx)(s:S)(o:Oper):Option (List Nat):=match o.op with
 | .store _ p x=>I (Om s.H (s.ev p)<|s.ev x)
 | .call c=>match c.callee,c.args.toList with
  | .value (.func f),as=>match C.Γ f o.dst with
   | some m=>match (B2 m.ps).isEmpty with
    | true=>I (Ce s.H m.ps (as.map s.ev)++fzl (CV m.rs||CV (B2 m.ps)) (Cv s.H m.ps<|as.map s.ev))
    | false=>G
   | none=>G
  | .builtin .append,x::_=>I (KC<|s.ev x)
  | .builtin .copy,x::_=>I (KC<|s.ev x)
  | _,_=>I []
 | .slice _ x _ _ G=>I (KC<|s.ev x)
 | .buildSlice _ _ ps=>I (L9 s.ev ps.toList)
 | _=>I []
def JT(C:Cx)(s:S)(o:Oper):List Nat:=match o.op with
 | .call c=>match c.callee,c.args.toList with
  | .value (.func f),as=>match C.Γ f o.dst with
   | some m=>Ce s.H m.ps (as.map s.ev)++fzl (CV m.rs||CV (B2 m.ps)) (Cv s.H m.ps<|as.map s.ev)
   | none=>[]
  | _,_=>[]
 | _=>[]
def okO(C:Cx)(o:Oper):Bool:=match o.op with
 | .call c=>match c.callee with
  | .value (.func f)=>match C.Γ f o.dst with
   | some m=>okS m
   | none=>A0
  | _=>Y
 | _=>Y
mutual
def Ip:Sh->Bool
 | .agg _=>A0
 | .arr _=>A0
 | .box _ l=>M1 l
 | _=>Y
def M1:List Sh->Bool
 | []=>Y
 | h::l=>Ip h&&M1 l
end
def ow:Sh->Bool
 | .agg l=>M1 l
 | .arr _=>Y
 | h=>Ip h
def K5:List Sh->Bool
 | []=>Y
 | h::l=>ow h&&K5 l
def Ng:AV->Option (List Nat)
 | .own id=>I [id]
 | .ptr id _ _ _=>I [id]
 | .agg _=>G
 | .tup _=>G
 | .gd _ _ _=>G
 | _=>I []
def aj:List AV->Option (List Nat)
 | []=>I []
 | c::cs=>(Ng c).bind λa=>(aj cs).bind λb=>I<|a++b
def Nf:AV->Option (List Nat)
 | .agg cs=>aj cs
 | v=>Ng v
def p6:List AV->Option (List Nat)
 | []=>I []
 | c::cs=>(Nf c).bind λa=>(p6 cs).bind λb=>I<|a++b
def ak:AV->Option (List Nat)
 | .tup vs=>p6 vs
 | v=>Nf v
def UU:AV->Option (List Nat)
 | .gd _ _ v=>ak v
 | v=>ak v
def bit(i:Nat):Nat:=Nat.shiftLeft 1 i
def msk:List Nat->Nat
 | []=>0
 | i::l=>BQ (bit i) (msk l)
def nm(b:Nat):Nat:=Nat.shiftLeft 65535 b
def dsj(a b:Nat):Bool:=Af (P9 a b) 0
def sbs(a b:Nat):Bool:=Af (P9 a b) a
def tst(a i:Nat):Bool:= !(dsj a<|bit i)
def ab7(H:Hp)(id:Nat):Option (List Nat):=match H id with
 | some (.box _ cs)=>aj cs
 | _=>I []
def aN(H:Hp):List Nat->Option (List Nat)
 | []=>I []
 | i::l=>(ab7 H i).bind λa=>(aN H l).bind λb=>I<|a++b
def clo(H:Hp):Nat->List Nat->Option Nat
 | 0,[]=>I 0
 | 0,_::_=>G
 | n+1,l=>match l with
  | []=>I 0
  | i::l=>(aN H<|i::l).bind λm=>(clo H n m).bind λr=>I<|BQ (msk<|i::l) r
def aP(ops:Array Oper):Nat->Oper->List Nat
 | 0,_=>[]
 | n+1,o=>match o.guard with
  | none=>[]
  | some (j,_)=>match ops[j]? with
   | some oj=>oj.dst.toList++aP ops n oj
   | none=>[]
abbrev DH(ops:Array Oper)(o:Oper):List Nat:=o.looksAt ops++aP ops 4 o
def mov:Op->Bool
 | .move _=>Y
 | .assign _=>Y
 | .nilCheck _=>Y
 | .binOp _ _ _ _ _=>Y
 | .unOp _ _ _=>Y
 | .fieldAddr _ _ _=>Y
 | .field _ _ _=>Y
 | .extract _ _=>Y
 | .index _ _ _=>Y
 | .build _ _=>Y
 | _=>A0
def pur(o:Oper):Bool:=match o.op with
 | .store _ _ _=>A0
 | .call _=>A0
 | .slice _ _ _ _ _=>A0
 | .buildSlice _ _ _=>A0
 | _=>Y
structure Rec where
 i:Nat
 b:Nat
 F:Nat
 N:Nat
 W:Nat
 K:Nat
 anc:Nat
 V:List Nat
 o:Oper
def Hd(i:Nat):List Rec->Option Rec
 | []=>G
 | r::l=>match Af r.i i with
  | true=>I r
  | false=>Hd i l
def RE(acc:List Rec):List Edge->Option Nat
 | []=>I 0
 | e::l=>match Fj .any e with
  | true=>(Hd e.on acc).bind λr=>(RE acc l).bind λm=>I<|BQ (BQ (bit e.on) r.anc) m
  | false=>RE acc l
def oZ(t:Nat):Option Nat->Bool
 | some d=>Af d t
 | none=>A0
def abR(t:Nat)(l:List Nat):Bool:=l.any λx=>Af x t
def PG(d:Option Nat)(l:List Nat):Bool:=match d with
 | some t=> !(abR t l)
 | none=>Y
def ou(d e:Option Nat):Bool:=match d,e with
 | some a,I b=> !(Af a b)
 | _,_=>Y
def RD(t:Nat):List Rec->Option Rec
 | []=>G
 | r::l=>match oZ t r.o.dst with
  | true=>I r
  | false=>RD t l
def aY(s0:S)(acc:List Rec):List Nat->Option (List Nat)
 | []=>I []
 | t::l=>(match RD t acc with
  | some r=>I r.V
  | none=>UU (s0.T t)).bind λa=>(aY s0 acc l).bind λb=>I<|a++b
def mvO(o:Oper):Bool:=mov o.op&&pur o&&o.guard.isNone
def Ov(anc:Nat):List Rec->Nat->Nat
 | [],F=>F
 | r::l,F=>Ov anc l (match tst anc r.i&& !(dsj r.W F)&& !(mvO r.o) with
  | true=>BQ r.F F
  | false=>F)
def abX(C:Cx)(ops:Array Oper)(s0:S)(o:Oper)(i b:Nat)(acc:List Rec)(s:S):Option Rec:=
 (RE acc o.after.toList).bind λanc=>(aY s0 acc<|DH ops o).bind λl=>(clo s0.H 4 l).bind λc=>
 let F:=match mvO o with
  | true=>BQ (msk l) (nm b)
  | false=>Ov anc acc (BQ c<|nm b)
 let W:=match E0 C s o with
  | none=>F
  | some l=>BQ (msk l) (nm b)
 let K:=match E0 C s o with
  | none=>BQ (msk<|JT C s o) (nm b)
  | some l=>BQ (msk l) (nm b)
 let N:=match mvO o with
  | true=>nm b
  | false=>match pur o,o.guard with
   | true,G=>BQ (msk l) (nm b)
   | _,_=>F
 match sbs W F with
 | true=>I { i:=i,b:=b,F:=F,N:=N,W:=W,K:=K,anc:=anc,V:=[],o:=o }
 | false=>G
def ayi:Op->Bool
 | .load _ _=>Y
 | _=>A0
def abg(C:Cx)(ops:Array Oper)(s:S):Nat->Nat->AV
 | 0,t=>s.T t
 | n+1,t=>match ops.toList.find? (λo=>oZ t o.dst) with
  | none=>s.T t
  | some o=>match mov o.op||ayi o.op with
   | true=>(match CI C.P C.kd (λx=>match x with
     | .tmp t=>abg C ops s n t
     | x=>s.ev x) s.H s.nid o.op with
    | some (_,v,_)=>v
    | none=> .un)
   | false=> .un
def ayc(o:Oper):Option Nat:=match o.op with
 | .slice _ (.tmp x) _ _ G=>I x
 | _=>G
def p7:List Nat->List Nat
 | []=>[]
 | i::l=>match l.any (Af i) with
  | true=>i::p7 l
  | false=>p7 l
def RO(C:Cx)(ops:Array Oper)(s:S):List Nat:=match ops.toList.filterMap ayc with
 | []=>[]
 | [_]=>[]
 | xs=>p7 (xs.filterMap λx=>H6<|abg C ops s 4 x)
def chk(ops:Array Oper)(x r:Rec):Bool:=
 ou x.o.dst r.o.dst&&match tst r.anc x.i with
  | true=>(dsj x.W r.N||sbs x.F r.F)&&(PG x.o.dst (DH ops r.o)||(sbs (msk x.V) r.F&&(mov r.o.op||sbs (msk x.V) r.N)))&&dsj x.F (nm r.b)
  | false=>(dsj x.K r.F&&dsj r.K x.F)&&(dsj x.W r.N&&dsj r.W x.N)&&(dsj x.W r.W&&(dsj x.F (nm r.b)&&dsj r.F (nm x.b)))&&PG x.o.dst (DH ops r.o)&&PG r.o.dst (DH ops x.o)
def vOf(s:S):Option Nat->Option (List Nat)
 | none=>I []
 | some t=>UU (s.T t)
def evD{Ω:Type}(C:Cx)(ops:Array Oper)(s0:S):List Oper->Nat->Nat->List Rec->S->(S->Option Ω)->Option Ω
 | [],_,b,_,s,k=>k { s with nid:=b }
 | o::l,i,b,acc,s,k=>match abX C ops s0 o i b acc s with
  | none=>G
  | some r=>match acc.all (λx=>chk ops x r)&&okO C o&&PG o.dst (DH ops o) with
   | true=>evG C (aM Ω) ops o b s λs'=>(vOf s' o.dst).bind λV=>evD C ops s0 l (i+1) (b+16) ({ r with V:=V } ::acc) s' k
   | false=>G
abbrev Sch:=List<|Nat×Sh
abbrev Lv(c:Sch):Type:=LTs (c.map (·.2))
def nf(H:Hp)(T:Nat->AV):(c:Sch)->Option (Lv c)
 | []=>I ()
 | (t,h)::c=>(Bs T H h<|T t).bind λx=>(nf H T c).bind λxs=>I (x,xs)
def Od(H:Hp)(T:Nat->AV):Sch->List Nat
 | []=>[]
 | (t,h)::c=>Cg H h (T t)++Od H T c
def o7(H:Hp)(T:Nat->AV):Sch->List Nat
 | []=>[]
 | (t,h)::c=>Cr H h (T t)++o7 H T c
def M5(T:Nat->AV)(H:Hp)(b:Nat):(c:Sch)->Lv c->(Nat->AV)×Hp×Nat
 | [],_=>(T,H,b)
 | (t,h)::c,x=>match BL T H b h x.1 with
  | (v,H,b)=>M5 (upd T t v) H b c x.2
def mkS(n:Nat)(p:List Nat)(c:Sch)(x:Lv c):S:=match M5 (λ_=> .un) (λ_=>G) 0 c x with
 | (T,H,b)=>{ n:=n,T:=T,H:=H,nid:=b,st:=[],pins:=p,gs:=λ_=>A0 }
def abV(n:Nat)(c:Sch):Bool:=NG (c.map (·.1))&&K5 (c.map (·.2))&&c.all λx=>IJ x.1 n
def rdS(c:Sch)(s:S):Option (Lv c):=match s.st,NG (Od s.H s.T c)&&off (o7 s.H s.T c) (Od s.H s.T c),abV s.n c with
 | [],Y,Y=>nf s.H s.T c
 | _,_,_=>G
structure Loop where
 sch:Sch
 KV:Sch
 xid:Nat
 KU:Sch
 run:Lv sch->Option (Lv KU ⊕ Lv KV)
inductive Adv where
 | nil
 | one (a:Adv)
 | two (a b:Adv)
 | join (c:Sch) (a b:Adv)
 | loop (l:Loop)
def Adv.a:Adv->Adv
 | .one a=>a
 | .two a _=>a
 | .join _ a _=>a
 | _=> .nil
def Adv.z:Adv->Adv
 | .two _ b=>b
 | .join _ _ b=>b
 | _=> .nil
structure Kt (Ω:Type) where
 nrm:S->Option Ω
 ret:S->Option Ω
 ext:Nat->S->Option Ω
def BU{Ω X:Type}(f:X->Option Ω)(m:Option (Ω ⊕ X)):Option Ω:=m.bind λr=>match r with
 | .inl o=>I o
 | .inr x=>f x
def AP{A B7 Ω:Type}(m:Option (A ⊕ B7))(f:A->Option Ω)(g:B7->Option Ω):Option Ω:=m.bind λr=>match r with
 | .inl a=>f a
 | .inr b=>g b
def Hg{X H9:Type}(b:X->Option (X ⊕ H9)):Nat->X->Option H9
 | 0,_=>G
 | n+1,x=>(b x).bind λr=>match r with
  | .inl y=>Hg b n y
  | .inr z=>I z
open Classical in
def AT {X H9:Type} (b:X->Option (X ⊕ H9)) (x:X):Option H9:=
 if h:∃n y,Hg b n x=I y then I (NK<|J3 h) else G
def evk(C:Cx)(inl:(Ω:Type)->Inl Ω):Code->(Ω:Type)->Adv->Kt Ω->S->Option Ω
 | .skip,_,_,k,s=>k.nrm s
 | .region _ ops A0,Ω,_,k,s=>PC C (inl Ω) ops ops.toList s k.nrm
 | .region _ ops Y,_,_,k,s=>evD C ops ((RO C ops s).foldl S.freeze s) ops.toList 0 s.nid [] ((RO C ops s).foldl S.freeze s) k.nrm
 | .seq a b,Ω,.join c u v,k,s=>
  BU (λx=>evk C inl b Ω v k<|mkS s.n s.pins c x) (evk C inl a (Ω ⊕ Lv c) u { nrm:=λs=>(rdS c s).bind λx=>I<|.inr x,ret:=λs=>(k.ret s).bind λo=>I<|.inl o,ext:=λj s=>(k.ext j s).bind λo=>I (.inl o) } s)
 | .seq a b,Ω,v,k,s=>evk C inl a Ω v.a { k with nrm:=evk C inl b Ω v.z k } s
 | .cond c x y,Ω,v,k,s=>match s.ev c with
  | .lit (.bool b)=>if b then evk C inl x Ω v.a k s else evk C inl y Ω v.z k s
  | _=>G
 | .block id c,Ω,v,k,s=>evk C inl c Ω v.a { k with ext:=λj s=>match Af j id with
  | true=>k.nrm s
  | false=>k.ext j s } s
 | .loop _,_,.loop l,k,s=>(rdS l.sch s).bind λx=>AP (l.run x) (λy=>k.ret<|mkS s.n s.pins l.KU y) λy=>k.ext l.xid (mkS s.n s.pins l.KV y)
 | .exit id,_,_,k,s=>k.ext id s
 | .ret,_,_,k,s=>k.ret s
 | _,_,_,_,_=>G
def QR(P:Program)(s:S):List ResultVar->Option (List AV)
 | []=>I []
 | .tmp t::l=>(QR P s l).bind λvs=>I<|s.T t::vs
 | .cell a t::l=>(K6 P s.H t<|s.T a).bind λv=>(QR P s l).bind λvs=>I<|v::vs
def Dy(i:Nat):List Sh->List Nat
 | []=>[]
 | h::ps=>match UR h with
  | true=>i::Dy (i+1) ps
  | false=>Dy (i+1) ps
def RJ(n:Nat)(ps:List Sh)(x:LTs ps):S:=match Aj (λ_=> .un) (λ_=>G) 0 ps x with
 | (vs,H,b)=>{ n:=n,T:=λt=>(vs[t]?).getD Dp,H:=H,nid:=b,st:=[],pins:=Dy 0 ps,gs:=λ_=>A0 }
def fin(P:Program)(fn:Func)(m:DZ)(s:S):Option (LTs m.rs×LTs (B2 m.ps)):=
 (QR P s fn.results.toList).bind λvs=>
 match NG (Bo s.H (m.rs++B2 m.ps)<|vs++(Dy 0 m.ps).map s.T)&&off (Cv s.H (m.rs++B2 m.ps)<|vs++(Dy 0 m.ps).map s.T) (Bo s.H (m.rs++B2 m.ps)<|vs++(Dy 0 m.ps).map s.T) with
 | true=>(GC s.T s.H m.rs vs).bind λr=>(GC s.T s.H (B2 m.ps)<|(Dy 0 m.ps).map s.T).bind λq=>I (r,q)
 | false=>G
def evF(C:Cx)(inl:(Ω:Type)->Inl Ω)(fn:Func)(body:Code)(v:Adv)(m:DZ)(x:LTs m.ps):Option (LTs m.rs×LTs (B2 m.ps)):=
 evk C inl body _ v { nrm:=fin C.P fn m,ret:=fin C.P fn m,ext:=λ_ _=>G } (RJ fn.ntmps m.ps x)
def aq(C:Cx)(inl:(Ω:Type)->Inl Ω)(fn:Func)(v:Adv)(m:DZ)(x:LTs m.ps):Option (LTs m.rs×LTs (B2 m.ps)):=
 match fn.body with
 | some b=>evF C inl fn b v m x
 | none=>G
def PE:List Nat->Code->Code
 | [],c=>c
 | 0::l,.seq a _=>PE l a
 | 1::l,.seq _ b=>PE l b
 | 0::l,.cond _ a _=>PE l a
 | 1::l,.cond _ _ b=>PE l b
 | 0::l,.block _ a=>PE l a
 | 0::l,.loop a=>PE l a
 | _::_,c=>c
def LA(fn:Func):Code:=fn.body.getD .skip
def evL(C:Cx)(inl:(Ω:Type)->Inl Ω)(n:Nat)(p:List Nat)(c:Code)(v:Adv)(l:Loop)(x:Lv l.sch):Option (Lv l.sch ⊕ (Lv l.KU ⊕ Lv l.KV)):=
 evk C inl c _ v { nrm:=λs=>(rdS l.sch s).bind λy=>I<|.inl y,ret:=λs=>(rdS l.KU s).bind λy=>I<|.inr<|.inl y,ext:=λj s=>match Af j l.xid with
  | true=>(rdS l.KV s).bind λy=>I<|.inr<|.inr y
  | false=>G } (mkS n p l.sch x)
def AF:(Ω:Type)->Inl Ω:=aM
def PK:AV->AV
 | .gd _ _ _=> .un
 | v=>v
def plB:AV->Bool
 | .tup _=>A0
 | .gd _ _ _=>A0
 | _=>Y
def Nd(C:Cx):Nat->(Ω:Type)->Inl Ω
 | 0=>AF
 | n+1=>λΩ f d as s k=>match C.P.funcs[f]? with
  | none=>G
  | some fn=>match fn.body,fn.name == "runtime.NumGoroutine" with
   | some body,A0=>
    let back:S->Option Ω:=λs'=>match s'.st,QR C.P s' fn.results.toList with
     | T::st,I vs=>match vs.all plB with
      | true=>k ({ s' with n:=s.n,T:=λt=>PK<|T t,st:=st,pins:=s.pins,gs:=λ_=>A0 }.put d<|MG vs)
      | false=>G
     | _,_=>G
    match Af as.length fn.params.size&&Dv as.length fn.ntmps&&as.all plB with
    | true=>evk C (Nd C n) body Ω .nil { nrm:=back,ret:=back,ext:=λ_ _=>G } { s with n:=fn.ntmps,T:=λt=>(as[t]?).getD Dp,st:=s.T::s.st,pins:=[],gs:=λ_=>A0 }
    | false=>G
   | _,_=>G
end Go.VS
end
noncomputable section
namespace Go.VS
open Go
structure Beta where
 f:Nat->Option (Value×Nat)
 Z:Nat->Prop
instance:CoeFun Beta (λ_=>Nat->Option (Value×Nat)):=⟨Beta.f⟩
def Beta.up(β:Beta)(id:Nat)(v:Option (Value×Nat)):Beta:=⟨upd β.f id v,β.Z⟩
def Beta.Ub(β:Beta)(id:Nat)(v:Option (Value×Nat)):(β.up id v) id=v:=by simp[Beta.up,upd]
def Beta.Nk(β:Beta){id j:Nat}(v:Option (Value×Nat))(h:j≠id):(β.up id v) j=β j:=by
 have:Af j id=A0:=by rw[← GK,HJ];exact h
 simp[Beta.up,upd,this]
def adr:Value->Option Addr
 | .pointer (I a)=>I a
 | .slice (I a) _ _=>I a
 | _=>G
def RI:Value->Bool
 | .slice _ _ _=>Y
 | _=>A0
def MB(β:Beta)(b:Nat):Prop:=∃id hd n a,β id=I (hd,n)/\adr hd=I a/\a.block=b
def MZ(β:Beta)(b:Nat):Prop:=MB β b\/β.Z b
inductive RC (w:World) (β:Beta):AV->Value->Prop
 | un {v:Value} (h:v.oneCell'=Y):RC w β .un v
 | lit {v:Value} (h:v.oneCell'=Y):RC w β (.lit v) v
 | nil {k:K} {a:Option Addr} {cap:Nat} :RC w β (.sl k []) (.slice a 0 cap)
 | sl {k:K} {xs:List (Tof k)} {b f cap n:Nat} (u:Nat->Nat->Value) (hn:n=xs.length/\n<=cap) (hM:¬MZ β b)
   (hu:∀i j,i<xs.length->j<ks k->w.cell? ⟨b,f+(i * ks k+j),G⟩=I (u i j))
   (hr:∀i x j c,xs[i]? =I x->(enc k x)[j]? =I c->RC w β c (u i j)):RC w β (.sl k xs) (.slice (I ⟨b,f,G⟩) n cap)
 | own {id:Nat} {hd:Value} {n:Nat} (h:β id=I (hd,n)) (hs:RI hd=Y):RC w β (.own id) hd
 | ptr {id sz i o:Nat} {hd:Value} {n b f:Nat} (h:β id=I (hd,n)) (ha:adr hd=I ⟨b,f,G⟩) (hi:i<n):RC w β (.ptr id sz i o) (.pointer (I ⟨b,f+(i * sz+o),G⟩))
 | ipt {k:K} {x:Tof k} {o b f:Nat} (u:Nat->Value) (hM:¬MZ β b)
   (hu:∀j,j<ks k->w.cell? ⟨b,f+j,G⟩=I (u j))
   (hr:∀j c,(enc k x)[j]? =I c->RC w β c (u j)):RC w β (.ipt k x o) (.pointer<|I ⟨b,f+o,G⟩)
def EL:∀(k:K) (x:Tof k),(enc k x).length=ks k:=by
 intro k x;cases k<;>rfl
def I4(k:K):0<ks k:=by cases k<;>decide
def RC.one{w:World}{β:Beta}{c:AV}{v:Value}(h:RC w β c v):v.oneCell'=Y:=by
 cases h with
 | un h=>exact h
 | lit h=>exact h
 | @own id _ n h hs=>cases v<;>simp_all [RI,Value.oneCell']
 | _=>rfl
def RC.mono{w w':World}{β β':Beta}(hβ:∀id p,β id=I p->β' id=I p)
  (hc:∀b o v,¬MZ β b->w.cell? ⟨b,o,G⟩=I v->w'.cell? ⟨b,o,G⟩=I v)
  (hM:∀b,¬MZ β b->b<w.heap.size->¬MZ β' b){c:AV}{v:Value}(h:RC w β c v):RC w' β' c v:=by
 induction h with
 | un h=>exact .un h
 | lit h=>exact .lit h
 | nil=>exact .nil
 | @sl k xs b f cap n u hn hm hu hr ih=>
  cases xs with
  | nil=>obtain⟨rfl,_⟩:=hn;exact .nil
  | cons x l=>
   refine .sl u hn (hM b hm ?_) (λi j hi hj=>hc _ _ _ hm<|hu i j hi hj) ih;have:=hu 0 0 aG9<|I4 k;exact block_lt_of_cell this
 | own h hs=>exact .own (hβ _ _ h) hs
 | ptr h ha hi=>exact .ptr (hβ _ _ h) ha hi
 | @ipt k x o b f u hm hu hr ih=>
  exact .ipt u (hM b hm<|block_lt_of_cell<|hu 0<|I4 k) (λj hj=>hc _ _ _ hm<|hu j hj) ih
def RL(R:AV->Value->Prop)(cs:List AV)(us:List Value):Prop:=us.length=cs.length/\ ∀(j:Nat) (c:AV) (u:Value),cs[j]? =I c->us[j]? =I u->R c u
def RL.nil{R:AV->Value->Prop}:RL R [] []:=⟨rfl,λj c u h=>by simp at h⟩
def RL.cons{R:AV->Value->Prop}{c:AV}{u:Value}{cs:List AV}{us:List Value}(h:R c u)(hl:RL R cs us):RL R (c::cs) (u::us):=by
 refine⟨by simp[hl.1],λj c' u' h1 h2=> ?_⟩;cases j with
 | zero=>simp at h1 h2;subst h1;subst h2;exact h
 | succ j=>simp at h1 h2;exact hl.2 j c' u' h1 h2
def RL.CD{R:AV->Value->Prop}{c:AV}{cs:List AV}{us:List Value}(h:RL R (c::cs) us):∃u us',us=u::us'/\R c u/\RL R cs us':=by
 cases us with
 | nil=>exact absurd h.1<|by simp
 | cons u us=>exact⟨u,us,rfl,h.2 0 c u rfl rfl,by simpa using h.1,λj c' u' h1 h2=>h.2 (j+1) c' u' (by simpa using h1)<|by simpa using h2⟩
def RL.of_nil{R:AV->Value->Prop}{us:List Value}(h:RL R [] us):us=[]:=Df<|by simpa using h.1
def RL.mono{R R':AV->Value->Prop}{cs:List AV}{us:List Value}(h:RL R cs us)(hr:∀c u,R c u->R' c u):RL R' cs us:=⟨h.1,λj c u h1 h2=>hr _ _<|h.2 j c u h1 h2⟩
def RL.append{R:AV->Value->Prop}{cs ds:List AV}{us vs:List Value}(h:RL R cs us)(k:RL R ds vs):RL R (cs++ds) (us++vs):=by
 induction cs generalizing us with
 | nil=>rw[h.of_nil];exact k
 | cons c cs ih=>obtain⟨u,us',rfl,h1,h2⟩:=h.CD;exact .cons h1<|ih h2
def RL.take{R:AV->Value->Prop}{cs:List AV}{us:List Value}(h:RL R cs us)(n:Nat):RL R (cs.take n) (us.take n):=by
 refine⟨by simp[h.1],λj c u h1 h2=> ?_⟩;rw[Gk]at h1 h2;split at h1
 .rw[A5 ‹_›]at h2;exact h.2 j c u h1 h2
 .cases h1
def RL.drop{R:AV->Value->Prop}{cs:List AV}{us:List Value}(h:RL R cs us)(n:Nat):RL R (cs.drop n) (us.drop n):=by
 refine⟨by simp[h.1],λj c u h1 h2=> ?_⟩;rw[Hk]at h1 h2;exact h.2 _ c u h1 h2
def RL.get{R:AV->Value->Prop}{cs:List AV}{us:List Value}(h:RL R cs us){j:Nat}{c:AV}(hj:cs[j]? =I c):∃u,us[j]? =I u/\R c u:=by
 have hlt:j<us.length:=by rw[h.1];exact(BR.1 hj).1
 exact⟨us[j],by simp[hlt],h.2 j c _ hj<|by simp[hlt]⟩
def RL.map{R R':AV->Value->Prop}{cs:List AV}{us:List Value}(f:AV->AV)(h:RL R cs us)(hr:∀c u,R c u->R' (f c) u):RL R' (cs.map f) us:=by
 refine⟨by simp[h.1],λj c u h1 h2=> ?_⟩;rw[DA]at h1;cases hc:cs[j]? with
 | none=>rw[hc]at h1;cases h1
 | some c'=>rw[hc]at h1;simp at h1;subst h1;exact hr _ _<|h.2 j c' u hc h2
def R1(w:World)(β:Beta):AV->Value->Prop
 | .un,_=>True
 | .lit v',v=>v=v'
 | .agg cs,v=>∃us:List Value,v= .agg us.toArray/\RL (RC w β) cs us
 | .arr k xs,v=>∃us:List Value,v= .agg us.toArray/\us.length=xs.length * ks k/\ ∀i x j c u,xs[i]? =I x->(enc k x)[j]? =I c->us[i * ks k+j]? =I u->RC w β c u
 | .tup _,_=>False
 | .gd _ _ _,_=>False
 | .sl k xs,v=>RC w β (.sl k xs) v
 | .own id,v=>RC w β (.own id) v
 | .ptr id sz i o,v=>RC w β (.ptr id sz i o) v
 | .ipt k x o,v=>RC w β (.ipt k x o) v
def R2(w:World)(β:Beta):AV->Value->Prop
 | .tup vs,v=>∃us:List Value,v= .tuple us.toArray/\RL (R1 w β) vs us
 | x,v=>R1 w β x v
def RT(w:World)(β:Beta)(tm:Nat->Value):AV->Value->Prop
 | .gd g want x,v=>(tm g= .bool want->R2 w β x v)/\(tm g≠ .bool want->v=undef)
 | x,v=>R2 w β x v
section mono
variable {w w':World} {β β':Beta} (hβ:∀c v,RC w β c v->RC w' β' c v)
include hβ
def R1.mono{c:AV}{v:Value}(h:R1 w β c v):R1 w' β' c v:=by
 cases c<;>simp only[R1]at h ⊢
 case lit=>exact h
 case agg=>obtain⟨us,e,h⟩:=h;exact⟨us,e,h.mono hβ⟩
 case arr=>obtain⟨us,e,hl,h⟩:=h;exact⟨us,e,hl,λi x j c u h1 h2 h3=>hβ _ _<|h i x j c u h1 h2 h3⟩
 all_goals exact hβ _ _ h
def R2.mono{c:AV}{v:Value}(h:R2 w β c v):R2 w' β' c v:=by
 cases c<;>simp only[R2]at h ⊢
 case tup=>obtain⟨us,e,h⟩:=h;exact⟨us,e,h.mono λc u=>R1.mono hβ⟩
 all_goals exact R1.mono hβ h
def RT.mono{tm:Nat->Value}{c:AV}{v:Value}(h:RT w β tm c v):RT w' β' tm c v:=by
 cases c<;>simp only[RT]at h ⊢
 case gd=>exact⟨λe=>R2.mono hβ<|h.1 e,h.2⟩
 all_goals exact R2.mono hβ h
end mono
def FT(w:World)(β:Beta)(e:TypeId)(fz:Bool)(k:K)(xs:List (Tof k))(hd:Value):Prop:=
 (hd= .slice G 0 0/\xs=[])\/
 ∃b f cap us fr,hd= .slice (I ⟨b,f,G⟩) xs.length cap/\
  w.heap[b]? =I (.cells us e fr)/\fr=(if fz then(us.size,us.size+1) else(0,0))/\xs.length<=cap/\cap<=maxLen/\f+cap * ks k<=us.size/\
  ∀i x j c u,xs[i]? =I x->(enc k x)[j]? =I c->us[f+(i * ks k+j)]? =I u->RC w β c u
def E6(P:Program)(w:World)(β:Beta)(id:Nat):Ob->Prop
 | .box e cs=>∃b us,β id=I (.pointer<|I ⟨b,0,G⟩,1)/\w.heap[b]? =I (.cells us e (0,0))/\RL (RC w β) cs us.toList
 | .row e fz k xs=>∃hd,β id=I (hd,xs.length)/\FT w β e fz k xs hd
 | .arr e k xs=>∃b us,β id=I (.pointer<|I ⟨b,0,G⟩,xs.length)/\w.heap[b]? =I (.cells us e (0,0))/\us.size=xs.length * ks k/\us.size=P.cellsOf e/\
  ∀i x j c u,xs[i]? =I x->(enc k x)[j]? =I c->us[i * ks k+j]? =I u->RC w β c u
def GV(P:Program)(w:World):Prop:=w.ShapedOpen P/\(P.globalNamed "internal/strconv.uint64pow10" ≠G->MU P w "internal/strconv.uint64pow10" .u64 NT)
def Nb(P:Program)(w:World)(O:Nat->Prop):Prop:=∃w0:World,GV P w0/\ ∀b,b<P.globals.size->¬O b/\b<w.heap.size/\w.heap[b]? =w0.heap[b]?
structure Be where
 P:Program
 w0:World
 O:Nat->Prop
 tm0:Nat->Value
 Z:Nat->Prop
 gl:Nb P w0 O
def Bb(a:Act):Nat->Value:=λt=>a.tmps.getD t undef
def Oy(P:Program)(e:TypeId):Bool:=match Ha P e with
 | some (.lit (.pointer G)::_)=>Y
 | _=>A0
def Pk(P:Program)(w w':World):Prop:=∀(b:Nat) (us:Array Value) (e:TypeId) (fr:Nat×Nat) (a:Addr),w.heap[b]? =I (.cells us e fr)->us[0]? =I (.pointer<|I a)->Oy P e=Y->
 ∃us' fr',w'.heap[b]? =I (.cells us' e fr')/\us'[0]? =I (.pointer<|I a)
def Pk.refl(P:Program)(w:World):Pk P w w:=λ_ us _ fr _ h1 h2 _=>⟨us,fr,h1,h2⟩
def Pk.trans{P:Program}{w w' w'':World}(h:Pk P w w')(k:Pk P w' w''):Pk P w w'':=λb us e fr a h1 h2 h3=>by
 obtain⟨us',fr',h4,h5⟩:=h b us e fr a h1 h2 h3;exact k b us' e fr' a h4 h5 h3
def Pk.old{P:Program}{w w':World}(h:∀j,j<w.heap.size->w'.heap[j]? =w.heap[j]?):Pk P w w':=λb us e fr a h1 h2 _=>by
 have hlt:b<w.heap.size:=(HH.1 h1).1;exact⟨us,fr,(h b hlt).trans h1,h2⟩
structure Hs (B:Be) (β:Beta) (H:Hp) (w:World):Prop where
 EJ:∀id ob,H id=I ob->E6 B.P w β id ob
 dom:∀id p,β id=I p->∃ob,H id=I ob
 inj:∀i j p q a a',β i=I p->β j=I q->adr p.1=I a->adr q.1=I a'->a.block=a'.block->i=j
 old:∀b,MB β b->(B.O b\/B.w0.heap.size<=b)/\b<w.heap.size
 os:w.os=B.w0.os
 tape:w.tape=B.w0.tape
 output:w.output=B.w0.output
 size:B.w0.heap.size<=w.heap.size
 block:∀b,b<B.w0.heap.size->¬B.O b->w.heap[b]? =B.w0.heap[b]?
 z:β.Z=B.Z
 zn:∀id p a,β id=I p->adr p.1=I a->¬β.Z a.block
 zl:∀b,β.Z b->b<w.heap.size
 pk:Pk B.P B.w0 w
structure St (B:Be) (β:Beta) (stk:List (Array Value)) (s:S) (a:Act) (w:World):Prop where
 T:∀t,RT w β (Bb a) (s.T t) (Bb a t)
 stack:stk.length=s.st.length/\ ∀(i:Nat) (T:Nat->AV) (tm:Array Value),s.st[i]? =I T->stk[i]? =I tm->∀t,RT w β (λt=>tm.getD t undef) (T t) (tm.getD t undef)
 n:a.tmps.size=s.n
 defers:a.defers=[]
 pins:∀t∈s.pins,Bb a t=B.tm0 t
 gs:∀t g want x,s.T t= .gd g want x->s.gs g=Y
 hs:Hs B β s.H w
def Kp(w:World)(β:Beta)(w':World)(β':Beta):Prop:=∀c v,RC w β c v->RC w' β' c v
def Kp.refl(w:World)(β:Beta):Kp w β w β:=λ_ _ h=>h
section
variable {B:Be} {β:Beta} {H:Hp} {w:World}
def Kp.heap{w':World}(h:w'.heap=w.heap):Kp w β w' β:=λc v x=>RC.mono (λ_ _ h=>h) (λb o v _ hc=>by
 rw[show w'.cell? ⟨b,o,G⟩=w.cell? ⟨b,o,G⟩ from by simp only[MT,h]];exact hc) (λ_ h _=>h) x
def E6.mono{P:Program}{w':World}{β':Beta}{id:Nat}{ob:Ob}(h:E6 P w β id ob)(hβ:β' id=β id)(hk:Kp w β w' β')
  (hb:∀p a,β id=I p->adr p.1=I a->w'.heap[a.block]? =w.heap[a.block]?):E6 P w' β' id ob:=by
 cases ob with
 | box e cs=>
  obtain⟨b,us,h1,h2,h3⟩:=h;refine⟨b,us,by rw[hβ];exact h1, ?_,h3.mono hk⟩;have e1:w'.heap[b]? =w.heap[b]? :=hb _ ⟨b,0,G⟩ h1 rfl;rw[e1];exact h2
 | row e fz k xs=>
  obtain⟨hd,h1,h2⟩:=h;refine⟨hd,by rw[hβ];exact h1, ?_⟩;obtain h2|⟨b,f,cap,us,fr,hd',hh,hfr,hn,hc,hs,hr⟩:=h2
  .exact .inl h2
  .have ha:adr hd=I ⟨b,f,G⟩:=by rw[hd'];rfl
   have e1:w'.heap[b]? =w.heap[b]? :=hb _ _ h1 ha;exact .inr ⟨b,f,cap,us,fr,hd',by rw[e1];exact hh,hfr,hn,hc,hs,λi x j c u a1 a2 a3=>hk _ _<|hr i x j c u a1 a2 a3⟩
 | arr e k xs=>
  obtain⟨b,us,h1,h2,h3,h4,h5⟩:=h;have e1:w'.heap[b]? =w.heap[b]? :=hb _ ⟨b,0,G⟩ h1 rfl;exact⟨b,us,by rw[hβ];exact h1,by rw[e1];exact h2,h3,h4,λi x j c u a1 a2 a3=>hk _ _<|h5 i x j c u a1 a2 a3⟩
def Hs.drew(h:Hs B β H w):Hs B β H w.drew where
 EJ id ob hi:=(h.EJ id ob hi).mono rfl (Kp.heap rfl) (λ_ _ _ _=>rfl)
 dom:=h.dom
 inj:=h.inj
 old:=h.old
 os:=h.os
 tape:=h.tape
 output:=h.output
 size:=h.size
 block:=h.block
 z:=h.z
 zn:=h.zn
 zl:=h.zl
 pk:=h.pk
def Hs.alloc(h:Hs B β H w){id:Nat}(hid:H id=G)(us:Array Value)(e:TypeId)(ob:Ob)(hd:Value)(n:Nat)(a:Addr)
  (ha:adr hd=I a)(hab:a.block=w.heap.size)
  (hob:∀β',(∀j,j≠id->β' j=β j)->β' id=I (hd,n)->Kp w β (w.alloc<|.cells us e) β'->E6 B.P (w.alloc<|.cells us e) β' id ob):
  ∃β',Hs B β' (upd H id<|I ob) (w.alloc<|.cells us e)/\Kp w β (w.alloc<|.cells us e) β'/\β' id=I (hd,n)/\ ∀j,j≠id->β' j=β j:=by
 have Ui:β id=G:=by
  cases hb:β id with
  | none=>rfl
  | some p=>obtain⟨ob',ho⟩:=h.dom id p hb;rw[hid]at ho;cases ho
 let β':Beta:=β.up id<|I (hd,n)
 have up:∀ {α:Type} (f:Nat->α) (v:α),upd f id v id=v:=λf v=>by simp[upd]
 have un:∀ {α:Type} (f:Nat->α) (v:α) (j:Nat),j≠id->upd f id v j=f j:=λf v j hj=>by
  have:Af j id=A0:=by rw[← GK,HJ];exact hj
  simp[upd,this]
 have hM:∀b,MB β' b->MB β b\/b=w.heap.size:=by
  rintro b ⟨j,hd',n',a',hj,ha',hb⟩;by_cases e:j=id
  .subst e;rw[show β' j=I (hd,n) from up _ _]at hj;cases hj;rw[ha]at ha';cases ha';exact .inr (hb▸hab)
  .rw[show β' j=β j from un _ _ j e]at hj;exact .inl ⟨j,hd',n',a',hj,ha',hb⟩
 have hk:Kp w β (w.alloc<|.cells us e) β':=λc v x=>RC.mono
  (λj p hj=>by
   by_cases e:j=id
   .subst e;rw[Ui]at hj;cases hj
   .rw[show β' j=β j from un _ _ j e];exact hj)
  (λb o v _ hc=>by rw[World.cell?_alloc_lt w _ _<|U7 w _ hc];exact hc)
  (λb hb hlt hm=>by
   obtain hm|hm:=hm
   .rcases hM b hm with h1|h1
    .exact hb (.inl h1)
    .omega
   .exact hb<|.inr hm) x
 refine⟨β', ?_,hk,up _ _,λj hj=>un _ _ j hj⟩;constructor
 .intro j ob' hj;by_cases e':j=id
  .subst e';rw[up]at hj;cases hj;exact hob β' (λj hj=>un _ _ j hj) (up _ _) hk
  .rw[un _ _ j e']at hj;refine(h.EJ j ob' hj).mono (un _ _ j e') hk (λp a' hp ha'=> ?_);have hlt:=(h.old a'.block ⟨j,p.1,p.2,a',hp,ha',rfl⟩).2;exact heap_alloc_old w _ _ hlt
 .intro j p hj;by_cases e':j=id
  .subst e';exact⟨ob,up _ _⟩
  .rw[show β' j=β j from un _ _ j e']at hj;obtain⟨ob',ho⟩:=h.dom j p hj;exact⟨ob',by rw[un _ _ j e'];exact ho⟩
 .intro i j p q a1 a2 hi hj h1 h2 hb;by_cases ei:i=id<;>by_cases ej:j=id
  .rw[ei,ej]
  .subst ei;rw[show β' i=_ from up _ _]at hi;cases hi;rw[ha]at h1;cases h1;rw[show β' j=β j from un _ _ j ej]at hj;have:=(h.old a2.block ⟨j,q.1,q.2,a2,hj,h2,rfl⟩).2;omega
  .subst ej;rw[show β' j=_ from up _ _]at hj;cases hj;rw[ha]at h2;cases h2;rw[show β' i=β i from un _ _ i ei]at hi;have:=(h.old a1.block ⟨i,p.1,p.2,a1,hi,h1,rfl⟩).2;omega
  .rw[show β' i=β i from un _ _ i ei]at hi;rw[show β' j=β j from un _ _ j ej]at hj;exact h.inj i j p q a1 a2 hi hj h1 h2 hb
 .intro b hb;obtain h1|h1:=hM b hb
  .have:=h.old b h1;exact⟨this.1,by simp;omega⟩
  .refine⟨.inr<|h1▸h.size,by simp;omega⟩
 .exact h.os
 .exact h.tape
 .exact h.output
 .have:=h.size;simp;omega
 .intro b hb hO;rw[heap_alloc_old w _ _ (by have:=h.size;omega)];exact h.block b hb hO
 .exact h.z
 .intro j p a1 hj h1 hz;by_cases e':j=id
  .subst e';rw[show β' j=_ from up _ _]at hj;cases hj;rw[ha]at h1;cases h1;have:=h.zl _ hz;omega
  .rw[show β' j=β j from un _ _ j e']at hj;exact h.zn j p a1 hj h1 hz
 .intro b hb;have:=h.zl b hb;simp;omega
 .exact h.pk.trans<|Pk.old λj hj=>heap_alloc_old w _ _ hj
end
end Go.VS
end
noncomputable section
namespace Go.VS
open Go
def Bi{α:Type}(f:Nat->α)(i:Nat)(v:α):upd f i v i=v:=by simp[upd]
def BE{α:Type}(f:Nat->α){i j:Nat}(v:α)(h:j≠i):upd f i v j=f j:=by
 have:Af j i=A0:=by rw[← GK,HJ];exact h
 simp[upd,this]
def Br{a b:Nat}(h:Af a b=Y):a=b:=Zt h
def T7{a b:Nat}(h:Af a b=A0):a≠b:=λe=>by subst e;simp at h
def GU:AV->Bool
 | .un=>Y
 | .lit _=>Y
 | .sl _ _=>Y
 | .ipt _ _ _=>Y
 | .arr _ _=>Y
 | _=>A0
def aaW(k:K)(x:Tof k):(enc k x).all GU=Y:=by cases k<;>rfl
def Ib(k:K)(x:Tof k){j:Nat}{c:AV}(h:(enc k x)[j]? =I c):GU c=Y:=
 DB.1 (aaW k x) c (Cp h)
def RC.imm{w w':World}{β β':Beta}
  (hc:∀b o v,¬MZ β b->w.cell? ⟨b,o,G⟩=I v->w'.cell? ⟨b,o,G⟩=I v)
  (hM:∀b,¬MZ β b->b<w.heap.size->¬MZ β' b){c:AV}{v:Value}(h:RC w β c v):GU c=Y->RC w' β' c v:=by
 induction h with
 | un h=>exact λ_=> .un h
 | lit h=>exact λ_=> .lit h
 | nil=>exact λ_=> .nil
 | @sl k xs b f cap n u hn hm hu hr ih=>
  intro _;cases xs with
  | nil=>obtain⟨rfl,_⟩:=hn;exact .nil
  | cons x l=>
   refine .sl u hn (hM b hm ?_) (λi j hi hj=>hc _ _ _ hm<|hu i j hi hj) (λi x j c h1 h2=>ih i x j c h1 h2<|Ib k x h2);exact block_lt_of_cell<|hu 0 0 aG9<|I4 k
 | own h hs=>intro h;cases h
 | ptr h ha hi=>intro h;cases h
 | @ipt k x o b f u hm hu hr ih=>
  intro _;exact .ipt u (hM b hm<|block_lt_of_cell<|hu 0<|I4 k) (λj hj=>hc _ _ _ hm<|hu j hj) λj c h2=>ih j c h2<|Ib k x h2
def Kf(f:AV->AV)(w:World)(β:Beta)(w':World)(β':Beta):Prop:=∀c v,RC w β c v->RC w' β' (f c) v
section
variable {P:Program} {w:World}
def T9{t:TypeId}{b:Bool}(h:LQ P t=I b):(isAgg t).run P w= .ok b w:=by
 unfold LQ at h;cases hu:P.underlying t with
 | none=>rw[hu]at h;cases h
 | some d=>rw[hu]at h;unfold isAgg;simp only[Eh,run_underlying hu,F2];cases d<;>simp at h<;>subst h<;>rfl
def aqh{t:TypeId}(h:1<=P.cellsOf t):∃i,P.info? t=I i:=by
 unfold Program.cellsOf at h;cases hi:P.info? t with
 | none=>rw[hi]at h;simp at h
 | some i=>exact⟨i,rfl⟩
def L0{t:TypeId}(h:1<=P.cellsOf t):(sizeOf t).run P w= .ok (P.cellsOf t) w:=by
 obtain⟨i,hi⟩:=aqh h;exact run_sizeOf _ hi
def YG{β:Beta}{t:TypeId}{cs:List AV}{o:Nat}{v:AV}(h:HZ P t cs o=I v){b f:Nat}{us:List Value}(hl:RL (RC w β) cs us)
  (hc:∀j u,us[j]? =I u->w.cell? ⟨b,f+j,G⟩=I u):∃u,(loadVar t ⟨b,f+o,G⟩).run P w= .ok u w/\R1 w β v u:=by
 unfold HZ at h;cases ha:LQ P t with
 | none=>rw[ha]at h;cases h
 | some q=>
  rw[ha]at h;cases q with
  | true=>
   simp only at h;split at h
   .rename_i hb;simp only[AE]at hb;have h1:=DL hb.1;have h2:=DL hb.2;cases h;have hlen:((us.drop o).take<|P.cellsOf t).length=P.cellsOf t:=by simp[hl.1];omega
    refine⟨.agg ((us.drop o).take<|P.cellsOf t).toArray, ?_,_,rfl,(hl.drop o).take _⟩;unfold loadVar;simp only[Eh,T9 ha,F2,A2,L0 h2];have hr:=run_loadCells_list (P:=P) w ⟨b,f+o,G⟩ ((us.drop o).take<|P.cellsOf t) (λj u hj=>by
     rw[Gh];rw[Gk]at hj;split at hj
     .rw[Hk]at hj;have:=hc _ _ hj;rw[D8];exact this
     .cases hj)
    rw[hlen]at hr;rw[hr];rfl
   .cases h
  | false=>
   simp only at h;obtain⟨u,hu,hr⟩:=hl.get h;refine⟨u, ?_, ?_⟩
   .unfold loadVar;simp only[Eh,T9 ha,F2,Hj,if_false];have:=hc _ _ hu;simp[this]
   .cases v<;>first
     | exact hr
     | (cases hr;first|rfl|trivial)
     | trivial
def Xs(g o:Nat)(t:TypeId)(fr:Nat×Nat):∀(vs:List Value) (i:Nat) (cur:Array Value) (w:World),w.heap[g]? =I (.cells cur t fr)->o+i+vs.length<=cur.size->
  (fr=(0,0)\/cur.size<=fr.1)->(∀v∈vs,v.oneCell'=Y)->
  (storeCells ⟨g,o,G⟩ vs i).run P w= .ok () (w.setRow g (cur.toList.take (o+i)++vs++cur.toList.drop (o+i+vs.length)).toArray)
 | [],i,cur,w,hg,_,_,_=>by
  simp only[storeCells,CE,CL,Ho,JZ,nB];rw[setRow_self w g cur t fr hg];rfl
 | v::rest,i,cur,w,hg,hl,hfr,h1=>by
  have hi:o+i<cur.size:=by simp at hl;omega
  have q7:(⟨g,o,G⟩:Addr).add i=⟨g,o+i,G⟩:=Gh _ _ _;have Ct:w.cell? ⟨g,o+i,G⟩=I cur[o+i]:=by simp[MT,hg,hi]
  have ams:w.frozen? ⟨g,o+i,G⟩=A0:=by
   obtain⟨lo,hi'⟩:=fr;simp only[World.frozen?,hg];obtain h|h:=hfr
   .cases h;simp
   .simp only[MN,decide_eq_false_iff_not];left;simp at h;omega
  have hst:(store ((⟨g,o,G⟩:Addr).add i) v).run P w= .ok () (w.setRow g<|cur.setIfInBounds (o+i) v):=by
   rw[q7,run_store P w _ v _<|h1 v aG9,Ct];simp[ams,setCell_eq_setRow w g (o+i) cur t fr v hg]
  have ih:=Xs g o t fr rest (i+1) (cur.setIfInBounds (o+i) v) (w.setRow g<|cur.setIfInBounds (o+i) v) (setRow_heap w g cur _ t _ hg) (by simp at hl ⊢; omega) (by simpa using hfr) (λx hx=>h1 x<|by simp[hx]);simp only[storeCells,Eh,hst,F2,ih,setRow_setRow];congr 3;have e:=list_seg_step cur.toList (o+i) v rest (by simp at hl ⊢; omega);simpa[mR,D8] using e
end
def R1.Me{w:World}{β:Beta}{c:AV}{v:Value}(h:RC w β c v):R1 w β c v:=by
 cases h with
 | un h=>trivial
 | lit h=>rfl
 | nil=>exact RC.nil
 | sl u hn hm hu hr=>exact RC.sl u hn hm hu hr
 | own h hs=>exact RC.own h hs
 | ptr h ha hi=>exact RC.ptr h ha hi
 | ipt u hm hu hr=>exact RC.ipt u hm hu hr
section
variable {B:Be} {β β':Beta} {H:Hp} {w w':World} {f:AV->AV}
def R1.map(hf:∀c,GU c=Y->f c=c)(hk:Kf f w β w' β'){c:AV}{v:Value}(h:R1 w β c v):R1 w' β' (Fv f c) v:=by
 cases c<;>simp only[R1]at h
 case un=>show R1 w' β' (f .un) v;rw[hf .un rfl];trivial
 case lit v'=>show R1 w' β' (f<|.lit v') v;rw[hf _ rfl];exact h
 case sl=>exact R1.Me<|hk _ _ h
 case own=>exact R1.Me<|hk _ _ h
 case ptr=>exact R1.Me<|hk _ _ h
 case ipt=>exact R1.Me<|hk _ _ h
 case arr k xs=>
  obtain⟨us,e,hl,hr⟩:=h;show R1 w' β' (f<|.arr k xs) v;rw[hf _ rfl];refine⟨us,e,hl,λi x j c u h1 h2 h3=> ?_⟩;have:=hk _ _<|hr i x j c u h1 h2 h3;rwa[hf _<|Ib k x h2]at this
 case agg cs=>
  obtain⟨us,e,hr⟩:=h;exact⟨us,e,hr.map f hk⟩
def R2.HM{w:World}{β:Beta}{c:AV}{v:Value}(h:R1 w β c v):R2 w β c v:=by cases c<;>first|exact h|exact h.elim
def R2.map(hf:∀c,GU c=Y->f c=c)(hk:Kf f w β w' β'){c:AV}{v:Value}(h:R2 w β c v):R2 w' β' (GD f c) v:=by
 match c,h with
 | .tup vs,⟨us,e,hr⟩=>exact⟨us,e,hr.map _ λc u=>R1.map hf hk⟩
 | .un,h=>exact R2.HM<|R1.map hf hk (c:= .un) h
 | .lit a,h=>exact R2.HM<|R1.map hf hk (c:= .lit a) h
 | .sl k xs,h=>exact R2.HM<|R1.map hf hk (c:= .sl k xs) h
 | .arr k xs,h=>exact R2.HM<|R1.map hf hk (c:= .arr k xs) h
 | .own id,h=>exact R2.HM<|R1.map hf hk (c:= .own id) h
 | .ptr a b c d,h=>exact R2.HM<|R1.map hf hk (c:= .ptr a b c d) h
 | .ipt k x o,h=>exact R2.HM<|R1.map hf hk (c:= .ipt k x o) h
 | .agg cs,h=>exact R2.HM<|R1.map hf hk (c:= .agg cs) h
 | .gd a b c,h=>exact R2.HM<|R1.map hf hk (c:= .gd a b c) h
def RT.HL{w:World}{β:Beta}{tm:Nat->Value}{c:AV}{v:Value}(h:R2 w β c v):RT w β tm c v:=by cases c<;>first|exact h|exact h.elim
def RT.map(hf:∀c,GU c=Y->f c=c)(hk:Kf f w β w' β'){tm:Nat->Value}{c:AV}{v:Value}(h:RT w β tm c v):RT w' β' tm (Ew f c) v:=by
 match c,h with
 | .gd g want x,h=>exact⟨λe=>R2.map hf hk<|h.1 e,h.2⟩
 | .un,h=>exact RT.HL<|R2.map hf hk (c:= .un) h
 | .lit a,h=>exact RT.HL<|R2.map hf hk (c:= .lit a) h
 | .sl k xs,h=>exact RT.HL<|R2.map hf hk (c:= .sl k xs) h
 | .arr k xs,h=>exact RT.HL<|R2.map hf hk (c:= .arr k xs) h
 | .own id,h=>exact RT.HL<|R2.map hf hk (c:= .own id) h
 | .ptr a b c d,h=>exact RT.HL<|R2.map hf hk (c:= .ptr a b c d) h
 | .ipt k x o,h=>exact RT.HL<|R2.map hf hk (c:= .ipt k x o) h
 | .agg cs,h=>exact RT.HL<|R2.map hf hk (c:= .agg cs) h
 | .tup vs,h=>exact RT.HL<|R2.map hf hk (c:= .tup vs) h
def Hs.ac1(h:Hs B β H w)(hf:∀c,GU c=Y->f c=c)(hk:Kf f w β w' β'){id:Nat}{ob:Option Ob}
  (hβ:∀j,j≠id->β' j=β j)
  (hid:(β' id=G/\ob=G)\/ ∃ob' hd n,ob=I ob'/\β' id=I (hd,n)/\E6 B.P w' β' id ob'/\ ∀a,adr hd=I a->(∃p a0,β id=I p/\adr p.1=I a0/\a0.block=a.block)\/(w.heap.size<=a.block/\a.block<w'.heap.size))
  (G3:∀j p a,j≠id->β j=I p->adr p.1=I a->w'.heap[a.block]? =w.heap[a.block]?)
  (hos:w'.os=w.os)(KP:w'.tape=w.tape)(F3:w'.output=w.output)(FB:w.heap.size<=w'.heap.size)
  (pO:∀b,b<B.w0.heap.size->¬B.O b->w'.heap[b]? =w.heap[b]?)(hz:∀b,β'.Z b->β.Z b\/(β' id=G/\ ∃p a0,β id=I p/\adr p.1=I a0/\a0.block=b))(hpk:Pk B.P w w'):
  Hs { B with Z:=β'.Z } β' (upd (λj=>CP f<|H j) id ob) w':=by
 have hold:∀b,MB β b->(B.O b\/B.w0.heap.size<=b)/\b<w'.heap.size:=λb hb=>⟨(h.old b hb).1,Gl (h.old b hb).2 FB⟩;have bF:∀hd n a,β' id=I (hd,n)->adr hd=I a->MB β a.block/\(∃p a0,β id=I p/\adr p.1=I a0/\a0.block=a.block)\/(w.heap.size<=a.block/\a.block<w'.heap.size):=by
  intro hd n a h1 h2;obtain⟨h3,_⟩|⟨ob',hd',n',_,h3,_,h4⟩:=hid
  .rw[h3]at h1;cases h1
  .rw[h3]at h1;cases h1;obtain⟨p,a0,h5,h6,h7⟩|h5:=h4 a h2
   .exact .inl ⟨⟨id,p.1,p.2,a0,h5,h6,h7⟩,p,a0,h5,h6,h7⟩
   .exact .inr h5
 constructor
 .intro j ob' hj;by_cases e:j=id
  .subst e;rw[Bi]at hj;obtain⟨_,h3⟩|⟨acC,hd',n',h3,_,h5,_⟩:=hid
   .rw[h3]at hj;cases hj
   .rw[h3]at hj;cases hj;exact h5
  .rw[BE _ _ e]at hj;cases hj0:H j with
   | none=>simp[hj0,CP]at hj
   | some ob0=>
    have hob:=h.EJ j ob0 hj0;rw[hj0]at hj;cases ob0 with
    | box e' cs=>
     simp only[CP,Bv]at hj;subst hj;obtain⟨b,us,h1,h2,h3⟩:=hob;refine⟨b,us,by rw[hβ j e];exact h1, ?_,h3.map f hk⟩;have e1:w'.heap[b]? =w.heap[b]? :=G3 j _ ⟨b,0,G⟩ e h1 rfl;rw[e1];exact h2
    | row e' fz k xs=>
     simp only[CP,Bv]at hj;subst hj;obtain⟨hd,h1,h2⟩:=hob;refine⟨hd,by rw[hβ j e];exact h1, ?_⟩;obtain h2|⟨b,f',cap,us,fr,hd',hh,hfr,hn,hc,hs,hr⟩:=h2
     .exact .inl h2
     .have ha:adr hd=I ⟨b,f',G⟩:=by rw[hd'];rfl
      have e1:w'.heap[b]? =w.heap[b]? :=G3 j _ _ e h1 ha;refine .inr ⟨b,f',cap,us,fr,hd',by rw[e1];exact hh,hfr,hn,hc,hs,λi x j c u a1 a2 a3=> ?_⟩;have:=hk _ _<|hr i x j c u a1 a2 a3;rwa[hf _<|Ib k x a2]at this
    | arr e' k xs=>
     simp only[CP,Bv]at hj;subst hj;obtain⟨b,us,h1,h2,h3,h4,h5⟩:=hob;have e1:w'.heap[b]? =w.heap[b]? :=G3 j _ ⟨b,0,G⟩ e h1 rfl;refine⟨b,us,by rw[hβ j e];exact h1,by rw[e1];exact h2,h3,h4,λi x j c u a1 a2 a3=> ?_⟩;have:=hk _ _<|h5 i x j c u a1 a2 a3;rwa[hf _<|Ib k x a2]at this
 .intro j p hj;by_cases e:j=id
  .subst e;obtain⟨h3,_⟩|⟨acC,hd',n',h3,_,_,_⟩:=hid
   .rw[h3]at hj;cases hj
   .exact⟨acC,by rw[Bi];exact h3⟩
  .rw[hβ j e]at hj;obtain⟨ob',ho⟩:=h.dom j p hj;rw[BE _ _ e,ho];cases ob'<;>exact⟨_,rfl⟩
 .intro i j p q a1 a2 hi hj h1 h2 hb;by_cases ei:i=id<;>by_cases ej:j=id
  .rw[ei,ej]
  .subst ei;rw[hβ j ej]at hj;obtain⟨_,p0,a0,h5,h6,h7⟩|h5:=bF p.1 p.2 a1 hi h1
   .exact h.inj _ _ _ _ _ _ h5 hj h6 h2 (h7.trans hb)
   .have:=(h.old a2.block ⟨j,q.1,q.2,a2,hj,h2,rfl⟩).2;omega
  .subst ej;rw[hβ i ei]at hi;obtain⟨_,p0,a0,h5,h6,h7⟩|h5:=bF q.1 q.2 a2 hj h2
   .exact h.inj _ _ _ _ _ _ hi h5 h1 h6 (hb.trans h7.symm)
   .have:=(h.old a1.block ⟨i,p.1,p.2,a1,hi,h1,rfl⟩).2;omega
  .rw[hβ i ei]at hi;rw[hβ j ej]at hj;exact h.inj i j p q a1 a2 hi hj h1 h2 hb
 .rintro b ⟨j,hd,n,a,hj,ha,hb⟩;by_cases e:j=id
  .subst e;obtain⟨h5,_⟩|h5:=bF hd n a hj ha
   .exact hold b (hb▸h5)
   .exact⟨.inr (by have:=h.size;show B.w0.heap.size<=b;omega),J⟩
  .rw[hβ j e]at hj;exact hold b ⟨j,hd,n,a,hj,ha,hb⟩
 .rw[hos];exact h.os
 .rw[KP];exact h.tape
 .rw[F3];exact h.output
 .exact C6 h.size FB
 .intro b hb hO;rw[pO b hb hO];exact h.block b hb hO
 .rfl
 .intro j p a hj ha hzb;obtain hzb|⟨h1,p0,a0,h2,h3,h4⟩:=hz _ hzb
  .by_cases e:j=id
   .subst e;obtain⟨_,p0,a0,h5,h6,h7⟩|h5:=bF p.1 p.2 a hj ha
    .exact h.zn _ _ _ h5 h6 (h7▸hzb)
    .have:=h.zl _ hzb;omega
   .rw[hβ j e]at hj;exact h.zn j p a hj ha hzb
  .by_cases e:j=id
   .subst e;rw[h1]at hj;cases hj
   .rw[hβ j e]at hj;exact e (h.inj _ _ _ _ _ _ hj h2 ha h3 h4.symm)
 .intro b hb;obtain hb|⟨_,p0,a0,h2,h3,h4⟩:=hz _ hb
  .exact Gl (h.zl b hb) FB
  .exact(hold b ⟨id,p0.1,p0.2,a0,h2,h3,h4⟩).2
 .exact h.pk.trans hpk
def Hs.Us(h:Hs B β H w)(hf:∀c,GU c=Y->f c=c)(hk:Kf f w β w' β'){id:Nat}{ob:Option Ob}
  (hβ:∀j,j≠id->β' j=β j)
  (hid:(β' id=G/\ob=G)\/ ∃ob' hd n,ob=I ob'/\β' id=I (hd,n)/\E6 B.P w' β' id ob'/\ ∀a,adr hd=I a->(∃p a0,β id=I p/\adr p.1=I a0/\a0.block=a.block)\/(w.heap.size<=a.block/\a.block<w'.heap.size))
  (G3:∀j p a,j≠id->β j=I p->adr p.1=I a->w'.heap[a.block]? =w.heap[a.block]?)
  (hos:w'.os=w.os)(KP:w'.tape=w.tape)(F3:w'.output=w.output)(FB:w.heap.size<=w'.heap.size)
  (pO:∀b,b<B.w0.heap.size->¬B.O b->w'.heap[b]? =w.heap[b]?)(hz:β'.Z=β.Z)(hpk:Pk B.P w w'):
  Hs B β' (upd (λj=>CP f<|H j) id ob) w':=by
 have:=h.ac1 hf hk hβ hid G3 hos KP F3 FB pO (λb hb=> .inl (by rw[← hz];exact hb)) hpk;have e:{ B with Z:=β'.Z } =B:=by
  have h1:=h.z;rw[hz,h1]
 rwa[e]at this
def axr{id:Nat}{b:Nat}(h:MB (β.up id G) b):MB β b:=by
 obtain⟨j,hd,n,a,hj,ha,hb⟩:=h;by_cases e:j=id
 .subst e;rw[Beta.Ub]at hj;cases hj
 .rw[Beta.Nk _ _ e]at hj;exact⟨j,hd,n,a,hj,ha,hb⟩
def abL{id:Nat}{b:Nat}(h:MZ (β.up id G) b):MZ β b:=h.imp axr λh=>h
def JF(id:Nat):∀c,GU c=Y->kl1 id c=c:=by
 intro c h;cases c<;>first|rfl|cases h
def lD(id:Nat)(k:K)(xs:List (Tof k)):∀c,GU c=Y->fz1 id k xs c=c:=by
 intro c h;cases c<;>first|rfl|cases h
def Kf.kill{id:Nat}(hβ:∀j,j≠id->β' j=β j)
  (hc:∀b o v,¬MZ β b->w.cell? ⟨b,o,G⟩=I v->w'.cell? ⟨b,o,G⟩=I v)
  (hM:∀b,¬MZ β b->b<w.heap.size->¬MZ β' b):Kf (kl1 id) w β w' β':=by
 intro c v h;have DD:=h.one;cases h with
 | @own j _ n h hs=>
  simp only[kl1];split
  .exact .un DD
  .rename_i hb;exact .own (by rw[hβ _<|T7 hb];exact h) hs
 | @ptr j sz i o hd n b f h ha hi=>
  simp only[kl1];split
  .exact .un DD
  .rename_i hb;exact .ptr (by rw[hβ _<|T7 hb];exact h) ha hi
 | un h=>exact .un h
 | lit h=>exact .lit h
 | nil=>exact .nil
 | sl u hn hm hu hr=>exact RC.imm hc hM (.sl u hn hm hu hr) rfl
 | ipt u hm hu hr=>exact RC.imm hc hM (.ipt u hm hu hr) rfl
def Hs.ac4(h:Hs B β H w)(id:Nat):Hs B (β.up id G) (upd (λj=>CP (kl1 id)<|H j) id G) w/\Kf (kl1 id) w β w (β.up id G):=
 have hk:Kf (kl1 id) w β w (β.up id G):=Kf.kill (λj e=>BE _ _ e) (λ_ _ _ _ h=>h) (λ_ h _ hm=>h<|abL hm)
 ⟨h.Us (JF id) hk (λj e=>BE _ _ e) (.inl ⟨Bi _ _ _,rfl⟩) (λ_ _ _ _ _ _=>rfl) rfl rfl rfl (Ar _) (λ_ _ _=>rfl) rfl (Pk.refl _ _),hk⟩
def Hs.kill(h:Hs B β H w)(id:Nat):∃β',Hs B β' (upd (λj=>CP (kl1 id)<|H j) id G) w/\Kf (kl1 id) w β w β':=⟨_,h.ac4 id⟩
def Hs.az(h:Hs B β H w){id:Nat}{e:TypeId}{fz:Bool}{k:K}{xs:List (Tof k)}(hid:H id=I (.row e fz k xs)):
  Hs B (β.up id G) (upd (λj=>CP (fz1 id k xs)<|H j) id G) w/\Kf (fz1 id k xs) w β w (β.up id G):=by
 have hM:∀b,¬MZ β b->b<w.heap.size->¬MZ (β.up id G) b:=λ_ h _ hm=>h<|abL hm;obtain⟨hd,hb,qG⟩:=h.EJ id _ hid;have hk:Kf (fz1 id k xs) w β w (β.up id G):=by
  intro c v hc;have DD:=hc.one;cases hc with
  | @own j _ n h1 hs=>
   simp only[fz1];split
   .rename_i hbq;obtain rfl:=Br hbq;rw[hb]at h1;cases h1;obtain⟨e1,e2⟩|⟨b,f',cap,us,fr,hd',hh,hfr,hn,Hr,hsz,hr⟩:=qG
    .subst e1;subst e2;exact .nil
    .subst hd';have aD1:adr (.slice (I ⟨b,f',G⟩) xs.length cap)=I ⟨b,f',G⟩:=rfl;have Ct:∀i j,i<xs.length->j<ks k->f'+(i * ks k+j)<us.size:=by
      intro i j hi hj;have h1:(i+1) * ks k<=cap * ks k:=E3 _ J;rw[EH]at h1;omega
     refine .sl (λi j=>us.getD (f'+(i * ks k+j)) undef) ⟨rfl,hn⟩ ?_ (λi j hi hj=> ?_) (λi x j c h2 h3=> ?_)
     .rintro(⟨j',hd2,n2,a2,h2,h3,h4⟩|hz)
      .by_cases e':j'=j
       .subst e';rw[Beta.Ub]at h2;cases h2
       .rw[Beta.Nk _ _ e']at h2;exact e' (h.inj _ _ _ _ _ _ h2 hb h3 aD1 h4)
      .exact h.zn _ _ _ hb aD1 hz
     .rw[cell_of_row w b _ us e fr hh];have:=Ct i j hi hj;simp[this]
     .have hi:i<xs.length:=(BR.1 h2).1;have hj:j<ks k:=by rw[← EL k x];exact(BR.1 h3).1
      have:=Ct i j hi hj;have h5:=hr i x j c (us.getD (f'+(i * ks k+j)) undef) h2 h3 (by simp[this]);exact RC.imm (λ_ _ _ _ h=>h) hM h5 (Ib k x h3)
   .rename_i hbq;exact .own (by rw[Beta.Nk _ _<|T7 hbq];exact h1) hs
  | @ptr j sz i o hd n b f h1 ha hi=>
   simp only[fz1];split
   .exact .un DD
   .rename_i hbq;exact .ptr (by rw[Beta.Nk _ _<|T7 hbq];exact h1) ha hi
  | un h=>exact .un h
  | lit h=>exact .lit h
  | nil=>exact .nil
  | sl u hn hm hu hr=>exact RC.imm (λ_ _ _ _ h=>h) hM (.sl u hn hm hu hr) rfl
  | ipt u hm hu hr=>exact RC.imm (λ_ _ _ _ h=>h) hM (.ipt u hm hu hr) rfl
 exact⟨h.Us (lD id k xs) hk (λj e=>BE _ _ e) (.inl ⟨Bi _ _ _,rfl⟩) (λ_ _ _ _ _ _=>rfl) rfl rfl rfl (Ar _) (λ_ _ _=>rfl) rfl (Pk.refl _ _),hk⟩
def Hs.freeze(h:Hs B β H w){id:Nat}{e:TypeId}{fz:Bool}{k:K}{xs:List (Tof k)}(hid:H id=I (.row e fz k xs)):
  ∃β',Hs B β' (upd (λj=>CP (fz1 id k xs)<|H j) id G) w/\Kf (fz1 id k xs) w β w β':=⟨_,h.az hid⟩
end
end Go.VS
end
