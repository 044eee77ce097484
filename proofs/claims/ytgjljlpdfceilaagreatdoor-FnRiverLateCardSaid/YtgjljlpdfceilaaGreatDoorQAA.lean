/- Part 1. -/
import Derived.Calls
import Derived.KernelRfl
open Bool renaming false->A3,false_ne_true->Ca,true->U
open Decidable renaming decide->A1
open Option renaming none->A0,some->I
set_option linter.all false
noncomputable section
namespace Go.VS
theorem J{p:Prop}(h:p:=by omega):p:=h
open Go
universe u
theorem AD {c : Prop} {h : Decidable c} (hnc :¬c) {α : Sort u} {t e : α} : (ite c t e) = e := if_neg hnc
theorem A8 {c : Prop} {h : Decidable c} (hc : c) {α : Sort u} {t e : α} : (ite c t e) = t := if_pos hc
theorem AZ {p : Prop} [inst : Decidable p] (h : p) : A1 p = U := decide_eq_true h
theorem BI {p : Prop} [inst : Decidable p] (h :¬p) : A1 p = A3 := decide_eq_false h
theorem BX {p : Prop} [inst : Decidable p] (h : A1 p = U) : p := of_decide_eq_true h
theorem J3 {p : Prop} [inst : Decidable p] (h : A1 p = A3) :¬p := of_decide_eq_false h
theorem A5 {α : Sort u} {_ : Decidable True} (t e : α) : (ite True t e) = t := if_true t e
theorem Aa (h : Decidable True) : @A1 True h = U := decide_true h
theorem Ag (h : Decidable False) : @A1 False h = A3 := decide_false h
abbrev A4 := ByteArray
abbrev A2 := Unit
theorem A7 {α : Sort u} {t e : α} : (ite (A3 = U) t e) = e := if_neg Ca
structure A6 where
 fr:Int
 nu:Int
 to:Int
 un:Int
 tx:A4
structure Mark where
 mf:Int
 mn:Int
 mu:Int
structure AX where
 nu:Int
 da:A4
structure AJ where
 fr:Int
 nu:Int
 to:Int
 un:Int
 sz:Int
 got:List AX
structure AH where
 id:Int
 ti:Int
 nx:Int
 held:List A6
 marks:List Mark
 inbox:List A6
structure AA where
 id:Int
 up:Bool
 log:A4
 fo:Int
 AM:List AJ
structure AO where
 src:Int
 dst:Int
 data:A4
 sp:Bool
structure Frame where
 ki:Int
 src:Int
 dst:Int
 fr:Int
 nu:Int
 to:Int
 un:Int
 sz:Int
 mix:Int
 da:A4
structure Event where
 ki:Int
 at_:Int
 fr:Int
 nu:Int
 wo:Int
 mix:Int
 kp:Int
 to:Int
 un:Int
 tx:A4
structure LK where
 wo:A4
 ki:Int
 fi:A4
structure Shelf where
 lg:A4
 fd:Int
structure AE where
 ti:Int
 AB:List AA
 Aq:List Bool
 AT:List AO
 AQ:List A6
 got:List A6
structure Rd where
 b:List Int
 p:Int
structure Sim where
 r:Rd
 wt:Int
 wk:List AA
 wl:List Bool
 wr:List AO
 ws:List A6
 wg:List A6
 ls:List Event
inductive K where
 | int|bool|u8|str|note|mark|mixed|half|keep|AN|Ak|frame|CO|lk
abbrev Tof:K->Type
 | .int=>Int
 | .bool=>Bool
 | .u8=>Int
 | .str=>A4
 | .note=>A6
 | .mark=>Mark
 | .mixed=>AX
 | .half=>AJ
 | .keep=>AH
 | .AN=>AA
 | .Ak=>AO
 | .frame=>Frame
 | .CO=>Event
 | .lk=>LK
def ks:K->Nat
 | .int=>1
 | .bool=>1
 | .u8=>1
 | .str=>1
 | .note=>5
 | .mark=>3
 | .mixed=>2
 | .half=>6
 | .keep=>6
 | .AN=>5
 | .Ak=>4
 | .frame=>10
 | .CO=>10
 | .lk=>3
def noB:A4:=⟨#[]⟩
def B(l:List UInt8):A4:=⟨l.toArray⟩
def dfl:(k:K)->Tof k
 | .int=>(0:Int)
 | .bool=>A3
 | .u8=>(0:Int)
 | .str=>noB
 | .note=>(⟨0,0,0,0,noB⟩:A6)
 | .mark=>(⟨0,0,0⟩:Mark)
 | .mixed=>(⟨0,noB⟩:AX)
 | .half=>(⟨0,0,0,0,0,[]⟩:AJ)
 | .keep=>(⟨0,0,0,[],[],[]⟩:AH)
 | .AN=>(⟨0,A3,noB,0,[]⟩:AA)
 | .Ak=>(⟨0,0,noB,A3⟩:AO)
 | .frame=>(⟨0,0,0,0,0,0,0,0,0,noB⟩:Frame)
 | .CO=>(⟨0,0,0,0,0,0,0,0,0,noB⟩:Event)
 | .lk=>(⟨noB,0,noB⟩:LK)
inductive AV where
 | un
 | lit (v:Value)
 | sl (k:K) (xs:List (Tof k))
 | arr (k:K) (xs:List (Tof k))
 | own (id:Nat)
 | ptr (id sz i o:Nat)
 | ipt (k:K) (x:Tof k) (o:Nat)
 | agg (cs:List AV)
 | tup (vs:List AV)
 | gd (g:Nat) (w:Bool) (v:AV)
abbrev AV.i(n:Int):AV:= .lit<|.int .i64 n
abbrev AV.b(n:Bool):AV:= .lit<|.bool n
abbrev AV.s(n:A4):AV:= .lit<|.string n
abbrev AV.y(n:Int):AV:= .lit<|.int .u8 n
def enc:(k:K)->Tof k->List AV
 | .int,n=>[.i n]
 | .bool,b=>[.b b]
 | .u8,n=>[.y n]
 | .str,s=>[.s s]
 | .note,n=>[.i n.fr,.i n.nu,.i n.to,.i n.un,.s n.tx]
 | .mark,n=>[.i n.mf,.i n.mn,.i n.mu]
 | .mixed,n=>[.i n.nu,.s n.da]
 | .half,n=>[.i n.fr,.i n.nu,.i n.to,.i n.un,.i n.sz,.sl .mixed n.got]
 | .keep,n=>[.i n.id,.i n.ti,.i n.nx,.sl .note n.held,.sl .mark n.marks,.sl .note n.inbox]
 | .AN,n=>[.i n.id,.b n.up,.s n.log,.i n.fo,.sl .half n.AM]
 | .Ak,n=>[.i n.src,.i n.dst,.s n.data,.b n.sp]
 | .frame,n=>[.i n.ki,.i n.src,.i n.dst,.i n.fr,.i n.nu,.i n.to,.i n.un,.i n.sz,.i n.mix,.s n.da]
 | .CO,n=>[.i n.ki,.i n.at_,.i n.fr,.i n.nu,.i n.wo,.i n.mix,.i n.kp,.i n.to,.i n.un,.s n.tx]
 | .lk,n=>[.s n.wo,.i n.ki,.s n.fi]
inductive Ob where
 | box (e:TypeId) (cs:List AV)
 | row (e:TypeId) (fz:Bool) (k:K) (xs:List (Tof k))
 | arr (e:TypeId) (k:K) (xs:List (Tof k))
abbrev Hp:=Nat->Option Ob
def J1:(a b:K)->List (Tof a)->Option (List<|Tof b)
 | .int,.int,xs=>I xs
 | .bool,.bool,xs=>I xs
 | .u8,.u8,xs=>I xs
 | .str,.str,xs=>I xs
 | .note,.note,xs=>I xs
 | .mark,.mark,xs=>I xs
 | .mixed,.mixed,xs=>I xs
 | .half,.half,xs=>I xs
 | .keep,.keep,xs=>I xs
 | .AN,.AN,xs=>I xs
 | .Ak,.Ak,xs=>I xs
 | .frame,.frame,xs=>I xs
 | .CO,.CO,xs=>I xs
 | .lk,.lk,xs=>I xs
 | _,_,_=>A0
def CM(H:Hp)(k:K):AV->Option (List<|Tof k)
 | .sl k' xs=>J1 k' k xs
 | .lit (.slice A0 0 0)=>I []
 | .own id=>match H id with
  | some (.row _ _ k' xs)=>J1 k' k xs
  | _=>A0
 | _=>A0
def dec(H:Hp):(k:K)->List AV->Option (Tof k)
 | .int,[.lit (.int .i64 n)]=>I n
 | .bool,[.lit (.bool b)]=>I b
 | .u8,[.lit (.int .u8 n)]=>I n
 | .str,[.lit (.string s)]=>I s
 | .note,[.lit (.int .i64 a),.lit (.int .i64 b),.lit (.int .i64 c),.lit (.int .i64 d),.lit (.string s)]=>I (⟨a,b,c,d,s⟩:A6)
 | .mark,[.lit (.int .i64 a),.lit (.int .i64 b),.lit (.int .i64 c)]=>I (⟨a,b,c⟩:Mark)
 | .mixed,[.lit (.int .i64 a),.lit (.string s)]=>I (⟨a,s⟩:AX)
 | .half,[.lit (.int .i64 a),.lit (.int .i64 b),.lit (.int .i64 c),.lit (.int .i64 d),.lit (.int .i64 e),x]=>
  (CM H .mixed x).bind λl=>I (⟨a,b,c,d,e,l⟩:AJ)
 | .keep,[.lit (.int .i64 a),.lit (.int .i64 b),.lit (.int .i64 c),x,y,z]=>
  (CM H .note x).bind λl=>(CM H .mark y).bind λm=>(CM H .note z).bind λn=>I (⟨a,b,c,l,m,n⟩:AH)
 | .AN,[.lit (.int .i64 a),.lit (.bool u),.lit (.string s),.lit (.int .i64 b),x]=>
  (CM H .half x).bind λl=>I (⟨a,u,s,b,l⟩:AA)
 | .Ak,[.lit (.int .i64 a),.lit (.int .i64 b),.lit (.string s),.lit (.bool u)]=>I (⟨a,b,s,u⟩:AO)
 | .frame,[.lit (.int .i64 a),.lit (.int .i64 b),.lit (.int .i64 c),.lit (.int .i64 d),.lit (.int .i64 e),.lit (.int .i64 f),.lit (.int .i64 g),.lit (.int .i64 h),.lit (.int .i64 i),.lit (.string s)]=>
  I (⟨a,b,c,d,e,f,g,h,i,s⟩:Frame)
 | .CO,[.lit (.int .i64 a),.lit (.int .i64 b),.lit (.int .i64 c),.lit (.int .i64 d),.lit (.int .i64 e),.lit (.int .i64 f),.lit (.int .i64 g),.lit (.int .i64 h),.lit (.int .i64 i),.lit (.string s)]=>
  I (⟨a,b,c,d,e,f,g,h,i,s⟩:Event)
 | .lk,[.lit (.string a),.lit (.int .i64 b),.lit (.string c)]=>I (⟨a,b,c⟩:LK)
 | _,_=>A0
end Go.VS
end
