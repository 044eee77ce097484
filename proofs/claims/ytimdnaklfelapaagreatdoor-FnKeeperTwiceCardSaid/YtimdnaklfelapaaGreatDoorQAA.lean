/- Part 1. -/
import Derived.Calls
import Derived.KernelRfl
open Bool renaming false_ne_true→avb
set_option linter.unusedVariables false
set_option linter.unusedSimpArgs false
set_option linter.defProp false
noncomputable section
namespace Go.VS
open Go
universe u
theorem aur {c : Prop} {h : Decidable c} (hnc : ¬c) {α : Sort u} {t e : α} : (ite c t e) = e := if_neg hnc
theorem aus {c : Prop} {h : Decidable c} (hc : c) {α : Sort u} {t e : α} : (ite c t e) = t := if_pos hc
theorem aut {p : Prop} [inst : Decidable p] (h : p) : decide p = true := decide_eq_true h
theorem auu {p : Prop} [inst : Decidable p] (h : ¬p) : decide p = false := decide_eq_false h
theorem auv {p : Prop} [inst : Decidable p] (h : decide p = true) : p := of_decide_eq_true h
theorem auw {p : Prop} [inst : Decidable p] (h : decide p = false) : ¬p := of_decide_eq_false h
theorem auy {α : Sort u} {_ : Decidable True} (t e : α) : (ite True t e) = t := if_true t e
theorem auz (h : Decidable True) : @decide True h = true := decide_true h
theorem auA (h : Decidable False) : @decide False h = false := decide_false h
abbrev auB := ByteArray
abbrev auC := Unit
theorem auD {α : Sort u} {t e : α} : (ite (false = true) t e) = e := if_neg avb
structure anz where
 fr:Int
 nu:Int
 to:Int
 un:Int
 tx:auB
structure Mark where
 mf:Int
 mn:Int
 mu:Int
structure anA where
 nu:Int
 da:auB
structure anD where
 fr:Int
 nu:Int
 to:Int
 un:Int
 sz:Int
 got:List anA
structure anE where
 id:Int
 ti:Int
 nx:Int
 held:List anz
 marks:List Mark
 inbox:List anz
structure anv where
 id:Int
 up:Bool
 log:auB
 fo:Int
 anw:List anD
structure anB where
 src:Int
 dst:Int
 data:auB
 sp:Bool
structure Frame where
 ki:Int
 src:Int
 dst:Int
 fr:Int
 nu:Int
 to:Int
 un:Int
 sz:Int
 mix:Int
 da:auB
structure Event where
 ki:Int
 at_:Int
 fr:Int
 nu:Int
 wo:Int
 mix:Int
 kp:Int
 to:Int
 un:Int
 tx:auB
structure LK where
 wo:auB
 ki:Int
 fi:auB
structure Shelf where
 lg:auB
 fd:Int
structure anI where
 ti:Int
 anC:List anv
 anS:List Bool
 anF:List anB
 aoF:List anz
 got:List anz
structure Rd where
 b:List Int
 p:Int
structure Sim where
 r:Rd
 wt:Int
 wk:List anv
 wl:List Bool
 wr:List anB
 ws:List anz
 wg:List anz
 ls:List Event
inductive K where
 | int | bool | u8 | str | note | mark | mixed | half | keep | anx | anJ | frame | aoc | lk
abbrev Tof:K→Type
 | .int=>Int
 | .bool=>Bool
 | .u8=>Int
 | .str=>auB
 | .note=>anz
 | .mark=>Mark
 | .mixed=>anA
 | .half=>anD
 | .keep=>anE
 | .anx=>anv
 | .anJ=>anB
 | .frame=>Frame
 | .aoc=>Event
 | .lk=>LK
def ks:K→Nat
 | .int=>1
 | .bool=>1
 | .u8=>1
 | .str=>1
 | .note=>5
 | .mark=>3
 | .mixed=>2
 | .half=>6
 | .keep=>6
 | .anx=>5
 | .anJ=>4
 | .frame=>10
 | .aoc=>10
 | .lk=>3
def noB:auB:=⟨#[]⟩
def B(l:List UInt8):auB:=⟨l.toArray⟩
def dfl:(k:K)→Tof k
 | .int=>(0:Int)
 | .bool=>false
 | .u8=>(0:Int)
 | .str=>noB
 | .note=>(⟨0,0,0,0,noB⟩:anz)
 | .mark=>(⟨0,0,0⟩:Mark)
 | .mixed=>(⟨0,noB⟩:anA)
 | .half=>(⟨0,0,0,0,0,[]⟩:anD)
 | .keep=>(⟨0,0,0,[],[],[]⟩:anE)
 | .anx=>(⟨0,false,noB,0,[]⟩:anv)
 | .anJ=>(⟨0,0,noB,false⟩:anB)
 | .frame=>(⟨0,0,0,0,0,0,0,0,0,noB⟩:Frame)
 | .aoc=>(⟨0,0,0,0,0,0,0,0,0,noB⟩:Event)
 | .lk=>(⟨noB,0,noB⟩:LK)
inductive AV where
 | un
 | lit (v:Value)
 | sl (k:K) (xs:List (Tof k))
 | arr (k:K) (xs:List (Tof k))
 | own (id:Nat)
 | ptr (id sz i o:Nat)
 | ipt (k:K) (x:Tof k) (o:Nat)
 | agg (cs:List AV)
 | tup (vs:List AV)
 | gd (g:Nat) (w:Bool) (v:AV)
abbrev AV.i(n:Int):AV:= .lit (.int .i64 n)
abbrev AV.b(n:Bool):AV:= .lit (.bool n)
abbrev AV.s(n:auB):AV:= .lit (.string n)
abbrev AV.y(n:Int):AV:= .lit (.int .u8 n)
def enc:(k:K)→Tof k→List AV
 | .int,n=>[.i n]
 | .bool,b=>[.b b]
 | .u8,n=>[.y n]
 | .str,s=>[.s s]
 | .note,n=>[.i n.fr,.i n.nu,.i n.to,.i n.un,.s n.tx]
 | .mark,n=>[.i n.mf,.i n.mn,.i n.mu]
 | .mixed,n=>[.i n.nu,.s n.da]
 | .half,n=>[.i n.fr,.i n.nu,.i n.to,.i n.un,.i n.sz,.sl .mixed n.got]
 | .keep,n=>[.i n.id,.i n.ti,.i n.nx,.sl .note n.held,.sl .mark n.marks,.sl .note n.inbox]
 | .anx,n=>[.i n.id,.b n.up,.s n.log,.i n.fo,.sl .half n.anw]
 | .anJ,n=>[.i n.src,.i n.dst,.s n.data,.b n.sp]
 | .frame,n=>[.i n.ki,.i n.src,.i n.dst,.i n.fr,.i n.nu,.i n.to,.i n.un,.i n.sz,.i n.mix,.s n.da]
 | .aoc,n=>[.i n.ki,.i n.at_,.i n.fr,.i n.nu,.i n.wo,.i n.mix,.i n.kp,.i n.to,.i n.un,.s n.tx]
 | .lk,n=>[.s n.wo,.i n.ki,.s n.fi]
inductive Ob where
 | box (e:TypeId) (cs:List AV)
 | row (e:TypeId) (fz:Bool) (k:K) (xs:List (Tof k))
 | arr (e:TypeId) (k:K) (xs:List (Tof k))
abbrev Hp:=Nat→Option Ob
def CE:(a b:K)→List (Tof a)→Option (List (Tof b))
 | .int,.int,xs=>some xs
 | .bool,.bool,xs=>some xs
 | .u8,.u8,xs=>some xs
 | .str,.str,xs=>some xs
 | .note,.note,xs=>some xs
 | .mark,.mark,xs=>some xs
 | .mixed,.mixed,xs=>some xs
 | .half,.half,xs=>some xs
 | .keep,.keep,xs=>some xs
 | .anx,.anx,xs=>some xs
 | .anJ,.anJ,xs=>some xs
 | .frame,.frame,xs=>some xs
 | .aoc,.aoc,xs=>some xs
 | .lk,.lk,xs=>some xs
 | _,_,_=>none
def iT(H:Hp)(k:K):AV→Option (List (Tof k))
 | .sl k' xs=>CE k' k xs
 | .lit (.slice none 0 0)=>some []
 | .own id=>match H id with
  | some (.row _ _ k' xs)=>CE k' k xs
  | _=>none
 | _=>none
def dec(H:Hp):(k:K)→List AV→Option (Tof k)
 | .int,[.lit (.int .i64 n)]=>some n
 | .bool,[.lit (.bool b)]=>some b
 | .u8,[.lit (.int .u8 n)]=>some n
 | .str,[.lit (.string s)]=>some s
 | .note,[.lit (.int .i64 a),.lit (.int .i64 b),.lit (.int .i64 c),.lit (.int .i64 d),.lit (.string s)]=>some (⟨a,b,c,d,s⟩:anz)
 | .mark,[.lit (.int .i64 a),.lit (.int .i64 b),.lit (.int .i64 c)]=>some (⟨a,b,c⟩:Mark)
 | .mixed,[.lit (.int .i64 a),.lit (.string s)]=>some (⟨a,s⟩:anA)
 | .half,[.lit (.int .i64 a),.lit (.int .i64 b),.lit (.int .i64 c),.lit (.int .i64 d),.lit (.int .i64 e),x]=>
  (iT H .mixed x).bind fun l=>some (⟨a,b,c,d,e,l⟩:anD)
 | .keep,[.lit (.int .i64 a),.lit (.int .i64 b),.lit (.int .i64 c),x,y,z]=>
  (iT H .note x).bind fun l=>(iT H .mark y).bind fun m=>(iT H .note z).bind fun n=>some (⟨a,b,c,l,m,n⟩:anE)
 | .anx,[.lit (.int .i64 a),.lit (.bool u),.lit (.string s),.lit (.int .i64 b),x]=>
  (iT H .half x).bind fun l=>some (⟨a,u,s,b,l⟩:anv)
 | .anJ,[.lit (.int .i64 a),.lit (.int .i64 b),.lit (.string s),.lit (.bool u)]=>some (⟨a,b,s,u⟩:anB)
 | .frame,[.lit (.int .i64 a),.lit (.int .i64 b),.lit (.int .i64 c),.lit (.int .i64 d),.lit (.int .i64 e),.lit (.int .i64 f),.lit (.int .i64 g),.lit (.int .i64 h),.lit (.int .i64 i),.lit (.string s)]=>
  some (⟨a,b,c,d,e,f,g,h,i,s⟩:Frame)
 | .aoc,[.lit (.int .i64 a),.lit (.int .i64 b),.lit (.int .i64 c),.lit (.int .i64 d),.lit (.int .i64 e),.lit (.int .i64 f),.lit (.int .i64 g),.lit (.int .i64 h),.lit (.int .i64 i),.lit (.string s)]=>
  some (⟨a,b,c,d,e,f,g,h,i,s⟩:Event)
 | .lk,[.lit (.string a),.lit (.int .i64 b),.lit (.string c)]=>some (⟨a,b,c⟩:LK)
 | _,_=>none
end Go.VS
end
