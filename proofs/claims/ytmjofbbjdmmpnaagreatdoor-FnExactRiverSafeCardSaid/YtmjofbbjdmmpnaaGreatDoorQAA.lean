/- An evaluator of the program's own code with its soundness, the printed texts of the functions, and plain laws of them (part 1). -/
import Derived.Calls
import Derived.KernelRfl
set_option linter.unusedVariables false
set_option linter.unusedSimpArgs false
namespace Go.VS
open Go
structure Note where
  fr : Int
  nu : Int
  to : Int
  un : Int
  tx : ByteArray
structure Mark where
  mf : Int
  mn : Int
  mu : Int
structure Mixed where
  nu : Int
  da : ByteArray
structure Half where
  fr : Int
  nu : Int
  to : Int
  un : Int
  sz : Int
  got : List Mixed
structure Keep where
  id : Int
  ti : Int
  nx : Int
  held : List Note
  marks : List Mark
  inbox : List Note
structure Keeper where
  id : Int
  up : Bool
  log : ByteArray
  fo : Int
  halves : List Half
structure Parcel where
  src : Int
  dst : Int
  data : ByteArray
  sp : Bool
structure Frame where
  ki : Int
  src : Int
  dst : Int
  fr : Int
  nu : Int
  to : Int
  un : Int
  sz : Int
  mix : Int
  da : ByteArray
structure Event where
  ki : Int
  at_ : Int
  fr : Int
  nu : Int
  wo : Int
  mix : Int
  kp : Int
  to : Int
  un : Int
  tx : ByteArray
structure LK where
  wo : ByteArray
  ki : Int
  fi : ByteArray
structure Shelf where
  lg : ByteArray
  fd : Int
structure River where
  ti : Int
  keepers : List Keeper
  links : List Bool
  radio : List Parcel
  sent : List Note
  got : List Note
structure Rd where
  b : List Int
  p : Int
structure Sim where
  r : Rd
  wt : Int
  wk : List Keeper
  wl : List Bool
  wr : List Parcel
  ws : List Note
  wg : List Note
  ls : List Event
inductive K where
  | int | bool | u8 | str | note | mark | mixed | half | keep | keeper | parcel | frame | event | lk
abbrev Tof : K → Type
  | .int => Int
  | .bool => Bool
  | .u8 => Int
  | .str => ByteArray
  | .note => Note
  | .mark => Mark
  | .mixed => Mixed
  | .half => Half
  | .keep => Keep
  | .keeper => Keeper
  | .parcel => Parcel
  | .frame => Frame
  | .event => Event
  | .lk => LK
def ks : K → Nat
  | .int => 1
  | .bool => 1
  | .u8 => 1
  | .str => 1
  | .note => 5
  | .mark => 3
  | .mixed => 2
  | .half => 6
  | .keep => 6
  | .keeper => 5
  | .parcel => 4
  | .frame => 10
  | .event => 10
  | .lk => 3
def noB : ByteArray := ⟨#[]⟩
def B (l : List UInt8) : ByteArray := ⟨l.toArray⟩
def dfl : (k : K) → Tof k
  | .int => (0 : Int)
  | .bool => false
  | .u8 => (0 : Int)
  | .str => noB
  | .note => (⟨0, 0, 0, 0, noB⟩ : Note)
  | .mark => (⟨0, 0, 0⟩ : Mark)
  | .mixed => (⟨0, noB⟩ : Mixed)
  | .half => (⟨0, 0, 0, 0, 0, []⟩ : Half)
  | .keep => (⟨0, 0, 0, [], [], []⟩ : Keep)
  | .keeper => (⟨0, false, noB, 0, []⟩ : Keeper)
  | .parcel => (⟨0, 0, noB, false⟩ : Parcel)
  | .frame => (⟨0, 0, 0, 0, 0, 0, 0, 0, 0, noB⟩ : Frame)
  | .event => (⟨0, 0, 0, 0, 0, 0, 0, 0, 0, noB⟩ : Event)
  | .lk => (⟨noB, 0, noB⟩ : LK)
inductive AV where
  | un
  | lit (v : Value)
  | sl (k : K) (xs : List (Tof k))
  | arr (k : K) (xs : List (Tof k))
  | own (id : Nat)
  | ptr (id sz i o : Nat)
  | ipt (k : K) (x : Tof k) (o : Nat)
  | agg (cs : List AV)
  | tup (vs : List AV)
  | gd (g : Nat) (w : Bool) (v : AV)
abbrev AV.i (n : Int) : AV := .lit (.int .i64 n)
abbrev AV.b (n : Bool) : AV := .lit (.bool n)
abbrev AV.s (n : ByteArray) : AV := .lit (.string n)
abbrev AV.y (n : Int) : AV := .lit (.int .u8 n)
def enc : (k : K) → Tof k → List AV
  | .int, n => [.i n]
  | .bool, b => [.b b]
  | .u8, n => [.y n]
  | .str, s => [.s s]
  | .note, n => [.i n.fr, .i n.nu, .i n.to, .i n.un, .s n.tx]
  | .mark, n => [.i n.mf, .i n.mn, .i n.mu]
  | .mixed, n => [.i n.nu, .s n.da]
  | .half, n => [.i n.fr, .i n.nu, .i n.to, .i n.un, .i n.sz, .sl .mixed n.got]
  | .keep, n => [.i n.id, .i n.ti, .i n.nx, .sl .note n.held, .sl .mark n.marks, .sl .note n.inbox]
  | .keeper, n => [.i n.id, .b n.up, .s n.log, .i n.fo, .sl .half n.halves]
  | .parcel, n => [.i n.src, .i n.dst, .s n.data, .b n.sp]
  | .frame, n => [.i n.ki, .i n.src, .i n.dst, .i n.fr, .i n.nu, .i n.to, .i n.un, .i n.sz, .i n.mix, .s n.da]
  | .event, n => [.i n.ki, .i n.at_, .i n.fr, .i n.nu, .i n.wo, .i n.mix, .i n.kp, .i n.to, .i n.un, .s n.tx]
  | .lk, n => [.s n.wo, .i n.ki, .s n.fi]
inductive Ob where
  | box (e : TypeId) (cs : List AV)
  | row (e : TypeId) (fz : Bool) (k : K) (xs : List (Tof k))
  | arr (e : TypeId) (k : K) (xs : List (Tof k))
abbrev Hp := Nat → Option Ob
def qr : (a b : K) → List (Tof a) → Option (List (Tof b))
  | .int, .int, xs => some xs
  | .bool, .bool, xs => some xs
  | .u8, .u8, xs => some xs
  | .str, .str, xs => some xs
  | .note, .note, xs => some xs
  | .mark, .mark, xs => some xs
  | .mixed, .mixed, xs => some xs
  | .half, .half, xs => some xs
  | .keep, .keep, xs => some xs
  | .keeper, .keeper, xs => some xs
  | .parcel, .parcel, xs => some xs
  | .frame, .frame, xs => some xs
  | .event, .event, xs => some xs
  | .lk, .lk, xs => some xs
  | _, _, _ => none
def cT (H : Hp) (k : K) : AV → Option (List (Tof k))
  | .sl k' xs => qr k' k xs
  | .lit (.slice none 0 0) => some []
  | .own id => match H id with
    | some (.row _ _ k' xs) => qr k' k xs
    | _ => none
  | _ => none
def dec (H : Hp) : (k : K) → List AV → Option (Tof k)
  | .int, [.lit (.int .i64 n)] => some n
  | .bool, [.lit (.bool b)] => some b
  | .u8, [.lit (.int .u8 n)] => some n
  | .str, [.lit (.string s)] => some s
  | .note, [.lit (.int .i64 a), .lit (.int .i64 b), .lit (.int .i64 c), .lit (.int .i64 d), .lit (.string s)] => some (⟨a, b, c, d, s⟩ : Note)
  | .mark, [.lit (.int .i64 a), .lit (.int .i64 b), .lit (.int .i64 c)] => some (⟨a, b, c⟩ : Mark)
  | .mixed, [.lit (.int .i64 a), .lit (.string s)] => some (⟨a, s⟩ : Mixed)
  | .half, [.lit (.int .i64 a), .lit (.int .i64 b), .lit (.int .i64 c), .lit (.int .i64 d), .lit (.int .i64 e), x] =>
    (cT H .mixed x).bind fun l => some (⟨a, b, c, d, e, l⟩ : Half)
  | .keep, [.lit (.int .i64 a), .lit (.int .i64 b), .lit (.int .i64 c), x, y, z] =>
    (cT H .note x).bind fun l => (cT H .mark y).bind fun m => (cT H .note z).bind fun n => some (⟨a, b, c, l, m, n⟩ : Keep)
  | .keeper, [.lit (.int .i64 a), .lit (.bool u), .lit (.string s), .lit (.int .i64 b), x] =>
    (cT H .half x).bind fun l => some (⟨a, u, s, b, l⟩ : Keeper)
  | .parcel, [.lit (.int .i64 a), .lit (.int .i64 b), .lit (.string s), .lit (.bool u)] => some (⟨a, b, s, u⟩ : Parcel)
  | .frame, [.lit (.int .i64 a), .lit (.int .i64 b), .lit (.int .i64 c), .lit (.int .i64 d), .lit (.int .i64 e), .lit (.int .i64 f), .lit (.int .i64 g), .lit (.int .i64 h), .lit (.int .i64 i), .lit (.string s)] =>
    some (⟨a, b, c, d, e, f, g, h, i, s⟩ : Frame)
  | .event, [.lit (.int .i64 a), .lit (.int .i64 b), .lit (.int .i64 c), .lit (.int .i64 d), .lit (.int .i64 e), .lit (.int .i64 f), .lit (.int .i64 g), .lit (.int .i64 h), .lit (.int .i64 i), .lit (.string s)] =>
    some (⟨a, b, c, d, e, f, g, h, i, s⟩ : Event)
  | .lk, [.lit (.string a), .lit (.int .i64 b), .lit (.string c)] => some (⟨a, b, c⟩ : LK)
  | _, _ => none
end Go.VS
