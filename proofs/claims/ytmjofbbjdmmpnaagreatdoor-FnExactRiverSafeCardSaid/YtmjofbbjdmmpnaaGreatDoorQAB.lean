/- An evaluator of the program's own code with its soundness, the printed texts of the functions, and plain laws of them (part 2). -/
import Derived.Orders
import Derived.Test.YtmjofbbjdmmpnaaGreatDoorQAA
set_option linter.unusedVariables false
set_option linter.unusedSimpArgs false
namespace Go.VS
open Go
def upd {α : Type} (f : Nat → α) (i : Nat) (v : α) : Nat → α := fun j => match Nat.beq j i with
  | true => v
  | false => f j
structure S where
  n : Nat
  T : Nat → AV
  H : Hp
  nid : Nat
  st : List (Nat → AV)
  pins : List Nat
  gs : Nat → Bool
def Q8 : Value → Bool
  | .agg _ => false
  | .tuple _ => false
  | _ => true
def ofV : Value → AV
  | .agg cs => match cs.toList.all Q8 with
    | true => .agg (cs.toList.map .lit)
    | false => .un
  | v => .lit v
def S.ev (s : S) : Operand → AV
  | .tmp t => s.T t
  | .const v => ofV v
  | _ => .un
def S.put (s : S) (d : Option Nat) (v : AV) : S := match d with
  | none => s
  | some t => { s with T := upd s.T t v }
def S.has (s : S) (d : Option Nat) : Bool := match d with
  | none => true
  | some t => Nat.blt t s.n && !(s.pins.any fun p => Nat.beq p t) && !(s.gs t)
def cd (H : Hp) (b : Nat) : List Ob → Hp
  | [] => H
  | o :: os => cd (upd H b (some o)) (b + 1) os
def ju (f : AV → AV) : AV → AV
  | .agg cs => .agg (cs.map f)
  | v => f v
def j8 (f : AV → AV) : AV → AV
  | .tup vs => .tup (vs.map (ju f))
  | v => ju f v
def nJ (f : AV → AV) : AV → AV
  | .gd g w v => .gd g w (j8 f v)
  | v => j8 f v
def cY (f : AV → AV) : Option Ob → Option Ob
  | some (.box e cs) => some (.box e (cs.map f))
  | o => o
def S.map (s : S) (f : AV → AV) : S :=
  { s with T := fun t => nJ f (s.T t), H := fun j => cY f (s.H j), st := s.st.map fun T t => nJ f (T t) }
def S.setH (s : S) (id : Nat) (o : Option Ob) : S := { s with H := upd s.H id o }
def kl1 (id : Nat) : AV → AV
  | .own j => match Nat.beq j id with
    | true => .un
    | false => .own j
  | .ptr j z i o => match Nat.beq j id with
    | true => .un
    | false => .ptr j z i o
  | v => v
def fz1 (id : Nat) (k : K) (xs : List (Tof k)) : AV → AV
  | .own j => match Nat.beq j id with
    | true => .sl k xs
    | false => .own j
  | .ptr j z i o => match Nat.beq j id with
    | true => .un
    | false => .ptr j z i o
  | v => v
def S.kill (s : S) (id : Nat) : S := (s.map (kl1 id)).setH id none
def S.freeze (s : S) (id : Nat) : S := match s.H id with
  | some (.row _ _ k xs) => (s.map (fz1 id k xs)).setH id none
  | _ => s.kill id
def IM (P : Program) (t : TypeId) : Option Bool := match P.underlying t with
  | some (.struct _) => some true
  | some (.array _ _) => some true
  | some _ => some false
  | none => none
def gW (P : Program) (t : TypeId) (f : Nat) : Option Field := match P.underlying t with
  | some (.struct fs) => fs[f]?
  | _ => none
def d6 : AV → Option (List AV)
  | .un => none
  | .gd _ _ _ => none
  | .lit (.tuple _) => none
  | .lit (.agg _) => none
  | .tup _ => none
  | .arr _ _ => none
  | .agg cs => some cs
  | v => some [v]
def nk (P : Program) (t : TypeId) : Option (List AV) := (P.info? t).bind fun i => i.zero.bind fun z => match z.cells.toList.all Q8 with
  | true => some (z.cells.toList.map .lit)
  | false => none
def QU : AV → AV → Bool
  | .lit (.int k n), .lit (.int k' m) => decide (k = k') && decide (n = m)
  | .lit (.bool a), .lit (.bool b) => a == b
  | .lit (.string a), .lit (.string b) => Nat.beq a.size 0 && Nat.beq b.size 0
  | .lit (.slice none 0 0), .sl _ [] => true
  | _, _ => false
def JD : List AV → List AV → Bool
  | [], [] => true
  | a :: l, b :: m => QU a b && JD l m
  | _, _ => false
def zok (P : Program) (t : TypeId) (k : K) : Bool := match nk P t with
  | some zs => JD zs (enc k (dfl k))
  | none => false
def bW (P : Program) (t : TypeId) : Option TypeId := match P.underlying t with
  | some (.slice e) => some e
  | _ => none
def inb (i : Int) (n : Nat) : Bool := decide (0 ≤ i) && decide (i < (n : Int))
def bt (s : ByteArray) (i : Int) : Int := ((s.data.toList.getD i.toNat 0).toNat : Int)
def rd {α : Type} (d : α) (xs : List α) (i : Int) : α := xs.getD i.toNat d
def pw (s : ByteArray) : List Int := s.data.toList.map fun b => (b.toNat : Int)
def HA (xs : List Int) : ByteArray := ⟨(xs.map fun n => UInt8.ofNat n.toNat).toArray⟩
def Sx (k : IntKind) (a b : Int) : Int := k.wrap ((BitVec.ofInt k.bits a ^^^ BitVec.ofInt k.bits b).toNat : Int)
def SB (k : IntKind) (a b : Int) : Int := k.wrap ((BitVec.ofInt k.bits a &&& BitVec.ofInt k.bits b).toNat : Int)
def ior (k : IntKind) (a b : Int) : Int := k.wrap ((BitVec.ofInt k.bits a ||| BitVec.ofInt k.bits b).toNat : Int)
def w64 (n : Int) : Int := IntKind.i64.wrap n
def w8 (n : Int) : Int := IntKind.u8.wrap n
def de (n : Nat) : Bool := decide (n ≤ 4294967296)
abbrev PR := Option (Bool × AV × List Ob)
def okA (v : AV) : PR := some (true, v, [])
def okN : AV → PR
  | .gd _ _ _ => none
  | v => okA v
def mN (P : Program) (t : TypeId) (cs : List AV) (o : Nat) : Option AV := match IM P t with
  | some true => match Nat.ble (o + P.cellsOf t) cs.length && Nat.ble 1 (P.cellsOf t) with
    | true => some (.agg ((cs.drop o).take (P.cellsOf t)))
    | false => none
  | some false => cs[o]?
  | none => none
def th (P : Program) (H : Hp) (t : TypeId) : AV → Option AV
  | .ipt k x o => mN P t (enc k x) o
  | .ptr id z i o => match H id with
    | some (.box _ cs) => match i with
      | 0 => mN P t cs o
      | _ => none
    | some (.row _ _ k xs) => match Nat.beq z (ks k) with
      | true => mN P t (enc k (xs.getD i (dfl k))) o
      | false => none
    | some (.arr e k xs) => match P.underlying t with
      | some (.array _ _) => match Nat.beq e t && Nat.ble 1 (P.cellsOf t), i, o with
        | true, 0, 0 => some (.arr k xs)
        | _, _, _ => none
      | _ => match Nat.beq z (ks k) with
        | true => mN P t (enc k (xs.getD i (dfl k))) o
        | false => none
    | none => none
  | _ => none
def QJ (op : BinOp) (k : IntKind) (a b : Int) : PR := match op with
  | .add => okA (.lit (.int k (k.wrap (a + b))))
  | .sub => okA (.lit (.int k (k.wrap (a - b))))
  | .mul => okA (.lit (.int k (k.wrap (a * b))))
  | .quo => some (!decide (b = 0), .lit (.int k (k.wrap (a.tdiv b))), [])
  | .rem => some (!decide (b = 0), .lit (.int k (a.tmod b)), [])
  | .xor => okA (.lit (.int k (Sx k a b)))
  | .and => okA (.lit (.int k (SB k a b)))
  | .or => okA (.lit (.int k (ior k a b)))
  | .eql => okA (.b (decide (a = b)))
  | .neq => okA (.b (!decide (a = b)))
  | .lss => okA (.b (decide (a < b)))
  | .leq => okA (.b (decide (a ≤ b)))
  | .gtr => okA (.b (decide (b < a)))
  | .geq => okA (.b (decide (b ≤ a)))
  | _ => none
def QI (op : BinOp) (a b : ByteArray) : PR := match op with
  | .add => some (decide (a.size + b.size ≤ 4611686018427387904), .s (a ++ b), [])
  | .eql => okA (.b (decide (a = b)))
  | .neq => okA (.b (!decide (a = b)))
  | _ => none
def eqC : List AV → List AV → Option Bool
  | [], [] => some true
  | .lit (.int k a) :: l, .lit (.int k' b) :: m => match decide (k = k') with
    | true => (eqC l m).bind fun r => some (decide (a = b) && r)
    | false => none
  | .lit (.bool a) :: l, .lit (.bool b) :: m => (eqC l m).bind fun r => some (decide (a = b) && r)
  | .lit (.string a) :: l, .lit (.string b) :: m => (eqC l m).bind fun r => some (decide (a = b) && r)
  | _, _ => none
def NA (P : Program) : Nat → List Field → List AV → Bool
  | _, [], _ => true
  | n, f :: fs, c :: cs => (match P.underlying f.type, c with
    | some .bool, .lit (.bool _) => true
    | some (.int _), .lit (.int _ _) => true
    | some .string, .lit (.string _) => true
    | _, _ => false) && Nat.beq f.offset n && !(f.name == "_") && NA P (n + 1) fs cs
  | _, _, _ => false
def Qf (P : Program) (t : TypeId) (cs : List AV) : Bool := match P.underlying t with
  | some (.struct fs) => NA P 0 fs.toList cs && Nat.beq fs.size cs.length && !P.stoodInHeld t && !P.eqGuardType P.depth t
  | _ => false
def Nc (P : Program) (op : BinOp) (t : TypeId) : AV → AV → PR
  | .lit (.int k a), .lit (.int k' b) => match decide (k = k') with
    | true => QJ op k a b
    | false => none
  | .lit (.string a), .lit (.string b) => QI op a b
  | .lit (.bool a), .lit (.bool b) => match P.underlying t, op with
    | some .bool, .eql => okA (.b (decide (a = b)))
    | some .bool, .neq => okA (.b (!decide (a = b)))
    | _, _ => none
  | .agg a, .agg b => match Qf P t a, Nat.beq a.length b.length, eqC a b, op with
    | true, true, some r, .eql => okA (.b r)
    | true, true, some r, .neq => okA (.b (!r))
    | _, _, _, _ => none
  | _, _ => none
def unA : UnOp → AV → PR
  | .not, .lit (.bool b) => okA (.b (!b))
  | .neg, .lit (.int k n) => okA (.lit (.int k (k.wrap (0 - n))))
  | _, _ => none
def lm (g : Nat) (w : Bool) : AV → AV
  | .gd g' w' v => match Nat.beq g g', w == w' with
    | true, true => v
    | _, _ => .gd g' w' v
  | v => v
def AG (w : Bool) (v : AV) : Operand → AV
  | .tmp g => lm g w v
  | _ => v
def xj : AV → Option Bool
  | .lit (.bool b) => some b
  | _ => none
def EV (ρ : Operand → AV) (c a b : Operand) : PR := match ρ c, a, b with
  | .lit (.bool q), .const (.bool true), b => match xj (AG false (ρ b) c) with
    | some y => okA (.b (q || y))
    | none => match q with
      | true => okA (.b true)
      | false => okN (ρ b)
  | .lit (.bool q), a, .const (.bool false) => match xj (AG true (ρ a) c) with
    | some x => okA (.b (q && x))
    | none => match q with
      | true => okN (ρ a)
      | false => okA (.b false)
  | .lit (.bool q), a, b => match q with
    | true => okN (ρ a)
    | false => okN (ρ b)
  | _, _, _ => none
def i7 (ρ : Operand → AV) : Nat → List (Nat × Operand) → Option (List AV)
  | _, [] => some []
  | n, (i, x) :: l => match Nat.beq i n with
    | true => (i7 ρ (n + 1) l).bind fun vs => some (ρ x :: vs)
    | false => none
def nc (k : K) : List AV → Option (List (Tof k))
  | [] => some []
  | v :: l => (d6 v).bind fun cs => (dec (fun _ => none) k cs).bind fun x => (nc k l).bind fun xs => some (x :: xs)
def eT (cs : List AV) (o : Nat) (ys : List AV) : List AV := cs.take o ++ ys ++ cs.drop (o + ys.length)
def js (P : Program) (ρ : Operand → AV) (t : TypeId) : List (Nat × Operand) → List AV → Option (List AV)
  | [], cs => some cs
  | (i, x) :: l, cs => (gW P t i).bind fun f => (d6 (ρ x)).bind fun ys =>
    match Nat.beq ys.length (P.cellsOf f.type) && Nat.ble (f.offset + ys.length) cs.length with
    | true => js P ρ t l (eT cs f.offset ys)
    | false => none
def DN (lo hi : Option AV) (n : Nat) : Option (Bool × Int × Int) := match lo, hi with
  | none, none => some (true, 0, n)
  | some (.lit (.int _ l)), none => some (decide (0 ≤ l) && decide (l ≤ (n : Int)), l, n)
  | none, some (.lit (.int _ h)) => some (decide (0 ≤ h) && decide (h ≤ (n : Int)), 0, h)
  | some (.lit (.int _ l)), some (.lit (.int _ h)) => some ((decide (0 ≤ h) && decide (h ≤ (n : Int))) && (decide (0 ≤ l) && decide (l ≤ h)), l, h)
  | _, _ => none
def BO {α : Type} (lo hi : Option AV) (l h : Int) (xs : List α) : List α := match lo, hi with
  | none, none => xs
  | some _, none => xs.drop l.toNat
  | none, some _ => xs.take h.toNat
  | some _, some _ => (xs.take h.toNat).drop l.toNat
def cm (P : Program) (H : Hp) (t : TypeId) (v : AV) : Bool := match P.underlying t, v with
  | some .string, .lit (.string _) => true
  | some (.slice e), .sl k _ => Nat.beq (P.cellsOf e) (ks k)
  | some (.slice e), .lit (.slice _ _ _) => Nat.ble 1 (P.cellsOf e)
  | some (.slice e), .own id => match H id with
    | some (.row _ _ k _) => Nat.beq (P.cellsOf e) (ks k)
    | _ => false
  | _, _ => false
def AL (lo hi : Option AV) : AV → PR
  | .lit (.string s) => (DN lo hi s.size).bind fun (c, l, h) => some (c, .s (s.extract l.toNat h.toNat), [])
  | .sl k xs => (DN lo hi xs.length).bind fun (c, l, h) => some (c, .sl k (BO lo hi l h xs), [])
  | .lit (.slice none 0 0) => (DN lo hi 0).bind fun (c, _, _) => some (c, .lit (.slice none 0 0), [])
  | _ => none
def qp (P : Program) (src dst : TypeId) (b : AV) : PR := match P.underlying src, P.underlying dst, b with
  | some _, some (.int k), .lit (.int _ n) => okA (.lit (.int k (k.wrap n)))
  | some .string, some .string, .lit (.string s) => okA (.s s)
  | some .string, some (.slice e), .lit (.string s) => match P.underlying e with
    | some (.int .u8) => some (de s.size, .own 0, [.row e true .u8 (pw s)])
    | _ => none
  | _, _, _ => none
def OK (P : Program) (t : TypeId) (i : Int) : AV → PR
  | .lit (.string s) => match P.underlying t with
    | some .string => some (inb i s.size, .y (bt s i), [])
    | _ => none
  | .arr k xs => match P.underlying t with
    | some (.array n e) => match Nat.beq (ks k) 1 && Nat.beq (P.cellsOf e) 1, IM P e with
      | true, some false => (mN P e (enc k (rd (dfl k) xs i)) 0).bind fun v => some (inb i xs.length && inb i n, v, [])
      | _, _ => none
    | _ => none
  | _ => none
def k6 (P : Program) (H : Hp) (t : TypeId) (i : Int) : AV → PR
  | .sl k xs => match P.underlying t with
    | some (.slice e) => match Nat.beq (P.cellsOf e) (ks k) with
      | true => some (inb i xs.length, .ipt k (rd (dfl k) xs i) 0, [])
      | false => none
    | _ => none
  | .own id => match P.underlying t, H id with
    | some (.slice e), some (.row _ _ k xs) => match Nat.beq (P.cellsOf e) (ks k) with
      | true => some (inb i xs.length, .ptr id (ks k) i.toNat 0, [])
      | false => none
    | _, _ => none
  | .ptr id z 0 0 => match P.underlying t, H id with
    | some (.array n e), some (.arr e' k xs) => match Nat.beq (P.cellsOf e) (ks k) && Nat.beq (P.cellsOf t) (n * ks k) && Nat.beq e' t with
      | true => some (inb i xs.length, .ptr id (ks k) i.toNat 0, [])
      | false => none
    | _, _ => none
  | _ => none
def sq (P : Program) (ρ : Operand → AV) (H : Hp) (c : Call) : PR := match c.callee, c.args.toList, c.argTypes.toList with
  | .builtin .len, [x], [t] => match P.underlying t, ρ x with
    | some .string, .lit (.string s) => okA (.i s.size)
    | some (.slice _), .sl _ xs => okA (.i xs.length)
    | some (.slice _), .lit (.slice none 0 0) => okA (.i 0)
    | some (.slice _), .own id => match H id with
      | some (.row _ _ _ xs) => okA (.i xs.length)
      | _ => none
    | some (.array n _), _ => okA (.i n)
    | _, _ => none
  | .builtin .min, [x, y], _ => match ρ x, ρ y with
    | .lit (.int k a), .lit (.int k' c) => match decide (k = k') with
      | true => okA (.lit (.int k (if c < a then c else a)))
      | false => none
    | _, _ => none
  | .builtin .max, [x, y], _ => match ρ x, ρ y with
    | .lit (.int k a), .lit (.int k' c) => match decide (k = k') with
      | true => okA (.lit (.int k (if a < c then c else a)))
      | false => none
    | _, _ => none
  | _, _, _ => none
def aM (P : Program) (kd : TypeId → Option K) (ρ : Operand → AV) (H : Hp) (b : Nat) : Op → PR
  | .move x => okN (ρ x)
  | .assign x => okN (ρ x)
  | .pick c x y => EV ρ c x y
  | .alloc t => match P.underlying t with
    | some (.array n e) => (kd e).bind fun k => (nk P t).bind fun zs => match JD zs ((List.replicate n (dfl k)).flatMap (enc k)) && Nat.beq (P.cellsOf t) (n * ks k) && Nat.ble 1 n with
      | true => some (true, .ptr b (ks k) 0 0, [.arr t k (List.replicate n (dfl k))])
      | false => none
    | _ => (nk P t).bind fun zs => some (true, .ptr b zs.length 0 0, [.box t zs])
  | .box t x => (d6 (ρ x)).bind fun cs => some (true, .ptr b cs.length 0 0, [.box t cs])
  | .build t ps => (nk P t).bind fun zs => match P.underlying t with
    | some (.struct fs) => match fs.toList.all fun f => (P.info? f.type).isSome with
      | true => (js P ρ t ps.toList zs).bind fun cs => okA (.agg cs)
      | false => none
    | _ => none
  | .buildSlice t len ps => (bW P t).bind fun e => (kd e).bind fun k => (i7 ρ 0 ps.toList).bind fun vs => (nc k vs).bind fun xs =>
    match Nat.beq vs.length len && Nat.beq (P.cellsOf e) (ks k) && Nat.ble len 65536 && zok P e k with
    | true => some (true, .own b, [.row e false k xs])
    | false => none
  | .load t p => (th P H t (ρ p)).bind okA
  | .nilCheck p => match ρ p with
    | .ptr id z i o => okA (.ptr id z i o)
    | .ipt k x o => okA (.ipt k x o)
    | _ => none
  | .binOp op t x y _ => Nc P op t (ρ x) (ρ y)
  | .unOp op _ x => unA op (ρ x)
  | .convert src dst x => match P.underlying src, P.underlying dst with
    | some (.slice e), some .string => match P.underlying e with
      | some (.int .u8) => (cT H .u8 (ρ x)).bind fun xs => okA (.s (HA xs))
      | _ => none
    | _, _ => match qp P src dst (ρ x) with
      | some (c, .own _, os) => some (c, .own b, os)
      | r => r
  | .makeSlice t l c => match ρ l, ρ c, (match l, c with
      | .tmp i, .tmp j => Nat.beq i j
      | _, _ => false) with
    | .lit (.int .i64 n), _, true => (bW P t).bind fun e => (kd e).bind fun k =>
      match zok P e k && Nat.beq (P.cellsOf e) (ks k) && Nat.ble (P.bytesOf e) 256 with
      | true => some (decide (0 ≤ n) && decide (n ≤ 4294967296), .own b, [.row e false k (List.replicate n.toNat (dfl k))])
      | false => none
    | .lit (.int .i64 n), .lit (.int .i64 m), false => match decide (n = m) with
      | true => (bW P t).bind fun e => (kd e).bind fun k =>
        match zok P e k && Nat.beq (P.cellsOf e) (ks k) && Nat.ble (P.bytesOf e) 256 with
        | true => some (decide (0 ≤ n) && decide (n ≤ 4294967296), .own b, [.row e false k (List.replicate n.toNat (dfl k))])
        | false => none
      | false => none
    | _, _, _ => none
  | .slice t x lo hi none => match cm P H t (ρ x) with
    | true => AL (lo.map ρ) (hi.map ρ) (ρ x)
    | false => none
  | .fieldAddr t x f => (gW P t f).bind fun fd => match Nat.ble 1 (P.cellsOf fd.type) with
    | true => match ρ x with
      | .ptr id z i o => okA (.ptr id z i (o + fd.offset))
      | .ipt k v o => okA (.ipt k v (o + fd.offset))
      | _ => none
    | false => none
  | .field t x f => (gW P t f).bind fun fd => match ρ x with
    | .agg cs => (mN P fd.type cs fd.offset).bind okA
    | _ => none
  | .indexAddr t x ix => match ρ ix with
    | .lit (.int _ i) => k6 P H t i (ρ x)
    | _ => none
  | .index t x ix => match ρ ix with
    | .lit (.int _ i) => OK P t i (ρ x)
    | _ => none
  | .extract x i => match ρ x with
    | .tup vs => (vs[i]?).bind okA
    | _ => none
  | .call c => sq P ρ H c
  | _ => none
abbrev qF : AV := .lit undef
def mM : AV → Option Nat
  | .own id => some id
  | _ => none
def nop : AV → Bool
  | .lit (.pointer (some _)) => false
  | .lit _ => true
  | .sl _ _ => true
  | .own _ => true
  | _ => false
def Qg (o n : Nat) (cs : List AV) : Bool := Nat.ble (o + n) cs.length && (Nat.ble 1 o || nop (cs.headD (.lit (.bool false))))
def jA (P : Program) (t : TypeId) (s : S) : AV → AV → Option S
  | .ptr id z i o, x => match s.H id with
    | some (.box e cs) => match i with
      | 0 => (d6 x).bind fun ys => match Nat.beq ys.length (P.cellsOf t) && Nat.ble 1 (P.cellsOf t) && Qg o ys.length cs with
        | true => some (s.setH id (some (.box e (eT cs o ys))))
        | false => none
      | _ => none
    | some (.row e fz k xs) => (d6 x).bind fun ys => match Nat.beq ys.length (P.cellsOf t) && Nat.ble 1 (P.cellsOf t) && Nat.ble (o + ys.length) (ks k) && Nat.beq z (ks k) && !((ys.filterMap mM).any fun j => Nat.beq j id) with
      | true => (dec s.H k (eT (enc k (xs.getD i (dfl k))) o ys)).bind fun y =>
        some (((ys.filterMap mM).foldl S.freeze s).setH id (some (.row e fz k (xs.set i y))))
      | false => none
    | some (.arr e k xs) => (d6 x).bind fun ys => match Nat.beq ys.length (P.cellsOf t) && Nat.ble 1 (P.cellsOf t) && Nat.ble (o + ys.length) (ks k) && Nat.beq z (ks k) with
      | true => (dec (fun _ => none) k (eT (enc k (xs.getD i (dfl k))) o ys)).bind fun y => some (s.setH id (some (.arr e k (xs.set i y))))
      | false => none
    | none => none
  | _, _ => none
def EA (H : Hp) (k : K) : AV → Option (List (Tof k))
  | .lit (.string s) => match k with
    | .u8 => some (pw s)
    | _ => none
  | v => cT H k v
def ld (P : Program) (kd : TypeId → Option K) (t t2 : TypeId) (s : S) (b : Nat) (x y : AV) : Option (Bool × AV × S) :=
  (bW P t).bind fun e => (kd e).bind fun k => (EA s.H k y).bind fun ys =>
  match Nat.beq (P.cellsOf e) (ks k) && Nat.ble (P.bytesOf e) 256 && zok P e k && (match P.underlying t2 with
      | some .string => true
      | some (.slice _) => true
      | _ => false), x with
  | true, .lit (.slice none 0 0) => some (de ys.length, .own b, s.setH b (some (.row e false k ys)))
  | true, .own id => match s.H id, (match y with
      | .own j => Nat.beq j id
      | _ => false) with
    | some (.row e' false k' xs), false => match Nat.beq e e' with
      | true => (qr k' k xs).bind fun xs => some (de (xs.length + ys.length), .own id, (s.map (kl1 id)).setH id (some (.row e false k (xs ++ ys))))
      | false => none
    | _, _ => none
  | _, _ => none
def w5 (P : Program) (t : TypeId) (s : S) (x y : AV) : Option (AV × S) := match x with
  | .own id => match s.H id, (match y with
      | .own j => Nat.beq j id
      | _ => false) with
    | some (.row e fz k xs), false => (bW P t).bind fun e' => match Nat.beq (P.cellsOf e') (ks k) with
      | true => (EA s.H k y).bind fun ys => some (.i (Nat.min ys.length xs.length : Nat), s.setH id (some (.row e fz k (ys.take xs.length ++ xs.drop ys.length))))
      | false => none
    | _, _ => none
  | _ => none
def fp (s : S) (id : Nat) (z : Bool) (lo hi : Option AV) : Option (Bool × AV × S) := match s.H id with
  | some (.row e fz k xs) => (DN lo hi xs.length).bind fun (c, l, h) => match z, hi with
    | true, none => some (c, .own id, (s.map (kl1 id)).setH id (some (.row e fz k (BO lo hi l h xs))))
    | true, some _ => none
    | false, _ => some (c, .sl k (BO lo hi l h xs), s.freeze id)
  | _ => none
inductive Sh where
  | int (k : IntKind)
  | bool
  | str
  | sl (k : K)
  | row (e : TypeId) (k : K)
  | fz (k : K)
  | agg (l : List Sh)
  | rowz (e : TypeId) (k : K)
  | abx (e : TypeId) (k : K)
  | arr (k : K)
  | same (t : Nat)
  | box (e : TypeId) (l : List Sh)
mutual
abbrev LT : Sh → Type
  | .int _ => Int
  | .bool => Bool
  | .str => ByteArray
  | .sl k => List (Tof k)
  | .row _ k => List (Tof k)
  | .fz k => List (Tof k)
  | .rowz _ k => List (Tof k)
  | .abx _ k => List (Tof k)
  | .arr k => List (Tof k)
  | .same _ => Unit
  | .agg l => LTs l
  | .box _ l => LTs l
abbrev LTs : List Sh → Type
  | [] => Unit
  | h :: l => LT h × LTs l
end
mutual
def bL (E : Nat → AV) (H : Hp) : (h : Sh) → AV → Option (LT h)
  | .int k, .lit (.int k' n) => match decide (k = k') with
    | true => some n
    | false => none
  | .bool, .lit (.bool b) => some b
  | .str, .lit (.string s) => some s
  | .sl k, .sl k' xs => qr k' k xs
  | .sl _, .lit (.slice none 0 0) => some []
  | .row _ _, .lit (.slice none 0 0) => some []
  | .row e k, .own id => match H id with
    | some (.row e' false k' xs) => match Nat.beq e e' with
      | true => qr k' k xs
      | false => none
    | _ => none
  | .fz k, v => cT H k v
  | .rowz e k, .own id => match H id with
    | some (.row e' true k' xs) => match Nat.beq e e' with
      | true => qr k' k xs
      | false => none
    | _ => none
  | .abx e k, .ptr id z 0 0 => match H id with
    | some (.arr e' k' xs) => match Nat.beq e e' && Nat.beq z (ks k) with
      | true => qr k' k xs
      | false => none
    | _ => none
  | .arr k, .arr k' xs => qr k' k xs
  | .same t, .ptr id _ 0 0 => match E t with
    | .ptr id' _ 0 0 => match Nat.beq id id' with
      | true => some ()
      | false => none
    | _ => none
  | .agg l, .agg cs => j0 E H l cs
  | .box e l, .ptr id _ 0 0 => match H id with
    | some (.box e' cs) => match Nat.beq e e' with
      | true => j0 E H l cs
      | false => none
    | _ => none
  | _, _ => none
def j0 (E : Nat → AV) (H : Hp) : (l : List Sh) → List AV → Option (LTs l)
  | [], [] => some ()
  | h :: l, c :: cs => (bL E H h c).bind fun x => (j0 E H l cs).bind fun xs => some (x, xs)
  | _, _ => none
end
mutual
def dt (H : Hp) : Sh → AV → List Nat
  | .row _ _, .own id => [id]
  | .rowz _ _, .own id => [id]
  | .abx _ _, .ptr id _ 0 0 => [id]
  | .agg l, .agg cs => aQ H l cs
  | .box _ l, .ptr id _ 0 0 => match H id with
    | some (.box _ cs) => aQ H l cs ++ [id]
    | _ => []
  | _, _ => []
def aQ (H : Hp) : List Sh → List AV → List Nat
  | h :: l, c :: cs => dt H h c ++ aQ H l cs
  | _, _ => []
end
mutual
def cN (H : Hp) : Sh → AV → List Nat
  | .row _ _, .own id => [id]
  | .rowz _ _, .own id => [id]
  | .abx _ _, .ptr id _ 0 0 => [id]
  | .agg l, .agg cs => bC H l cs
  | .box _ l, .ptr id _ 0 0 => match H id with
    | some (.box _ cs) => bC H l cs
    | _ => []
  | _, _ => []
def bC (H : Hp) : List Sh → List AV → List Nat
  | h :: l, c :: cs => cN H h c ++ bC H l cs
  | _, _ => []
end
mutual
def dQ (H : Hp) : Sh → AV → List Nat
  | .fz _, .own id => [id]
  | .agg l, .agg cs => b7 H l cs
  | .box _ l, .ptr id _ 0 0 => match H id with
    | some (.box _ cs) => b7 H l cs
    | _ => []
  | _, _ => []
def b7 (H : Hp) : List Sh → List AV → List Nat
  | h :: l, c :: cs => dQ H h c ++ b7 H l cs
  | _, _ => []
end
def B2 : List Nat → Bool
  | [] => true
  | a :: l => !(l.any fun b => Nat.beq a b) && B2 l
def off (l m : List Nat) : Bool := l.all fun a => !(m.any fun b => Nat.beq a b)
mutual
def aX (E : Nat → AV) (H : Hp) (b : Nat) : (h : Sh) → LT h → AV × Hp × Nat
  | .int k, n => (.lit (.int k n), H, b)
  | .bool, x => (.b x, H, b)
  | .str, s => (.s s, H, b)
  | .sl k, xs => (.sl k xs, H, b)
  | .row e k, xs => (.own b, upd H b (some (.row e false k xs)), b + 1)
  | .fz k, xs => (.sl k xs, H, b)
  | .rowz e k, xs => (.own b, upd H b (some (.row e true k xs)), b + 1)
  | .abx e k, xs => (.ptr b (ks k) 0 0, upd H b (some (.arr e k xs)), b + 1)
  | .arr k, xs => (.arr k xs, H, b)
  | .same t, _ => (E t, H, b)
  | .agg l, x => match ah E H b l x with
    | (cs, H, b) => (.agg cs, H, b)
  | .box e l, x => match ah E H b l x with
    | (cs, H, b) => (.ptr b cs.length 0 0, upd H b (some (.box e cs)), b + 1)
def ah (E : Nat → AV) (H : Hp) (b : Nat) : (l : List Sh) → LTs l → List AV × Hp × Nat
  | [], _ => ([], H, b)
  | h :: l, x => match aX E H b h x.1 with
    | (c, H, b) => match ah E H b l x.2 with
      | (cs, H, b) => (c :: cs, H, b)
end
mutual
def fO (E : Nat → AV) (H : Hp) (b : Nat) : (h : Sh) → AV → LT h → AV × Hp × Nat
  | .box e l, .ptr id z 0 0, x => match H id with
    | some (.box _ cs) => match aC E H b l cs x with
      | (ds, H, b) => (.ptr id z 0 0, upd H id (some (.box e ds)), b)
    | _ => (.un, H, b)
  | .same _, v, _ => (v, H, b)
  | h, _, x => aX E H b h x
def aC (E : Nat → AV) (H : Hp) (b : Nat) : (l : List Sh) → List AV → LTs l → List AV × Hp × Nat
  | [], _, _ => ([], H, b)
  | h :: l, cs, x => match fO E H b h (cs.headD .un) x.1 with
    | (d, H, b) => match aC E H b l cs.tail x.2 with
      | (ds, H, b) => (d :: ds, H, b)
end
def LA : Sh → Bool
  | .box _ _ => true
  | _ => false
abbrev aq : List Sh → List Sh
  | [] => []
  | .box e l :: ps => .box e l :: aq ps
  | .int _ :: ps => aq ps
  | .bool :: ps => aq ps
  | .str :: ps => aq ps
  | .sl _ :: ps => aq ps
  | .row _ _ :: ps => aq ps
  | .fz _ :: ps => aq ps
  | .rowz _ _ :: ps => aq ps
  | .abx _ _ :: ps => aq ps
  | .arr _ :: ps => aq ps
  | .same _ :: ps => aq ps
  | .agg _ :: ps => aq ps
def b9 : List Sh → List AV → List AV
  | .box _ _ :: ps, v :: vs => v :: b9 ps vs
  | _ :: ps, _ :: vs => b9 ps vs
  | _, _ => []
def Jj : K → Bool
  | .half => false
  | .keep => false
  | .keeper => false
  | _ => true
mutual
def J7 : Sh → Bool
  | .sl _ => true
  | .fz _ => true
  | .row _ k => !Jj k
  | .rowz _ k => !Jj k
  | .abx _ k => !Jj k
  | .arr k => !Jj k
  | .agg l => bD l
  | .box _ l => bD l
  | _ => false
def bD : List Sh → Bool
  | [] => false
  | h :: l => J7 h || bD l
end
structure Summ where
  ps : List Sh
  rs : List Sh
  g : LTs ps → Option (LTs rs × LTs (aq ps))
def Ev : List AV → AV
  | [v] => v
  | vs => .tup vs
def sE (q : Bool) (ids : List Nat) (s : S) : S := match q with
  | true => ids.foldl S.freeze s
  | false => s
def oA {Ω : Type} (m : Summ) (s : S) (b : Nat) (d : Option Nat) (as : List AV) (k : S → Option Ω) : Option Ω :=
  let E : Nat → AV := fun i => (as[i]?).getD .un
  match j0 E s.H m.ps as, B2 (aQ s.H m.ps as) && off (b7 s.H m.ps as) (aQ s.H m.ps as) with
  | some x, true => (m.g x).bind fun r =>
    let s1 := (bC s.H m.ps as).foldl S.kill s
    let s2 : S := sE (bD m.rs || bD (aq m.ps)) (b7 s.H m.ps as) s1
    match aC E s2.H b (aq m.ps) (b9 m.ps as) r.2 with
    | (_, H, b1) => match ah E H b1 m.rs r.1 with
      | (vs, H, b2) => match Nat.ble b2 (b + 16) with
        | true => k ({ s2 with H := H }.put d (Ev vs))
        | false => none
  | _, _ => none
structure Cx where
  P : Program
  kd : TypeId → Option K
  Γ : Nat → Option Nat → Option Summ
  cz : Nat → Bool
  sp : Nat → Bool
abbrev Inl (Ω : Type) := Nat → Option Nat → List AV → S → (S → Option Ω) → Option Ω
def pf (ρ : Operand → AV) (ps : List (Nat × Operand)) : List Nat := ps.flatMap fun p => match ρ p.2 with
  | .agg cs => cs.filterMap mM
  | v => (mM v).toList
def dF {Ω : Type} (C : Cx) (inl : Inl Ω) (o : Oper) (b : Nat) (s : S) (k : S → Option Ω) : Option Ω :=
  match s.has o.dst with
  | false => none
  | true => match o.op with
    | .store t p x => match jA C.P t s (s.ev p) (s.ev x) with
      | some s => k (s.put o.dst qF)
      | none => none
    | .call c => match c.callee, c.args.toList, c.argTypes.toList with
      | .value (.func f), as, _ => match C.Γ f o.dst with
        | some m => oA m s b o.dst (as.map s.ev) k
        | none => inl f o.dst (as.map s.ev) s k
      | .builtin .append, [x, y], [t, u] => match ld C.P C.kd t u s b (s.ev x) (s.ev y) with
        | some (q, v, s) => if q then k (s.put o.dst v) else none
        | none => none
      | .builtin .copy, [x, y], [t, _] => match w5 C.P t s (s.ev x) (s.ev y) with
        | some (v, s) => k (s.put o.dst v)
        | none => none
      | _, _, _ => match aM C.P C.kd s.ev s.H b o.op with
        | some (q, v, os) => if q then k ({ s with H := cd s.H b os }.put o.dst v) else none
        | none => none
    | .slice t x lo hi none => match s.ev x with
      | .own id => match cm C.P s.H t (.own id) with
        | false => none
        | true => match fp s id (match o.dst with
          | some d => C.cz d
          | none => false) (lo.map s.ev) (hi.map s.ev) with
        | some (c, v, s) => if c then k (s.put o.dst v) else none
        | none => none
      | _ => match aM C.P C.kd s.ev s.H b (.slice t x lo hi none) with
        | some (c, v, os) => if c then k ({ s with H := cd s.H b os }.put o.dst v) else none
        | none => none
    | .buildSlice t n ps =>
      let s := (pf s.ev ps.toList).foldl S.freeze s
      match aM C.P C.kd s.ev s.H b (.buildSlice t n ps) with
      | some (c, v, os) => if c then k ({ s with H := cd s.H b os }.put o.dst v) else none
      | none => none
    | op => match aM C.P C.kd s.ev s.H b op with
      | some (c, v, os) => if c then k ({ s with H := cd s.H b os }.put o.dst v) else none
      | none => none
mutual
def j9 : Sh → Bool
  | .int _ => true
  | .bool => true
  | .str => true
  | .agg l => tk l
  | _ => false
def tk : List Sh → Bool
  | [] => true
  | h :: l => j9 h && tk l
end
mutual
def SE : (h : Sh) → LT h
  | .int _ => (0 : Int)
  | .bool => false
  | .str => noB
  | .sl _ => []
  | .row _ _ => []
  | .fz _ => []
  | .rowz _ _ => []
  | .abx _ _ => []
  | .arr _ => []
  | .same _ => ()
  | .agg l => q7 l
  | .box _ l => q7 l
def q7 : (l : List Sh) → LTs l
  | [] => ()
  | h :: l => (SE h, q7 l)
end
def spA (C : Cx) (b : Nat) (d : Option Nat) (ρ : Operand → AV) (H : Hp) : Op → Option (Bool × AV)
  | .call c => match c.callee, c.args.toList, c.argTypes.toList with
    | .value (.func f), as, _ => (C.Γ f d).bind fun m =>
      let E : Nat → AV := fun i => ((as.map ρ)[i]?).getD .un
      match tk m.rs && (aq m.ps).isEmpty && (bC H m.ps (as.map ρ)).isEmpty && (aQ H m.ps (as.map ρ)).isEmpty with
      | true => (j0 E H m.ps (as.map ρ)).bind fun x => some ((m.g x).isSome, Ev (ah E H b m.rs ((m.g x).getD (q7 m.rs, q7 (aq m.ps))).1).1)
      | false => none
    | .builtin .append, _, _ => none
    | .builtin .copy, _, _ => none
    | _, _, _ => match sq C.P ρ H c with
      | some (q, v, []) => some (q, v)
      | _ => none
  | .store _ _ _ => none
  | .buildSlice _ _ _ => none
  | .slice t x lo hi none => match ρ x with
    | .own _ => none
    | _ => match aM C.P C.kd ρ H b (.slice t x lo hi none) with
      | some (q, v, []) => some (q, v)
      | _ => none
  | op => match aM C.P C.kd ρ H b op with
    | some (q, v, []) => some (q, v)
    | _ => none
def eqW (c want : Bool) : Bool := match want with
  | true => c
  | false => !c
def aF (c q : Bool) : Bool := match q with
  | true => true
  | false => !c
def Aw (ops : Array Oper) (s : S) : Nat → Oper → Option Bool
  | 0, _ => none
  | n + 1, o => match o.guard with
    | none => some true
    | some (j, want) => (ops[j]?).bind fun oj => oj.dst.bind fun g => match s.T g with
      | .lit (.bool c) => some (eqW c want)
      | .lit (.tuple _) => some false
      | .gd g' w' (.lit (.bool c)) => match oj.guard with
        | some (j', w2) => match (ops[j']?).bind (·.dst) with
          | some g2 => match Nat.beq g' g2, w' == w2 with
            | true, true => (Aw ops s n oj).bind fun b => some (b && eqW c want)
            | _, _ => none
          | none => none
        | none => none
      | _ => none
def SG (c : Option Bool) (q : Bool) : Bool := match c with
  | some c => aF c q
  | none => q
def Sf : AV → Bool
  | .gd _ _ _ => false
  | _ => true
def S.narrow (s : S) (g : Nat) (w : Bool) : S := { s with T := upd (fun t => lm g w (s.T t)) g (.b w) }
def evG {Ω : Type} (C : Cx) (inl : Inl Ω) (ops : Array Oper) (o : Oper) (b : Nat) (s : S) (k : S → Option Ω) : Option Ω :=
  match o.guard with
  | none => dF C inl o b s k
  | some (j, want) => match (ops[j]?).bind (·.dst), (match o.dst with
      | some d => C.sp d
      | none => false) with
    | none, _ => none
    | some g, true => match { s with gs := upd s.gs g true }.has o.dst, spA C b o.dst (s.narrow g want).ev s.H o.op with
      | true, some (q, v) => match Sf v with
        | true => if SG (Aw ops s 4 o) q then k { s.put o.dst (.gd g want v) with gs := upd s.gs g true } else none
        | false => none
      | _, _ => none
    | some g, false => match s.T g with
      | .lit (.bool c) =>
        let yes : Option Ω := dF C inl o b { s with T := upd s.T g (.b want) } k
        let no : Option Ω := match s.has o.dst with
          | true => k ({ s with T := upd s.T g (.b (!want)) }.put o.dst qF)
          | false => none
        match want with
        | true => if c then yes else no
        | false => if c then no else yes
      | .lit (.tuple _) => match s.has o.dst with
        | true => k (s.put o.dst qF)
        | false => none
      | _ => none
def Jq {Ω : Type} (C : Cx) (inl : Inl Ω) (ops : Array Oper) : List Oper → S → (S → Option Ω) → Option Ω
  | [], s, k => k s
  | o :: l, s, k => evG C inl ops o s.nid s fun s => Jq C inl ops l { s with nid := s.nid + 16 } k
def J1 (Ω : Type) : Inl Ω := fun _ _ _ _ _ => none
mutual
def br : Sh → Bool
  | .agg _ => false
  | .same _ => false
  | .arr _ => false
  | .box _ l => dC l
  | _ => true
def dC : List Sh → Bool
  | [] => true
  | h :: l => br h && dC l
end
def RJ : Sh → Bool
  | .agg l => dC l
  | .arr _ => true
  | h => br h
def JJ : List Sh → Bool
  | [] => true
  | h :: l => RJ h && JJ l
def okS (m : Summ) : Bool := JJ m.rs && dC (aq m.ps)
def xp (H : Hp) (x y : AV) : List Nat := match x with
  | .ptr id _ _ _ => match H id with
    | some (.row _ _ _ _) => id :: ((d6 y).getD []).filterMap mM
    | _ => [id]
  | _ => []
def fzl (q : Bool) (l : List Nat) : List Nat := match q with
  | true => l
  | false => []
def EX (v : AV) : List Nat := (mM v).toList
def m7 (C : Cx) (s : S) (o : Oper) : Option (List Nat) := match o.op with
  | .store _ p x => some (xp s.H (s.ev p) (s.ev x))
  | .call c => match c.callee, c.args.toList with
    | .value (.func f), as => match C.Γ f o.dst with
      | some m => match (aq m.ps).isEmpty with
        | true => some (bC s.H m.ps (as.map s.ev) ++ fzl (bD m.rs || bD (aq m.ps)) (b7 s.H m.ps (as.map s.ev)))
        | false => none
      | none => none
    | .builtin .append, x :: _ => some (EX (s.ev x))
    | .builtin .copy, x :: _ => some (EX (s.ev x))
    | _, _ => some []
  | .slice _ x _ _ none => some (EX (s.ev x))
  | .buildSlice _ _ ps => some (pf s.ev ps.toList)
  | _ => some []
def okO (C : Cx) (o : Oper) : Bool := match o.op with
  | .call c => match c.callee with
    | .value (.func f) => match C.Γ f o.dst with
      | some m => okS m
      | none => false
    | _ => true
  | _ => true
mutual
def lb : Sh → Bool
  | .agg _ => false
  | .arr _ => false
  | .box _ l => nd l
  | _ => true
def nd : List Sh → Bool
  | [] => true
  | h :: l => lb h && nd l
end
def R5 : Sh → Bool
  | .agg l => nd l
  | .arr _ => true
  | h => lb h
def sG : List Sh → Bool
  | [] => true
  | h :: l => R5 h && sG l
def LH : AV → Option (List Nat)
  | .own id => some [id]
  | .ptr id _ _ _ => some [id]
  | .agg _ => none
  | .tup _ => none
  | .gd _ _ _ => none
  | _ => some []
def Ro : List AV → Option (List Nat)
  | [] => some []
  | c :: cs => (LH c).bind fun a => (Ro cs).bind fun b => some (a ++ b)
def LG : AV → Option (List Nat)
  | .agg cs => Ro cs
  | v => LH v
def Sj : List AV → Option (List Nat)
  | [] => some []
  | c :: cs => (LG c).bind fun a => (Sj cs).bind fun b => some (a ++ b)
def Rp : AV → Option (List Nat)
  | .tup vs => Sj vs
  | v => LG v
def P6 : AV → Option (List Nat)
  | .gd _ _ v => Rp v
  | v => Rp v
def bit (i : Nat) : Nat := Nat.shiftLeft 1 i
def msk : List Nat → Nat
  | [] => 0
  | i :: l => Nat.lor (bit i) (msk l)
def nm (b : Nat) : Nat := Nat.shiftLeft 65535 b
def dsj (a b : Nat) : Bool := Nat.beq (Nat.land a b) 0
def sbs (a b : Nat) : Bool := Nat.beq (Nat.land a b) a
def tst (a i : Nat) : Bool := !(dsj a (bit i))
def QF (H : Hp) (id : Nat) : Option (List Nat) := match H id with
  | some (.box _ cs) => Ro cs
  | _ => some []
def Kz (H : Hp) : List Nat → Option (List Nat)
  | [] => some []
  | i :: l => (QF H i).bind fun a => (Kz H l).bind fun b => some (a ++ b)
def clo (H : Hp) : Nat → List Nat → Option Nat
  | 0, [] => some 0
  | 0, _ :: _ => none
  | n + 1, l => match l with
    | [] => some 0
    | i :: l => (Kz H (i :: l)).bind fun m => (clo H n m).bind fun r => some (Nat.lor (msk (i :: l)) r)
def Kn (ops : Array Oper) : Nat → Oper → List Nat
  | 0, _ => []
  | n + 1, o => match o.guard with
    | none => []
    | some (j, _) => match ops[j]? with
      | some oj => oj.dst.toList ++ Kn ops n oj
      | none => []
abbrev bd (ops : Array Oper) (o : Oper) : List Nat := o.looksAt ops ++ Kn ops 4 o
structure Rec where
  i : Nat
  b : Nat
  F : Nat
  W : Nat
  anc : Nat
  V : List Nat
  o : Oper
def p8 (i : Nat) : List Rec → Option Rec
  | [] => none
  | r :: l => match Nat.beq r.i i with
    | true => some r
    | false => p8 i l
def JB (acc : List Rec) : List Edge → Option Nat
  | [] => some 0
  | e :: l => match Region.binds .any e with
    | true => (p8 e.on acc).bind fun r => (JB acc l).bind fun m => some (Nat.lor (Nat.lor (bit e.on) r.anc) m)
    | false => JB acc l
def RR (t : Nat) : Option Nat → Bool
  | some d => Nat.beq d t
  | none => false
def RM (t : Nat) (l : List Nat) : Bool := l.any fun x => Nat.beq x t
def MJ (d : Option Nat) (l : List Nat) : Bool := match d with
  | some t => !(RM t l)
  | none => true
def Qv (d e : Option Nat) : Bool := match d, e with
  | some a, some b => !(Nat.beq a b)
  | _, _ => true
def Jm (t : Nat) : List Rec → Option Rec
  | [] => none
  | r :: l => match RR t r.o.dst with
    | true => some r
    | false => Jm t l
def Ns (s0 : S) (acc : List Rec) : List Nat → Option (List Nat)
  | [] => some []
  | t :: l => (match Jm t acc with
    | some r => some r.V
    | none => P6 (s0.T t)).bind fun a => (Ns s0 acc l).bind fun b => some (a ++ b)
def yl (anc : Nat) : List Rec → Nat → Nat
  | [], F => F
  | r :: l, F => yl anc l (match tst anc r.i && !(dsj r.W F) with
    | true => Nat.lor r.F F
    | false => F)
def RQ (C : Cx) (ops : Array Oper) (s0 : S) (o : Oper) (i b : Nat) (acc : List Rec) (s : S) : Option Rec :=
  (JB acc o.after.toList).bind fun anc => (Ns s0 acc (bd ops o)).bind fun l => (clo s0.H 4 l).bind fun c =>
  let F := yl anc acc (Nat.lor c (nm b))
  let W := match m7 C s o with
    | none => F
    | some l => Nat.lor (msk l) (nm b)
  match sbs W F with
  | true => some { i := i, b := b, F := F, W := W, anc := anc, V := [], o := o }
  | false => none
def chk (ops : Array Oper) (x r : Rec) : Bool :=
  Qv x.o.dst r.o.dst && MJ r.o.dst (bd ops x.o) && match tst r.anc x.i with
    | true => (dsj x.W r.F || sbs x.F r.F) && (MJ x.o.dst (bd ops r.o) || sbs (msk x.V) r.F) && dsj x.F (nm r.b)
    | false => dsj x.W r.F && dsj r.W x.F && MJ x.o.dst (bd ops r.o)
def vOf (s : S) : Option Nat → Option (List Nat)
  | none => some []
  | some t => P6 (s.T t)
def evD {Ω : Type} (C : Cx) (ops : Array Oper) (s0 : S) : List Oper → Nat → Nat → List Rec → S → (S → Option Ω) → Option Ω
  | [], _, b, _, s, k => k { s with nid := b }
  | o :: l, i, b, acc, s, k => match RQ C ops s0 o i b acc s with
    | none => none
    | some r => match acc.all (fun x => chk ops x r) && okO C o && MJ o.dst (bd ops o) with
      | true => evG C (J1 Ω) ops o b s fun s' => (vOf s' o.dst).bind fun V => evD C ops s0 l (i + 1) (b + 16) ({ r with V := V } :: acc) s' k
      | false => none
end Go.VS
namespace Go.VS
open Go
abbrev Sch := List (Nat × Sh)
abbrev Lv (c : Sch) : Type := LTs (c.map (·.2))
def JX (H : Hp) (T : Nat → AV) : (c : Sch) → Option (Lv c)
  | [] => some ()
  | (t, h) :: c => (bL T H h (T t)).bind fun x => (JX H T c).bind fun xs => some (x, xs)
def qY (H : Hp) (T : Nat → AV) : Sch → List Nat
  | [] => []
  | (t, h) :: c => dt H h (T t) ++ qY H T c
def Ko (H : Hp) (T : Nat → AV) : Sch → List Nat
  | [] => []
  | (t, h) :: c => dQ H h (T t) ++ Ko H T c
def mW (T : Nat → AV) (H : Hp) (b : Nat) : (c : Sch) → Lv c → (Nat → AV) × Hp × Nat
  | [], _ => (T, H, b)
  | (t, h) :: c, x => match aX T H b h x.1 with
    | (v, H, b) => mW (upd T t v) H b c x.2
def mkS (n : Nat) (p : List Nat) (c : Sch) (x : Lv c) : S := match mW (fun _ => .un) (fun _ => none) 0 c x with
  | (T, H, b) => { n := n, T := T, H := H, nid := b, st := [], pins := p, gs := fun _ => false }
def RO (n : Nat) (c : Sch) : Bool := B2 (c.map (·.1)) && sG (c.map (·.2)) && c.all fun x => Nat.blt x.1 n
def rdS (c : Sch) (s : S) : Option (Lv c) := match s.st, B2 (qY s.H s.T c) && off (Ko s.H s.T c) (qY s.H s.T c), RO s.n c with
  | [], true, true => JX s.H s.T c
  | _, _, _ => none
structure Loop where
  sch : Sch
  osch : Sch
  xid : Nat
  rsch : Sch
  run : Lv sch → Option (Lv rsch ⊕ Lv osch)
inductive Adv where
  | nil
  | one (a : Adv)
  | two (a b : Adv)
  | join (c : Sch) (a b : Adv)
  | loop (l : Loop)
def Adv.a : Adv → Adv
  | .one a => a
  | .two a _ => a
  | .join _ a _ => a
  | _ => .nil
def Adv.z : Adv → Adv
  | .two _ b => b
  | .join _ _ b => b
  | _ => .nil
structure Kt (Ω : Type) where
  nrm : S → Option Ω
  ret : S → Option Ω
  ext : Nat → S → Option Ω
def gB {Ω X : Type} (f : X → Option Ω) (m : Option (Ω ⊕ X)) : Option Ω := m.bind fun r => match r with
  | .inl o => some o
  | .inr x => f x
def au {A D Ω : Type} (m : Option (A ⊕ D)) (f : A → Option Ω) (g : D → Option Ω) : Option Ω := m.bind fun r => match r with
  | .inl a => f a
  | .inr b => g b
def n6 {X Y : Type} (b : X → Option (X ⊕ Y)) : Nat → X → Option Y
  | 0, _ => none
  | n + 1, x => (b x).bind fun r => match r with
    | .inl y => n6 b n y
    | .inr z => some z
open Classical in
noncomputable def ax {X Y : Type} (b : X → Option (X ⊕ Y)) (x : X) : Option Y :=
  if h : ∃ n y, n6 b n x = some y then some (Classical.choose (Classical.choose_spec h)) else none
def evk (C : Cx) (inl : (Ω : Type) → Inl Ω) : Code → (Ω : Type) → Adv → Kt Ω → S → Option Ω
  | .skip, _, _, k, s => k.nrm s
  | .region _ ops false, Ω, _, k, s => Jq C (inl Ω) ops ops.toList s k.nrm
  | .region _ ops true, _, _, k, s => evD C ops s ops.toList 0 s.nid [] s k.nrm
  | .seq a b, Ω, .join c u v, k, s =>
    gB (fun x => evk C inl b Ω v k (mkS s.n s.pins c x)) (evk C inl a (Ω ⊕ Lv c) u { nrm := fun s => (rdS c s).bind fun x => some (.inr x), ret := fun s => (k.ret s).bind fun o => some (.inl o), ext := fun j s => (k.ext j s).bind fun o => some (.inl o) } s)
  | .seq a b, Ω, v, k, s => evk C inl a Ω v.a { k with nrm := evk C inl b Ω v.z k } s
  | .cond c x y, Ω, v, k, s => match s.ev c with
    | .lit (.bool b) => if b then evk C inl x Ω v.a k s else evk C inl y Ω v.z k s
    | _ => none
  | .block id c, Ω, v, k, s => evk C inl c Ω v.a { k with ext := fun j s => match Nat.beq j id with
    | true => k.nrm s
    | false => k.ext j s } s
  | .loop _, _, .loop l, k, s => (rdS l.sch s).bind fun x => au (l.run x) (fun y => k.ret (mkS s.n s.pins l.rsch y)) (fun y => k.ext l.xid (mkS s.n s.pins l.osch y))
  | .exit id, _, _, k, s => k.ext id s
  | .ret, _, _, k, s => k.ret s
  | _, _, _, _, _ => none
def Ee (P : Program) (s : S) : List ResultVar → Option (List AV)
  | [] => some []
  | .tmp t :: l => (Ee P s l).bind fun vs => some (s.T t :: vs)
  | .cell a t :: l => (th P s.H t (s.T a)).bind fun v => (Ee P s l).bind fun vs => some (v :: vs)
def cc (i : Nat) : List Sh → List Nat
  | [] => []
  | h :: ps => match LA h with
    | true => i :: cc (i + 1) ps
    | false => cc (i + 1) ps
def SA (n : Nat) (ps : List Sh) (x : LTs ps) : S := match ah (fun _ => .un) (fun _ => none) 0 ps x with
  | (vs, H, b) => { n := n, T := fun t => (vs[t]?).getD qF, H := H, nid := b, st := [], pins := cc 0 ps, gs := fun _ => false }
def fin (P : Program) (fn : Func) (m : Summ) (s : S) : Option (LTs m.rs × LTs (aq m.ps)) :=
  (Ee P s fn.results.toList).bind fun vs =>
  match B2 (aQ s.H (m.rs ++ aq m.ps) (vs ++ (cc 0 m.ps).map s.T)) && off (b7 s.H (m.rs ++ aq m.ps) (vs ++ (cc 0 m.ps).map s.T)) (aQ s.H (m.rs ++ aq m.ps) (vs ++ (cc 0 m.ps).map s.T)) with
  | true => (j0 s.T s.H m.rs vs).bind fun r => (j0 s.T s.H (aq m.ps) ((cc 0 m.ps).map s.T)).bind fun q => some (r, q)
  | false => none
def evF (C : Cx) (inl : (Ω : Type) → Inl Ω) (fn : Func) (body : Code) (v : Adv) (m : Summ) (x : LTs m.ps) : Option (LTs m.rs × LTs (aq m.ps)) :=
  evk C inl body _ v { nrm := fin C.P fn m, ret := fin C.P fn m, ext := fun _ _ => none } (SA fn.ntmps m.ps x)
def Sl (C : Cx) (inl : (Ω : Type) → Inl Ω) (fn : Func) (v : Adv) (m : Summ) (x : LTs m.ps) : Option (LTs m.rs × LTs (aq m.ps)) :=
  match fn.body with
  | some b => evF C inl fn b v m x
  | none => none
def MT : List Nat → Code → Code
  | [], c => c
  | 0 :: l, .seq a _ => MT l a
  | 1 :: l, .seq _ b => MT l b
  | 0 :: l, .cond _ a _ => MT l a
  | 1 :: l, .cond _ _ b => MT l b
  | 0 :: l, .block _ a => MT l a
  | 0 :: l, .loop a => MT l a
  | _ :: _, c => c
def uW (fn : Func) : Code := fn.body.getD .skip
def evL (C : Cx) (inl : (Ω : Type) → Inl Ω) (n : Nat) (p : List Nat) (c : Code) (v : Adv) (l : Loop) (x : Lv l.sch) : Option (Lv l.sch ⊕ (Lv l.rsch ⊕ Lv l.osch)) :=
  evk C inl c _ v { nrm := fun s => (rdS l.sch s).bind fun y => some (.inl y), ret := fun s => (rdS l.rsch s).bind fun y => some (.inr (.inl y)), ext := fun j s => match Nat.beq j l.xid with
    | true => (rdS l.osch s).bind fun y => some (.inr (.inr y))
    | false => none } (mkS n p l.sch x)
def ae : (Ω : Type) → Inl Ω := J1
end Go.VS
