/- An evaluator of the program's own code with its soundness, the printed texts of the functions, and plain laws of them (part 10). -/
import Derived.ChangeShapes
import Derived.Test.YtmjofbbjdmmpnaaGreatDoorQAI
set_option linter.unusedVariables false
set_option linter.unusedSimpArgs false
namespace Go.VS
open Go
inductive CT where
  | int (k : IntKind)
  | bool
  | str
  | sl (k : K)
def kct : K → List CT
  | .int => [.int .i64]
  | .bool => [.bool]
  | .u8 => [.int .u8]
  | .str => [.str]
  | .note => [.int .i64, .int .i64, .int .i64, .int .i64, .str]
  | .mark => [.int .i64, .int .i64, .int .i64]
  | .mixed => [.int .i64, .str]
  | .half => [.int .i64, .int .i64, .int .i64, .int .i64, .int .i64, .sl .mixed]
  | .keep => [.int .i64, .int .i64, .int .i64, .sl .note, .sl .mark, .sl .note]
  | .keeper => [.int .i64, .bool, .str, .int .i64, .sl .half]
  | .parcel => [.int .i64, .int .i64, .str, .bool]
  | .frame => [.int .i64, .int .i64, .int .i64, .int .i64, .int .i64, .int .i64, .int .i64, .int .i64, .int .i64, .str]
  | .event => [.int .i64, .int .i64, .int .i64, .int .i64, .int .i64, .int .i64, .int .i64, .int .i64, .int .i64, .str]
  | .lk => [.str, .int .i64, .str]
mutual
def Bq (P : Program) : Nat → TypeId → Option (List TypeId)
  | 0, _ => none
  | n + 1, t => match P.underlying t with
    | some (.struct fs) => (Kq P n 0 fs.toList).bind fun ts => match Nat.beq ts.length (P.cellsOf t) with
      | true => some ts
      | false => none
    | some (.int _) => some [t]
    | some .bool => some [t]
    | some .string => some [t]
    | some (.slice _) => some [t]
    | _ => none
def Kq (P : Program) : Nat → Nat → List Field → Option (List TypeId)
  | _, _, [] => some []
  | 0, _, _ :: _ => none
  | n + 1, o, f :: fs => (Bq P n f.type).bind fun ts => match Nat.beq f.offset o && Nat.beq (P.cellsOf f.type) ts.length with
    | true => (Kq P n (o + ts.length) fs).bind fun us => some (ts ++ us)
    | false => none
end
mutual
def J0 (P : Program) : Nat → TypeId → CT → Bool
  | 0, _, _ => false
  | n + 1, t, c => match P.underlying t, c with
    | some (.int k), .int k' => decide (k = k')
    | some .bool, .bool => true
    | some .string, .str => true
    | some (.slice e), .sl k => Nat.beq (P.cellsOf e) (ks k) && JZ P n e k
    | _, _ => false
def JZ (P : Program) : Nat → TypeId → K → Bool
  | 0, _, _ => false
  | n + 1, e, k => match Bq P 16 e with
    | some ts => mV P n ts (kct k)
    | none => false
def mV (P : Program) : Nat → List TypeId → List CT → Bool
  | _, [], [] => true
  | n + 1, t :: ts, c :: cs => J0 P n t c && mV P n ts cs
  | _, _, _ => false
end
def wfI (n : Int) : Prop := (Lit.int .i64 n).wf = true
def wfY (n : Int) : Prop := (Lit.int .u8 n).wf = true
def wfS (s : ByteArray) : Prop := s.size ≤ maxLen
def wfL {α : Type} (p : α → Prop) (l : List α) : Prop := l.length ≤ maxLen ∧ ∀ x ∈ l, p x
def xm (n : Note) : Prop := wfI n.fr ∧ wfI n.nu ∧ wfI n.to ∧ wfI n.un ∧ wfS n.tx
def Pm (n : Mark) : Prop := wfI n.mf ∧ wfI n.mn ∧ wfI n.mu
def D9 (n : Mixed) : Prop := wfI n.nu ∧ wfS n.da
def JG (n : Half) : Prop := wfI n.fr ∧ wfI n.nu ∧ wfI n.to ∧ wfI n.un ∧ wfI n.sz ∧ wfL D9 n.got
def R0 (n : Keep) : Prop := wfI n.id ∧ wfI n.ti ∧ wfI n.nx ∧ wfL xm n.held ∧ wfL Pm n.marks ∧ wfL xm n.inbox
def yo (n : Keeper) : Prop := wfI n.id ∧ wfS n.log ∧ wfI n.fo ∧ wfL JG n.halves
def ym (n : Parcel) : Prop := wfI n.src ∧ wfI n.dst ∧ wfS n.data
def QW (n : Frame) : Prop := wfI n.ki ∧ wfI n.src ∧ wfI n.dst ∧ wfI n.fr ∧ wfI n.nu ∧ wfI n.to ∧ wfI n.un ∧ wfI n.sz ∧ wfI n.mix ∧ wfS n.da
def QX (n : Event) : Prop := wfI n.ki ∧ wfI n.at_ ∧ wfI n.fr ∧ wfI n.nu ∧ wfI n.wo ∧ wfI n.mix ∧ wfI n.kp ∧ wfI n.to ∧ wfI n.un ∧ wfS n.tx
def SK (n : LK) : Prop := wfS n.wo ∧ wfI n.ki ∧ wfS n.fi
def wfK : (k : K) → Tof k → Prop
  | .int => wfI
  | .bool => fun _ => True
  | .u8 => wfY
  | .str => wfS
  | .note => xm
  | .mark => Pm
  | .mixed => D9
  | .half => JG
  | .keep => R0
  | .keeper => yo
  | .parcel => ym
  | .frame => QW
  | .event => QX
  | .lk => SK
def Sr (w : World) : CT → Value → Prop
  | .int k, c => ∃ n, c = .int k n ∧ (Lit.int k n).wf = true
  | .bool, c => ∃ b, c = .bool b
  | .str, c => ∃ s, c = .string s ∧ wfS s
  | .sl k, c => ∃ xs : List (Tof k), wfL (wfK k) xs ∧ ∀ β : Beta, (∀ b, ¬ MZ β b) → RC w β (.sl k xs) c
inductive Facts (w : World) : List CT → List Value → Prop
  | nil : Facts w [] []
  | cons {t : CT} {c : Value} {ts : List CT} {cs : List Value} (h : Sr w t c) (hs : Facts w ts cs) : Facts w (t :: ts) (c :: cs)
section
variable {w : World}
theorem RL.sole {R : AV → Value → Prop} {c : AV} {v : Value} (h : R c v) : RL R [c] [v] := .cons h .nil
theorem Rz {k : K} {cs : List Value} (h : Facts w (kct k) cs) : ∃ x : Tof k, wfK k x ∧ ∀ β : Beta, (∀ b, ¬ MZ β b) → RL (RC w β) (enc k x) cs := by
  have L : ∀ {β : Beta} {v : Value}, v.oneCell' = true → RC w β (.lit v) v := fun h => .lit h
  cases k with
  | int =>
    obtain ⟨⟩ | ⟨⟨a, rfl, ha⟩, h⟩ := h
    cases h
    exact ⟨a, ha, fun β _ => .sole (L rfl)⟩
  | bool =>
    obtain ⟨⟩ | ⟨⟨a, rfl⟩, h⟩ := h
    cases h
    exact ⟨a, trivial, fun β _ => .sole (L rfl)⟩
  | u8 =>
    obtain ⟨⟩ | ⟨⟨a, rfl, ha⟩, h⟩ := h
    cases h
    exact ⟨a, ha, fun β _ => .sole (L rfl)⟩
  | str =>
    obtain ⟨⟩ | ⟨⟨a, rfl, ha⟩, h⟩ := h
    cases h
    exact ⟨a, ha, fun β _ => .sole (L rfl)⟩
  | note =>
    obtain ⟨⟩ | ⟨⟨a, rfl, ha⟩, h⟩ := h
    obtain ⟨⟩ | ⟨⟨b, rfl, hb⟩, h⟩ := h
    obtain ⟨⟩ | ⟨⟨c, rfl, hc⟩, h⟩ := h
    obtain ⟨⟩ | ⟨⟨d, rfl, hd⟩, h⟩ := h
    obtain ⟨⟩ | ⟨⟨e, rfl, he⟩, h⟩ := h
    cases h
    exact ⟨(⟨a, b, c, d, e⟩ : Note), ⟨ha, hb, hc, hd, he⟩, fun β _ => .cons (L rfl) (.cons (L rfl) (.cons (L rfl) (.cons (L rfl) (.sole (L rfl)))))⟩
  | mark =>
    obtain ⟨⟩ | ⟨⟨a, rfl, ha⟩, h⟩ := h
    obtain ⟨⟩ | ⟨⟨b, rfl, hb⟩, h⟩ := h
    obtain ⟨⟩ | ⟨⟨c, rfl, hc⟩, h⟩ := h
    cases h
    exact ⟨(⟨a, b, c⟩ : Mark), ⟨ha, hb, hc⟩, fun β _ => .cons (L rfl) (.cons (L rfl) (.sole (L rfl)))⟩
  | mixed =>
    obtain ⟨⟩ | ⟨⟨a, rfl, ha⟩, h⟩ := h
    obtain ⟨⟩ | ⟨⟨b, rfl, hb⟩, h⟩ := h
    cases h
    exact ⟨(⟨a, b⟩ : Mixed), ⟨ha, hb⟩, fun β _ => .cons (L rfl) (.sole (L rfl))⟩
  | half =>
    obtain ⟨⟩ | ⟨⟨a, rfl, ha⟩, h⟩ := h
    obtain ⟨⟩ | ⟨⟨b, rfl, hb⟩, h⟩ := h
    obtain ⟨⟩ | ⟨⟨c, rfl, hc⟩, h⟩ := h
    obtain ⟨⟩ | ⟨⟨d, rfl, hd⟩, h⟩ := h
    obtain ⟨⟩ | ⟨⟨e, rfl, he⟩, h⟩ := h
    obtain ⟨⟩ | ⟨⟨xs, hx, hr⟩, h⟩ := h
    cases h
    exact ⟨(⟨a, b, c, d, e, xs⟩ : Half), ⟨ha, hb, hc, hd, he, hx⟩, fun β hβ => .cons (L rfl) (.cons (L rfl) (.cons (L rfl) (.cons (L rfl) (.cons (L rfl) (.sole (hr β hβ))))))⟩
  | keep =>
    obtain ⟨⟩ | ⟨⟨a, rfl, ha⟩, h⟩ := h
    obtain ⟨⟩ | ⟨⟨b, rfl, hb⟩, h⟩ := h
    obtain ⟨⟩ | ⟨⟨c, rfl, hc⟩, h⟩ := h
    obtain ⟨⟩ | ⟨⟨xs, hx, hrx⟩, h⟩ := h
    obtain ⟨⟩ | ⟨⟨ys, hy, hry⟩, h⟩ := h
    obtain ⟨⟩ | ⟨⟨zs, hz, hrz⟩, h⟩ := h
    cases h
    exact ⟨(⟨a, b, c, xs, ys, zs⟩ : Keep), ⟨ha, hb, hc, hx, hy, hz⟩, fun β hβ => .cons (L rfl) (.cons (L rfl) (.cons (L rfl) (.cons (hrx β hβ) (.cons (hry β hβ) (.sole (hrz β hβ))))))⟩
  | keeper =>
    obtain ⟨⟩ | ⟨⟨a, rfl, ha⟩, h⟩ := h
    obtain ⟨⟩ | ⟨⟨b, rfl⟩, h⟩ := h
    obtain ⟨⟩ | ⟨⟨c, rfl, hc⟩, h⟩ := h
    obtain ⟨⟩ | ⟨⟨d, rfl, hd⟩, h⟩ := h
    obtain ⟨⟩ | ⟨⟨xs, hx, hr⟩, h⟩ := h
    cases h
    exact ⟨(⟨a, b, c, d, xs⟩ : Keeper), ⟨ha, hc, hd, hx⟩, fun β hβ => .cons (L rfl) (.cons (L rfl) (.cons (L rfl) (.cons (L rfl) (.sole (hr β hβ)))))⟩
  | parcel =>
    obtain ⟨⟩ | ⟨⟨a, rfl, ha⟩, h⟩ := h
    obtain ⟨⟩ | ⟨⟨b, rfl, hb⟩, h⟩ := h
    obtain ⟨⟩ | ⟨⟨c, rfl, hc⟩, h⟩ := h
    obtain ⟨⟩ | ⟨⟨d, rfl⟩, h⟩ := h
    cases h
    exact ⟨(⟨a, b, c, d⟩ : Parcel), ⟨ha, hb, hc⟩, fun β _ => .cons (L rfl) (.cons (L rfl) (.cons (L rfl) (.sole (L rfl))))⟩
  | frame =>
    obtain ⟨⟩ | ⟨⟨a, rfl, ha⟩, h⟩ := h
    obtain ⟨⟩ | ⟨⟨b, rfl, hb⟩, h⟩ := h
    obtain ⟨⟩ | ⟨⟨c, rfl, hc⟩, h⟩ := h
    obtain ⟨⟩ | ⟨⟨d, rfl, hd⟩, h⟩ := h
    obtain ⟨⟩ | ⟨⟨e, rfl, he⟩, h⟩ := h
    obtain ⟨⟩ | ⟨⟨f, rfl, hf⟩, h⟩ := h
    obtain ⟨⟩ | ⟨⟨g, rfl, hg⟩, h⟩ := h
    obtain ⟨⟩ | ⟨⟨i, rfl, hi⟩, h⟩ := h
    obtain ⟨⟩ | ⟨⟨j, rfl, hj⟩, h⟩ := h
    obtain ⟨⟩ | ⟨⟨s, rfl, hs⟩, h⟩ := h
    cases h
    exact ⟨(⟨a, b, c, d, e, f, g, i, j, s⟩ : Frame), ⟨ha, hb, hc, hd, he, hf, hg, hi, hj, hs⟩, fun β _ => .cons (L rfl) (.cons (L rfl) (.cons (L rfl) (.cons (L rfl) (.cons (L rfl) (.cons (L rfl) (.cons (L rfl) (.cons (L rfl) (.cons (L rfl) (.sole (L rfl))))))))))⟩
  | event =>
    obtain ⟨⟩ | ⟨⟨a, rfl, ha⟩, h⟩ := h
    obtain ⟨⟩ | ⟨⟨b, rfl, hb⟩, h⟩ := h
    obtain ⟨⟩ | ⟨⟨c, rfl, hc⟩, h⟩ := h
    obtain ⟨⟩ | ⟨⟨d, rfl, hd⟩, h⟩ := h
    obtain ⟨⟩ | ⟨⟨e, rfl, he⟩, h⟩ := h
    obtain ⟨⟩ | ⟨⟨f, rfl, hf⟩, h⟩ := h
    obtain ⟨⟩ | ⟨⟨g, rfl, hg⟩, h⟩ := h
    obtain ⟨⟩ | ⟨⟨i, rfl, hi⟩, h⟩ := h
    obtain ⟨⟩ | ⟨⟨j, rfl, hj⟩, h⟩ := h
    obtain ⟨⟩ | ⟨⟨s, rfl, hs⟩, h⟩ := h
    cases h
    exact ⟨(⟨a, b, c, d, e, f, g, i, j, s⟩ : Event), ⟨ha, hb, hc, hd, he, hf, hg, hi, hj, hs⟩, fun β _ => .cons (L rfl) (.cons (L rfl) (.cons (L rfl) (.cons (L rfl) (.cons (L rfl) (.cons (L rfl) (.cons (L rfl) (.cons (L rfl) (.cons (L rfl) (.sole (L rfl))))))))))⟩
  | lk =>
    obtain ⟨⟩ | ⟨⟨a, rfl, ha⟩, h⟩ := h
    obtain ⟨⟩ | ⟨⟨b, rfl, hb⟩, h⟩ := h
    obtain ⟨⟩ | ⟨⟨c, rfl, hc⟩, h⟩ := h
    cases h
    exact ⟨(⟨a, b, c⟩ : LK), ⟨ha, hb, hc⟩, fun β _ => .cons (L rfl) (.cons (L rfl) (.sole (L rfl)))⟩
end
end Go.VS
namespace Go.VS
open Go
section
variable {H : Type} {enc0 : TypeId × Value → H} {P : Program} {w : World} {base : Nat} {spare : Nat → Bool} {held : Bool}
def Cells (enc0 : TypeId × Value → H) (P : Program) (w : World) (base : Nat) (spare : Nat → Bool) (held : Bool) : List TypeId → List Value → Prop
  | [], [] => True
  | t :: ts, c :: cs => (∃ bI d ps, DataW.trod enc0 P w base spare held bI t [c] = some (d, ps)) ∧ Cells enc0 P w base spare held ts cs
  | _, _ => False
theorem Cells.append : ∀ {ts us : List TypeId} {cs ds : List Value}, Cells enc0 P w base spare held ts cs → Cells enc0 P w base spare held us ds → Cells enc0 P w base spare held (ts ++ us) (cs ++ ds)
  | [], _, [], _, _, h => h
  | t :: ts, _, c :: cs, _, h, k => ⟨h.1, Cells.append h.2 k⟩
  | [], _, _ :: _, _, h, _ => h.elim
  | _ :: _, _, [], _, h, _ => h.elim
theorem Cells.length : ∀ {ts : List TypeId} {cs : List Value}, Cells enc0 P w base spare held ts cs → cs.length = ts.length
  | [], [], _ => rfl
  | t :: ts, c :: cs, h => by simp [Cells.length h.2]
  | [], _ :: _, h => h.elim
  | _ :: _, [], h => h.elim
theorem vn {α β : Type} {f : α → Option β} : ∀ {l : List α} {r : List β}, l.mapM f = some r → ∀ x ∈ l, ∃ y, f x = some y
  | [], _, _, _, hx => by cases hx
  | a :: l, r, h, x, hx => by
    rw [List.mapM_cons] at h
    obtain ⟨y, h1, h⟩ := Option.bind_eq_some_iff.1 h
    obtain ⟨ys, h2, h⟩ := Option.bind_eq_some_iff.1 h
    rcases List.mem_cons.1 hx with rfl | hx
    · exact ⟨y, h1⟩
    · exact vn h2 x hx
theorem EL {bI : Nat} {t : TypeId} {k : IntKind} {cs : List Value} {r : DataW H × List MemPlace} (ht : P.underlying t = some (.int k)) (h : DataW.trod enc0 P w base spare held bI t cs = some r) : ∃ n, cs = [.int k n] ∧ (Lit.int k n).wf = true := by
  cases bI with
  | zero => cases h
  | succ bI =>
    unfold DataW.trod at h
    rw [ht] at h
    split at h <;> first | (cases h; done) | skip
    all_goals (rename_i heq; cases heq)
    rename_i k' n
    split at h
    · rename_i hc
      obtain ⟨rfl, hw⟩ := hc
      exact ⟨_, rfl, hw⟩
    · cases h
theorem BY {bI : Nat} {t : TypeId} {cs : List Value} {r : DataW H × List MemPlace} (ht : P.underlying t = some .bool) (h : DataW.trod enc0 P w base spare held bI t cs = some r) : ∃ b, cs = [.bool b] := by
  cases bI with
  | zero => cases h
  | succ bI =>
    unfold DataW.trod at h
    rw [ht] at h
    split at h <;> first | (cases h; done) | skip
    all_goals (rename_i heq; cases heq)
    exact ⟨_, rfl⟩
theorem vY {bI : Nat} {t : TypeId} {cs : List Value} {r : DataW H × List MemPlace} (ht : P.underlying t = some .string) (h : DataW.trod enc0 P w base spare held bI t cs = some r) : ∃ s, cs = [.string s] ∧ wfS s := by
  cases bI with
  | zero => cases h
  | succ bI =>
    unfold DataW.trod at h
    rw [ht] at h
    split at h <;> first | (cases h; done) | skip
    all_goals (rename_i heq; cases heq)
    split at h
    · rename_i hc; exact ⟨_, rfl, hc⟩
    · cases h
theorem yJ {bI : Nat} {t e : TypeId} {cs : List Value} {r : DataW H × List MemPlace} (ht : P.underlying t = some (.slice e)) (h : DataW.trod enc0 P w base spare held bI t cs = some r) :
    cs = [.slice none 0 0] ∨ ∃ a len cap, cs = [.slice (some a) len cap] ∧ len ≤ cap ∧ cap ≤ maxLen ∧ ∀ i, i < len → ∃ es fuel' r', w.cells? base (a.add (i * P.cellsOf e)) (P.cellsOf e) = some es ∧ DataW.trod enc0 P w base spare held fuel' e es = some r' := by
  cases bI with
  | zero => cases h
  | succ bI =>
    unfold DataW.trod at h
    rw [ht] at h
    split at h <;> first | (cases h; done) | skip
    all_goals (rename_i heq; cases heq)
    · exact .inl rfl
    · rename_i a len cap
      refine .inr ⟨a, len, cap, rfl, ?_⟩
      simp only at h
      split at h
      · rename_i hc
        refine ⟨hc.2.1, hc.2.2, fun i hi => ?_⟩
        obtain ⟨elems, h1, _⟩ := Option.bind_eq_some_iff.1 h
        obtain ⟨y, hy⟩ := vn h1 i (List.mem_range.2 hi)
        obtain ⟨es, k1, k2⟩ := Option.bind_eq_some_iff.1 hy
        exact ⟨es, bI, y, k1, k2⟩
      · cases h
theorem HE {bI : Nat} {t : TypeId} {fs : Array Field} {cs : List Value} {r : DataW H × List MemPlace} (ht : P.underlying t = some (.struct fs)) (h : DataW.trod enc0 P w base spare held bI t cs = some r) :
    cs.length = P.cellsOf t ∧ ∀ f ∈ fs.toList, ∃ fuel' r', DataW.trod enc0 P w base spare held fuel' f.type ((cs.drop f.offset).take (P.cellsOf f.type)) = some r' := by
  cases bI with
  | zero => cases h
  | succ bI =>
    simp only [DataW.trod, ht] at h
    split at h
    · rename_i hc
      obtain ⟨xs, h1, _⟩ := Option.map_eq_some_iff.1 h
      refine ⟨hc, fun f hf => ?_⟩
      obtain ⟨y, hy⟩ := vn h1 f hf
      exact ⟨bI, y, hy⟩
    · cases h
mutual
theorem tP : ∀ (n : Nat) (t : TypeId) {ts : List TypeId} {bI : Nat} {cs : List Value} {r : DataW H × List MemPlace}, Bq P n t = some ts → DataW.trod enc0 P w base spare held bI t cs = some r → Cells enc0 P w base spare held ts cs
  | 0, _, _, _, _, _, h, _ => by cases h
  | n + 1, t, ts, bI, cs, r, h, hr => by
    unfold Bq at h
    split at h
    · rename_i fs ht
      obtain ⟨us, h1, h⟩ := Option.bind_eq_some_iff.1 h
      split at h
      case h_2 => cases h
      rename_i hl
      cases h
      obtain ⟨k1, k2⟩ := HE ht hr
      have hl := ak hl
      have := z6 n 0 fs.toList h1 (cs := cs) (by simp [k1, hl]) (fun f hf => k2 f hf)
      simpa using this
    · rename_i k ht
      cases h
      obtain ⟨x, rfl, _⟩ := EL ht hr
      exact ⟨⟨_, r.1, r.2, hr⟩, trivial⟩
    · rename_i ht
      cases h
      obtain ⟨x, rfl⟩ := BY ht hr
      exact ⟨⟨_, r.1, r.2, hr⟩, trivial⟩
    · rename_i ht
      cases h
      obtain ⟨x, rfl, _⟩ := vY ht hr
      exact ⟨⟨_, r.1, r.2, hr⟩, trivial⟩
    · rename_i e ht
      cases h
      rcases yJ ht hr with rfl | ⟨a, len, cap, rfl, _⟩
      · exact ⟨⟨_, r.1, r.2, hr⟩, trivial⟩
      · exact ⟨⟨_, r.1, r.2, hr⟩, trivial⟩
    · cases h
theorem z6 : ∀ (n o : Nat) (fs : List Field) {ts : List TypeId} {cs : List Value}, Kq P n o fs = some ts → cs.length = o + ts.length → (∀ f ∈ fs, ∃ bI r, DataW.trod enc0 P w base spare held bI f.type ((cs.drop f.offset).take (P.cellsOf f.type)) = some r) →
    Cells enc0 P w base spare held ts (cs.drop o)
  | n, o, [], ts, cs, h, hl, _ => by
    have h : some [] = some ts := by cases n <;> exact h
    cases h
    have : cs.drop o = [] := List.drop_eq_nil_of_le (by simp at hl; omega)
    rw [this]
    trivial
  | 0, _, _ :: _, _, _, h, _, _ => by cases h
  | n + 1, o, f :: fs, ts, cs, h, hl, hf => by
    unfold Kq at h
    obtain ⟨us, h1, h⟩ := Option.bind_eq_some_iff.1 h
    split at h
    case h_2 => cases h
    rename_i hc
    simp only [Bool.and_eq_true] at hc
    obtain ⟨vs, h2, h⟩ := Option.bind_eq_some_iff.1 h
    cases h
    obtain ⟨bI, r, hr⟩ := hf f List.mem_cons_self
    rw [ak hc.1, ak hc.2] at hr
    have k1 := tP n f.type h1 hr
    have k2 := z6 n (o + us.length) fs h2 (cs := cs) (by simp at hl ⊢; omega) (fun g hg => hf g (List.mem_cons_of_mem _ hg))
    have e : cs.drop o = (cs.drop o).take us.length ++ cs.drop (o + us.length) := by
      rw [← List.drop_drop]
      exact (List.take_append_drop _ _).symm
    rw [e]
    exact k1.append k2
end
theorem Me (b f n : Nat) : (⟨b, f, none⟩ : Addr).add n = ⟨b, f + n, none⟩ := by
  unfold Addr.add
  split
  · rename_i h; subst h; rfl
  · rfl
theorem QE {b f n : Nat} {es : List Value} (h : w.cells? base ⟨b, f, none⟩ n = some es) : es.length = n ∧ ∀ j, j < n → w.cell? ⟨b, f + j, none⟩ = some (es.getD j undef) := by
  unfold World.cells? at h
  split at h
  case isFalse => cases h
  have gen : ∀ (l : List Nat) {es : List Value}, l.mapM (fun i => w.cell? ((⟨b, f, none⟩ : Addr).add i)) = some es → es.length = l.length ∧ ∀ j x, l[j]? = some x → w.cell? ⟨b, f + x, none⟩ = some (es.getD j undef) := by
    intro l
    induction l with
    | nil => intro es h; cases h; exact ⟨rfl, fun j x hx => by simp at hx⟩
    | cons a l ih =>
      intro es h
      rw [List.mapM_cons] at h
      obtain ⟨y, h1, h⟩ := Option.bind_eq_some_iff.1 h
      obtain ⟨ys, h2, h⟩ := Option.bind_eq_some_iff.1 h
      cases h
      obtain ⟨k1, k2⟩ := ih h2
      refine ⟨by simp [k1], fun j x hx => ?_⟩
      cases j with
      | zero =>
        simp at hx
        subst hx
        rw [Me] at h1
        simpa using h1
      | succ j => simpa using k2 j x (by simpa using hx)
  obtain ⟨k1, k2⟩ := gen _ h
  exact ⟨by simpa using k1, fun j hj => k2 j j (by simp [hj])⟩
mutual
theorem O4 : ∀ (n : Nat) (t : TypeId) (c : CT) {v : Value}, J0 P n t c = true → (∃ bI d ps, DataW.trod enc0 P w base spare held bI t [v] = some (d, ps)) → Sr w c v
  | 0, _, _, _, h, _ => by simp [J0] at h
  | n + 1, t, c, v, h, ⟨bI, d, ps, hr⟩ => by
    unfold J0 at h
    split at h
    · rename_i k k' ht
      simp at h
      subst h
      obtain ⟨x, e, hw⟩ := EL ht hr
      cases e
      exact ⟨x, rfl, hw⟩
    · rename_i ht
      obtain ⟨x, e⟩ := BY ht hr
      cases e
      exact ⟨x, rfl⟩
    · rename_i ht
      obtain ⟨x, e, hw⟩ := vY ht hr
      cases e
      exact ⟨x, rfl, hw⟩
    · rename_i e k ht
      simp only [Bool.and_eq_true] at h
      have hsz := ak h.1
      rcases yJ ht hr with e | ⟨a, len, cap, e, hlc, hcm, hel⟩
      · cases e
        exact ⟨[], ⟨Nat.zero_le _, by simp⟩, fun β _ => .nil⟩
      · cases e
        rw [hsz] at hel
        have hch : ∀ i : Nat, ∃ p : Tof k × List Value, i < len → wfK k p.1 ∧ w.cells? base (a.add (i * ks k)) (ks k) = some p.2 ∧ ∀ β : Beta, (∀ b, ¬ MZ β b) → RL (RC w β) (enc k p.1) p.2 := by
          intro i
          by_cases hi : i < len
          · obtain ⟨es, fuel', r', k1, k2⟩ := hel i hi
            obtain ⟨x, k3, k4⟩ := OY n _ k h.2 (bI := fuel') (r := r') k2
            exact ⟨(x, es), fun _ => ⟨k3, k1, k4⟩⟩
          · exact ⟨(dfl k, []), fun h => absurd h hi⟩
        obtain ⟨X, hX⟩ := Classical.axiomOfChoice hch
        refine ⟨(List.range len).map fun i => (X i).1, ⟨by simp; omega, fun x hx => ?_⟩, fun β hβ => ?_⟩
        · obtain ⟨i, hi, rfl⟩ := List.mem_map.1 hx
          exact (hX i (List.mem_range.1 hi)).1
        · cases len with
          | zero => exact .nil
          | succ len =>
            obtain ⟨b, f, sp⟩ := a
            have h0 := (hX 0 (by omega)).2.1
            have hsp : sp = none := by
              rw [Nat.zero_mul] at h0
              unfold World.cells? at h0
              split at h0
              case isFalse => cases h0
              obtain ⟨y, hy⟩ := vn h0 0 (List.mem_range.2 (jg k))
              unfold World.cell? at hy
              split at hy
              · split at hy
                · cases hy
                · rename_i hn
                  cases sp with
                  | none => rfl
                  | some x => exact absurd rfl hn
              · cases hy
            subst hsp
            have hcell : ∀ i j, i < len + 1 → j < ks k → w.cell? ⟨b, f + (i * ks k + j), none⟩ = some ((X i).2.getD j undef) := fun i j hi hj => by
              have h1 := (hX i hi).2.1
              rw [Me] at h1
              have := (QE h1).2 j hj
              rw [← Nat.add_assoc]
              exact this
            refine .sl (fun i j => (X i).2.getD j undef) ⟨by simp, hlc⟩ (hβ b) (fun i j hi hj => hcell i j (by simpa using hi) hj) (fun i x j c hx hc => ?_)
            have hi : i < len + 1 := by have := (List.getElem?_eq_some_iff.1 hx).1; simpa using this
            have hx' : x = (X i).1 := by
              rw [List.getElem?_map, List.getElem?_range hi] at hx
              exact (Option.some.inj hx).symm
            subst hx'
            have hj : j < ks k := by rw [← az k (X i).1]; exact (List.getElem?_eq_some_iff.1 hc).1
            have hR := (hX i hi).2.2 β hβ
            have hlen : (X i).2.length = ks k := by rw [hR.1, az]
            exact hR.2 j c _ hc (by simp [hlen, hj])
    · cases h
theorem OY : ∀ (n : Nat) (e : TypeId) (k : K) {bI : Nat} {cs : List Value} {r : DataW H × List MemPlace}, JZ P n e k = true → DataW.trod enc0 P w base spare held bI e cs = some r → ∃ x : Tof k, wfK k x ∧ ∀ β : Beta, (∀ b, ¬ MZ β b) → RL (RC w β) (enc k x) cs
  | 0, _, _, _, _, _, h, _ => by simp [JZ] at h
  | n + 1, e, k, bI, cs, r, h, hr => by
    unfold JZ at h
    split at h
    · rename_i ts hts
      exact Rz (uE n ts (kct k) h (tP 16 e hts hr))
    · cases h
theorem uE : ∀ (n : Nat) (ts : List TypeId) (ks : List CT) {cs : List Value}, mV P n ts ks = true → Cells enc0 P w base spare held ts cs → Facts w ks cs
  | n, [], [], [], _, _ => .nil
  | n, [], [], _ :: _, _, h => h.elim
  | n + 1, t :: ts, c :: ks, v :: cs, h, hc => by
    simp only [mV, Bool.and_eq_true] at h
    exact .cons (O4 n t c h.1 hc.1) (uE n ts ks h.2 hc.2)
  | 0, _ :: _, _, _, h, _ => by simp [mV] at h
  | n + 1, _ :: _, [], _, h, _ => by simp [mV] at h
  | n, [], _ :: _, _, h, _ => by cases n <;> simp [mV] at h
  | n + 1, _ :: _, _ :: _, [], _, hc => hc.elim
end
end
end Go.VS
