/- An evaluator of the program's own code with its soundness, the printed texts of the functions, and plain laws of them (part 15). -/
import Derived.Lib.ItoaMem
import Derived.Test.YtglanhfbbbcjbaaGreatDoorQAN
set_option linter.unusedVariables false
set_option linter.unusedSimpArgs false
namespace Go.VS
open Go
theorem OE {A R : Type} {t : (A → Option R) → A → Option R} {x : A} {v : R} (hv : ∀ k r, bD t k x = some r → r = v) (he : ∃ k, bD t k x = some v) : I5 t x = some v := by
  cases h : I5 t x with
  | none =>
    exfalso
    obtain ⟨k, hk⟩ := he
    unfold I5 at h
    rw [dif_pos ⟨k, v, hk⟩] at h
    cases h
  | some r =>
    obtain ⟨k, hk⟩ := G6 h
    rw [hv k r hk]
theorem zi {σ β γ : Type} {b : σ → Option (σ ⊕ (β ⊕ γ))} (st : Nat → σ) (n : Nat) (p : Nat → Bool) (r : β) (fin : γ)
    (h : ∀ i, i < n → (∀ j, j < i → p j = true) → b (st i) = some (if p i then .inl (st (i + 1)) else .inr (.inl r)))
    (hn : (∀ j, j < n → p j = true) → b (st n) = some (.inr (.inr fin))) : aA b (st 0) = some (if aN n p then .inr fin else .inl r) := by
  have : ∀ k, k ≤ n → (∀ j, j < n - k → p j = true) → aA b (st (n - k)) = some (if la p k (n - k) then .inr fin else .inl r) := by
    intro k
    induction k with
    | zero => intro _ hp; exact cW (hn hp)
    | succ k ih =>
      intro hk hp
      have h1 := h (n - (k + 1)) (by omega) hp
      unfold la
      rcases tf (p (n - (k + 1))) with hq | hq
      · rw [hq] at h1
        rw [hq, Bool.true_and]
        refine mg h1 ?_
        rw [show n - (k + 1) + 1 = n - k by omega]
        exact ih (by omega) (fun j hj => by
          rcases Nat.lt_or_ge j (n - (k + 1)) with h2 | h2
          · exact hp j h2
          · rw [show j = n - (k + 1) by omega]; exact hq)
      · rw [hq] at h1
        rw [hq, Bool.false_and]
        exact cW h1
  have := this n (Nat.le_refl _) (fun j hj => by omega)
  rwa [Nat.sub_self] at this
abbrev dcm (u : Nat) : List UInt8 := Lib.decDigits u
theorem c6 {u : Nat} (h : u < 10) : dcm u = [UInt8.ofNat (48 + u)] := Lib.decDigits_one h
theorem ma {u : Nat} (h : ¬ u < 10) : dcm u = dcm (u / 10) ++ [UInt8.ofNat (48 + u % 10)] := by rw [dcm, Lib.decDigits, dif_neg h]
theorem nG : ∀ (k u : Nat), 1 ≤ k → u < 10 ^ k → (dcm u).length ≤ k
  | 0, _, h, _ => by omega
  | 1, u, _, h => by rw [c6 (by omega)]; simp
  | k + 2, u, _, h => by
    by_cases h1 : u < 10
    · rw [c6 h1]; simp
    · rw [ma h1]
      have := nG (k + 1) (u / 10) (by omega) (by rw [Nat.pow_succ] at h; omega)
      simp
      omega
theorem dB (u : Nat) : Lib.itoa (u : Int) = dcm u := Lib.itoa_nonneg u
noncomputable def c7 (n : Int) : ByteArray := ⟨(Lib.itoa n).toArray⟩
theorem CB {n : Nat} (h : n < 10) : Fj [w8 (w64 (48 + (n : Int)))] = ⟨(dcm n).toArray⟩ := by
  rw [c6 h, aP (by omega) (by omega), Mx, show (48 + (n : Int)) % 256 = ((48 + n : Nat) : Int) by omega]
  rfl
theorem Io (u : Nat) : Int.tdiv (u : Int) 10 = ((u / 10 : Nat) : Int) := rfl
theorem In (u : Nat) : Int.tmod (u : Int) 10 = ((u % 10 : Nat) : Int) := rfl
theorem CC (u : Nat) : Fj [w8 (w64 (48 + ((u % 10 : Nat) : Int)))] = ⟨[UInt8.ofNat (48 + u % 10)].toArray⟩ := by
  rw [CB (by omega), c6 (by omega)]
theorem JX (a b : List UInt8) : (⟨a.toArray⟩ : ByteArray) ++ ⟨b.toArray⟩ = ⟨(a ++ b).toArray⟩ := by
  apply tk
  rw [N0]
theorem Je : Lib.decDigits 9223372036854775808 = [57, 50, 50, 51, 51, 55, 50, 48, 51, 54, 56, 53, 52, 55, 55, 53, 56, 48, 56] := by
  show dcm _ = _
  repeat (first | rw [c6 (by omega)] | rw [ma (by omega)])
  rfl
theorem tH : ∀ (k : Nat) (n : Int), -9223372036854775808 ≤ n → n ≤ 9223372036854775807 → ∀ r, bD (fun g => aC g) k (n, ()) = some r → r = ((c7 n, ()), ())
  | 0, _, _, _, r, h => by cases h
  | k + 1, n, h0, h1, r, h => by
    have ih := tH k
    replace h : aC (bD (fun g => aC g) k) (n, ()) = some r := h
    generalize bD (fun g => aC g) k = G at ih h
    unfold aC at h
    by_cases hn : n < -9223372036854775807
    · simp only [hn, decide_true, if_true] at h
      cases h
      obtain rfl : n = -9223372036854775808 := by omega
      have : c7 (-9223372036854775808) = B [45, 57, 50, 50, 51, 51, 55, 50, 48, 51, 54, 56, 53, 52, 55, 55, 53, 56, 48, 56] := by
        apply tk
        show Lib.itoa (-9223372036854775808) = _
        rw [show (-9223372036854775808 : Int) = -((9223372036854775808 : Nat) : Int) by rfl, Lib.itoa_neg _ (by omega)]
        rw [L_B]
        rw [Je]
      rw [this]
    · rw [if_neg (by simpa using hn)] at h
      by_cases hneg : n < 0
      · rw [if_pos (by simpa using hneg)] at h
        simp only at h
        rw [aP (by omega) (by omega)] at h
        obtain ⟨r4, e4, h⟩ := Option.bind_eq_some_iff.1 h
        have := ih (0 - n) (by omega) (by omega) r4 e4
        subst this
        split at h
        · cases h
          obtain ⟨u, hu⟩ := Int.eq_ofNat_of_zero_le (show 0 ≤ -n by omega)
          obtain rfl : n = -(u : Int) := by omega
          have : c7 (-(u : Int)) = B [45] ++ c7 (0 - -(u : Int)) := by
            unfold c7
            rw [Lib.itoa_neg _ (by omega), show (0 : Int) - -(u : Int) = (u : Int) by omega, dB]
            rw [B, JX]
            rfl
          rw [this]
        · cases h
      · rw [if_neg (by simpa using hneg)] at h
        obtain ⟨u, hu⟩ := Int.eq_ofNat_of_zero_le (show 0 ≤ n by omega)
        obtain rfl : n = (u : Int) := hu
        by_cases hs : u < 10
        · rw [if_pos (by simp; omega)] at h
          simp only at h
          cases h
          rw [CB hs, c7, dB]
        · rw [if_neg (by simp; omega)] at h
          simp only [Io, In] at h
          rw [aP (by omega) (by omega)] at h
          obtain ⟨r7, e7, h⟩ := Option.bind_eq_some_iff.1 h
          have := ih ((u / 10 : Nat) : Int) (by omega) (by omega) r7 e7
          subst this
          split at h
          · cases h
            rw [CC, c7, c7, dB, dB, JX, ← ma hs]
          · cases h
theorem y4 : ∀ (k u : Nat), 1 ≤ k → k ≤ 19 → u < 10 ^ k → u ≤ 9223372036854775807 → bD (fun g => aC g) k ((u : Int), ()) = some ((⟨(dcm u).toArray⟩, ()), ())
  | 0, _, h, _, _, _ => by omega
  | k + 1, u, _, hk, h, h63 => by
    have e1 : decide ((u : Int) < -9223372036854775807) = false := by simp
    have e2 : decide ((u : Int) < 0) = false := by simp
    have ih := y4 k (u / 10)
    show aC (bD (fun g => aC g) k) _ = _
    generalize bD (fun g => aC g) k = G at ih
    unfold aC
    simp only [e1, e2, Io, In, if_neg Bool.false_ne_true]
    by_cases hs : u < 10
    · rw [if_pos (by simp; omega), CB hs]
    · rw [if_neg (by simp; omega), aP (by omega) (by omega)]
      have hk0 : 1 ≤ k := by
        rcases Nat.eq_zero_or_pos k with rfl | h'
        · simp at h; omega
        · exact h'
      have hlt : u / 10 < 10 ^ k := by rw [Nat.pow_succ] at h; omega
      have hl := nG k (u / 10) hk0 hlt
      rw [ih hk0 (by omega) hlt (by omega)]
      simp only [Option.bind_some]
      rw [if_pos, CC, JX, ← ma hs]
      have : (⟨(dcm (u / 10)).toArray⟩ : ByteArray).size = (dcm (u / 10)).length := rfl
      rw [decide_eq_true_eq, this, CC]
      show _ + 1 ≤ _
      omega
theorem cu {n : Int} (h0 : -9223372036854775808 ≤ n) (h1 : n ≤ 9223372036854775807) : ap (n, ()) = some ((c7 n, ()), ()) := by
  refine OE (fun k r h => tH k n h0 h1 r h) ?_
  have hbig : ∀ u : Nat, u ≤ 9223372036854775807 → u < 10 ^ 19 := fun u hu => by omega
  by_cases hn : n < -9223372036854775807
  · refine ⟨1, ?_⟩
    cases h : bD (fun g => aC g) 1 (n, ()) with
    | none => simp only [bD] at h; unfold aC at h; rw [if_pos (by simpa using hn)] at h; cases h
    | some r => rw [tH 1 n h0 h1 r h]
  · by_cases hneg : n < 0
    · refine ⟨20, ?_⟩
      cases h : bD (fun g => aC g) 20 (n, ()) with
      | none =>
        obtain ⟨u, hu⟩ := Int.eq_ofNat_of_zero_le (show 0 ≤ -n by omega)
        have ih := y4 19 u (by omega) (by omega) (hbig u (by omega)) (by omega)
        replace h : aC (bD (fun g => aC g) 19) (n, ()) = none := h
        generalize bD (fun g => aC g) 19 = G at ih h
        unfold aC at h
        rw [if_neg (by simpa using hn), if_pos (by simpa using hneg)] at h
        simp only at h
        rw [aP (by omega) (by omega), show 0 - n = (u : Int) by omega, ih] at h
        simp only [Option.bind_some] at h
        rw [if_pos] at h
        · cases h
        · have hl := nG 19 u (by omega) (hbig u (by omega))
          have e : (⟨(dcm u).toArray⟩ : ByteArray).size = (dcm u).length := rfl
          rw [decide_eq_true_eq, e]
          show 1 + _ ≤ _
          omega
      | some r => rw [tH 20 n h0 h1 r h]
    · obtain ⟨u, hu⟩ := Int.eq_ofNat_of_zero_le (show 0 ≤ n by omega)
      obtain rfl : n = (u : Int) := hu
      exact ⟨19, by rw [y4 19 u (by omega) (by omega) (hbig u (by omega)) (by omega), c7, dB]⟩
theorem HO {n : Int} (h0 : -9223372036854775808 ≤ n) (h1 : n ≤ 9223372036854775807) : cM (n, ()) = some ((c7 n, ()), ()) := by
  show IV _ = _
  unfold IV
  rw [if_pos ⟨h0, h1⟩]
  rfl
def dig (b : UInt8) : Bool := inB (b.toNat : Int) 48 57
def val (l : List UInt8) : Nat := l.foldl (fun a b => 10 * a + (b.toNat - 48)) 0
theorem w6 (l : List UInt8) (b : UInt8) : val (l ++ [b]) = 10 * val l + (b.toNat - 48) := by simp [val]
theorem Lc {l : List UInt8} {i : Nat} (h : i < l.length) : l.take (i + 1) = l.take i ++ [l.getD i 0] := by
  rw [List.take_add_one, List.getElem?_eq_getElem h]
  simp [h]
theorem Hu : ∀ (k : Nat) (l : List UInt8), l.length ≤ k → (∀ b ∈ l, dig b = true) → val l < 10 ^ k := by
  intro k
  induction k with
  | zero =>
    intro l hl _
    obtain rfl : l = [] := List.eq_nil_of_length_eq_zero (by omega)
    decide
  | succ k ih =>
    intro l hl hd
    rcases List.eq_nil_or_concat l with rfl | ⟨m, b, rfl⟩
    · exact Nat.pow_pos (by decide)
    · simp at hl hd
      have h1 := ih m (by omega) (fun x hx => hd x (.inl hx))
      have h2 := hd b (.inr rfl)
      rw [List.concat_eq_append, w6, Nat.pow_succ]
      have h3 := be.1 h2
      omega
theorem N6 {m : List UInt8} : ∀ {b : UInt8}, dig b = true → b ≠ 48 → (∀ x ∈ m, dig x = true) → 1 ≤ val (b :: m) := by
  intro b hb hne hd
  have h0 : 1 ≤ val [b] := by
    have := be.1 hb
    have hn : b.toNat ≠ 48 := fun h => hne (UInt8.toNat_inj.1 h)
    simp [val]
    omega
  have : ∀ (m : List UInt8) (a : Nat), 1 ≤ a → 1 ≤ m.foldl (fun a b => 10 * a + (b.toNat - 48)) a := by
    intro m
    induction m with
    | nil => intro a h; exact h
    | cons x m ih => intro a h; exact ih _ (show 1 ≤ 10 * a + (x.toNat - 48) by omega)
  exact this m _ (by simpa [val] using h0)
def AM (l : List UInt8) : Bool := match l with
  | [] => false
  | [_] => true
  | b :: _ :: _ => !decide (b = 48)
theorem KV : ∀ (k : Nat) (l : List UInt8), l.length = k → (∀ b ∈ l, dig b = true) → AM l = true → dcm (val l) = l := by
  intro k
  induction k with
  | zero => intro l hl _ h; obtain rfl : l = [] := List.eq_nil_of_length_eq_zero hl; cases h
  | succ k ih =>
    intro l hl hd hlead
    rcases List.eq_nil_or_concat l with rfl | ⟨m, b, rfl⟩
    · cases hlead
    · rw [List.concat_eq_append] at *
      simp at hl
      have hb := hd b (by simp)
      have hb2 := be.1 hb
      have hof : ∀ n, b.toNat = n → UInt8.ofNat n = b := fun n h => by rw [← h]; simp
      cases m with
      | nil =>
        have : val ([] ++ [b]) = b.toNat - 48 := by simp [val]
        rw [this, c6 (by omega), hof _ (by omega)]
        rfl
      | cons c m =>
        have hc : c ≠ 48 := by
          cases m <;> simpa [AM] using hlead
        have h1 := N6 (m := m) (hd c (by simp)) hc (fun x hx => hd x (by simp [hx]))
        rw [w6, ma (by omega), show (10 * val (c :: m) + (b.toNat - 48)) / 10 = val (c :: m) by omega, show (10 * val (c :: m) + (b.toNat - 48)) % 10 = b.toNat - 48 by omega,
          ih (c :: m) hl (fun x hx => hd x (List.mem_append_left _ hx)) (by cases m <;> simp [AM, hc]), hof _ (by omega)]
theorem HX : ∀ (k u : Nat), u < k → ∀ b ∈ dcm u, dig b = true := by
  intro k
  induction k with
  | zero => intro u h; omega
  | succ k ih =>
    intro u h b hb
    have hd : ∀ n, n < 10 → dig (UInt8.ofNat (48 + n)) = true := fun n hn => by
      have : (UInt8.ofNat (48 + n)).toNat = 48 + n := by simp; omega
      unfold dig
      rw [this]
      exact be.2 ⟨by omega, by omega⟩
    by_cases hu : u < 10
    · rw [c6 hu] at hb
      obtain rfl := List.mem_singleton.1 hb
      exact hd u hu
    · rw [ma hu] at hb
      rcases List.mem_append.1 hb with hb | hb
      · exact ih (u / 10) (by omega) b hb
      · obtain rfl := List.mem_singleton.1 hb
        exact hd _ (by omega)
theorem Ce : ∀ (k u : Nat), u < k → val (dcm u) = u := by
  intro k
  induction k with
  | zero => intro u h; omega
  | succ k ih =>
    intro u h
    by_cases hu : u < 10
    · rw [c6 hu]
      have : (UInt8.ofNat (48 + u)).toNat = 48 + u := by simp; omega
      simp only [val, List.foldl_cons, List.foldl_nil, this]
      omega
    · rw [ma hu, w6, ih (u / 10) (by omega)]
      have : (UInt8.ofNat (48 + u % 10)).toNat = 48 + u % 10 := by simp; omega
      rw [this]
      omega
theorem NH (u : Nat) : dcm u ≠ [] := by
  by_cases hu : u < 10
  · rw [c6 hu]; simp
  · rw [ma hu]; simp
theorem Jf : ∀ (k u : Nat), u < k → AM (dcm u) = true ∧ (1 ≤ u → ∃ b m, dcm u = b :: m ∧ b ≠ 48) := by
  intro k
  induction k with
  | zero => intro u h; omega
  | succ k ih =>
    intro u h
    by_cases hu : u < 10
    · rw [c6 hu]
      refine ⟨rfl, fun h1 => ⟨_, _, rfl, fun h2 => ?_⟩⟩
      have : (UInt8.ofNat (48 + u)).toNat = 48 + u := by simp; omega
      rw [h2] at this
      simp at this
      omega
    · obtain ⟨b, m, h1, h2⟩ := (ih (u / 10) (by omega)).2 (by omega)
      rw [ma hu, h1]
      refine ⟨?_, fun _ => ⟨b, _, rfl, h2⟩⟩
      cases m <;> simp [AM, h2]
def Dk (l : List UInt8) : Option Nat := if l.all dig && AM l then some (val l) else none
theorem oq {l : List UInt8} {n : Nat} : Dk l = some n ↔ l = dcm n := by
  unfold Dk
  constructor
  · intro h
    split at h
    · rename_i hc
      simp at hc
      cases h
      exact (KV _ l rfl hc.1 hc.2).symm
    · cases h
  · rintro rfl
    rw [if_pos, Ce (n + 1) n (by omega)]
    simp only [Bool.and_eq_true, List.all_eq_true]
    exact ⟨HX (n + 1) n (by omega), (Jf (n + 1) n (by omega)).1⟩
end Go.VS
namespace Go.VS
open Go
theorem Pq {s : ByteArray} {i : Nat} : inB (bt s i) 48 57 = dig ((L s).getD i 0) := rfl
theorem KZ {l : List UInt8} {f : UInt8 → Bool} : aN l.length (fun i => f (l.getD i 0)) = l.all f := by
  rw [Bool.eq_iff_iff, lp, List.all_eq_true]
  constructor
  · intro h x hx
    obtain ⟨i, hi, rfl⟩ := List.getElem_of_mem hx
    have := h i hi
    simpa [hi] using this
  · intro h i hi
    simpa [hi] using h _ (List.getElem_mem hi)
theorem Am {s : ByteArray} {i : Nat} (h : ∀ j, j < i → inB (bt s j) 48 57 = true) (hi : i ≤ s.size) : ∀ b ∈ (L s).take i, dig b = true := by
  intro b hb
  obtain ⟨j, hj, rfl⟩ := List.getElem_of_mem hb
  simp at hj
  have h1 := h j (by omega)
  rw [Pq] at h1
  have h2 : j < (L s).length := by rw [lq]; omega
  rw [List.getElem_take]
  have e : (L s).getD j 0 = (L s)[j] := by rw [List.getD_eq_getElem?_getD, List.getElem?_eq_getElem h2]; rfl
  rwa [e] at h1
theorem Ih {s : ByteArray} {i : Nat} (hi : i < s.size) : val ((L s).take (i + 1)) = 10 * val ((L s).take i) + (((L s).getD i 0).toNat - 48) := by
  rw [Lc (by rw [lq]; exact hi), w6]
def aq (s : ByteArray) : Int × Bool := if s.size ≤ 5 then (match Dk (L s) with | some n => ((n : Int), true) | none => (0, false)) else (0, false)
theorem Oq {s : ByteArray} (h : 1 ≤ s.size) : AM (L s) = !(decide (bt s 0 = 48) && decide (1 < (s.size : Int))) := by
  rw [show s.size = (L s).length from rfl] at *
  unfold bt
  show _ = !(decide ((((L s).getD 0 0).toNat : Int) = 48) && _)
  generalize L s = l at *
  match l with
  | [] => simp at h
  | [b] => simp [AM]
  | b :: c :: m =>
    have : (((b : UInt8).toNat : Int) = 48) ↔ b = 48 := ⟨fun h => UInt8.toNat_inj.1 (by show b.toNat = 48; omega), fun h => by subst h; rfl⟩
    simp only [AM, List.getD_cons_zero, this]
    simp
    omega
theorem At (s : ByteArray) : (L s).take s.size = L s := List.take_of_length_le (by rw [lq]; exact Nat.le_refl _)
theorem jx {s : ByteArray} (hs : s.size ≤ 9223372036854775807) : cj (s, ()) = some (((aq s).1, (aq s).2, ()), ()) := by
  unfold cj aq
  simp only [cf, Option.bind_some]
  by_cases h5 : s.size ≤ 5
  · by_cases h1 : 1 ≤ s.size
    · have e1 : inB (s.size : Int) 1 5 = true := be.2 ⟨by omega, by omega⟩
      have e2 : inb 0 s.size = true := by have := ae (show 0 < s.size by omega); simpa using this
      have hloop : iq (s, 0, 0, ()) = some (if aN s.size (fun i => inB (bt s i) 48 57) then .inr ((val (L s) : Int), ()) else .inl (0, false, ())) := by
        rw [← At s]
        refine zi (fun i => (s, (val ((L s).take i) : Int), (i : Int), ())) s.size (fun i => inB (bt s i) 48 57) (0, false, ()) ((val ((L s).take s.size) : Int), ()) (fun i hi hp => ?_) (fun _ => by simp [gN])
        unfold gN
        simp only [ae hi, ak hi, My, cf, Option.bind_some, ab hi (by omega : s.size ≤ 9223372036854775807)]
        rcases tf (inB (bt s i) 48 57) with h | h
        · have hv := Hu 5 _ (by simp; omega) (Am hp (by omega))
          have hb := be.1 h
          have e : w64 (w64 (10 * (val ((L s).take i) : Int)) + w64 (w8 (bt s i - 48))) = (val ((L s).take (i + 1)) : Int) := by
            rw [Ih hi, Mx, aP (n := 10 * _) (by omega) (by omega), Int.emod_eq_of_lt (by omega) (by omega), aP (n := bt s i - 48) (by omega) (by omega), aP (by omega) (by omega)]
            rw [Fa] at hb ⊢
            omega
          simp only [h, e]
          rfl
        · simp only [h]
          rfl
      rw [e1, e2, if_pos h5]
      simp only [hloop, Bool.not_true, Bool.not_false, Bool.false_or, bU, if_true]
      have hall : aN s.size (fun i => inB (bt s i) 48 57) = (L s).all dig := KZ (l := L s) (f := dig)
      rw [hall]
      unfold Dk
      rw [Oq h1]
      rcases tf (decide (bt s 0 = 48) && decide (1 < (s.size : Int))) with h | h
      · rw [h]; simp
      · rw [h]
        rcases tf ((L s).all dig) with h' | h'
        · rw [h']; rfl
        · rw [h']; rfl
    · have e1 : inB (s.size : Int) 1 5 = false := by simp [inB]; omega
      have : L s = [] := List.eq_nil_of_length_eq_zero (by rw [lq]; omega)
      rw [e1, if_pos h5, this]
      simp [Dk, AM]
  · have e1 : inB (s.size : Int) 1 5 = false := by simp [inB]; omega
    rw [e1, if_neg h5]
    simp
def an (s : ByteArray) : Int := if s.size ≤ 4 then (match Dk (L s) with | some n => (n : Int) | none => -1) else -1
theorem NI (u : Nat) : c7 (u : Int) = ⟨(dcm u).toArray⟩ := by rw [c7, dB]
theorem pp {s : ByteArray} (hs : s.size ≤ 9223372036854775807) : dd (s, ()) = some ((an s, ()), ()) := by
  unfold dd an
  by_cases h5 : s.size ≤ 4
  · by_cases h1 : 1 ≤ s.size
    · have e1 : (decide ((s.size : Int) < 1) || decide (4 < (s.size : Int))) = false := by simp; omega
      have hloop : kn (s, 0, 0, ()) = some (if aN s.size (fun i => inB (bt s i) 48 57) then .inr (s, (val (L s) : Int), ()) else .inl (-1, ())) := by
        rw [← At s]
        refine zi (fun i => (s, (val ((L s).take i) : Int), (i : Int), ())) s.size (fun i => inB (bt s i) 48 57) (-1, ()) (s, (val ((L s).take s.size) : Int), ()) (fun i hi hp => ?_) (fun _ => by simp [kG])
        unfold kG
        simp only [ae hi, ak hi, ab hi (by omega : s.size ≤ 9223372036854775807)]
        rcases tf (inB (bt s i) 48 57) with h | h
        · have hv := Hu 5 _ (by simp; omega) (Am hp (by omega))
          have hb := be.1 h
          have e : w64 (w64 ((val ((L s).take i) : Int) * 10) + w64 (w8 (bt s i - 48))) = (val ((L s).take (i + 1)) : Int) := by
            rw [Ih hi, Mx, aP (n := _ * 10) (by omega) (by omega), Int.emod_eq_of_lt (by omega) (by omega), aP (n := bt s i - 48) (by omega) (by omega), aP (by omega) (by omega)]
            rw [Fa] at hb ⊢
            omega
          have e2 : decide (bt s i < 48) = false := by simp; omega
          have e3 : decide (57 < bt s i) = false := by simp; omega
          simp only [h, e, e2, e3]
          rfl
        · have hb : bt s i < 48 ∨ 57 < bt s i := by
            have := mt be.2 (by rw [h]; simp)
            omega
          simp only [h]
          rcases hb with hb | hb
          · simp [hb]
          · have : ¬ bt s i < 48 := by omega
            simp [hb, this]
      rw [e1, if_pos h5]
      simp only [hloop, if_neg Bool.false_ne_true]
      have hall : aN s.size (fun i => inB (bt s i) 48 57) = (L s).all dig := KZ (l := L s) (f := dig)
      rw [hall]
      unfold Dk
      rcases tf ((L s).all dig) with h' | h'
      · have hd := List.all_eq_true.1 h'
        have hv := Hu 5 (L s) (by rw [lq]; omega) hd
        simp only [h', if_true, aI, Bool.true_and, cu (n := (val (L s) : Int)) (by omega) (by omega), Option.bind_some, NI]
        rcases tf (AM (L s)) with hl | hl
        · have : (⟨(dcm (val (L s))).toArray⟩ : ByteArray) = s := by
            apply tk
            rw [PH, KV _ _ rfl hd hl]
          simp [this, hl]
        · have : ¬ (⟨(dcm (val (L s))).toArray⟩ : ByteArray) = s := fun h => by
            have h2 := congrArg L h
            rw [PH] at h2
            rw [← h2, (Jf (val (L s) + 1) _ (by omega)).1] at hl
            cases hl
          simp [this, hl]
      · rw [h']; rfl
    · have e1 : (decide ((s.size : Int) < 1) || decide (4 < (s.size : Int))) = true := by simp; omega
      have : L s = [] := List.eq_nil_of_length_eq_zero (by rw [lq]; omega)
      rw [e1, if_pos h5, this]
      simp [Dk, AM]
  · have e1 : (decide ((s.size : Int) < 1) || decide (4 < (s.size : Int))) = true := by simp; omega
    rw [e1, if_neg h5]
    simp
theorem M5 {s : ByteArray} {n : Nat} : aq s = ((n : Int), true) ↔ s.size ≤ 5 ∧ L s = dcm n := by
  unfold aq
  by_cases h : s.size ≤ 5
  · rw [if_pos h]
    constructor
    · intro h2
      cases h3 : Dk (L s) with
      | none => rw [h3] at h2; cases h2
      | some m =>
        rw [h3] at h2
        simp at h2
        exact ⟨h, by rw [oq.1 h3, show m = n by omega]⟩
    · rintro ⟨_, h2⟩
      rw [oq.2 h2]
  · rw [if_neg h]
    constructor
    · intro h2; cases h2
    · rintro ⟨h2, _⟩; exact absurd h2 h
theorem pD (s : ByteArray) : aq s = (0, false) ∨ ∃ n : Nat, aq s = ((n : Int), true) ∧ s.size ≤ 5 ∧ L s = dcm n := by
  unfold aq
  by_cases h : s.size ≤ 5
  · rw [if_pos h]
    cases h2 : Dk (L s) with
    | none => exact .inl rfl
    | some n => exact .inr ⟨n, rfl, h, oq.1 h2⟩
  · rw [if_neg h]; exact .inl rfl
theorem mY (s : ByteArray) : (an s = -1 ∧ ∀ n, L s = dcm n → 4 < s.size) ∨ ∃ n : Nat, an s = (n : Int) ∧ s.size ≤ 4 ∧ L s = dcm n := by
  unfold an
  by_cases h : s.size ≤ 4
  · rw [if_pos h]
    cases h2 : Dk (L s) with
    | none => exact .inl ⟨rfl, fun n hn => by rw [oq.2 hn] at h2; cases h2⟩
    | some n => exact .inr ⟨n, rfl, h, oq.1 h2⟩
  · rw [if_neg h]; exact .inl ⟨rfl, fun n _ => by omega⟩
theorem Jg {s : ByteArray} {n : Nat} (h : s.size ≤ 4) (hn : L s = dcm n) : an s = (n : Int) := by
  unfold an
  rw [if_pos h, oq.2 hn]
theorem yX {s : ByteArray} {n : Nat} (h : s.size ≤ 5) (hn : L s = dcm n) : aq s = ((n : Int), true) := M5.2 ⟨h, hn⟩
end Go.VS
namespace Go.VS
open Go
section
variable {α : Type} (f : α → Bool)
def ins (l : List α) (n : α) : List α := l.takeWhile f ++ n :: l.dropWhile f
abbrev tw (l : List α) : Nat := (l.takeWhile f).length
theorem Gz (l : List α) : tw f l ≤ l.length := by
  exact (List.takeWhile_sublist f).length_le
theorem Cf (l : List α) : l.take (tw f l) = l.takeWhile f := by
  have := List.take_left (l₁ := l.takeWhile f) (l₂ := l.dropWhile f)
  rwa [List.takeWhile_append_dropWhile] at this
theorem Cg (l : List α) : l.drop (tw f l) = l.dropWhile f := by
  have := List.drop_left (l₁ := l.takeWhile f) (l₂ := l.dropWhile f)
  rwa [List.takeWhile_append_dropWhile] at this
theorem Ii : ∀ {l : List α} {i : Nat} {x : α}, i < tw f l → l[i]? = some x → f x = true
  | [], i, x, h, hx => by simp at hx
  | y :: l, i, x, h, hx => by
    unfold tw at h
    rw [List.takeWhile_cons] at h
    split at h
    · rename_i hy
      cases i with
      | zero => simp at hx; subst hx; exact hy
      | succ i => exact Ii (l := l) (i := i) (by simpa using h) (by simpa using hx)
    · simp at h
theorem Ij : ∀ {l : List α} {x : α}, l[tw f l]? = some x → f x = false
  | [], x, hx => by simp at hx
  | y :: l, x, hx => by
    unfold tw at hx
    rw [List.takeWhile_cons] at hx
    split at hx
    · exact Ij (l := l) (by simpa using hx)
    · rename_i hy
      simp at hx
      subst hx
      simpa using hy
theorem pH (l : List α) (n : α) : (ins f l n).length = l.length + 1 := by
  have := congrArg List.length (List.takeWhile_append_dropWhile (p := f) (l := l))
  rw [List.length_append] at this
  simp only [ins, List.length_append, List.length_cons]
  omega
theorem Ov {l : List α} {n x : α} (h : x ∈ ins f l n) : x = n ∨ x ∈ l := by
  unfold ins at h
  rw [List.mem_append, List.mem_cons] at h
  rcases h with h | h | h
  · exact .inr ((List.takeWhile_sublist f).mem h)
  · exact .inl h
  · exact .inr ((List.dropWhile_sublist f).mem h)
theorem Ok {l : List α} {n x : α} (h : x = n ∨ x ∈ l) : x ∈ ins f l n := by
  unfold ins
  rw [List.mem_append, List.mem_cons]
  rcases h with h | h
  · exact .inr (.inl h)
  · rw [← List.takeWhile_append_dropWhile (p := f) (l := l), List.mem_append] at h
    rcases h with h | h
    · exact .inl h
    · exact .inr (.inr h)
end
theorem Cw {α : Type} {f g : α → Bool} : ∀ {l : List α}, (∀ x ∈ l, f x = g x) → l.takeWhile f = l.takeWhile g ∧ l.dropWhile f = l.dropWhile g
  | [], _ => ⟨rfl, rfl⟩
  | x :: l, h => by
    have ih := Cw (l := l) (fun y hy => h y (List.mem_cons_of_mem _ hy))
    rw [List.takeWhile_cons, List.takeWhile_cons, List.dropWhile_cons, List.dropWhile_cons, h x List.mem_cons_self, ih.1, ih.2]
    exact ⟨rfl, rfl⟩
theorem G1 {α : Type} {f g : α → Bool} {l : List α} {n : α} (h : ∀ x ∈ l, f x = g x) : ins f l n = ins g l n := by
  unfold ins
  rw [(Cw h).1, (Cw h).2]
theorem nq {l : List Note} {i : Nat} {x : Note} (h : l[i]? = some x) : nA l i = x := bf h
theorem uG {l : List Mark} {i : Nat} {x : Mark} (h : l[i]? = some x) : mA l i = x := bf h
def qV (l : List Note) (n : Note) : List Note := ins (fun x => bef x.fr x.nu n.fr n.nu) l n
def ue (l : List Mark) (n : Mark) : List Mark := ins (fun x => bef x.mf x.mn n.mf n.mn) l n
theorem tr {α : Type} {l : List α} {i : Nat} {x : α} (h : l[i]? = some x) : l.take i ++ [x] = l.take (i + 1) := by
  rw [List.take_add_one, h]
  rfl
theorem GE {α : Type} {l : List α} {i j : Nat} {x : α} (h : l[i]? = some x) (hj : j ≤ i) : (l.take i).drop j ++ [x] = (l.take (i + 1)).drop j := by
  have hi := (List.getElem?_eq_some_iff.1 h).1
  rw [← tr h, List.drop_append_of_le_length (by simp; omega)]
def ca {α : Type} (g : α → Bool) (l : List α) (n : α) (i : Nat) : List α := if i ≤ tw g l then l.take i else l.take (tw g l) ++ n :: (l.take i).drop (tw g l)
theorem tz {α : Type} (g : α → Bool) (l : List α) (n : α) (i : Nat) : (ca g l n i).length ≤ l.length + 1 := by
  have := Gz g l
  unfold ca
  split <;> simp <;> omega
theorem GI {α : Type} (g : α → Bool) (l : List α) (n : α) : (if tw g l < l.length then ca g l n l.length else ca g l n l.length ++ [n]) = ins g l n := by
  have h := Gz g l
  unfold ca ins
  split
  · rw [if_neg (by omega), List.take_length, Cf, Cg]
  · rw [if_pos (by omega), List.take_length]
    have : tw g l = l.length := by omega
    rw [← Cf, ← Cg, this]
    simp
theorem IH {α : Type} {g : α → Bool} {l : List α} {n x : α} {i : Nat} (h : l[i]? = some x) (hi : i < tw g l) : ca g l n i ++ [x] = ca g l n (i + 1) := by
  unfold ca
  rw [if_pos (by omega), if_pos (by omega), tr h]
theorem IJ {α : Type} {g : α → Bool} {l : List α} {n x : α} {i : Nat} (h : l[i]? = some x) (hi : i = tw g l) : ca g l n i ++ [n] ++ [x] = ca g l n (i + 1) := by
  subst hi
  unfold ca
  rw [if_pos (Nat.le_refl _), if_neg (by omega), ← GE h (Nat.le_refl _)]
  simp
theorem II {α : Type} {g : α → Bool} {l : List α} {n x : α} {i : Nat} (h : l[i]? = some x) (hi : tw g l < i) : ca g l n i ++ [x] = ca g l n (i + 1) := by
  unfold ca
  rw [if_neg (by omega), if_neg (by omega), ← GE h (by omega)]
  simp
theorem kS {l : List Note} {fr nu tt un : Int} {tx : ByteArray} (hl : l.length ≤ 1048576) : cI (l, (fr, nu, tt, un, tx, ()), ()) = some ((qV l ⟨fr, nu, tt, un, tx⟩, ()), ()) := by
  have ht := Gz (fun x : Note => bef x.fr x.nu fr nu) l
  have h : jr (l, (fr, nu, tt, un, tx, ()), 0, ()) = some (.inr (l, (fr, nu, tt, un, tx, ()), ((tw (fun x : Note => bef x.fr x.nu fr nu) l : Nat) : Int), ())) :=
    ee (fun i => (l, (fr, nu, tt, un, tx, ()), (i : Int), ())) (tw (fun x : Note => bef x.fr x.nu fr nu) l) (fun i hi => by
      have hi' : i < l.length := by omega
      have hx := List.getElem?_eq_getElem hi'
      unfold js
      simp only [ae hi', ak hi', aV, dJ, ab hi' (by omega : l.length ≤ 9223372036854775807), nq hx, Ii (fun x : Note => bef x.fr x.nu fr nu) hi hx]
      rfl) (by
      unfold js
      generalize ht2 : tw (fun x : Note => bef x.fr x.nu fr nu) l = t at *
      rcases Nat.lt_or_ge t l.length with hlt | hge
      · have hx := List.getElem?_eq_getElem hlt
        have := Ij (fun x : Note => bef x.fr x.nu fr nu) (l := l) (x := l[t]) (by rw [ht2]; exact hx)
        simp only [ae hlt, ak hlt, aV, dJ, nq hx, this]
        rfl
      · have e : decide ((t : Int) < (l.length : Int)) = false := by simp; omega
        simp only [e, bq, if_true, Bool.false_and, if_neg Bool.false_ne_true])
  unfold cI
  have hb : (decide (0 ≤ ((tw (fun x : Note => bef x.fr x.nu fr nu) l : Nat) : Int)) && decide (((tw (fun x : Note => bef x.fr x.nu fr nu) l : Nat) : Int) ≤ (l.length : Int))) = true := by simp; omega
  simp only [h, aI, hb, if_true, Int.toNat_natCast, List.nil_append, List.length_nil, Nat.zero_add, List.length_append, List.length_cons, List.length_take, List.length_drop]
  rw [if_pos (aM (by omega)), if_pos (aM (by omega)), if_pos (aM (by omega)), Cf, Cg]
  simp [qV, ins]
def JR (l : List Note) (n : Note) : List Note := ins (fun x => !bef n.fr n.nu x.fr x.nu) l n
theorem dY {l : List Note} {fr nu tt un : Int} {tx : ByteArray} (hl : l.length ≤ 1048576) : bm (l, (fr, nu, tt, un, tx, ()), ()) = some ((JR l ⟨fr, nu, tt, un, tx⟩, ()), ()) := by
  let g : Note → Bool := fun x => !bef fr nu x.fr x.nu
  have ht := Gz g l
  have h : dM (l, (fr, nu, tt, un, tx, ()), [], false, 0, ()) = some (.inr ((fr, nu, tt, un, tx, ()), ca g l ⟨fr, nu, tt, un, tx⟩ l.length, decide (tw g l < l.length), ())) := by
    refine ee (fun i => (l, (fr, nu, tt, un, tx, ()), ca g l ⟨fr, nu, tt, un, tx⟩ i, decide (tw g l < i), (i : Int), ())) l.length (fun i hi => ?_) (by simp [de])
    have hx := List.getElem?_eq_getElem hi
    have hr := tz g l ⟨fr, nu, tt, un, tx⟩ i
    unfold de
    simp only [ae hi, ak hi, aV, nf, ab hi (by omega : l.length ≤ 9223372036854775807), nq hx, List.length_cons, List.length_nil, Nat.zero_add, aM (show (ca g l ⟨fr, nu, tt, un, tx⟩ i).length + 1 ≤ 4294967296 by omega)]
    rcases Nat.lt_trichotomy i (tw g l) with hlt | heq | hgt
    · have h1 : bef fr nu l[i].fr l[i].nu = false := by simpa [g] using Ii g hlt hx
      have h2 : decide (tw g l < i) = false := by simp; omega
      have h3 : decide (tw g l < i + 1) = false := by simp; omega
      simp only [h1, h2, h3, bU, Bool.not_false, if_true, Option.isSome_some, Option.getD_some, Bool.and_false, if_neg Bool.false_ne_true, ce, aV, nq hx, ae hi, aM (show (ca g l ⟨fr, nu, tt, un, tx⟩ i).length + 1 ≤ 4294967296 by omega), IH hx hlt, ab hi (by omega : l.length ≤ 9223372036854775807)]
    · have hx2 : l[tw g l]? = some l[i] := by rw [← heq]; exact hx
      have h1 : bef fr nu l[i].fr l[i].nu = true := by simpa [g] using Ij g hx2
      have h2 : decide (tw g l < i) = false := by simp; omega
      have h3 : decide (tw g l < i + 1) = true := by simp; omega
      have h4 : ca g l ⟨fr, nu, tt, un, tx⟩ i ++ [⟨fr, nu, tt, un, tx⟩] ++ [l[i]] = ca g l ⟨fr, nu, tt, un, tx⟩ (i + 1) := IJ hx heq
      simp only [h1, h2, h3, h4, bU, Bool.not_false, if_true, Option.isSome_some, Option.getD_some, Bool.and_self, ce, aV, nq hx, ae hi, List.length_append, List.length_cons, List.length_nil, Nat.zero_add, aM (show (ca g l ⟨fr, nu, tt, un, tx⟩ i).length + 1 + 1 ≤ 4294967296 by omega), ab hi (by omega : l.length ≤ 9223372036854775807)]
    · have h2 : decide (tw g l < i) = true := by simp; omega
      have h3 : decide (tw g l < i + 1) = true := by simp; omega
      simp only [h2, h3, bq, Bool.not_true, if_true, Bool.false_and, if_neg Bool.false_ne_true, ce, aV, nq hx, ae hi, aM (show (ca g l ⟨fr, nu, tt, un, tx⟩ i).length + 1 ≤ 4294967296 by omega), II hx hgt, ab hi (by omega : l.length ≤ 9223372036854775807)]
  unfold bm
  simp only [h, aI]
  have he := GI g l ⟨fr, nu, tt, un, tx⟩
  have hr := tz g l ⟨fr, nu, tt, un, tx⟩ l.length
  unfold JR
  show _ = some ((ins g l _, ()), ())
  rw [← he]
  by_cases hc : tw g l < l.length
  · simp [hc]
  · simp [hc, aM (show (ca g l ⟨fr, nu, tt, un, tx⟩ l.length).length + 1 ≤ 4294967296 by omega)]
def lJ (t : Int) (l : List Note) : List Note := l.filter fun x => decide (t < x.un)
theorem nS {l : List Mark} {mf mn mu : Int} (hl : l.length ≤ 1048576) : dI (l, (mf, mn, mu, ()), ()) = some ((ue l ⟨mf, mn, mu⟩, ()), ()) := by
  have ht := Gz (fun x : Mark => bef x.mf x.mn mf mn) l
  have h : jz (l, (mf, mn, mu, ()), 0, ()) = some (.inr (l, (mf, mn, mu, ()), ((tw (fun x : Mark => bef x.mf x.mn mf mn) l : Nat) : Int), ())) :=
    ee (fun i => (l, (mf, mn, mu, ()), (i : Int), ())) (tw (fun x : Mark => bef x.mf x.mn mf mn) l) (fun i hi => by
      have hi' : i < l.length := by omega
      have hx := List.getElem?_eq_getElem hi'
      unfold jA
      simp only [ae hi', ak hi', bS, dJ, ab hi' (by omega : l.length ≤ 9223372036854775807), uG hx, Ii (fun x : Mark => bef x.mf x.mn mf mn) hi hx]
      rfl) (by
      unfold jA
      generalize ht2 : tw (fun x : Mark => bef x.mf x.mn mf mn) l = t at *
      rcases Nat.lt_or_ge t l.length with hlt | hge
      · have hx := List.getElem?_eq_getElem hlt
        have := Ij (fun x : Mark => bef x.mf x.mn mf mn) (l := l) (x := l[t]) (by rw [ht2]; exact hx)
        simp only [ae hlt, ak hlt, bS, dJ, uG hx, this]
        rfl
      · have e : decide ((t : Int) < (l.length : Int)) = false := by simp; omega
        simp only [e, bq, if_true, Bool.false_and, if_neg Bool.false_ne_true])
  unfold dI
  have hb : (decide (0 ≤ ((tw (fun x : Mark => bef x.mf x.mn mf mn) l : Nat) : Int)) && decide (((tw (fun x : Mark => bef x.mf x.mn mf mn) l : Nat) : Int) ≤ (l.length : Int))) = true := by simp; omega
  simp only [h, aI, hb, if_true, Int.toNat_natCast, List.nil_append, List.length_nil, Nat.zero_add, List.length_append, List.length_cons, List.length_take, List.length_drop]
  rw [if_pos (aM (by omega)), if_pos (aM (by omega)), if_pos (aM (by omega)), Cf, Cg]
  simp [ue, ins]
def JS (l : List Mark) (n : Mark) : List Mark := ins (fun x => !bef n.mf n.mn x.mf x.mn) l n
theorem iN {l : List Mark} {mf mn mu : Int} (hl : l.length ≤ 1048576) : bP (l, (mf, mn, mu, ()), ()) = some ((JS l ⟨mf, mn, mu⟩, ()), ()) := by
  let g : Mark → Bool := fun x => !bef mf mn x.mf x.mn
  have ht := Gz g l
  have h : dO (l, (mf, mn, mu, ()), [], false, 0, ()) = some (.inr ((mf, mn, mu, ()), ca g l ⟨mf, mn, mu⟩ l.length, decide (tw g l < l.length), ())) := by
    refine ee (fun i => (l, (mf, mn, mu, ()), ca g l ⟨mf, mn, mu⟩ i, decide (tw g l < i), (i : Int), ())) l.length (fun i hi => ?_) (by simp [df])
    have hx := List.getElem?_eq_getElem hi
    have hr := tz g l ⟨mf, mn, mu⟩ i
    unfold df
    simp only [ae hi, ak hi, bS, nf, ab hi (by omega : l.length ≤ 9223372036854775807), uG hx, List.length_cons, List.length_nil, Nat.zero_add, aM (show (ca g l ⟨mf, mn, mu⟩ i).length + 1 ≤ 4294967296 by omega)]
    rcases Nat.lt_trichotomy i (tw g l) with hlt | heq | hgt
    · have h1 : bef mf mn l[i].mf l[i].mn = false := by simpa [g] using Ii g hlt hx
      have h2 : decide (tw g l < i) = false := by simp; omega
      have h3 : decide (tw g l < i + 1) = false := by simp; omega
      simp only [h1, h2, h3, bU, Bool.not_false, if_true, Option.isSome_some, Option.getD_some, Bool.and_false, if_neg Bool.false_ne_true, ce, bS, uG hx, ae hi, aM (show (ca g l ⟨mf, mn, mu⟩ i).length + 1 ≤ 4294967296 by omega), IH hx hlt, ab hi (by omega : l.length ≤ 9223372036854775807)]
    · have hx2 : l[tw g l]? = some l[i] := by rw [← heq]; exact hx
      have h1 : bef mf mn l[i].mf l[i].mn = true := by simpa [g] using Ij g hx2
      have h2 : decide (tw g l < i) = false := by simp; omega
      have h3 : decide (tw g l < i + 1) = true := by simp; omega
      have h4 : ca g l ⟨mf, mn, mu⟩ i ++ [⟨mf, mn, mu⟩] ++ [l[i]] = ca g l ⟨mf, mn, mu⟩ (i + 1) := IJ hx heq
      simp only [h1, h2, h3, h4, bU, Bool.not_false, if_true, Option.isSome_some, Option.getD_some, Bool.and_self, ce, bS, uG hx, ae hi, List.length_append, List.length_cons, List.length_nil, Nat.zero_add, aM (show (ca g l ⟨mf, mn, mu⟩ i).length + 1 + 1 ≤ 4294967296 by omega), ab hi (by omega : l.length ≤ 9223372036854775807)]
    · have h2 : decide (tw g l < i) = true := by simp; omega
      have h3 : decide (tw g l < i + 1) = true := by simp; omega
      simp only [h2, h3, bq, Bool.not_true, if_true, Bool.false_and, if_neg Bool.false_ne_true, ce, bS, uG hx, ae hi, aM (show (ca g l ⟨mf, mn, mu⟩ i).length + 1 ≤ 4294967296 by omega), II hx hgt, ab hi (by omega : l.length ≤ 9223372036854775807)]
  unfold bP
  simp only [h, aI]
  have he := GI g l ⟨mf, mn, mu⟩
  have hr := tz g l ⟨mf, mn, mu⟩ l.length
  unfold JS
  show _ = some ((ins g l _, ()), ())
  rw [← he]
  by_cases hc : tw g l < l.length
  · simp [hc]
  · simp [hc, aM (show (ca g l ⟨mf, mn, mu⟩ l.length).length + 1 ≤ 4294967296 by omega)]
def uo (t : Int) (l : List Mark) : List Mark := l.filter fun x => decide (t < x.mu)
theorem nD {α : Type} {l : List α} {f : α → Bool} {i : Nat} {x : α} (h : l[i]? = some x) : (l.take (i + 1)).filter f = (l.take i).filter f ++ (if f x then [x] else []) := by
  rw [← tr h, List.filter_append]
  congr 1
  cases hf : f x <;> simp [hf]
theorem pO {α : Type} {l : List α} {f : α → Bool} {i : Nat} : ((l.take i).filter f).length ≤ l.length := by
  have := List.length_filter_le f (l.take i)
  simp at this
  omega
theorem DY {id ti nx t : Int} {held : List Note} {marks : List Mark} {inbox : List Note} (sm : SmKeep held marks inbox) : jM ((id, ti, nx, held, marks, inbox, ()), t, ()) = some (((id, t, nx, lJ t held, uo t marks, inbox, ()), ()), ()) := by
  have hl := sm.hl
  have ml := sm.ml
  have h0 : iv (t, (id, ti, nx, held, marks, inbox, ()), (0, 0, 0, [], [], [], ()), (id, t, nx, [], [], inbox, ()), held, (held.length : Int), 0, ()) = some (.inr (t, (id, ti, nx, held, marks, inbox, ()), (0, 0, 0, [], [], [], ()), (id, t, nx, lJ t held, [], inbox, ()), ())) := by
    rw [show lJ t held = (held.take held.length).filter (fun x => decide (t < x.un)) by rw [List.take_length]; rfl]
    refine ee (fun i => (t, (id, ti, nx, held, marks, inbox, ()), (0, 0, 0, [], [], [], ()), (id, t, nx, (held.take i).filter (fun x => decide (t < x.un)), [], inbox, ()), held, (held.length : Int), (i : Int), ())) held.length (fun i hi => ?_) (by simp [gQ])
    have hx := List.getElem?_eq_getElem hi
    have hr := pO (l := held) (f := fun x => decide (t < x.un)) (i := i)
    unfold gQ
    simp only [ae hi, ak hi, aV, nq hx, ab hi (by omega : held.length ≤ 9223372036854775807), nD hx, List.length_cons, List.length_nil, Nat.zero_add, aM (show ((held.take i).filter (fun x => decide (t < x.un))).length + 1 ≤ 4294967296 by omega)]
    by_cases hc : t < held[i].un <;> simp [hc]
  have h1 : iu (t, (0, 0, 0, [], [], [], ()), (id, t, nx, lJ t held, [], inbox, ()), marks, (marks.length : Int), 0, ()) = some (.inr ((0, 0, 0, [], [], [], ()), (id, t, nx, lJ t held, uo t marks, inbox, ()), ())) := by
    rw [show uo t marks = (marks.take marks.length).filter (fun x => decide (t < x.mu)) by rw [List.take_length]; rfl]
    refine ee (fun i => (t, (0, 0, 0, [], [], [], ()), (id, t, nx, lJ t held, (marks.take i).filter (fun x => decide (t < x.mu)), inbox, ()), marks, (marks.length : Int), (i : Int), ())) marks.length (fun i hi => ?_) (by simp [gP])
    have hx := List.getElem?_eq_getElem hi
    have hr := pO (l := marks) (f := fun x => decide (t < x.mu)) (i := i)
    unfold gP
    simp only [ae hi, ak hi, bS, uG hx, ab hi (by omega : marks.length ≤ 9223372036854775807), nD hx, List.length_cons, List.length_nil, Nat.zero_add, aM (show ((marks.take i).filter (fun x => decide (t < x.mu))).length + 1 ≤ 4294967296 by omega)]
    by_cases hc : t < marks[i].mu <;> simp [hc]
  unfold jM
  simp only [h0, h1, aI]
theorem CF {id ti nx t : Int} {held : List Note} {marks : List Mark} {inbox : List Note} (sm : SmKeep held marks inbox) : iM ((id, ti, nx, held, marks, inbox, ()), t, ()) = some (((id, t, nx, lJ t held, uo t marks, inbox, ()), ()), ()) := by
  have hl := sm.hl
  have ml := sm.ml
  have h0 : gW (t, (id, ti, nx, held, marks, inbox, ()), (0, 0, 0, [], [], [], ()), [], 0, ()) = some (.inr (t, (id, ti, nx, held, marks, inbox, ()), (0, 0, 0, [], [], [], ()), lJ t held, ())) := by
    rw [show lJ t held = (held.take held.length).filter (fun x => decide (t < x.un)) by rw [List.take_length]; rfl]
    refine ee (fun i => (t, (id, ti, nx, held, marks, inbox, ()), (0, 0, 0, [], [], [], ()), (held.take i).filter (fun x => decide (t < x.un)), (i : Int), ())) held.length (fun i hi => ?_) (by simp [gh])
    have hx := List.getElem?_eq_getElem hi
    have hr := pO (l := held) (f := fun x => decide (t < x.un)) (i := i)
    unfold gh
    simp only [ae hi, ak hi, aV, nq hx, ab hi (by omega : held.length ≤ 9223372036854775807), nD hx, List.length_cons, List.length_nil, Nat.zero_add, aM (show ((held.take i).filter (fun x => decide (t < x.un))).length + 1 ≤ 4294967296 by omega)]
    by_cases hc : t < held[i].un <;> simp [hc]
  have h1 : gV (t, (id, ti, nx, held, marks, inbox, ()), (0, 0, 0, [], [], [], ()), lJ t held, [], 0, ()) = some (.inr (t, (id, ti, nx, held, marks, inbox, ()), (0, 0, 0, [], [], [], ()), lJ t held, uo t marks, ())) := by
    rw [show uo t marks = (marks.take marks.length).filter (fun x => decide (t < x.mu)) by rw [List.take_length]; rfl]
    refine ee (fun i => (t, (id, ti, nx, held, marks, inbox, ()), (0, 0, 0, [], [], [], ()), lJ t held, (marks.take i).filter (fun x => decide (t < x.mu)), (i : Int), ())) marks.length (fun i hi => ?_) (by simp [gf])
    have hx := List.getElem?_eq_getElem hi
    have hr := pO (l := marks) (f := fun x => decide (t < x.mu)) (i := i)
    unfold gf
    simp only [ae hi, ak hi, bS, uG hx, ab hi (by omega : marks.length ≤ 9223372036854775807), nD hx, List.length_cons, List.length_nil, Nat.zero_add, aM (show ((marks.take i).filter (fun x => decide (t < x.mu))).length + 1 ≤ 4294967296 by omega)]
    by_cases hc : t < marks[i].mu <;> simp [hc]
  unfold iM
  simp only [h0, h1, aI]
def AC (l : List Note) (i : Nat) : List Note := l.take i ++ l.drop (i + 1)
theorem DW {l : List Note} {i : Nat} (hl : l.length ≤ 1048576) (hi : i < l.length) : cY (l, (i : Int), ()) = some ((AC l i, ()), ()) := by
  unfold cY
  have h1 : (decide (0 ≤ (i : Int)) && decide ((i : Int) ≤ (l.length : Int))) = true := by simp; omega
  have h2 : (decide (0 ≤ ((i + 1 : Nat) : Int)) && decide (((i + 1 : Nat) : Int) ≤ (l.length : Int))) = true := by simp; omega
  simp only [ab hi (by omega : l.length ≤ 9223372036854775807), h1, h2, if_true, Int.toNat_natCast, List.nil_append, List.length_nil, Nat.zero_add, List.length_take, List.length_drop]
  rw [if_pos (aM (by omega)), if_pos (aM (by omega))]
  rfl
end Go.VS
namespace Go.VS
open Go
theorem B_L (s : ByteArray) : B (L s) = s := tk rfl
def pC (l : List UInt8) : Prop := ∀ b ∈ l, b ≠ 32
theorem i6 : ∀ (l : List UInt8), pC l ∨ ∃ w r, pC w ∧ l = w ++ 32 :: r
  | [] => .inl (fun _ h => by cases h)
  | b :: l => by
    by_cases h : b = 32
    · exact .inr ⟨[], l, (fun _ h => by cases h), by rw [h]; rfl⟩
    · rcases i6 l with h1 | ⟨w, r, h1, h2⟩
      · refine .inl (fun x hx => ?_)
        rcases List.mem_cons.1 hx with rfl | hx
        · exact h
        · exact h1 x hx
      · refine .inr ⟨b :: w, r, fun x hx => ?_, by rw [h2]; rfl⟩
        rcases List.mem_cons.1 hx with rfl | hx
        · exact h
        · exact h1 x hx
theorem DS : ∀ {l : List UInt8}, pC l → Lib.index l [32] = -1
  | [], _ => rfl
  | b :: l, h => by
    rw [Lib.index_one]
    unfold Lib.indexByte
    have h1 := h b List.mem_cons_self
    rw [if_neg (by simpa using h1), ← Lib.index_one, DS (fun x hx => h x (List.mem_cons_of_mem _ hx))]
    rfl
theorem DT : ∀ {w r : List UInt8}, pC w → Lib.index (w ++ 32 :: r) [32] = w.length
  | [], r, _ => by rw [Lib.index_one]; rfl
  | b :: w, r, h => by
    rw [Lib.index_one, List.cons_append]
    unfold Lib.indexByte
    have h1 := h b List.mem_cons_self
    rw [if_neg (by simpa using h1), ← Lib.index_one, DT (fun x hx => h x (List.mem_cons_of_mem _ hx)), if_neg (by simp)]
    simp
theorem Po {l : List UInt8} (h : pC l) : Lib.cut l [32] = (l, [], false) := by
  unfold Lib.cut
  rw [DS h, if_neg (by omega)]
theorem Pp {w r : List UInt8} (h : pC w) : Lib.cut (w ++ 32 :: r) [32] = (w, r, true) := by
  unfold Lib.cut
  rw [DT h, if_pos (by omega)]
  simp
theorem NK {s : ByteArray} (hs : s.size ≤ 1048576) (h : pC (L s)) : fO (s, B [32], ()) = some ((s, noB, false, ()), ()) := by
  show Kh _ = _
  unfold Kh
  rw [if_pos (by show s.size < _; omega)]
  show some ((B (Lib.cut (L s) [32]).1, B (Lib.cut (L s) [32]).2.1, (Lib.cut (L s) [32]).2.2, ()), ()) = _
  rw [Po h]
  show some ((B (L s), noB, false, ()), ()) = _
  rw [B_L]
theorem NL {s : ByteArray} {w r : List UInt8} (hs : s.size ≤ 1048576) (h : pC w) (e : L s = w ++ 32 :: r) : fO (s, B [32], ()) = some ((B w, B r, true, ()), ()) := by
  show Kh _ = _
  unfold Kh
  rw [if_pos (by show s.size < _; omega)]
  show some ((B (Lib.cut (L s) [32]).1, B (Lib.cut (L s) [32]).2.1, (Lib.cut (L s) [32]).2.2, ()), ()) = _
  rw [e, Pp h]
theorem NQ {s : ByteArray} {i : Nat} : decide (bt s i = 32) = decide ((L s).getD i 0 = 32) := by
  rw [decide_eq_decide, Fa]
  exact ⟨fun h => UInt8.toNat_inj.1 (by show _ = 32; omega), fun h => by rw [h]; rfl⟩
theorem Gx {s : ByteArray} (hs : s.size ≤ 1048576) : iH (s, 0, ()) = some (if iD s.size (fun i => decide (bt s i = 32)) < 0 then .inr (s, ()) else
    .inl (s.extract 0 (iD s.size (fun i => decide (bt s i = 32))).toNat, s.extract ((iD s.size (fun i => decide (bt s i = 32))).toNat + 1) s.size, ())) :=
  mh (fun i => (s, (i : Int), ())) s.size (fun i => decide (bt s i = 32)) (fun i => (s.extract 0 i.toNat, s.extract (i.toNat + 1) s.size, ())) (s, ()) (fun i hi => by
    have h1 : (decide (0 ≤ (i : Int)) && decide ((i : Int) ≤ (s.size : Int))) = true := by simp; omega
    have h2 : (decide (0 ≤ ((i + 1 : Nat) : Int)) && decide (((i + 1 : Nat) : Int) ≤ (s.size : Int))) = true := by simp; omega
    unfold iI
    simp only [ae hi, ak hi, ab hi (by omega : s.size ≤ 9223372036854775807), h1, h2, if_true, Int.toNat_natCast]
    cases decide (bt s i = 32) <;> rfl) (by simp [iI])
theorem Nq {n : Nat} {p : Nat → Bool} (h : ∀ i, i < n → p i = false) : iD n p = -1 := by
  rcases cB n p with ⟨h1, _⟩ | ⟨i, h1, h2, h3, _⟩
  · exact h1
  · rw [h i h2] at h3; cases h3
theorem Ns {n i : Nat} {p : Nat → Bool} (hi : i < n) (hp : p i = true) (h : ∀ j, j < i → p j = false) : iD n p = i := by
  rcases cB n p with ⟨_, h1⟩ | ⟨j, h1, h2, h3, h4⟩
  · rw [h1 i hi] at hp; cases hp
  · rcases Nat.lt_trichotomy i j with h5 | h5 | h5
    · rw [h4 i h5] at hp; cases hp
    · rw [h1, h5]
    · rw [h j h5] at h3; cases h3
theorem Nn {w r : List UInt8} {b : UInt8} : (w ++ b :: r).getD w.length 0 = b := by simp
theorem OB {w r : List UInt8} {j : Nat} (h : j < w.length) : (w ++ r).getD j 0 ∈ w := by
  rw [List.getD_eq_getElem?_getD, List.getElem?_append_left h, List.getElem?_eq_getElem h]
  exact List.getElem_mem h
theorem Nm {l : List UInt8} {j : Nat} (h : j < l.length) : l.getD j 0 ∈ l := by
  rw [List.getD_eq_getElem?_getD, List.getElem?_eq_getElem h]
  exact List.getElem_mem h
theorem K3 {s : ByteArray} (hs : s.size ≤ 1048576) (h : pC (L s)) : b8 (s, ()) = some ((s, noB, ()), ()) := by
  unfold b8
  simp only [Gx hs]
  rw [Nq (fun i hi => by rw [NQ]; simpa using h _ (Nm (by rw [lq]; exact hi)))]
  rfl
theorem K4 {s : ByteArray} {w r : List UInt8} (hs : s.size ≤ 1048576) (h : pC w) (e : L s = w ++ 32 :: r) : b8 (s, ()) = some ((B w, B r, ()), ()) := by
  have hl : s.size = w.length + 1 + r.length := by
    have := congrArg List.length e
    rw [lq] at this
    simp at this
    omega
  unfold b8
  simp only [Gx hs]
  rw [Ns (i := w.length) (by omega) (by rw [NQ, e, Nn]; rfl) (fun j hj => by rw [NQ, e]; simpa using h _ (OB hj)), if_neg (by omega)]
  have e1 : s.extract 0 w.length = B w := tk (by rw [Fh, e, L_B]; simp)
  have e2 : s.extract (w.length + 1) s.size = B r := tk (by rw [Fh, e, L_B, hl, show w ++ 32 :: r = (w ++ [32]) ++ r by simp, List.drop_left' (by simp), show w.length + 1 + r.length - (w.length + 1) = r.length by omega, List.take_length])
  simp only [bB, Int.toNat_natCast, e1, e2]
noncomputable def wr (n : Note) : ByteArray := ((((((((c7 n.fr ++ B [32]) ++ c7 n.nu) ++ B [32]) ++ c7 n.to) ++ B [32]) ++ c7 n.un) ++ B [32]) ++ n.tx)
noncomputable def wrL (n : Note) : List UInt8 := Lib.itoa n.fr ++ 32 :: (Lib.itoa n.nu ++ 32 :: (Lib.itoa n.to ++ 32 :: (Lib.itoa n.un ++ 32 :: L n.tx)))
theorem NZ (n : Int) : L (c7 n) = Lib.itoa n := rfl
theorem NY (n : Note) : L (wr n) = wrL n := by
  unfold wr wrL
  simp only [N0, NZ, L_B, List.append_assoc, List.cons_append, List.nil_append]
theorem J0 {n : Int} {k : Nat} (h0 : 0 ≤ n) (h1 : n < 10 ^ k) (hk : 1 ≤ k) : Lib.itoa n = dcm n.toNat ∧ (Lib.itoa n).length ≤ k := by
  obtain ⟨u, rfl⟩ := Int.eq_ofNat_of_zero_le h0
  rw [dB]
  refine ⟨rfl, nG k u hk ?_⟩
  have : ((10 ^ k : Nat) : Int) = (10 : Int) ^ k := by simp
  omega
structure NoteFit (n : Note) : Prop where
  f0 : 0 ≤ n.fr
  f1 : n.fr ≤ 3
  t0 : 0 ≤ n.to
  t1 : n.to ≤ 3
  n0 : 1 ≤ n.nu
  n1 : n.nu ≤ 99
  u0 : 1 ≤ n.un
  u1 : n.un ≤ 999
  s0 : 1 ≤ n.tx.size
  s1 : n.tx.size ≤ 24
theorem fp {n : Note} (h : aD n = true) : NoteFit n := by
  unfold aD Mz at h
  simp only [Bool.and_eq_true, be] at h
  obtain ⟨⟨a, b⟩, ⟨c, d⟩, ⟨e, f⟩, ⟨g, i⟩, ⟨j, k⟩, _⟩ := h
  exact ⟨a, b, c, d, e, f, g, i, by omega, by omega⟩
theorem fl {n : Int} {k : Nat} (h0 : 0 ≤ n) (h1 : n < 10 ^ k) (hk : 1 ≤ k) : (c7 n).size ≤ k := (J0 h0 h1 hk).2
theorem zp {fr nu tt un : Int} {tx : ByteArray} (hs : tx.size ≤ 1048576) : cZ ((fr, nu, tt, un, tx, ()), ()) = some ((if aD ⟨fr, nu, tt, un, tx⟩ then wr ⟨fr, nu, tt, un, tx⟩ else noB, ()), ()) := by
  unfold cZ
  simp only [fX hs, Option.bind_some]
  rcases tf (aD ⟨fr, nu, tt, un, tx⟩) with h | h
  · have hf := fp h
    obtain ⟨f0, f1, t0, t1, n0, n1, u0, u1, s0, s1⟩ := hf
    simp only at f0 f1 t0 t1 n0 n1 u0 u1 s0 s1
    have a1 := fl (n := fr) (k := 1) f0 (by omega) (by omega)
    have a2 := fl (n := nu) (k := 2) (by omega) (by omega) (by omega)
    have a3 := fl (n := tt) (k := 1) t0 (by omega) (by omega)
    have a4 := fl (n := un) (k := 3) (by omega) (by omega) (by omega)
    have b : (B [32]).size = 1 := rfl
    simp only [h, Bool.not_true, if_neg Bool.false_ne_true, HO (n := fr) (by omega) (by omega), HO (n := nu) (by omega) (by omega), HO (n := tt) (by omega) (by omega), HO (n := un) (by omega) (by omega), Option.bind_some, dz, b]
    repeat rw [if_pos (by rw [decide_eq_true_eq]; omega)]
    rfl
  · simp only [h, Bool.not_false, if_true, if_neg Bool.false_ne_true]
theorem yO {fr nu tt un : Int} {tx : ByteArray} (hs : tx.size ≤ 1048576) : cO ((fr, nu, tt, un, tx, ()), ()) = some ((if aD ⟨fr, nu, tt, un, tx⟩ then wr ⟨fr, nu, tt, un, tx⟩ else noB, ()), ()) := by
  unfold cO
  simp only [fQ hs, Option.bind_some]
  rcases tf (aD ⟨fr, nu, tt, un, tx⟩) with h | h
  · have hf := fp h
    obtain ⟨f0, f1, t0, t1, n0, n1, u0, u1, s0, s1⟩ := hf
    simp only at f0 f1 t0 t1 n0 n1 u0 u1 s0 s1
    have a1 := fl (n := fr) (k := 1) f0 (by omega) (by omega)
    have a2 := fl (n := nu) (k := 2) (by omega) (by omega) (by omega)
    have a3 := fl (n := tt) (k := 1) t0 (by omega) (by omega)
    have a4 := fl (n := un) (k := 3) (by omega) (by omega) (by omega)
    have b : (B [32]).size = 1 := rfl
    simp only [h, Bool.not_true, if_neg Bool.false_ne_true, cu (n := fr) (by omega) (by omega), cu (n := nu) (by omega) (by omega), cu (n := tt) (by omega) (by omega), cu (n := un) (by omega) (by omega), Option.bind_some, dz, b]
    repeat rw [if_pos (by rw [decide_eq_true_eq]; omega)]
    rfl
  · simp only [h, Bool.not_false, if_true, if_neg Bool.false_ne_true]
end Go.VS
namespace Go.VS
open Go
def Jh : List UInt8 → Option (List UInt8 × List UInt8)
  | [] => none
  | b :: l => if b = 32 then some ([], l) else (Jh l).map fun p => (b :: p.1, p.2)
theorem Cq : ∀ {l : List UInt8}, pC l → Jh l = none
  | [], _ => rfl
  | b :: l, h => by
    unfold Jh
    rw [if_neg (h b List.mem_cons_self), Cq (fun x hx => h x (List.mem_cons_of_mem _ hx))]
    rfl
theorem Cr : ∀ {w r : List UInt8}, pC w → Jh (w ++ 32 :: r) = some (w, r)
  | [], r, _ => rfl
  | b :: w, r, h => by
    rw [List.cons_append]
    unfold Jh
    rw [if_neg (h b List.mem_cons_self), Cr (fun x hx => h x (List.mem_cons_of_mem _ hx))]
    rfl
def wd (s : ByteArray) : ByteArray × ByteArray := match Jh (L s) with
  | some p => (B p.1, B p.2)
  | none => (s, noB)
theorem Ig {s : ByteArray} (h : pC (L s)) : wd s = (s, noB) := by unfold wd; rw [Cq h]
theorem wX {s : ByteArray} {w r : List UInt8} (h : pC w) (e : L s = w ++ 32 :: r) : wd s = (B w, B r) := by unfold wd; rw [e, Cr h]
theorem wW (s : ByteArray) : (wd s).1.size ≤ s.size ∧ (wd s).2.size ≤ s.size := by
  rcases i6 (L s) with h | ⟨w, r, h, e⟩
  · rw [Ig h]; exact ⟨Nat.le_refl _, Nat.zero_le _⟩
  · rw [wX h e]
    have := congrArg List.length e
    rw [lq] at this
    simp at this
    rw [yR, yR]
    exact ⟨by show w.length ≤ _; omega, by show r.length ≤ _; omega⟩
theorem Mv {s : ByteArray} (hs : s.size ≤ 1048576) : b8 (s, ()) = some (((wd s).1, (wd s).2, ()), ()) := by
  rcases i6 (L s) with h | ⟨w, r, h, e⟩
  · rw [Ig h, K3 hs h]
  · rw [wX h e, K4 hs h e]
theorem PD {s : ByteArray} (hs : s.size ≤ 1048576) : fO (s, B [32], ()) = some (((wd s).1, (wd s).2, (Jh (L s)).isSome, ()), ()) := by
  rcases i6 (L s) with h | ⟨w, r, h, e⟩
  · rw [Ig h, NK hs h, Cq h]; rfl
  · rw [wX h e, NL hs h e, e, Cr h]; rfl
def cQ (s : ByteArray) : Nat → ByteArray
  | 0 => s
  | i + 1 => (wd (cQ s i)).2
def ah (s : ByteArray) (i : Nat) : ByteArray := (wd (cQ s i)).1
theorem pw (s : ByteArray) : ∀ i, (cQ s i).size ≤ s.size
  | 0 => Nat.le_refl _
  | i + 1 => Nat.le_trans (wW (cQ s i)).2 (pw s i)
theorem Jx (s : ByteArray) (i : Nat) : (ah s i).size ≤ s.size := Nat.le_trans (wW _).1 (pw s i)
theorem M0 {s : ByteArray} {n : Nat} (hs : s.size ≤ 1048576) (hn : n ≤ 10) : cF (s, (n : Int), ()) = some (((List.range n).map (fun i => an (ah s i)), cQ s n, ()), ()) := by
  have h : iJ (s, (n : Int), [], 0, ()) = some (.inr (cQ s n, (List.range n).map (fun i => an (ah s i)), ())) := by
    refine ee (fun i => (cQ s i, (n : Int), (List.range i).map (fun i => an (ah s i)), (i : Int), ())) n (fun i hi => ?_) (by simp [iK])
    have h1 := pw s i
    have h2 := Jx s i
    unfold iK
    simp only [ak hi, Mv (show (cQ s i).size ≤ 1048576 by omega), Option.bind_some, if_true, pp (show (wd (cQ s i)).1.size ≤ 9223372036854775807 by have := (wW (cQ s i)).1; omega),
      List.length_map, List.length_range, List.length_cons, List.length_nil, Nat.zero_add, aM (show i + 1 ≤ 4294967296 by omega), ab hi (by omega : n ≤ 9223372036854775807), List.range_succ, List.map_append, List.map_cons, List.map_nil]
    rfl
  unfold cF
  simp only [h, aI]
theorem Dj {ws : List ByteArray} (hl : ws.length ≤ 1048577) (hw : ∀ w ∈ ws, w.size ≤ 1048576) :
    co (ws, ()) = some ((if aN ws.length (fun i => (aq (ws.getD i noB)).2) then (ws.map (fun w => (aq w).1), true, ()) else ([], false, ())), ()) := by
  have h : fN ([], ws, (ws.length : Int), 0, ()) = some (if aN ws.length (fun i => (aq (ws.getD i noB)).2) then .inr (ws.map (fun w => (aq w).1), ()) else .inl ([], false, ())) := by
    rw [show ws.map (fun w => (aq w).1) = (ws.take ws.length).map (fun w => (aq w).1) by rw [List.take_length]]
    refine zi (fun i => ((ws.take i).map (fun w => (aq w).1), ws, (ws.length : Int), (i : Int), ())) ws.length (fun i => (aq (ws.getD i noB)).2) ([], false, ()) ((ws.take ws.length).map (fun w => (aq w).1), ()) (fun i hi _ => ?_) (fun _ => by simp [fB])
    have hx := List.getElem?_eq_getElem hi
    have hs := hw _ (List.getElem_mem hi)
    unfold fB
    simp only [ae hi, ak hi, cR, bf hx, jx (show ws[i].size ≤ 9223372036854775807 by omega), Option.bind_some, List.length_map, List.length_take, List.length_cons, List.length_nil, Nat.zero_add,
      aM (show min i ws.length + 1 ≤ 4294967296 by omega), ab hi (by omega : ws.length ≤ 9223372036854775807)]
    rw [← tr hx, List.map_append]
    rcases tf (aq ws[i]).2 with h | h <;> simp [h]
  unfold co
  simp only [h]
  cases aN ws.length (fun i => (aq (ws.getD i noB)).2) <;> rfl
theorem dE {w r : List UInt8} {k : Nat} (h : pC w) : Lib.splitK [32] 0 (k + 1) (w ++ 32 :: r) = w :: Lib.splitK [32] 0 k r := by
  conv => lhs; unfold Lib.splitK
  rw [DT h, if_neg (by simp)]
  show (w ++ 32 :: r).take (w.length + 0) :: Lib.splitK [32] 0 k ((w ++ 32 :: r).drop (w.length + 1)) = _
  rw [Nat.add_zero, List.take_left' rfl, show w ++ 32 :: r = (w ++ [32]) ++ r by simp, List.drop_left' (by simp)]
theorem tq {l : List UInt8} {k : Nat} (h : pC l) : Lib.splitK [32] 0 k l = [l] := by
  cases k with
  | zero => rfl
  | succ k =>
    unfold Lib.splitK
    rw [DS h]
    rfl
def join : List (List UInt8) → List UInt8
  | [] => []
  | [x] => x
  | x :: y :: l => x ++ 32 :: join (y :: l)
theorem Lr (k : Nat) (l : List UInt8) : ∃ x m, Lib.splitK [32] 0 k l = x :: m := by
  cases k with
  | zero => exact ⟨l, [], rfl⟩
  | succ k =>
    rcases i6 l with h | ⟨w, r, h, rfl⟩
    · exact ⟨l, [], tq h⟩
    · exact ⟨w, _, dE h⟩
theorem z8 : ∀ (k : Nat) (l : List UInt8), join (Lib.splitK [32] 0 k l) = l
  | 0, _ => rfl
  | k + 1, l => by
    rcases i6 l with h | ⟨w, r, h, rfl⟩
    · rw [tq h]; rfl
    · rw [dE h]
      have ih := z8 k r
      obtain ⟨x, m, e⟩ := Lr k r
      rw [e] at ih ⊢
      show w ++ 32 :: join (x :: m) = _
      rw [ih]
theorem Pv {ps : List ByteArray} {ls : List (List UInt8)} (h : ps.map (·.data.toList) = ls) : ps = ls.map B := by
  subst h
  rw [List.map_map]
  conv => lhs; rw [← List.map_id ps]
  exact List.map_congr_left fun s _ => (B_L s).symm
theorem Iy (k : Nat) (s : ByteArray) : Lib.splitB (B [32]) 0 k s = (Lib.splitK [32] 0 k (L s)).map B := Pv (Lib.splitB_data (B [32]) 0 k s)
theorem N9 {s : ByteArray} (hs : s.size ≤ 1048576) : gc (s, B [32], ()) = some (((Lib.splitK [32] 0 ((L s).count 32) (L s)).map B, ()), ()) := by
  show CE _ = _
  unfold CE
  rw [if_pos ⟨by show s.size < _; omega, by show 1 ≤ 1; omega⟩]
  show some ((Lib.splitB (B [32]) 0 (Lib.count (L s) [32]) s, ()), ()) = _
  rw [Iy, Lib.count_one]
theorem ML {s : ByteArray} (hs : s.size ≤ 1048576) : kh (s, B [32], 5, ()) = some (((Lib.splitK [32] 0 (min 5 (s.size + 1) - 1) (L s)).map B, ()), ()) := by
  show xa _ = _
  unfold xa
  rw [if_pos ⟨by show s.size < _; omega, by show 1 ≤ 1; omega, by show (1 : Int) ≤ 5; omega, by show (5 : Int) ≤ _; omega⟩]
  show some ((Lib.splitB (B [32]) 0 (min 5 (s.size + 1) - 1) s, ()), ()) = _
  rw [Iy]
theorem M3 (u : Nat) : pC (dcm u) := fun b hb h => by
  have := be.1 (HX (u + 1) u (by omega) b hb)
  subst h
  simp at this
theorem br {n : Int} (h0 : 0 ≤ n) : pC (Lib.itoa n) := by
  obtain ⟨u, rfl⟩ := Int.eq_ofNat_of_zero_le h0
  rw [dB]
  exact M3 u
theorem fF {n : Int} (h0 : 0 ≤ n) (h1 : n < 10000) : an (B (Lib.itoa n)) = n := by
  obtain ⟨u, rfl⟩ := Int.eq_ofNat_of_zero_le h0
  rw [dB]
  exact Jg (by rw [yR]; exact nG 4 u (by omega) (by omega)) (L_B _)
theorem cT {n : Int} (h0 : 0 ≤ n) (h1 : n < 100000) : aq (B (Lib.itoa n)) = (n, true) := by
  obtain ⟨u, rfl⟩ := Int.eq_ofNat_of_zero_le h0
  rw [dB]
  exact yX (by rw [yR]; exact nG 5 u (by omega) (by omega)) (L_B _)
open Classical in
noncomputable def bg (s : ByteArray) : Option Note := if h : ∃ n, aD n = true ∧ wr n = s then some (Classical.choose h) else none
theorem gb {s t : ByteArray} {x : Int} {r : List UInt8} (h : wd s = (B (Lib.itoa x), B r)) : (wd s).1 = B (Lib.itoa x) ∧ L (wd s).2 = r := by rw [h]; exact ⟨rfl, rfl⟩
theorem Cv {n : Note} (hf : NoteFit n) {s : ByteArray} (e : L s = wrL n) : ah s 0 = B (Lib.itoa n.fr) ∧ ah s 1 = B (Lib.itoa n.nu) ∧ ah s 2 = B (Lib.itoa n.to) ∧ ah s 3 = B (Lib.itoa n.un) ∧ cQ s 4 = n.tx := by
  obtain ⟨f0, f1, t0, t1, n0, n1, u0, u1, s0, s1⟩ := hf
  unfold wrL at e
  have e0 := wX (br f0) e
  have c1 : L (cQ s 1) = _ := (gb (t := s) e0).2
  have e1 := wX (br (show 0 ≤ n.nu by omega)) c1
  have c2 : L (cQ s 2) = _ := (gb (t := s) e1).2
  have e2 := wX (br t0) c2
  have c3 : L (cQ s 3) = _ := (gb (t := s) e2).2
  have e3 := wX (br (show 0 ≤ n.un by omega)) c3
  have c4 : L (cQ s 4) = _ := (gb (t := s) e3).2
  exact ⟨(gb (t := s) e0).1, (gb (t := s) e1).1, (gb (t := s) e2).1, (gb (t := s) e3).1, tk c4⟩
theorem Mu {n : Note} (hf : NoteFit n) : ah (wr n) 0 = B (Lib.itoa n.fr) ∧ ah (wr n) 1 = B (Lib.itoa n.nu) ∧ ah (wr n) 2 = B (Lib.itoa n.to) ∧ ah (wr n) 3 = B (Lib.itoa n.un) ∧ cQ (wr n) 4 = n.tx := Cv hf (NY n)
theorem M1 {n m : Note} (h1 : n.fr = m.fr) (h2 : n.nu = m.nu) (h3 : n.to = m.to) (h4 : n.un = m.un) (h5 : n.tx = m.tx) : n = m := by
  cases n
  cases m
  simp only at h1 h2 h3 h4 h5
  subst h1 h2 h3 h4 h5
  rfl
theorem xV {x y : Int} (h0 : 0 ≤ x) (h1 : x < 10000) (h2 : 0 ≤ y) (h3 : y < 10000) (h : B (Lib.itoa x) = B (Lib.itoa y)) : x = y := by
  rw [← fF h0 h1, ← fF h2 h3, h]
theorem O2 {n m : Note} (hn : aD n = true) (hm : aD m = true) (h : wr n = wr m) : n = m := by
  have fn := fp hn
  have fm := fp hm
  have a := Cv fn (s := wr n) (NY n)
  have b := Cv fm (s := wr n) (by rw [h]; exact NY m)
  clear h hn hm
  generalize wr n = s at a b
  obtain ⟨a0, a1, a2, a3, a4⟩ := a
  obtain ⟨b0, b1, b2, b3, b4⟩ := b
  obtain ⟨f0, f1, t0, t1, n0, n1, u0, u1, s0, s1⟩ := fn
  obtain ⟨g0, g1, v0, v1, m0, m1, w0, w1, z0, z1⟩ := fm
  exact M1 (xV (by omega) (by omega) (by omega) (by omega) (a0.symm.trans b0)) (xV (by omega) (by omega) (by omega) (by omega) (a1.symm.trans b1)) (xV (by omega) (by omega) (by omega) (by omega) (a2.symm.trans b2))
    (xV (by omega) (by omega) (by omega) (by omega) (a3.symm.trans b3)) (a4.symm.trans b4)
theorem GN {n : Note} (h : aD n = true) : bg (wr n) = some n := by
  unfold bg
  have hex : ∃ m, aD m = true ∧ wr m = wr n := ⟨n, h, rfl⟩
  rw [dif_pos hex]
  have := Classical.choose_spec hex
  rw [O2 this.1 h this.2]
theorem bM {s : ByteArray} {n : Note} (h : bg s = some n) : aD n = true ∧ wr n = s := by
  unfold bg at h
  split at h
  · rename_i hex
    cases h
    exact Classical.choose_spec hex
  · cases h
theorem Hq {n : Note} (hf : NoteFit n) : 9 ≤ (wr n).size := by
  obtain ⟨f0, f1, t0, t1, n0, n1, u0, u1, s0, s1⟩ := hf
  have h : ∀ {x : Int}, 0 ≤ x → 1 ≤ (Lib.itoa x).length := fun {x} h0 => by
    obtain ⟨u, rfl⟩ := Int.eq_ofNat_of_zero_le h0
    rw [dB]
    exact List.length_pos_iff.2 (NH u)
  rw [← lq, NY]
  unfold wrL
  have a := h f0
  have b := h (show 0 ≤ n.nu by omega)
  have c := h t0
  have d := h (show 0 ≤ n.un by omega)
  have e : (L n.tx).length = n.tx.size := rfl
  simp only [List.length_append, List.length_cons]
  omega
noncomputable def IP (o : Option Note) : (Int × Int × Int × Int × ByteArray × Unit) × Bool × Unit := match o with
  | some n => ((n.fr, n.nu, n.to, n.un, n.tx, ()), true, ())
  | none => ((0, 0, 0, 0, noB, ()), false, ())
theorem p5 {s : ByteArray} (hs : s.size ≤ 1048576) : cm (s, ()) = some (IP (bg s), ()) := by
  unfold cm
  have e4 : cF (s, 4, ()) = some (([an (ah s 0), an (ah s 1), an (ah s 2), an (ah s 3)], cQ s 4, ()), ()) := M0 (n := 4) hs (by omega)
  have hr := pw s 4
  have i0 : inb 0 [an (ah s 0), an (ah s 1), an (ah s 2), an (ah s 3)].length = true := rfl
  have i1 : inb 1 [an (ah s 0), an (ah s 1), an (ah s 2), an (ah s 3)].length = true := rfl
  have i2 : inb 2 [an (ah s 0), an (ah s 1), an (ah s 2), an (ah s 3)].length = true := rfl
  have i3 : inb 3 [an (ah s 0), an (ah s 1), an (ah s 2), an (ah s 3)].length = true := rfl
  have r0 : @rd Int (dfl .int) [an (ah s 0), an (ah s 1), an (ah s 2), an (ah s 3)] 0 = an (ah s 0) := rfl
  have r1 : @rd Int (dfl .int) [an (ah s 0), an (ah s 1), an (ah s 2), an (ah s 3)] 1 = an (ah s 1) := rfl
  have r2 : @rd Int (dfl .int) [an (ah s 0), an (ah s 1), an (ah s 2), an (ah s 3)] 2 = an (ah s 2) := rfl
  have r3 : @rd Int (dfl .int) [an (ah s 0), an (ah s 1), an (ah s 2), an (ah s 3)] 3 = an (ah s 3) := rfl
  simp only [e4, Option.bind_some, i0, i1, i2, i3, r0, r1, r2, r3, yO (show (cQ s 4).size ≤ 1048576 by omega), Option.isSome_some, Option.getD_some, if_true, show ∀ c, aE c true = true from fun c => rfl]
  generalize hx : (⟨an (ah s 0), an (ah s 1), an (ah s 2), an (ah s 3), cQ s 4⟩ : Note) = x at *
  by_cases hc : s ≠ noB ∧ (if aD x then wr x else noB) = s
  · obtain ⟨h1, h2⟩ := hc
    have hok : aD x = true := by
      rcases tf (aD x) with h | h
      · exact h
      · rw [h] at h2; exact absurd h2.symm h1
    rw [hok] at h2
    simp only [if_true] at h2
    rw [if_neg (by simp [h1, hok, h2]), ← h2, GN hok]
    subst hx
    simp only [h2]
    rfl
  · rw [if_pos (by
      by_cases h1 : s = noB
      · simp [h1]
      · have h2 : ¬ (if aD x then wr x else noB) = s := fun h => hc ⟨h1, h⟩
        simp [h1, h2])]
    cases h : bg s with
    | none => rfl
    | some n =>
      exfalso
      obtain ⟨h1, h2⟩ := bM h
      have hf := fp h1
      obtain ⟨a0, a1, a2, a3, a4⟩ := Mu hf
      have hsz := Hq hf
      obtain ⟨f0, f1, t0, t1, n0, n1, u0, u1, s0, s1⟩ := hf
      rw [h2] at a0 a1 a2 a3 a4
      rw [a0, a1, a2, a3, a4, fF (by omega) (by omega), fF (by omega) (by omega), fF (by omega) (by omega), fF (by omega) (by omega)] at hx
      have hx : n = x := hx
      subst hx
      refine hc ⟨fun e => ?_, by rw [h1]; exact h2⟩
      rw [h2, e] at hsz
      exact absurd hsz (by decide)
theorem Lq {n : Note} (hf : NoteFit n) : Lib.splitK [32] 0 4 (wrL n) = [Lib.itoa n.fr, Lib.itoa n.nu, Lib.itoa n.to, Lib.itoa n.un, L n.tx] := by
  obtain ⟨f0, f1, t0, t1, n0, n1, u0, u1, s0, s1⟩ := hf
  unfold wrL
  rw [dE (br f0), dE (br (by omega)), dE (br t0), dE (br (by omega))]
  rfl
theorem q6 : ∀ (k : Nat) (l : List UInt8), ∀ p ∈ Lib.splitK [32] 0 k l, p.length ≤ l.length
  | 0, l, p, hp => by
    obtain rfl := List.mem_singleton.1 hp
    exact Nat.le_refl _
  | k + 1, l, p, hp => by
    rcases i6 l with h | ⟨w, r, h, rfl⟩
    · rw [tq h] at hp
      obtain rfl := List.mem_singleton.1 hp
      exact Nat.le_refl _
    · rw [dE h] at hp
      rcases List.mem_cons.1 hp with rfl | hp
      · simp
      · have := q6 k r p hp
        simp
        omega
theorem vE : ∀ (k : Nat) (l : List UInt8), (Lib.splitK [32] 0 k l).length ≤ k + 1
  | 0, l => Nat.le_refl _
  | k + 1, l => by
    rcases i6 l with h | ⟨w, r, h, rfl⟩
    · rw [tq h]; simp
    · rw [dE h]
      have := vE k r
      simp
      omega
theorem Bd {s : ByteArray} (hs : s.size ≤ 1048576) : dC (s, ()) = some (IP (bg s), ()) := by
  unfold dC
  simp only [ML hs, Option.bind_some]
  generalize hk : min 5 (s.size + 1) - 1 = k
  have hsz := q6 k (L s)
  have hln := vE k (L s)
  have hwr : ∀ n, bg s = some n → Lib.splitK [32] 0 k (L s) = [Lib.itoa n.fr, Lib.itoa n.nu, Lib.itoa n.to, Lib.itoa n.un, L n.tx] := fun n hn => by
    obtain ⟨h1, h2⟩ := bM hn
    have := Hq (fp h1)
    rw [h2] at this
    obtain rfl : k = 4 := by omega
    rw [← h2, NY]
    exact Lq (fp h1)
  generalize Lib.splitK [32] 0 k (L s) = ps at *
  by_cases h5 : ps.length = 5
  · match ps, h5 with
    | [p0, p1, p2, p3, p4], _ =>
      have hb : ∀ p ∈ [p0, p1, p2, p3, p4], (B p).size ≤ 1048576 := fun p hp => by
        have := hsz p hp
        rw [lq] at this
        rw [yR]
        omega
      have e5 : (!decide (((([p0, p1, p2, p3, p4] : List (List UInt8)).map B).length : Int) = 5)) = false := rfl
      have e6 : (decide (0 ≤ 4) && decide ((4 : Int) ≤ ((([p0, p1, p2, p3, p4] : List (List UInt8)).map B).length : Int))) = true := rfl
      have e7 : List.take (Int.toNat 4) (([p0, p1, p2, p3, p4] : List (List UInt8)).map B) = [B p0, B p1, B p2, B p3] := rfl
      simp only [e5, e6, e7, if_true, if_neg Bool.false_ne_true]
      rw [Dj (by simp) (fun w hw => by
        simp only [List.mem_cons, List.not_mem_nil, or_false] at hw
        rcases hw with rfl | rfl | rfl | rfl
        · exact hb p0 (by simp)
        · exact hb p1 (by simp)
        · exact hb p2 (by simp)
        · exact hb p3 (by simp))]
      have eall : aN [B p0, B p1, B p2, B p3].length (fun i => (aq ([B p0, B p1, B p2, B p3].getD i noB)).2) = ((aq (B p0)).2 && ((aq (B p1)).2 && ((aq (B p2)).2 && ((aq (B p3)).2 && true)))) := rfl
      rw [eall]
      rcases tf ((aq (B p0)).2 && ((aq (B p1)).2 && ((aq (B p2)).2 && ((aq (B p3)).2 && true)))) with ha | ha
      · rw [ha]
        simp only [if_true, Option.bind_some, Bool.not_true, if_neg Bool.false_ne_true, List.map_cons, List.map_nil]
        have i0 : inb 0 [(aq (B p0)).1, (aq (B p1)).1, (aq (B p2)).1, (aq (B p3)).1].length = true := rfl
        have i1 : inb 1 [(aq (B p0)).1, (aq (B p1)).1, (aq (B p2)).1, (aq (B p3)).1].length = true := rfl
        have i2 : inb 2 [(aq (B p0)).1, (aq (B p1)).1, (aq (B p2)).1, (aq (B p3)).1].length = true := rfl
        have i3 : inb 3 [(aq (B p0)).1, (aq (B p1)).1, (aq (B p2)).1, (aq (B p3)).1].length = true := rfl
        have i4 : inb 4 [B p0, B p1, B p2, B p3, B p4].length = true := rfl
        have r0 : @rd Int (dfl .int) [(aq (B p0)).1, (aq (B p1)).1, (aq (B p2)).1, (aq (B p3)).1] 0 = (aq (B p0)).1 := rfl
        have r1 : @rd Int (dfl .int) [(aq (B p0)).1, (aq (B p1)).1, (aq (B p2)).1, (aq (B p3)).1] 1 = (aq (B p1)).1 := rfl
        have r2 : @rd Int (dfl .int) [(aq (B p0)).1, (aq (B p1)).1, (aq (B p2)).1, (aq (B p3)).1] 2 = (aq (B p2)).1 := rfl
        have r3 : @rd Int (dfl .int) [(aq (B p0)).1, (aq (B p1)).1, (aq (B p2)).1, (aq (B p3)).1] 3 = (aq (B p3)).1 := rfl
        have r4 : @rd ByteArray (dfl .str) [B p0, B p1, B p2, B p3, B p4] 4 = B p4 := rfl
        have hp4 := hb p4 (by simp)
        simp only [i0, i1, i2, i3, i4, r0, r1, r2, r3, r4, if_true, fX hp4, zp hp4, Option.bind_some, Option.isSome_some, Option.getD_some, show ∀ c, aE c true = true from fun c => rfl]
        generalize hx : (⟨(aq (B p0)).1, (aq (B p1)).1, (aq (B p2)).1, (aq (B p3)).1, B p4⟩ : Note) = x at *
        by_cases hc : aD x = true ∧ wr x = s
        · obtain ⟨h1, h2⟩ := hc
          rw [if_neg (by simp [h1, h2]), ← h2, GN h1]
          subst hx
          rfl
        · rw [if_pos (by
            rcases tf (aD x) with h1 | h1
            · have h2 : ¬ wr x = s := fun h => hc ⟨h1, h⟩
              simp [h1, h2]
            · simp [h1])]
          cases h : bg s with
          | none => rfl
          | some n =>
            exfalso
            obtain ⟨h1, h2⟩ := bM h
            have hf := fp h1
            have hp := hwr n h
            simp only [List.cons.injEq, and_true] at hp
            obtain ⟨rfl, rfl, rfl, rfl, rfl⟩ := hp
            obtain ⟨f0, f1, t0, t1, n0, n1, u0, u1, s0, s1⟩ := hf
            rw [cT (by omega) (by omega), cT (by omega) (by omega), cT (by omega) (by omega), cT (by omega) (by omega), B_L] at hx
            have hx : n = x := hx
            subst hx
            exact hc ⟨h1, h2⟩
      · rw [ha]
        simp only [Option.bind_some, Bool.not_false, if_true, if_neg Bool.false_ne_true]
        cases h : bg s with
        | none => rfl
        | some n =>
          exfalso
          obtain ⟨h1, h2⟩ := bM h
          have hf := fp h1
          have hp := hwr n h
          simp only [List.cons.injEq, and_true] at hp
          obtain ⟨rfl, rfl, rfl, rfl, rfl⟩ := hp
          obtain ⟨f0, f1, t0, t1, n0, n1, u0, u1, s0, s1⟩ := hf
          rw [cT (by omega) (by omega), cT (by omega) (by omega), cT (by omega) (by omega), cT (by omega) (by omega)] at ha
          cases ha
  · have e5 : (!decide (((ps.map B).length : Int) = 5)) = true := by simp; omega
    simp only [e5, if_true]
    cases h : bg s with
    | none => rfl
    | some n =>
      have := congrArg List.length (hwr n h)
      simp at this
      exact absurd this h5
end Go.VS
namespace Go.VS
open Go
abbrev KL := Int × Int × Int × List Note × List Mark × List Note × Unit
abbrev tK (k : Keep) : KL := (k.id, k.ti, k.nx, k.held, k.marks, k.inbox, ())
def RetK (r : Option ((KL × Bool × Unit) × Unit)) (o : Option Keep) : Prop := match o with
  | some k => r = some ((tK k, true, ()), ())
  | none => ∃ t, r = some ((t, false, ()), ())
theorem RetK.no {t : KL} : RetK (some ((t, false, ()), ())) none := ⟨t, rfl⟩
theorem RetK.eta {r : Option ((KL × Bool × Unit) × Unit)} {o : Option Keep} (h : RetK r o) :
    RetK (r.bind fun r => some (((r.1.1.1, r.1.1.2.1, r.1.1.2.2.1, r.1.1.2.2.2.1, r.1.1.2.2.2.2.1, r.1.1.2.2.2.2.2.1, ()), r.1.2.1, ()), ())) o := by
  cases o with
  | some k =>
    have : r = _ := h
    subst this
    rfl
  | none =>
    obtain ⟨t, rfl⟩ := h
    exact ⟨t, rfl⟩
theorem RetK.ite {c : Bool} {a b : Option ((KL × Bool × Unit) × Unit)} {x y : Option Keep} (h1 : c = true → RetK a x) (h2 : c = false → RetK b y) : RetK (if c then a else b) (if c then x else y) := by
  cases c
  · exact h2 rfl
  · exact h1 rfl
theorem RetK.neg {c : Bool} {t : KL} {b : Option ((KL × Bool × Unit) × Unit)} {y : Option Keep} (h2 : c = false → RetK b y) : RetK (if c then some ((t, false, ()), ()) else b) (if c then none else y) := RetK.ite (fun _ => RetK.no) h2
def Ca (k : Keep) (n : Note) : Option Keep :=
  if !aD n then none else if decide (n.un ≤ k.ti) then none else if decide (0 ≤ aO k.held n.fr n.nu) then none else if decide (0 ≤ aO k.inbox n.fr n.nu) then none else if decide (0 ≤ kc k.marks n.fr n.nu) then none else
  if decide (12 < (k.held.length : Int) + k.marks.length + 1) then none else
  if decide (n.to = k.id) then some ⟨k.id, k.ti, k.nx, k.held, ue k.marks ⟨n.fr, n.nu, n.un⟩, qV k.inbox n⟩ else some ⟨k.id, k.ti, k.nx, qV k.held n, k.marks, k.inbox⟩
theorem uH {id ti nx fr nu tt un : Int} {tx : ByteArray} {held : List Note} {marks : List Mark} {inbox : List Note} (sm : SmKeep held marks inbox) (hs : tx.size ≤ 1048576) :
    RetK (fW ((id, ti, nx, held, marks, inbox, ()), (fr, nu, tt, un, tx, ()), ())) (Ca ⟨id, ti, nx, held, marks, inbox⟩ ⟨fr, nu, tt, un, tx⟩) := by
  have hl := sm.hl
  have ml := sm.ml
  unfold fW Ca
  simp only [fX hs, dH sm.hl, dH sm.il, fS sm.ml, kS sm.hl, kS sm.il, nS sm.ml, Option.bind_some,
    aP (n := (held.length : Int) + marks.length) (by omega) (by omega), aP (n := (held.length : Int) + marks.length + 1) (by omega) (by omega)]
  exact RetK.neg fun _ => RetK.neg fun _ => RetK.neg fun _ => RetK.neg fun _ => RetK.neg fun _ => RetK.neg fun _ => RetK.ite (fun _ => rfl) (fun _ => rfl)
theorem Ck {l : List Note} {n : Note} (h : aO l n.fr n.nu < 0) : JR l n = qV l n := by
  refine G1 fun x hx => ?_
  have hne : ¬ (x.fr = n.fr ∧ x.nu = n.nu) := fun hc => by
    rcases cB l.length (fun i => decide ((nA l i).fr = n.fr) && decide ((nA l i).nu = n.nu)) with ⟨_, h2⟩ | ⟨i, h1, _⟩
    · obtain ⟨j, hj, rfl⟩ := List.getElem_of_mem hx
      have := h2 j hj
      rw [nq (List.getElem?_eq_getElem hj)] at this
      simp [hc.1, hc.2] at this
    · unfold aO at h
      omega
  unfold bef
  rw [Bool.eq_iff_iff]
  simp
  omega
theorem CS {l : List Mark} {n : Mark} (h : kc l n.mf n.mn < 0) : JS l n = ue l n := by
  refine G1 fun x hx => ?_
  have hne : ¬ (x.mf = n.mf ∧ x.mn = n.mn) := fun hc => by
    rcases cB l.length (fun i => decide ((mA l i).mf = n.mf) && decide ((mA l i).mn = n.mn)) with ⟨_, h2⟩ | ⟨i, h1, _⟩
    · obtain ⟨j, hj, rfl⟩ := List.getElem_of_mem hx
      have := h2 j hj
      rw [uG (List.getElem?_eq_getElem hj)] at this
      simp [hc.1, hc.2] at this
    · unfold kc at h
      omega
  unfold bef
  rw [Bool.eq_iff_iff]
  simp
  omega
theorem Aa {id ti nx fr nu tt un : Int} {tx : ByteArray} {held : List Note} {marks : List Mark} {inbox : List Note} (sm : SmKeep held marks inbox) (hs : tx.size ≤ 1048576) :
    RetK (ez ((id, ti, nx, held, marks, inbox, ()), (fr, nu, tt, un, tx, ()), ())) (Ca ⟨id, ti, nx, held, marks, inbox⟩ ⟨fr, nu, tt, un, tx⟩) := by
  have hl := sm.hl
  have ml := sm.ml
  have hfresh : gn ((id, ti, nx, held, marks, inbox, ()), (fr, nu, tt, un, tx, ()), ()) =
      some ((aD ⟨fr, nu, tt, un, tx⟩ && (decide (ti < un) && (decide (aO held fr nu < 0) && (decide (kc marks fr nu < 0) && decide (aO inbox fr nu < 0)))), ()), ()) := by
    unfold gn
    simp only [fQ hs, bJ sm.hl, bJ sm.il, eA sm.ml, Option.bind_some, Option.isSome_some, Option.getD_some, show ∀ c, aE c true = true from fun c => rfl, if_true]
    rcases tf (aD ⟨fr, nu, tt, un, tx⟩) with h1 | h1 <;> rcases tf (decide (ti < un)) with h2 | h2 <;> rcases tf (decide (aO held fr nu < 0)) with h3 | h3 <;> simp only [h1, h2, h3, if_true, if_neg Bool.false_ne_true, Bool.true_and, Bool.false_and]
  unfold ez Ca
  have hput := dY (l := held) (fr := fr) (nu := nu) (tt := tt) (un := un) (tx := tx) sm.hl
  have hputI := dY (l := inbox) (fr := fr) (nu := nu) (tt := tt) (un := un) (tx := tx) sm.il
  have hputM := iN (l := marks) (mf := fr) (mn := nu) (mu := un) sm.ml
  simp only [hfresh, hput, hputI, hputM, Option.bind_some]
  rcases tf (aD ⟨fr, nu, tt, un, tx⟩) with h1 | h1
  · rcases dc un ti with h2 | h2
    · simp only [h1, h2, decide_true, decide_false, Bool.true_and, Bool.false_and, Bool.not_false, Bool.not_true, if_true, if_neg Bool.false_ne_true]
      exact RetK.no
    · rcases sgn (aO held fr nu) with h3 | h3
      · rcases sgn (kc marks fr nu) with h4 | h4
        · rcases sgn (aO inbox fr nu) with h5 | h5
          · have q1 : aO held fr nu < 0 := of_eq_true h3.1
            have q2 : kc marks fr nu < 0 := of_eq_true h4.1
            have q3 : aO inbox fr nu < 0 := of_eq_true h5.1
            have lN := pH (fun x : Note => bef x.fr x.nu fr nu) held ⟨fr, nu, tt, un, tx⟩
            have lM := pH (fun x : Mark => bef x.mf x.mn fr nu) marks ⟨fr, nu, un⟩
            have eN : JR held ⟨fr, nu, tt, un, tx⟩ = qV held ⟨fr, nu, tt, un, tx⟩ := Ck q1
            have eI : JR inbox ⟨fr, nu, tt, un, tx⟩ = qV inbox ⟨fr, nu, tt, un, tx⟩ := Ck q3
            have eM : JS marks ⟨fr, nu, un⟩ = ue marks ⟨fr, nu, un⟩ := CS q2
            have l1 : ((qV held ⟨fr, nu, tt, un, tx⟩).length : Int) = held.length + 1 := by unfold qV; rw [lN]; omega
            have l2 : ((ue marks ⟨fr, nu, un⟩).length : Int) = marks.length + 1 := by unfold ue; rw [lM]; omega
            simp only [h1, h2, h3, h4, h5, eN, eI, eM, l1, l2, decide_true, decide_false, Bool.true_and, Bool.not_true, if_neg Bool.false_ne_true,
              aP (n := (held.length : Int) + 1 + marks.length) (by omega) (by omega), aP (n := (held.length : Int) + (marks.length + 1)) (by omega) (by omega)]
            rcases dc ((held.length : Int) + marks.length + 1) 12 with h6 | h6
            · have a1 : decide ((held.length : Int) + 1 + marks.length ≤ 12) = true := by have := of_eq_true h6.1; simp; omega
              have a2 : decide ((held.length : Int) + (marks.length + 1) ≤ 12) = true := by have := of_eq_true h6.1; simp; omega
              simp only [a1, a2, h6, decide_false, if_neg Bool.false_ne_true]
              by_cases h7 : tt = id
              · simp only [h7, decide_true, Bool.not_true, if_neg Bool.false_ne_true, if_true]
                rfl
              · simp only [h7, decide_false, Bool.not_false, if_neg Bool.false_ne_true, if_true]
                rfl
            · have a1 : decide ((held.length : Int) + 1 + marks.length ≤ 12) = false := by have := of_eq_true h6.2; simp; omega
              have a2 : decide ((held.length : Int) + (marks.length + 1) ≤ 12) = false := by have := of_eq_true h6.2; simp; omega
              simp only [a1, a2, h6, decide_true, if_true]
              by_cases h7 : tt = id
              · simp only [h7, decide_true, Bool.not_true, if_neg Bool.false_ne_true]
                exact RetK.no
              · simp only [h7, decide_false, Bool.not_false, if_true]
                exact RetK.no
          · simp only [h1, h2, h3, h4, h5, decide_true, decide_false, Bool.true_and, Bool.false_and, Bool.not_false, Bool.not_true, if_true, if_neg Bool.false_ne_true]
            exact RetK.no
        · simp only [h1, h2, h3, h4, decide_true, decide_false, Bool.true_and, Bool.false_and, Bool.not_false, Bool.not_true, if_true, if_neg Bool.false_ne_true, ite_self]
          exact RetK.no
      · simp only [h1, h2, h3, decide_true, decide_false, Bool.true_and, Bool.false_and, Bool.not_false, Bool.not_true, if_true, if_neg Bool.false_ne_true]
        exact RetK.no
  · simp only [h1, Bool.false_and, Bool.not_false, if_true]
    exact RetK.no
abbrev dt : ByteArray := B [116, 105, 109, 101]
abbrev dw : ByteArray := B [110, 101, 120, 116]
abbrev kb : ByteArray := B [111, 119, 110]
abbrev du : ByteArray := B [116, 97, 107, 101]
abbrev cL : ByteArray := B [104, 101, 108, 100]
abbrev bI : ByteArray := B [105, 110, 98, 111, 120]
abbrev iE : ByteArray := B [108, 101, 116]
abbrev iF : ByteArray := B [101, 97, 116]
abbrev c9 : ByteArray := B [109, 97, 114, 107]
def Fu (k : Keep) (w : ByteArray) (n : Int) : Option Keep :=
  if decide (w = dt) && decide (k.ti < n) then some ⟨k.id, n, k.nx, lJ n k.held, uo n k.marks, k.inbox⟩ else if decide (w = dw) && decide (k.nx < n) then some ⟨k.id, k.ti, n, k.held, k.marks, k.inbox⟩ else none
theorem HQ {id ti nx n : Int} {w : ByteArray} {held : List Note} {marks : List Mark} {inbox : List Note} (sm : SmKeep held marks inbox) :
    RetK (jJ ((id, ti, nx, held, marks, inbox, ()), w, n, ())) (Fu ⟨id, ti, nx, held, marks, inbox⟩ w n) := by
  unfold jJ Fu
  simp only [DY sm, Option.bind_some]
  exact RetK.ite (fun _ => rfl) fun _ => RetK.ite (fun _ => rfl) fun _ => RetK.no
def gU (k : Keep) (w : ByteArray) (n : Note) : Option Keep :=
  if decide (w = kb) && (decide (n.fr = k.id) && decide (n.nu = k.nx)) then Ca ⟨k.id, k.ti, k.nx + 1, k.held, k.marks, k.inbox⟩ n else if decide (w = du) && !decide (n.fr = k.id) then Ca k n else
  if decide (0 ≤ aO k.held n.fr n.nu) || decide (0 ≤ aO k.inbox n.fr n.nu) then none else if decide (w = cL) then some ⟨k.id, k.ti, k.nx, qV k.held n, k.marks, k.inbox⟩ else if decide (w = bI) then some ⟨k.id, k.ti, k.nx, k.held, k.marks, qV k.inbox n⟩ else none
theorem FV {id ti nx fr nu tt un : Int} {w tx : ByteArray} {held : List Note} {marks : List Mark} {inbox : List Note} (sm : SmKeep held marks inbox) (hs : tx.size ≤ 1048576) (h0 : 0 ≤ nx) (h1 : nx ≤ 1000) :
    RetK (fU ((id, ti, nx, held, marks, inbox, ()), w, (fr, nu, tt, un, tx, ()), ())) (gU ⟨id, ti, nx, held, marks, inbox⟩ w ⟨fr, nu, tt, un, tx⟩) := by
  have hj : (if decide (w = kb) then (some (.inr (w, (id, ti, nx, held, marks, inbox, ()), (fr, nu, tt, un, tx, ()), (0, 0, 0, ([] : List Note), ([] : List Mark), ([] : List Note), ()), decide (fr = id) && decide (nu = nx), ())) : Option (((KL × Bool × Unit) × Unit) ⊕ (ByteArray × KL × (Int × Int × Int × Int × ByteArray × Unit) × KL × Bool × Unit))) else
      some (.inr (w, (id, ti, nx, held, marks, inbox, ()), (fr, nu, tt, un, tx, ()), (0, 0, 0, ([] : List Note), ([] : List Mark), ([] : List Note), ()), false, ()))) =
      some (.inr (w, (id, ti, nx, held, marks, inbox, ()), (fr, nu, tt, un, tx, ()), (0, 0, 0, ([] : List Note), ([] : List Mark), ([] : List Note), ()), decide (w = kb) && (decide (fr = id) && decide (nu = nx)), ())) := by
    cases decide (w = kb) <;> rfl
  unfold fU gU
  simp only [hj, ce]
  refine RetK.ite (fun _ => ?_) fun _ => ?_
  · rw [aP (by omega) (by omega)]
    exact (uH sm hs).eta
  refine RetK.ite (fun _ => (uH sm hs).eta) fun _ => ?_
  simp only [dH sm.hl, dH sm.il, Option.bind_some, Option.isSome_some, Option.getD_some, show ∀ c, aE c true = true from fun c => rfl, if_true]
  refine RetK.neg fun _ => ?_
  simp only [kS sm.hl, kS sm.il, Option.bind_some]
  exact RetK.ite (fun _ => rfl) fun _ => RetK.ite (fun _ => rfl) fun _ => RetK.no
end Go.VS
namespace Go.VS
open Go
theorem tB {l : List Note} {f n : Int} (h : 0 ≤ aO l f n) : (aO l f n).toNat < l.length ∧ ((aO l f n).toNat : Int) = aO l f n ∧ (nA l (aO l f n).toNat).fr = f ∧ (nA l (aO l f n).toNat).nu = n := by
  rcases cB l.length (fun i => decide ((nA l i).fr = f) && decide ((nA l i).nu = n)) with ⟨h1, _⟩ | ⟨i, h1, h2, h3, _⟩
  · unfold aO at h; omega
  · have e : aO l f n = (i : Int) := h1
    rw [e]
    simp at h3
    exact ⟨h2, rfl, h3.1, h3.2⟩
theorem DV {l : List Note} {f n : Int} (h : 0 ≤ aO l f n) : inb (aO l f n) l.length = true := by
  obtain ⟨h1, h2, _⟩ := tB h
  rw [← h2]
  exact ae h1
theorem G2 {l : List Note} {f n : Int} : aE (decide (0 ≤ aO l f n)) (inb (aO l f n) l.length) = true := by
  rcases tf (decide (0 ≤ aO l f n)) with h | h
  · rw [h, bU, DV (of_decide_eq_true h)]
  · rw [h, bq]
def qX (l : List Note) (m : Mark) : Bool := decide (0 ≤ aO l m.mf m.mn) && decide ((nA l (aO l m.mf m.mn).toNat).un = m.mu)
def cD (k : Keep) (w : ByteArray) (m : Mark) : Option Keep :=
  if decide (w = iE) && qX k.held m then some ⟨k.id, k.ti, k.nx, AC k.held (aO k.held m.mf m.mn).toNat, ue k.marks m, k.inbox⟩ else
  if decide (w = iF) && qX k.inbox m then some ⟨k.id, k.ti, k.nx, k.held, k.marks, AC k.inbox (aO k.inbox m.mf m.mn).toNat⟩ else
  if decide (w = c9) && !decide (0 ≤ kc k.marks m.mf m.mn) then some ⟨k.id, k.ti, k.nx, k.held, ue k.marks m, k.inbox⟩ else none
theorem OS {l : List Note} {f n : Int} (hl : l.length ≤ 1048576) (h : 0 ≤ aO l f n) : cY (l, aO l f n, ()) = some ((AC l (aO l f n).toNat, ()), ()) := by
  obtain ⟨h1, h2, _⟩ := tB h
  conv => lhs; rw [← h2]
  exact DW hl h1
theorem FW {id ti nx a b c : Int} {w : ByteArray} {held : List Note} {marks : List Mark} {inbox : List Note} (sm : SmKeep held marks inbox) :
    RetK (fV ((id, ti, nx, held, marks, inbox, ()), w, (a, b, c, ()), ())) (cD ⟨id, ti, nx, held, marks, inbox⟩ w ⟨a, b, c⟩) := by
  unfold fV cD
  simp only [dH sm.hl, dH sm.il, fS sm.ml, Option.bind_some, G2, bq, if_true]
  have hj : (if decide (w = iE) then (some (.inr (w, (id, ti, nx, held, marks, inbox, ()), (a, b, c, ()), (0, 0, 0, ([] : List Note), ([] : List Mark), ([] : List Note), ()), aO held a b, aO inbox a b, decide (0 ≤ kc marks a b), decide (0 ≤ aO held a b) && decide ((@rd Note (dfl .note) held (aO held a b)).un = c), ())) : Option (((KL × Bool × Unit) × Unit) ⊕ (ByteArray × KL × (Int × Int × Int × Unit) × KL × Int × Int × Bool × Bool × Unit))) else
      some (.inr (w, (id, ti, nx, held, marks, inbox, ()), (a, b, c, ()), (0, 0, 0, ([] : List Note), ([] : List Mark), ([] : List Note), ()), aO held a b, aO inbox a b, decide (0 ≤ kc marks a b), false, ()))) =
      some (.inr (w, (id, ti, nx, held, marks, inbox, ()), (a, b, c, ()), (0, 0, 0, ([] : List Note), ([] : List Mark), ([] : List Note), ()), aO held a b, aO inbox a b, decide (0 ≤ kc marks a b), decide (w = iE) && qX held ⟨a, b, c⟩, ())) := by
    cases decide (w = iE) <;> rfl
  simp only [hj, ce]
  refine RetK.ite (fun h => ?_) fun _ => ?_
  · simp only [qX, Bool.and_eq_true, decide_eq_true_eq] at h
    simp only [OS sm.hl h.2.1, nS sm.ml, Option.bind_some]
    rfl
  simp only [G2, bq, if_true]
  have hj2 : (if decide (w = iF) then (some (.inr (w, (id, ti, nx, held, marks, inbox, ()), (a, b, c, ()), (0, 0, 0, ([] : List Note), ([] : List Mark), ([] : List Note), ()), aO inbox a b, decide (0 ≤ kc marks a b), decide (0 ≤ aO inbox a b) && decide ((@rd Note (dfl .note) inbox (aO inbox a b)).un = c), ())) : Option (((KL × Bool × Unit) × Unit) ⊕ (ByteArray × KL × (Int × Int × Int × Unit) × KL × Int × Bool × Bool × Unit))) else
      some (.inr (w, (id, ti, nx, held, marks, inbox, ()), (a, b, c, ()), (0, 0, 0, ([] : List Note), ([] : List Mark), ([] : List Note), ()), aO inbox a b, decide (0 ≤ kc marks a b), false, ()))) =
      some (.inr (w, (id, ti, nx, held, marks, inbox, ()), (a, b, c, ()), (0, 0, 0, ([] : List Note), ([] : List Mark), ([] : List Note), ()), aO inbox a b, decide (0 ≤ kc marks a b), decide (w = iF) && qX inbox ⟨a, b, c⟩, ())) := by
    cases decide (w = iF) <;> rfl
  simp only [hj2, ce]
  refine RetK.ite (fun h => ?_) fun _ => ?_
  · simp only [qX, Bool.and_eq_true, decide_eq_true_eq] at h
    simp only [OS sm.il h.2.1, Option.bind_some]
    rfl
  simp only [nS sm.ml, Option.bind_some]
  exact RetK.ite (fun _ => rfl) fun _ => RetK.no
structure KeepFit (k : Keep) : Prop where
  id0 : 0 ≤ k.id
  id1 : k.id ≤ 3
  t0 : 0 ≤ k.ti
  t1 : k.ti ≤ 999
  n0 : 1 ≤ k.nx
  n1 : k.nx ≤ 100
  hl : k.held.length ≤ 6
  h : cl k.held = true
  ml : k.marks.length ≤ 12
  m : gx k.marks = true
  il : k.inbox.length ≤ 6
  i : cl k.inbox = true
  ho : ∀ i, i < k.held.length → lA k.id k.ti k.nx k.held k.marks i = true
  mo : ∀ i, i < k.marks.length → fR k.id k.ti k.nx k.marks i = true
  io : ∀ i, i < k.inbox.length → kR k.id k.ti k.nx k.marks k.inbox i = true
theorem l5 {k : Keep} (h : aR k = true) : KeepFit k := by
  unfold aR at h
  simp only [Bool.and_eq_true, be, decide_eq_true_eq, lp] at h
  obtain ⟨⟨a, b⟩, ⟨c, d⟩, ⟨e, f⟩, ⟨g, i⟩, ⟨j, l⟩, ⟨m, n⟩, o, p, q⟩ := h
  exact ⟨a, b, c, d, e, f, by omega, i, by omega, l, by omega, n, o, p, q⟩
theorem pz {l : List Note} (h : cl l = true) {i : Nat} (hi : i < l.length) : aD (nA l i) = true := by
  have := lp.1 h i hi
  simp only [Bool.and_eq_true] at this
  exact this.1
theorem JY {l : List Mark} (h : gx l = true) {i : Nat} (hi : i < l.length) : pF (mA l i) = true := by
  have := lp.1 h i hi
  simp only [Bool.and_eq_true] at this
  exact this.1
theorem Af {l : List Note} (h : cl l = true) {x : Note} (hx : x ∈ l) : aD x = true := by
  obtain ⟨i, hi, rfl⟩ := List.getElem_of_mem hx
  have := pz h hi
  rwa [nq (List.getElem?_eq_getElem hi)] at this
theorem IR {l : List Mark} (h : gx l = true) {x : Mark} (hx : x ∈ l) : pF x = true := by
  obtain ⟨i, hi, rfl⟩ := List.getElem_of_mem hx
  have := JY h hi
  rwa [uG (List.getElem?_eq_getElem hi)] at this
theorem cS {n : Note} (h : aD n = true) : cH n := by
  have := (fp h).s1
  unfold cH
  omega
theorem KeepFit.sm {k : Keep} (h : KeepFit k) : SmKeep k.held k.marks k.inbox := by
  obtain ⟨id0, id1, t0, t1, n0, n1, hl, hh, ml, m, il, hi, ho, mo, io⟩ := h
  exact ⟨by omega, fun x hx => cS (Af hh hx), by omega, by omega, fun x hx => cS (Af hi hx)⟩
theorem tJ {l : List Note} {n : Note} (hl : l.length ≤ 6) (h : ∀ x ∈ l, cH x) (hn : cH n) : (qV l n).length ≤ 1048576 ∧ ∀ x ∈ qV l n, cH x := by
  refine ⟨by unfold qV; rw [pH]; omega, fun x hx => ?_⟩
  rcases Ov _ hx with rfl | hx
  · exact hn
  · exact h x hx
theorem xW {l : List Mark} {n : Mark} (hl : l.length ≤ 12) : (ue l n).length ≤ 1048576 := by unfold ue; rw [pH]; omega
theorem Cl {l : List Note} {i : Nat} (hl : l.length ≤ 6) (h : ∀ x ∈ l, cH x) : (AC l i).length ≤ 1048576 ∧ ∀ x ∈ AC l i, cH x := by
  refine ⟨by unfold AC; simp; omega, fun x hx => ?_⟩
  unfold AC at hx
  rcases List.mem_append.1 hx with hx | hx
  · exact h x (List.mem_of_mem_take hx)
  · exact h x (List.mem_of_mem_drop hx)
abbrev SmK (k : Keep) : Prop := SmKeep k.held k.marks k.inbox
theorem Ct {k k' : Keep} {n : Note} (hf : KeepFit k) (hk : k'.held = k.held ∧ k'.marks = k.marks ∧ k'.inbox = k.inbox) {o : Keep} (h : Ca k' n = some o) : SmK o := by
  have sm := hf.sm
  have l1 := hf.hl
  have l2 := hf.ml
  have l3 := hf.il
  unfold Ca at h
  rw [hk.1, hk.2.1, hk.2.2] at h
  split at h
  · cases h
  rename_i hn
  have hn : cH n := cS (by simpa using hn)
  iterate 5 (split at h; · cases h)
  split at h <;> cases h
  · have a := tJ l3 sm.i hn
    exact ⟨sm.hl, sm.h, xW l2, a.1, a.2⟩
  · have a := tJ l1 sm.h hn
    exact ⟨a.1, a.2, sm.ml, sm.il, sm.i⟩
theorem Oi {k : Keep} {w : ByteArray} {n : Int} (hf : KeepFit k) {o : Keep} (h : Fu k w n = some o) : SmK o := by
  have sm := hf.sm
  have l1 := hf.hl
  have l2 := hf.ml
  unfold Fu at h
  split at h
  · cases h
    have a := List.length_filter_le (fun x : Note => decide (n < x.un)) k.held
    have b := List.length_filter_le (fun x : Mark => decide (n < x.mu)) k.marks
    exact ⟨by unfold lJ; simp only; omega, fun x hx => sm.h x (List.mem_filter.1 hx).1, by unfold uo; simp only; omega, sm.il, sm.i⟩
  · split at h <;> cases h
    exact sm
theorem Kb {k : Keep} {w : ByteArray} {n : Note} (hf : KeepFit k) (hn : aD n = true) {o : Keep} (h : gU k w n = some o) : SmK o := by
  have sm := hf.sm
  unfold gU at h
  split at h
  · exact Ct (k' := ⟨k.id, k.ti, k.nx + 1, k.held, k.marks, k.inbox⟩) hf ⟨rfl, rfl, rfl⟩ h
  split at h
  · exact Ct (k' := k) hf ⟨rfl, rfl, rfl⟩ h
  split at h
  · cases h
  split at h
  · cases h
    have a := tJ hf.hl sm.h (cS hn)
    exact ⟨a.1, a.2, sm.ml, sm.il, sm.i⟩
  split at h <;> cases h
  have a := tJ hf.il sm.i (cS hn)
  exact ⟨sm.hl, sm.h, sm.ml, a.1, a.2⟩
theorem Kd {k : Keep} {w : ByteArray} {m : Mark} (hf : KeepFit k) {o : Keep} (h : cD k w m = some o) : SmK o := by
  have sm := hf.sm
  unfold cD at h
  split at h
  · cases h
    have a := Cl (i := (aO k.held m.mf m.mn).toNat) hf.hl sm.h
    exact ⟨a.1, a.2, xW hf.ml, sm.il, sm.i⟩
  split at h
  · cases h
    have a := Cl (i := (aO k.inbox m.mf m.mn).toNat) hf.il sm.i
    exact ⟨sm.hl, sm.h, sm.ml, a.1, a.2⟩
  split at h <;> cases h
  exact ⟨sm.hl, sm.h, xW hf.ml, sm.il, sm.i⟩
theorem sR {k : Keep} {w : ByteArray} {m : Mark} (hf : KeepFit k) (hm : pF m = false) : cD k w m = none ∨ ∃ o, cD k w m = some o ∧ aR o = false := by
  have hit : ∀ l, cl l = true → qX l m = false := fun l hl => by
    unfold qX
    rcases tf (decide (0 ≤ aO l m.mf m.mn)) with h | h
    · obtain ⟨h1, _, h2, h3⟩ := tB (of_decide_eq_true h)
      rw [h, Bool.true_and, decide_eq_false_iff_not]
      intro h4
      have h5 := fp (pz hl h1)
      have : pF m = true := by
        unfold pF
        simp only [Bool.and_eq_true, be]
        have := h5.f0; have := h5.f1; have := h5.n0; have := h5.n1; have := h5.u0; have := h5.u1
        omega
      rw [this] at hm
      cases hm
    · rw [h]; rfl
  unfold cD
  rw [hit _ hf.h, hit _ hf.i, Bool.and_false, Bool.and_false, if_neg Bool.false_ne_true, if_neg Bool.false_ne_true]
  split
  · refine .inr ⟨_, rfl, ?_⟩
    rcases tf (aR ⟨k.id, k.ti, k.nx, k.held, ue k.marks m, k.inbox⟩) with h | h
    · have := IR (l5 h).m (Ok (fun x => bef x.mf x.mn m.mf m.mn) (l := k.marks) (n := m) (.inl rfl))
      rw [hm] at this
      cases this
    · exact h
  · exact .inl rfl
end Go.VS
namespace Go.VS
open Go
def mj (r : ByteArray) : Option Mark := match Lib.splitK [32] 0 ((L r).count 32) (L r) with
  | [p, q, t] => if (aq (B p)).2 && ((aq (B q)).2 && ((aq (B t)).2 && true)) then some ⟨(aq (B p)).1, (aq (B q)).1, (aq (B t)).1⟩ else none
  | _ => none
noncomputable def db (k : Keep) (w r : ByteArray) : Option Keep :=
  if decide (w = dt) || decide (w = dw) then (if (aq r).2 then Fu k w (aq r).1 else none) else
  if decide (w = kb) || (decide (w = du) || (decide (w = cL) || decide (w = bI))) then (match bg r with | some n => gU k w n | none => none) else
  if decide (w = iE) || (decide (w = iF) || decide (w = c9)) then (match mj r with | some m => cD k w m | none => none) else none
noncomputable def q5 (k : Keep) (rec : ByteArray) : Option Keep := if !(Jh (L rec)).isSome then none else db k (wd rec).1 (wd rec).2
theorem MD {id ti nx : Int} {w r : ByteArray} {held : List Note} {marks : List Mark} {inbox : List Note} (sm : SmKeep held marks inbox) (hr : r.size ≤ 1048576) :
    RetK ((gc (r, B [32], ())).bind fun r46 => (co (r46.1.1, ())).bind fun r47 =>
      if r47.1.2.1 && decide ((r47.1.1.length : Int) = 3) then (if inb 0 r47.1.1.length then (if inb 1 r47.1.1.length then (if inb 2 r47.1.1.length then
        (fV ((id, ti, nx, held, marks, inbox, ()), w, ((@rd Int (dfl .int) r47.1.1 0), (@rd Int (dfl .int) r47.1.1 1), (@rd Int (dfl .int) r47.1.1 2), ()), ())).bind fun r48 => some (((r48.1.1.1, r48.1.1.2.1, r48.1.1.2.2.1, r48.1.1.2.2.2.1, r48.1.1.2.2.2.2.1, r48.1.1.2.2.2.2.2.1, ()), r48.1.2.1, ()), ())
        else none) else none) else none)
      else some (((id, ti, nx, held, marks, inbox, ()), false, ()), ())) (match mj r with | some m => cD ⟨id, ti, nx, held, marks, inbox⟩ w m | none => none) := by
  unfold mj
  simp only [N9 hr, Option.bind_some]
  have hsz := q6 ((L r).count 32) (L r)
  have hln := vE ((L r).count 32) (L r)
  have hcnt : (L r).count 32 ≤ r.size := List.count_le_length
  generalize Lib.splitK [32] 0 ((L r).count 32) (L r) = ps at *
  have hb : ∀ p ∈ ps, (B p).size ≤ 1048576 := fun p hp => by
    have := hsz p hp
    rw [lq] at this
    rw [yR]
    omega
  rw [Dj (by simp; omega) (fun w hw => by
    obtain ⟨p, hp, rfl⟩ := List.mem_map.1 hw
    exact hb p hp)]
  simp only [Option.bind_some]
  by_cases h3 : ps.length = 3
  · match ps, h3 with
    | [p, q, t], _ =>
      have eall : aN (([p, q, t] : List (List UInt8)).map B).length (fun i => (aq ((([p, q, t] : List (List UInt8)).map B).getD i noB)).2) = ((aq (B p)).2 && ((aq (B q)).2 && ((aq (B t)).2 && true))) := rfl
      rw [eall]
      rcases tf ((aq (B p)).2 && ((aq (B q)).2 && ((aq (B t)).2 && true))) with h | h
      · simp only [h, if_true]
        exact (FW sm).eta
      · simp only [h, if_neg Bool.false_ne_true, Bool.false_and]
        exact RetK.no
  · have e1 : ∀ c : Bool, (((if c then (((ps.map B).map (fun w => (aq w).1)), true, ()) else (([] : List Int), false, ())).2.1 && decide ((((if c then (((ps.map B).map (fun w => (aq w).1)), true, ()) else (([] : List Int), false, ())) : List Int × Bool × Unit).1.length : Int) = 3)) = false) := by
      intro c
      cases c
      · rfl
      · simp
        omega
    rw [if_neg (by rw [e1]; simp)]
    have e2 : (match ps with | [p, q, t] => if (aq (B p)).2 && ((aq (B q)).2 && ((aq (B t)).2 && true)) then some (⟨(aq (B p)).1, (aq (B q)).1, (aq (B t)).1⟩ : Mark) else none | _ => none) = none := by
      split
      · exact absurd rfl h3
      · rfl
    rw [e2]
    exact RetK.no
theorem Pg {id ti nx : Int} {w r : ByteArray} {held : List Note} {marks : List Mark} {inbox : List Note} (sm : SmKeep held marks inbox) (hr : r.size ≤ 1048576) {t : KL} :
    RetK ((cj (r, ())).bind fun r33 => if r33.1.2.1 then (jJ ((id, ti, nx, held, marks, inbox, ()), w, r33.1.1, ())).bind fun r34 => some (((r34.1.1.1, r34.1.1.2.1, r34.1.1.2.2.1, r34.1.1.2.2.2.1, r34.1.1.2.2.2.2.1, r34.1.1.2.2.2.2.2.1, ()), r34.1.2.1, ()), ())
      else some ((t, false, ()), ())) (if (aq r).2 then Fu ⟨id, ti, nx, held, marks, inbox⟩ w (aq r).1 else none) := by
  simp only [jx (show r.size ≤ 9223372036854775807 by omega), Option.bind_some]
  exact RetK.ite (fun _ => (HQ sm).eta) fun _ => RetK.no
theorem Pu {id ti nx : Int} {w r : ByteArray} {held : List Note} {marks : List Mark} {inbox : List Note} (sm : SmKeep held marks inbox) (hr : r.size ≤ 1048576) (h0 : 0 ≤ nx) (h1 : nx ≤ 1000) {t : KL} :
    RetK ((dC (r, ())).bind fun r40 => if r40.1.2.1 then (fU ((id, ti, nx, held, marks, inbox, ()), w, (r40.1.1.1, r40.1.1.2.1, r40.1.1.2.2.1, r40.1.1.2.2.2.1, r40.1.1.2.2.2.2.1, ()), ())).bind fun r41 =>
        some (((r41.1.1.1, r41.1.1.2.1, r41.1.1.2.2.1, r41.1.1.2.2.2.1, r41.1.1.2.2.2.2.1, r41.1.1.2.2.2.2.2.1, ()), r41.1.2.1, ()), ())
      else some ((t, false, ()), ())) (match bg r with | some n => gU ⟨id, ti, nx, held, marks, inbox⟩ w n | none => none) := by
  simp only [Bd hr, Option.bind_some]
  cases h : bg r with
  | none => exact RetK.no
  | some n =>
    have := cS (bM h).1
    exact (FV sm this h0 h1).eta
theorem or3 {a b c : Bool} {Ω X : Type} {f : Bool → X} : (if a then (some (.inr (f a)) : Option (Ω ⊕ X)) else if b then some (.inr (f b)) else some (.inr (f c))) = some (.inr (f (a || (b || c)))) := by cases a <;> cases b <;> rfl
theorem or2 {a b : Bool} {Ω X : Type} {f : Bool → X} : (if a then (some (.inr (f a)) : Option (Ω ⊕ X)) else some (.inr (f b))) = some (.inr (f (a || b))) := by cases a <;> rfl
theorem or4 {a b c d : Bool} {Ω X : Type} {f : Bool → X} : (if a then (some (.inr (f a)) : Option (Ω ⊕ X)) else if b then some (.inr (f b)) else if c then some (.inr (f c)) else some (.inr (f d))) = some (.inr (f (a || (b || (c || d))))) := by cases a <;> cases b <;> cases c <;> rfl
theorem GX {a b : Bool} {Ω X : Type} {f : Bool → X} {g : X → Option Ω} {m : Option (Ω ⊕ X)} (h : m = (if a then (some (.inr (f a)) : Option (Ω ⊕ X)) else some (.inr (f b)))) : fH g m = g (f (a || b)) := by rw [h, or2]; rfl
theorem LV {a b c : Bool} {Ω X : Type} {f : Bool → X} {g : X → Option Ω} {m : Option (Ω ⊕ X)} (h : m = (if a then (some (.inr (f a)) : Option (Ω ⊕ X)) else if b then some (.inr (f b)) else some (.inr (f c)))) : fH g m = g (f (a || (b || c))) := by rw [h, or3]; rfl
theorem LU {a b c d : Bool} {Ω X : Type} {f : Bool → X} {g : X → Option Ω} {m : Option (Ω ⊕ X)} (h : m = (if a then (some (.inr (f a)) : Option (Ω ⊕ X)) else if b then some (.inr (f b)) else if c then some (.inr (f c)) else some (.inr (f d)))) : fH g m = g (f (a || (b || (c || d)))) := by rw [h, or4]; rfl
theorem HR {id ti nx : Int} {rec : ByteArray} {held : List Note} {marks : List Mark} {inbox : List Note} (sm : SmKeep held marks inbox) (hr : rec.size ≤ 1048576) (h0 : 0 ≤ nx) (h1 : nx ≤ 1000) :
    RetK (jK ((id, ti, nx, held, marks, inbox, ()), rec, ())) (q5 ⟨id, ti, nx, held, marks, inbox⟩ rec) := by
  have hr2 : (wd rec).2.size ≤ 1048576 := by have := (wW rec).2; omega
  unfold jK q5 db
  simp only [PD hr, Option.bind_some]
  refine RetK.neg fun _ => ?_
  rw [GX (a := decide ((wd rec).1 = dt)) (b := decide ((wd rec).1 = dw)) (f := fun v => ((id, ti, nx, held, marks, inbox, ()), (0, 0, 0, [], [], [], ()), (wd rec).1, (wd rec).2, (wd rec).1, v, ())) rfl]
  refine RetK.ite (fun _ => Pg sm hr2) fun _ => ?_
  simp only
  rw [LU (a := decide ((wd rec).1 = kb)) (b := decide ((wd rec).1 = du)) (c := decide ((wd rec).1 = cL)) (d := decide ((wd rec).1 = bI)) (f := fun v => ((id, ti, nx, held, marks, inbox, ()), (0, 0, 0, [], [], [], ()), (wd rec).1, (wd rec).2, (wd rec).1, v, ())) rfl]
  refine RetK.ite (fun _ => Pu sm hr2 h0 h1) fun _ => ?_
  simp only
  rw [LV (a := decide ((wd rec).1 = iE)) (b := decide ((wd rec).1 = iF)) (c := decide ((wd rec).1 = c9)) (f := fun v => ((id, ti, nx, held, marks, inbox, ()), (0, 0, 0, [], [], [], ()), (wd rec).1, (wd rec).2, v, ())) rfl]
  exact RetK.ite (fun _ => MD sm hr2) fun _ => RetK.no
theorem MK {k : Keep} {rec : ByteArray} (hf : KeepFit k) {o : Keep} (h : q5 k rec = some o) : SmK o := by
  unfold q5 at h
  split at h
  · cases h
  unfold db at h
  split at h
  · split at h
    · exact Oi hf h
    · cases h
  split at h
  · cases hn : bg (wd rec).2 with
    | none => rw [hn] at h; cases h
    | some n => rw [hn] at h; exact Kb hf (bM hn).1 h
  split at h
  · cases hn : mj (wd rec).2 with
    | none => rw [hn] at h; cases h
    | some n => rw [hn] at h; exact Kd hf h
  · cases h
noncomputable def jn (k : Keep) (rec : ByteArray) : Keep × Bool :=
  if aR k then (match (q5 k rec).filter aR with | some k' => (k', true) | none => (k, false)) else (⟨0, 0, 0, [], [], []⟩, false)
theorem F1 {id ti nx : Int} {rec : ByteArray} {held : List Note} {marks : List Mark} {inbox : List Note} (sm : SmKeep held marks inbox) (hr : rec.size ≤ 1048576) :
    kX ((id, ti, nx, held, marks, inbox, ()), rec, ()) = some ((tK (jn ⟨id, ti, nx, held, marks, inbox⟩ rec).1, (jn ⟨id, ti, nx, held, marks, inbox⟩ rec).2, ()), ()) := by
  unfold kX jn
  simp only [uI sm, qh sm, Option.bind_some]
  rcases tf (aR ⟨id, ti, nx, held, marks, inbox⟩) with h | h
  · have hf := l5 h
    have ha := HR (id := id) (ti := ti) (nx := nx) sm hr (by have := hf.n0; simp only at this; omega) (by have := hf.n1; simp only at this; omega)
    simp only [h, Bool.not_true, if_neg Bool.false_ne_true, if_true]
    cases hst : q5 ⟨id, ti, nx, held, marks, inbox⟩ rec with
    | none =>
      rw [hst] at ha
      obtain ⟨t, ht⟩ := ha
      simp only [ht, Option.bind_some, Bool.not_false, Bool.not_true, bq, if_true, Bool.true_or]
      rfl
    | some o =>
      rw [hst] at ha
      have sm' := MK hf hst
      rw [show jK ((id, ti, nx, held, marks, inbox, ()), rec, ()) = some ((tK o, true, ()), ()) from ha]
      simp only [Option.bind_some, Bool.not_true, Bool.not_false, bU, uI sm', qh sm', Option.isSome_some, Option.getD_some, if_true, Bool.false_or, Option.filter_some]
      rcases tf (aR o) with h2 | h2
      · simp only [h2, Bool.not_true, if_neg Bool.false_ne_true, if_true]
      · simp only [h2, Bool.not_false, if_neg Bool.false_ne_true, if_true]
  · simp only [h, Bool.not_false, if_neg Bool.false_ne_true, if_true]
end Go.VS
namespace Go.VS
open Go
theorem JM {id ti nx a b : Int} {held : List Note} {marks : List Mark} {inbox : List Note} (sm : SmKeep held marks inbox) (h : 0 ≤ aO held a b) :
    kI ((id, ti, nx, held, marks, inbox, ()), a, b, ()) = some (((id, ti, nx, AC held (aO held a b).toNat, JS marks ⟨a, b, (nA held (aO held a b).toNat).un⟩, inbox, ()), true, ()), ()) := by
  obtain ⟨h1, h2, _⟩ := tB h
  have hl := sm.hl
  unfold kI
  have hneg : decide (aO held a b < 0) = false := by simp; omega
  simp only [bJ sm.hl, Option.bind_some, hneg, if_neg Bool.false_ne_true, DV h, if_true]
  generalize hi : (aO held a b).toNat = i at *
  rw [← h2]
  have e1 : (decide (0 ≤ (i : Int)) && decide ((i : Int) ≤ (held.length : Int))) = true := by simp; omega
  have e2 : (decide (0 ≤ ((i + 1 : Nat) : Int)) && decide (((i + 1 : Nat) : Int) ≤ (held.length : Int))) = true := by simp; omega
  simp only [ab h1 (by omega : held.length ≤ 9223372036854775807), e1, e2, if_true, Int.toNat_natCast, List.nil_append, List.length_nil, Nat.zero_add, List.length_take, List.length_drop, aV, iN sm.ml, Option.bind_some]
  rw [if_pos (aM (by omega)), if_pos (aM (by omega))]
  rfl
theorem JN {id ti nx a b : Int} {held : List Note} {marks : List Mark} {inbox : List Note} (sm : SmKeep held marks inbox) (h : 0 ≤ aO inbox a b) :
    kJ ((id, ti, nx, held, marks, inbox, ()), a, b, ()) = some (((id, ti, nx, held, marks, AC inbox (aO inbox a b).toNat, ()), true, ()), ()) := by
  obtain ⟨h1, h2, _⟩ := tB h
  have hl := sm.il
  unfold kJ
  have hneg : decide (aO inbox a b < 0) = false := by simp; omega
  simp only [bJ sm.il, Option.bind_some, hneg, if_neg Bool.false_ne_true]
  generalize hi : (aO inbox a b).toNat = i at *
  rw [← h2]
  have e1 : (decide (0 ≤ (i : Int)) && decide ((i : Int) ≤ (inbox.length : Int))) = true := by simp; omega
  have e2 : (decide (0 ≤ ((i + 1 : Nat) : Int)) && decide (((i + 1 : Nat) : Int) ≤ (inbox.length : Int))) = true := by simp; omega
  simp only [ab h1 (by omega : inbox.length ≤ 9223372036854775807), e1, e2, if_true, Int.toNat_natCast, List.nil_append, List.length_nil, Nat.zero_add, List.length_take, List.length_drop]
  rw [if_pos (aM (by omega)), if_pos (aM (by omega))]
  rfl
noncomputable def F8 (r : ByteArray) : Bool := !decide (cQ r 3 = noB) || !decide (r = ((((c7 (an (ah r 0)) ++ B [32]) ++ c7 (an (ah r 1))) ++ B [32]) ++ c7 (an (ah r 2))))
def mk3 (r : ByteArray) : Mark := ⟨an (ah r 0), an (ah r 1), an (ah r 2)⟩
noncomputable def cw (k : Keep) (w r : ByteArray) : Option Keep :=
  if decide (w = dt) then (if decide (an r ≤ k.ti) then none else some ⟨k.id, an r, k.nx, lJ (an r) k.held, uo (an r) k.marks, k.inbox⟩) else
  if decide (w = kb) then (match bg r with | some n => if !decide (n.fr = k.id) then none else if !decide (n.nu = k.nx) then none else Ca ⟨k.id, k.ti, k.nx + 1, k.held, k.marks, k.inbox⟩ n | none => none) else
  if decide (w = du) then (match bg r with | some n => if decide (n.fr = k.id) then none else Ca k n | none => none) else
  if decide (w = dw) then (if decide (an r ≤ k.nx) then none else some ⟨k.id, k.ti, an r, k.held, k.marks, k.inbox⟩) else
  if decide (w = cL) || decide (w = bI) then (match bg r with | some n => if decide (0 ≤ aO k.held n.fr n.nu) then none else if decide (0 ≤ aO k.inbox n.fr n.nu) then none else if decide (w = cL) then some ⟨k.id, k.ti, k.nx, qV k.held n, k.marks, k.inbox⟩ else some ⟨k.id, k.ti, k.nx, k.held, k.marks, qV k.inbox n⟩ | none => none) else
  if F8 r then none else
  if decide (w = iE) then (if !qX k.held (mk3 r) then none else some ⟨k.id, k.ti, k.nx, AC k.held (aO k.held (mk3 r).mf (mk3 r).mn).toNat, ue k.marks (mk3 r), k.inbox⟩) else
  if decide (w = iF) then (if !qX k.inbox (mk3 r) then none else some ⟨k.id, k.ti, k.nx, k.held, k.marks, AC k.inbox (aO k.inbox (mk3 r).mf (mk3 r).mn).toNat⟩) else
  if decide (w = c9) then (if decide (0 ≤ kc k.marks (mk3 r).mf (mk3 r).mn) then none else some ⟨k.id, k.ti, k.nx, k.held, ue k.marks (mk3 r), k.inbox⟩) else none
theorem pR (s : ByteArray) : -1 ≤ an s ∧ an s < 10000 := by
  rcases mY s with ⟨h, _⟩ | ⟨n, h, h1, h2⟩
  · omega
  · have : n < 10000 := by
      have hv := Hu 4 (L s) (by rw [lq]; omega) (by rw [h2]; exact HX (n + 1) n (by omega))
      rw [h2, Ce (n + 1) n (by omega)] at hv
      omega
    omega
theorem vN {n : Int} (h0 : -1 ≤ n) (h1 : n < 10000) : (c7 n).size ≤ 4 := by
  by_cases h : 0 ≤ n
  · exact fl h (by omega) (by omega)
  · obtain rfl : n = -1 := by omega
    have : c7 (-1) = B [45, 49] := by
      apply tk
      show Lib.itoa (-1) = _
      rw [show (-1 : Int) = -((1 : Nat) : Int) by rfl, Lib.itoa_neg _ (by omega)]
      show 45 :: dcm 1 = _
      rw [c6 (by omega)]
      rfl
    rw [this]
    decide
theorem Nj {l : List Note} {m : Mark} : (decide (aO l m.mf m.mn < 0) || !decide ((@rd Note (dfl .note) l (aO l m.mf m.mn)).un = m.mu)) = !qX l m := by
  unfold qX
  rcases sgn (aO l m.mf m.mn) with h | h
  · simp only [h, decide_true, decide_false, Bool.true_or, Bool.false_and, Bool.not_false]
  · simp only [h, decide_true, decide_false, Bool.false_or, Bool.true_and]
    rfl
theorem Ng {l : List Note} {f n : Int} : aE (!(decide (aO l f n < 0))) (inb (aO l f n) l.length) = true := by
  rcases sgn (aO l f n) with h | h
  · simp only [h, decide_true, Bool.not_true, bq]
  · simp only [h, decide_false, Bool.not_false, bU, DV (of_eq_true h.2)]
theorem JK {id ti nx : Int} {rec : ByteArray} {held : List Note} {marks : List Mark} {inbox : List Note} (hf : KeepFit ⟨id, ti, nx, held, marks, inbox⟩) (hr : rec.size ≤ 1048576) :
    RetK (fP ((id, ti, nx, held, marks, inbox, ()), rec, ())) (cw ⟨id, ti, nx, held, marks, inbox⟩ (wd rec).1 (wd rec).2) := by
  have sm : SmKeep held marks inbox := hf.sm
  have hn0 : 1 ≤ nx := hf.n0
  have hn1 : nx ≤ 100 := hf.n1
  have hr2 : (wd rec).2.size ≤ 1048576 := by have := (wW rec).2; omega
  unfold fP cw
  simp only [Mv hr, Option.bind_some]
  generalize (wd rec).1 = w
  generalize (wd rec).2 = r at *
  simp only [pp (show r.size ≤ 9223372036854775807 by omega), p5 hr2, CF sm, Option.bind_some]
  refine RetK.ite (fun _ => RetK.neg fun _ => rfl) fun _ => ?_
  refine RetK.ite (fun _ => ?_) fun _ => ?_
  · cases h : bg r with
    | none => exact RetK.no
    | some n =>
      have := cS (bM h).1
      simp only [IP, Bool.not_true, if_neg Bool.false_ne_true]
      refine RetK.neg fun _ => RetK.neg fun _ => ?_
      rw [aP (by omega) (by omega)]
      exact (Aa sm this).eta
  refine RetK.ite (fun _ => ?_) fun _ => ?_
  · cases h : bg r with
    | none => exact RetK.no
    | some n =>
      have := cS (bM h).1
      simp only [IP, Bool.not_true, Bool.false_or]
      exact RetK.neg fun _ => (Aa sm this).eta
  refine RetK.ite (fun _ => RetK.neg fun _ => rfl) fun _ => ?_
  rw [GX (a := decide (w = cL)) (b := decide (w = bI)) (f := fun v => ((id, ti, nx, held, marks, inbox, ()), (0, 0, 0, [], [], [], ()), w, r, v, ())) rfl]
  refine RetK.ite (fun _ => ?_) fun _ => ?_
  · simp only [p5 hr2, Option.bind_some]
    cases h : bg r with
    | none => exact RetK.no
    | some n =>
      have := cS (bM h).1
      simp only [IP, Bool.not_true, if_neg Bool.false_ne_true, bJ sm.hl, bJ sm.il, Option.bind_some]
      refine RetK.neg fun h1 => RetK.neg fun h2 => ?_
      have e1 : JR held n = qV held n := Ck (by simpa using h1)
      have e2 : JR inbox n = qV inbox n := Ck (by simpa using h2)
      have hput := dY (l := held) (fr := n.fr) (nu := n.nu) (tt := n.to) (un := n.un) (tx := n.tx) sm.hl
      have hputI := dY (l := inbox) (fr := n.fr) (nu := n.nu) (tt := n.to) (un := n.un) (tx := n.tx) sm.il
      rw [show (⟨n.fr, n.nu, n.to, n.un, n.tx⟩ : Note) = n from rfl] at hput hputI
      simp only [hput, hputI, e1, e2, Option.bind_some]
      exact RetK.ite (fun _ => rfl) fun _ => rfl
  have e3 : cF (r, 3, ()) = some (([an (ah r 0), an (ah r 1), an (ah r 2)], cQ r 3, ()), ()) := M0 (n := 3) hr2 (by omega)
  have i0 : inb 0 [an (ah r 0), an (ah r 1), an (ah r 2)].length = true := rfl
  have i1 : inb 1 [an (ah r 0), an (ah r 1), an (ah r 2)].length = true := rfl
  have i2 : inb 2 [an (ah r 0), an (ah r 1), an (ah r 2)].length = true := rfl
  have r0 : @rd Int (dfl .int) [an (ah r 0), an (ah r 1), an (ah r 2)] 0 = an (ah r 0) := rfl
  have r1 : @rd Int (dfl .int) [an (ah r 0), an (ah r 1), an (ah r 2)] 1 = an (ah r 1) := rfl
  have r2 : @rd Int (dfl .int) [an (ah r 0), an (ah r 1), an (ah r 2)] 2 = an (ah r 2) := rfl
  have q0 := pR (ah r 0)
  have q1 := pR (ah r 1)
  have q2 := pR (ah r 2)
  have z0 := vN q0.1 q0.2
  have z1 := vN q1.1 q1.2
  have z2 := vN q2.1 q2.2
  have zb : (B [32]).size = 1 := rfl
  have d1 : decide ((c7 (an (ah r 0))).size + (B [32]).size ≤ 4611686018427387904) = true := by rw [zb, decide_eq_true_eq]; omega
  have d2 : decide ((c7 (an (ah r 0)) ++ B [32]).size + (c7 (an (ah r 1))).size ≤ 4611686018427387904) = true := by rw [dz, zb, decide_eq_true_eq]; omega
  have d3 : decide (((c7 (an (ah r 0)) ++ B [32]) ++ c7 (an (ah r 1))).size + (B [32]).size ≤ 4611686018427387904) = true := by rw [dz, dz, zb, decide_eq_true_eq]; omega
  have d4 : decide ((((c7 (an (ah r 0)) ++ B [32]) ++ c7 (an (ah r 1))) ++ B [32]).size + (c7 (an (ah r 2))).size ≤ 4611686018427387904) = true := by rw [dz, dz, dz, zb, decide_eq_true_eq]; omega
  simp only [e3, Option.bind_some, i0, i1, i2, r0, r1, r2, cu (n := an (ah r 0)) (by omega) (by omega), cu (n := an (ah r 1)) (by omega) (by omega), cu (n := an (ah r 2)) (by omega) (by omega),
    Option.isSome_some, Option.getD_some, show ∀ c, aE c true = true from fun c => rfl, if_true, d1, d2, d3, d4]
  refine RetK.neg fun _ => ?_
  have hmk : mk3 r = ⟨an (ah r 0), an (ah r 1), an (ah r 2)⟩ := rfl
  generalize an (ah r 0) = a at *
  generalize an (ah r 1) = b at *
  generalize an (ah r 2) = c at *
  rw [hmk]
  simp only [bJ sm.hl, bJ sm.il, eA sm.ml, Option.bind_some, Ng, if_true]
  refine RetK.ite (fun _ => ?_) fun _ => ?_
  · rw [Nj (m := ⟨a, b, c⟩)]
    refine RetK.neg fun h => ?_
    have hh : qX held ⟨a, b, c⟩ = true := by simpa using h
    simp only [qX, Bool.and_eq_true, decide_eq_true_eq] at hh
    obtain ⟨g1, g2, g3, g4⟩ := tB hh.1
    have ho := hf.ho _ g1
    unfold lA at ho
    simp only [Bool.and_eq_true, decide_eq_true_eq] at ho
    have hm : kc marks a b < 0 := by
      have := ho.2.2.2
      simp only [g3, g4] at this
      exact this
    have hM : JS marks ⟨a, b, c⟩ = ue marks ⟨a, b, c⟩ := CS hm
    simp only [JM sm hh.1, Option.bind_some, hh.2, hM]
    rfl
  refine RetK.ite (fun _ => ?_) fun _ => ?_
  · rw [Nj (m := ⟨a, b, c⟩)]
    refine RetK.neg fun h => ?_
    have hh : qX inbox ⟨a, b, c⟩ = true := by simpa using h
    simp only [qX, Bool.and_eq_true, decide_eq_true_eq] at hh
    simp only [JN sm hh.1, Option.bind_some]
    rfl
  refine RetK.ite (fun _ => ?_) fun _ => RetK.no
  refine RetK.neg fun h => ?_
  have hM : JS marks ⟨a, b, c⟩ = ue marks ⟨a, b, c⟩ := CS (by simpa using h)
  simp only [iN sm.ml, Option.bind_some, hM]
  rfl
end Go.VS
namespace Go.VS
open Go
theorem C0 : decide (dt = dw) = false := by decide
theorem Fv : decide (dt = kb) = false := by decide
theorem CZ : decide (dt = du) = false := by decide
theorem C2 : decide (dt = cL) = false := by decide
theorem AD : decide (dt = bI) = false := by decide
theorem Fw : decide (dt = iE) = false := by decide
theorem Fy : decide (dt = iF) = false := by decide
theorem C1 : decide (dt = c9) = false := by decide
theorem Ny : decide (dt = dt) = true := by decide
theorem C8 : decide (dw = dt) = false := by decide
theorem FH : decide (dw = kb) = false := by decide
theorem C9 : decide (dw = du) = false := by decide
theorem Db : decide (dw = cL) = false := by decide
theorem AF : decide (dw = bI) = false := by decide
theorem FI : decide (dw = iE) = false := by decide
theorem FJ : decide (dw = iF) = false := by decide
theorem Da : decide (dw = c9) = false := by decide
theorem NA : decide (dw = dw) = true := by decide
theorem FC : decide (kb = dt) = false := by decide
theorem FE : decide (kb = dw) = false := by decide
theorem FD : decide (kb = du) = false := by decide
theorem FG : decide (kb = cL) = false := by decide
theorem C7 : decide (kb = bI) = false := by decide
theorem HK : decide (kb = iE) = false := by decide
theorem HL : decide (kb = iF) = false := by decide
theorem FF : decide (kb = c9) = false := by decide
theorem OG : decide (kb = kb) = true := by decide
theorem C3 : decide (du = dt) = false := by decide
theorem C4 : decide (du = dw) = false := by decide
theorem Fz : decide (du = kb) = false := by decide
theorem C6 : decide (du = cL) = false := by decide
theorem AE : decide (du = bI) = false := by decide
theorem FA : decide (du = iE) = false := by decide
theorem FB : decide (du = iF) = false := by decide
theorem C5 : decide (du = c9) = false := by decide
theorem Nz : decide (du = du) = true := by decide
theorem Df : decide (cL = dt) = false := by decide
theorem Dh : decide (cL = dw) = false := by decide
theorem FK : decide (cL = kb) = false := by decide
theorem Dg : decide (cL = du) = false := by decide
theorem AL : decide (cL = bI) = false := by decide
theorem FL : decide (cL = iE) = false := by decide
theorem FM : decide (cL = iF) = false := by decide
theorem Di : decide (cL = c9) = false := by decide
theorem NB : decide (cL = cL) = true := by decide
theorem AG : decide (bI = dt) = false := by decide
theorem AI : decide (bI = dw) = false := by decide
theorem Dc : decide (bI = kb) = false := by decide
theorem AH : decide (bI = du) = false := by decide
theorem AK : decide (bI = cL) = false := by decide
theorem Dd : decide (bI = iE) = false := by decide
theorem De : decide (bI = iF) = false := by decide
theorem AJ : decide (bI = c9) = false := by decide
theorem L6 : decide (bI = bI) = true := by decide
theorem uv : decide (iE = dt) = false := by decide
theorem ux : decide (iE = dw) = false := by decide
theorem xt : decide (iE = kb) = false := by decide
theorem uw : decide (iE = du) = false := by decide
theorem uz : decide (iE = cL) = false := by decide
theorem rB : decide (iE = bI) = false := by decide
theorem xu : decide (iE = iF) = false := by decide
theorem uy : decide (iE = c9) = false := by decide
theorem KS : decide (iE = iE) = true := by decide
theorem uA : decide (iF = dt) = false := by decide
theorem uC : decide (iF = dw) = false := by decide
theorem xv : decide (iF = kb) = false := by decide
theorem uB : decide (iF = du) = false := by decide
theorem uE : decide (iF = cL) = false := by decide
theorem rC : decide (iF = bI) = false := by decide
theorem xw : decide (iF = iE) = false := by decide
theorem uD : decide (iF = c9) = false := by decide
theorem KT : decide (iF = iF) = true := by decide
theorem rv : decide (c9 = dt) = false := by decide
theorem rz : decide (c9 = dw) = false := by decide
theorem ur : decide (c9 = kb) = false := by decide
theorem ry : decide (c9 = du) = false := by decide
theorem rA : decide (c9 = cL) = false := by decide
theorem qb : decide (c9 = bI) = false := by decide
theorem ut : decide (c9 = iE) = false := by decide
theorem uu : decide (c9 = iF) = false := by decide
theorem I9 : decide (c9 = c9) = true := by decide
abbrev flt (o : Option Keep) : Option Keep := o.filter aR
theorem yh {o : Option Keep} (h : o = none ∨ ∃ k, o = some k ∧ aR k = false) : flt o = none := by
  rcases h with rfl | ⟨k, rfl, h⟩
  · rfl
  · simp [flt, Option.filter, h]
theorem JV : bg noB = none := by
  cases h : bg noB with
  | none => rfl
  | some n =>
    obtain ⟨h1, h2⟩ := bM h
    have := Hq (fp h1)
    rw [h2] at this
    exact absurd this (by decide)
theorem NJ : an noB = -1 := by
  rcases mY noB with ⟨h, _⟩ | ⟨n, _, _, h⟩
  · exact h
  · exact absurd h.symm (NH n)
theorem GP (r : ByteArray) : (aq r = (0, false) ∧ an r = -1) ∨ ∃ n : Nat, aq r = ((n : Int), true) ∧ (an r = n ∨ (an r = -1 ∧ 10000 ≤ n)) := by
  rcases pD r with h | ⟨n, h1, h2, h3⟩
  · refine .inl ⟨h, ?_⟩
    rcases mY r with ⟨h4, _⟩ | ⟨n, _, h5, h6⟩
    · exact h4
    · rw [yX (by omega) h6] at h
      cases h
  · refine .inr ⟨n, h1, ?_⟩
    rcases mY r with ⟨h4, h5⟩ | ⟨m, h4, _, h6⟩
    · refine .inr ⟨h4, ?_⟩
      have h7 := h5 n h3
      rcases Nat.lt_or_ge n 10000 with h8 | h8
      · have := nG 4 n (by omega) (by omega)
        rw [← h3, lq] at this
        omega
      · exact h8
    · left
      have e : dcm n = dcm m := h3.symm.trans h6
      have := congrArg val e
      rw [Ce (n + 1) n (by omega), Ce (m + 1) m (by omega)] at this
      omega
theorem K1 (a b c : Int) : L ((((c7 a ++ B [32]) ++ c7 b) ++ B [32]) ++ c7 c) = Lib.itoa a ++ 32 :: (Lib.itoa b ++ 32 :: Lib.itoa c) := by
  simp only [N0, NZ, L_B, List.append_assoc, List.cons_append, List.nil_append]
theorem EM {l : List UInt8} (h : pC l) : l.count 32 = 0 := List.count_eq_zero.2 fun hm => h 32 hm rfl
theorem N7 {r : ByteArray} {a b c : Int} (ha : 0 ≤ a) (ha2 : a < 100000) (hb : 0 ≤ b) (hb2 : b < 100000) (hc : 0 ≤ c) (hc2 : c < 100000) (e : L r = Lib.itoa a ++ 32 :: (Lib.itoa b ++ 32 :: Lib.itoa c)) : mj r = some ⟨a, b, c⟩ := by
  unfold mj
  have h2 : (L r).count 32 = 1 + 1 := by
    rw [e, List.count_append, List.count_cons_self, List.count_append, List.count_cons_self, EM (br ha), EM (br hb), EM (br hc)]
  rw [h2, e, dE (br ha), dE (br hb)]
  show (if (aq (B (Lib.itoa a))).2 && ((aq (B (Lib.itoa b))).2 && ((aq (B (Lib.itoa c))).2 && true)) then some (⟨(aq (B (Lib.itoa a))).1, (aq (B (Lib.itoa b))).1, (aq (B (Lib.itoa c))).1⟩ : Mark) else none) = _
  rw [cT ha ha2, cT hb hb2, cT hc hc2]
  rfl
theorem HM {p : List UInt8} (h : (aq (B p)).2 = true) : 0 ≤ (aq (B p)).1 ∧ p = Lib.itoa (aq (B p)).1 := by
  rcases pD (B p) with h1 | ⟨n, h1, _, h3⟩
  · rw [h1] at h; cases h
  · rw [h1]
    exact ⟨by simp, by rw [dB]; exact h3⟩
theorem Ku {r : ByteArray} {m : Mark} (h : mj r = some m) : 0 ≤ m.mf ∧ 0 ≤ m.mn ∧ 0 ≤ m.mu ∧ L r = Lib.itoa m.mf ++ 32 :: (Lib.itoa m.mn ++ 32 :: Lib.itoa m.mu) := by
  unfold mj at h
  have hj := z8 ((L r).count 32) (L r)
  split at h
  · rename_i p q t hp
    rw [hp] at hj
    split at h
    · rename_i hc
      simp only [Bool.and_eq_true] at hc
      cases h
      have h1 := HM hc.1
      have h2 := HM hc.2.1
      have h3 := HM hc.2.2.1
      refine ⟨h1.1, h2.1, h3.1, ?_⟩
      simp only
      rw [← h1.2, ← h2.2, ← h3.2]
      exact hj.symm
    · cases h
  · cases h
theorem GB {r : ByteArray} {a b c : Int} (ha : 0 ≤ a) (ha2 : a < 10000) (hb : 0 ≤ b) (hb2 : b < 10000) (hc : 0 ≤ c) (hc2 : c < 10000) (e : L r = Lib.itoa a ++ 32 :: (Lib.itoa b ++ 32 :: Lib.itoa c)) : F8 r = false ∧ mk3 r = ⟨a, b, c⟩ := by
  have e0 := wX (br ha) e
  have c1 : L (cQ r 1) = _ := (gb (t := r) e0).2
  have e1 := wX (br hb) c1
  have c2 : L (cQ r 2) = _ := (gb (t := r) e1).2
  have e2 := Ig (s := cQ r 2) (by rw [c2]; exact br hc)
  have w0 : ah r 0 = B (Lib.itoa a) := (gb (t := r) e0).1
  have w1 : ah r 1 = B (Lib.itoa b) := (gb (t := r) e1).1
  have w2 : ah r 2 = B (Lib.itoa c) := by
    show (wd (cQ r 2)).1 = _
    rw [e2]
    apply tk
    rw [c2, L_B]
  have t3 : cQ r 3 = noB := by
    show (wd (cQ r 2)).2 = _
    rw [e2]
  have d0 := fF ha ha2
  have d1 := fF hb hb2
  have d2 := fF hc hc2
  refine ⟨?_, ?_⟩
  · unfold F8
    rw [t3, w0, w1, w2, d0, d1, d2]
    have : r = ((((c7 a ++ B [32]) ++ c7 b) ++ B [32]) ++ c7 c) := tk (by rw [e, K1])
    rw [← this]
    simp
  · unfold mk3
    rw [w0, w1, w2, d0, d1, d2]
theorem Dp {m : Mark} (h : pF m = true) : 0 ≤ m.mf ∧ m.mf ≤ 3 ∧ 1 ≤ m.mn ∧ m.mn ≤ 99 ∧ 1 ≤ m.mu ∧ m.mu ≤ 999 := by
  unfold pF at h
  simp only [Bool.and_eq_true, be] at h
  omega
theorem CA {k : Keep} (hf : KeepFit k) (w r : ByteArray) : flt (if F8 r then none else cD k w (mk3 r)) = flt (match mj r with | some m => cD k w m | none => none) := by
  rcases tf (pF (mk3 r)) with hm | hm
  · obtain ⟨a0, a1, b0, b1, c0, c1⟩ := Dp hm
    rcases tf (F8 r) with hc | hc
    · rw [hc]
      simp only [if_true]
      cases h : mj r with
      | none => rfl
      | some m =>
        simp only
        rcases tf (pF m) with h2 | h2
        · obtain ⟨p0, p1, q0, q1, s0, s1⟩ := Dp h2
          obtain ⟨_, _, _, e⟩ := Ku h
          rw [(GB (by omega) (by omega) (by omega) (by omega) (by omega) (by omega) e).1] at hc
          cases hc
        · exact (yh (sR hf h2)).symm
    · have hc2 := hc
      unfold F8 at hc
      simp only [Bool.or_eq_false_iff, Bool.not_eq_false', decide_eq_true_eq] at hc
      have e : L r = _ := (congrArg L hc.2).trans (K1 _ _ _)
      have := N7 (a := (mk3 r).mf) (b := (mk3 r).mn) (c := (mk3 r).mu) (by omega) (by omega) (by omega) (by omega) (by omega) (by omega) e
      rw [hc2, this]
      rfl
  · have hL : flt (if F8 r then none else cD k w (mk3 r)) = none := by
      cases F8 r
      · exact yh (sR hf hm)
      · rfl
    rw [hL]
    cases h : mj r with
    | none => rfl
    | some m =>
      simp only
      rcases tf (pF m) with h2 | h2
      · obtain ⟨p0, p1, q0, q1, s0, s1⟩ := Dp h2
        obtain ⟨_, _, _, e⟩ := Ku h
        have := (GB (by omega) (by omega) (by omega) (by omega) (by omega) (by omega) e).2
        rw [this] at hm
        have hm : pF m = false := hm
        rw [h2] at hm
        cases hm
      · exact (yh (sR hf h2)).symm
theorem O7 {k : Keep} {n nx : Int} {a b : List Note} {m : List Mark} (hn : 999 < n) : aR ⟨k.id, n, nx, a, m, b⟩ = false := by
  rcases tf (aR ⟨k.id, n, nx, a, m, b⟩) with h | h
  · have := (l5 h).t1
    simp only at this
    omega
  · exact h
theorem Pe {k : Keep} {n ti : Int} {a b : List Note} {m : List Mark} (hn : 100 < n) : aR ⟨k.id, ti, n, a, m, b⟩ = false := by
  rcases tf (aR ⟨k.id, ti, n, a, m, b⟩) with h | h
  · have := (l5 h).n1
    simp only at this
    omega
  · exact h
theorem Lo {k : Keep} (hf : KeepFit k) (r : ByteArray) : flt (cw k dt r) = flt (db k dt r) := by
  have h0 := hf.t0
  unfold cw db Fu
  simp only [C0, Fv, CZ, C2, AD, Fw, Fy, C1, Ny, decide_true, Bool.and_false, Bool.or_false, Bool.or_true, Bool.false_or, Bool.true_or, Bool.false_and, Bool.true_and, if_true, if_neg Bool.false_ne_true]
  rcases GP r with ⟨h1, h2⟩ | ⟨n, h1, h2 | ⟨h2, h3⟩⟩
  · rw [h1, h2, if_pos (by simp; omega)]
    rfl
  · rw [h1, h2]
    rcases dc (n : Int) k.ti with h4 | h4 <;> simp only [h4, decide_true, decide_false, if_true, if_neg Bool.false_ne_true]
  · rw [h1, h2, if_pos (by simp; omega)]
    rcases dc (n : Int) k.ti with h4 | h4 <;> simp only [h4, decide_true, decide_false, if_true, if_neg Bool.false_ne_true]
    exact (yh (.inr ⟨_, rfl, O7 (by omega)⟩)).symm
theorem Lp {k : Keep} (hf : KeepFit k) (r : ByteArray) : flt (cw k dw r) = flt (db k dw r) := by
  have h0 := hf.n0
  unfold cw db Fu
  simp only [C8, FH, C9, Db, AF, FI, FJ, Da, NA, decide_true, Bool.and_false, Bool.or_false, Bool.or_true, Bool.false_or, Bool.true_or, Bool.false_and, Bool.true_and, if_true, if_neg Bool.false_ne_true]
  rcases GP r with ⟨h1, h2⟩ | ⟨n, h1, h2 | ⟨h2, h3⟩⟩
  · rw [h1, h2, if_pos (by simp; omega)]
    rfl
  · rw [h1, h2]
    rcases dc (n : Int) k.nx with h4 | h4 <;> simp only [h4, decide_true, decide_false, if_true, if_neg Bool.false_ne_true]
  · rw [h1, h2, if_pos (by simp; omega)]
    rcases dc (n : Int) k.nx with h4 | h4 <;> simp only [h4, decide_true, decide_false, if_true, if_neg Bool.false_ne_true]
    exact (yh (.inr ⟨_, rfl, Pe (by omega)⟩)).symm
theorem Ll {k : Keep} (r : ByteArray) : cw k kb r = db k kb r := by
  unfold cw db gU
  simp only [FC, FE, FD, FG, C7, HK, HL, FF, OG, decide_true, Bool.and_false, Bool.or_false, Bool.or_true, Bool.false_or, Bool.true_or, Bool.false_and, Bool.true_and, if_true, if_neg Bool.false_ne_true]
  cases bg r with
  | none => rfl
  | some n =>
    simp only
    rcases tf (decide (n.fr = k.id)) with h1 | h1 <;> rcases tf (decide (n.nu = k.nx)) with h2 | h2 <;> simp only [h1, h2, Bool.not_true, Bool.not_false, ite_self, decide_true, Bool.and_false, Bool.or_false, Bool.or_true, Bool.false_or, Bool.true_or, Bool.false_and, Bool.true_and, if_true, if_neg Bool.false_ne_true]
theorem JH {k : Keep} (r : ByteArray) : cw k du r = db k du r := by
  unfold cw db gU
  simp only [C3, C4, Fz, C6, AE, FA, FB, C5, Nz, decide_true, Bool.and_false, Bool.or_false, Bool.or_true, Bool.false_or, Bool.true_or, Bool.false_and, Bool.true_and, if_true, if_neg Bool.false_ne_true]
  cases bg r with
  | none => rfl
  | some n =>
    simp only
    rcases tf (decide (n.fr = k.id)) with h1 | h1 <;> simp only [h1, Bool.not_true, Bool.not_false, ite_self, decide_true, Bool.and_false, Bool.or_false, Bool.or_true, Bool.false_or, Bool.true_or, Bool.false_and, Bool.true_and, if_true, if_neg Bool.false_ne_true]
theorem JJ {k : Keep} (r : ByteArray) : cw k cL r = db k cL r := by
  unfold cw db gU
  simp only [Df, Dh, FK, Dg, AL, FL, FM, Di, NB, decide_true, Bool.and_false, Bool.or_false, Bool.or_true, Bool.false_or, Bool.true_or, Bool.false_and, Bool.true_and, if_true, if_neg Bool.false_ne_true]
  cases bg r with
  | none => rfl
  | some n =>
    simp only
    rcases tf (decide (0 ≤ aO k.held n.fr n.nu)) with h1 | h1 <;> rcases tf (decide (0 ≤ aO k.inbox n.fr n.nu)) with h2 | h2 <;> simp only [h1, h2, Bool.not_true, Bool.not_false, ite_self, decide_true, Bool.and_false, Bool.or_false, Bool.or_true, Bool.false_or, Bool.true_or, Bool.false_and, Bool.true_and, if_true, if_neg Bool.false_ne_true]
theorem Iv {k : Keep} (r : ByteArray) : cw k bI r = db k bI r := by
  unfold cw db gU
  simp only [AG, AI, Dc, AH, AK, Dd, De, AJ, L6, decide_true, Bool.and_false, Bool.or_false, Bool.or_true, Bool.false_or, Bool.true_or, Bool.false_and, Bool.true_and, if_true, if_neg Bool.false_ne_true]
  cases bg r with
  | none => rfl
  | some n =>
    simp only
    rcases tf (decide (0 ≤ aO k.held n.fr n.nu)) with h1 | h1 <;> rcases tf (decide (0 ≤ aO k.inbox n.fr n.nu)) with h2 | h2 <;> simp only [h1, h2, Bool.not_true, Bool.not_false, ite_self, decide_true, Bool.and_false, Bool.or_false, Bool.or_true, Bool.false_or, Bool.true_or, Bool.false_and, Bool.true_and, if_true, if_neg Bool.false_ne_true]
theorem Lm {k : Keep} (hf : KeepFit k) (r : ByteArray) : flt (cw k iE r) = flt (db k iE r) := by
  have h := CA hf iE r
  unfold cw db
  simp only [uv, ux, xt, uw, uz, rB, xu, uy, KS, decide_true, Bool.and_false, Bool.or_false, Bool.or_true, Bool.false_or, Bool.true_or, Bool.false_and, Bool.true_and, if_true, if_neg Bool.false_ne_true]
  refine Eq.trans ?_ h
  unfold cD
  simp only [uv, ux, xt, uw, uz, rB, xu, uy, KS, decide_true, Bool.and_false, Bool.or_false, Bool.or_true, Bool.false_or, Bool.true_or, Bool.false_and, Bool.true_and, if_true, if_neg Bool.false_ne_true]
  congr 1
  refine ite_congr rfl (fun _ => rfl) fun _ => ?_
  cases qX k.held (mk3 r) <;> rfl
theorem Ln {k : Keep} (hf : KeepFit k) (r : ByteArray) : flt (cw k iF r) = flt (db k iF r) := by
  have h := CA hf iF r
  unfold cw db
  simp only [uA, uC, xv, uB, uE, rC, xw, uD, KT, decide_true, Bool.and_false, Bool.or_false, Bool.or_true, Bool.false_or, Bool.true_or, Bool.false_and, Bool.true_and, if_true, if_neg Bool.false_ne_true]
  refine Eq.trans ?_ h
  unfold cD
  simp only [uA, uC, xv, uB, uE, rC, xw, uD, KT, decide_true, Bool.and_false, Bool.or_false, Bool.or_true, Bool.false_or, Bool.true_or, Bool.false_and, Bool.true_and, if_true, if_neg Bool.false_ne_true]
  congr 1
  refine ite_congr rfl (fun _ => rfl) fun _ => ?_
  cases qX k.inbox (mk3 r) <;> rfl
theorem JI {k : Keep} (hf : KeepFit k) (r : ByteArray) : flt (cw k c9 r) = flt (db k c9 r) := by
  have h := CA hf c9 r
  unfold cw db
  simp only [rv, rz, ur, ry, rA, qb, ut, uu, I9, decide_true, Bool.and_false, Bool.or_false, Bool.or_true, Bool.false_or, Bool.true_or, Bool.false_and, Bool.true_and, if_true, if_neg Bool.false_ne_true]
  refine Eq.trans ?_ h
  unfold cD
  simp only [rv, rz, ur, ry, rA, qb, ut, uu, I9, decide_true, Bool.and_false, Bool.or_false, Bool.or_true, Bool.false_or, Bool.true_or, Bool.false_and, Bool.true_and, if_true, if_neg Bool.false_ne_true]
  congr 1
  refine ite_congr rfl (fun _ => rfl) fun _ => ?_
  cases decide (0 ≤ kc k.marks (mk3 r).mf (mk3 r).mn) <;> rfl
theorem N8 {k : Keep} (hf : KeepFit k) (w r : ByteArray) : flt (cw k w r) = flt (db k w r) := by
  by_cases hwTime : w = dt
  · subst hwTime
    exact Lo hf r
  by_cases hwNext : w = dw
  · subst hwNext
    exact Lp hf r
  by_cases hwOwn : w = kb
  · subst hwOwn
    exact congrArg flt (Ll r)
  by_cases hwTake : w = du
  · subst hwTake
    exact congrArg flt (JH r)
  by_cases hwHeld : w = cL
  · subst hwHeld
    exact congrArg flt (JJ r)
  by_cases hwInbox : w = bI
  · subst hwInbox
    exact congrArg flt (Iv r)
  by_cases hwLet : w = iE
  · subst hwLet
    exact Lm hf r
  by_cases hwEat : w = iF
  · subst hwEat
    exact Ln hf r
  by_cases hwMark : w = c9
  · subst hwMark
    exact JI hf r
  have e1 : cw k w r = none := by
    unfold cw
    simp only [hwTime, hwNext, hwOwn, hwTake, hwHeld, hwInbox, hwLet, hwEat, hwMark, decide_false, decide_true, Bool.and_false, Bool.or_false, Bool.or_true, Bool.false_or, Bool.true_or, Bool.false_and, Bool.true_and, if_true, if_neg Bool.false_ne_true, ite_self]
  have e2 : db k w r = none := by
    unfold db
    simp only [hwTime, hwNext, hwOwn, hwTake, hwHeld, hwInbox, hwLet, hwEat, hwMark, decide_false, decide_true, Bool.and_false, Bool.or_false, Bool.or_true, Bool.false_or, Bool.true_or, Bool.false_and, Bool.true_and, if_true, if_neg Bool.false_ne_true]
  rw [e1, e2]
theorem Ls {k : Keep} (hf : KeepFit k) (w : ByteArray) : cw k w noB = none := by
  have h0 := hf.t0
  have h1 := hf.n0
  have hc : F8 noB = true := by
    unfold F8
    have : ¬ noB = ((((c7 (an (ah noB 0)) ++ B [32]) ++ c7 (an (ah noB 1))) ++ B [32]) ++ c7 (an (ah noB 2))) := fun h => by
      have := congrArg ByteArray.size h
      rw [dz, dz, dz, dz] at this
      have e : noB.size = 0 := rfl
      have e2 : (B [32]).size = 1 := rfl
      omega
    simp [this]
  unfold cw
  rw [NJ, JV, hc]
  have a1 : decide (-1 ≤ k.ti) = true := by simp; omega
  have a2 : decide (-1 ≤ k.nx) = true := by simp; omega
  simp only [a1, a2, if_true, ite_self]
theorem Pb {k : Keep} (hf : KeepFit k) (rec : ByteArray) : flt (cw k (wd rec).1 (wd rec).2) = flt (q5 k rec) := by
  unfold q5
  rcases i6 (L rec) with h | ⟨w, r, h, e⟩
  · rw [Ig h, Cq h, Ls hf]
    rfl
  · rw [e, Cr h]
    exact N8 hf _ _
theorem Oa {k : Keep} {w r : ByteArray} (hf : KeepFit k) {o : Keep} (h : cw k w r = some o) : SmK o := by
  have sm := hf.sm
  unfold cw at h
  split at h
  · split at h <;> cases h
    have a := List.length_filter_le (fun x : Note => decide (an r < x.un)) k.held
    have b := List.length_filter_le (fun x : Mark => decide (an r < x.mu)) k.marks
    have l1 := hf.hl
    have l2 := hf.ml
    exact ⟨by unfold lJ; simp only; omega, fun x hx => sm.h x (List.mem_filter.1 hx).1, by unfold uo; simp only; omega, sm.il, sm.i⟩
  split at h
  · cases hn : bg r with
    | none => rw [hn] at h; cases h
    | some n =>
      rw [hn] at h
      simp only at h
      split at h
      · cases h
      split at h
      · cases h
      exact Ct (k' := ⟨k.id, k.ti, k.nx + 1, k.held, k.marks, k.inbox⟩) hf ⟨rfl, rfl, rfl⟩ h
  split at h
  · cases hn : bg r with
    | none => rw [hn] at h; cases h
    | some n =>
      rw [hn] at h
      simp only at h
      split at h
      · cases h
      exact Ct (k' := k) hf ⟨rfl, rfl, rfl⟩ h
  split at h
  · split at h <;> cases h
    exact sm
  split at h
  · cases hn : bg r with
    | none => rw [hn] at h; cases h
    | some n =>
      have hok := cS (bM hn).1
      rw [hn] at h
      simp only at h
      split at h
      · cases h
      split at h
      · cases h
      split at h <;> cases h
      · have a := tJ hf.hl sm.h hok
        exact ⟨a.1, a.2, sm.ml, sm.il, sm.i⟩
      · have a := tJ hf.il sm.i hok
        exact ⟨sm.hl, sm.h, sm.ml, a.1, a.2⟩
  split at h
  · cases h
  split at h
  · split at h <;> cases h
    have a := Cl (i := (aO k.held (mk3 r).mf (mk3 r).mn).toNat) hf.hl sm.h
    exact ⟨a.1, a.2, xW hf.ml, sm.il, sm.i⟩
  split at h
  · split at h <;> cases h
    have a := Cl (i := (aO k.inbox (mk3 r).mf (mk3 r).mn).toNat) hf.il sm.i
    exact ⟨sm.hl, sm.h, sm.ml, a.1, a.2⟩
  split at h
  · split at h <;> cases h
    exact ⟨sm.hl, sm.h, xW hf.ml, sm.il, sm.i⟩
  · cases h
theorem Fp {id ti nx : Int} {rec : ByteArray} {held : List Note} {marks : List Mark} {inbox : List Note} (sm : SmKeep held marks inbox) (hr : rec.size ≤ 1048576) :
    kL ((id, ti, nx, held, marks, inbox, ()), rec, ()) = some ((tK (jn ⟨id, ti, nx, held, marks, inbox⟩ rec).1, (jn ⟨id, ti, nx, held, marks, inbox⟩ rec).2, ()), ()) := by
  unfold kL jn
  simp only [uk sm, rb sm, Option.bind_some]
  rcases tf (aR ⟨id, ti, nx, held, marks, inbox⟩) with h | h
  · have hf := l5 h
    have ha := JK hf hr
    have hko := Pb hf rec
    unfold flt at hko
    simp only [h, Bool.not_true, if_neg Bool.false_ne_true, if_true]
    rw [← hko]
    cases hst : cw ⟨id, ti, nx, held, marks, inbox⟩ (wd rec).1 (wd rec).2 with
    | none =>
      rw [hst] at ha
      obtain ⟨t, ht⟩ := ha
      simp only [ht, Option.bind_some, Bool.not_false, Bool.not_true, bq, if_true, Bool.true_or]
      rfl
    | some o =>
      rw [hst] at ha
      have sm' := Oa hf hst
      rw [show fP ((id, ti, nx, held, marks, inbox, ()), rec, ()) = some ((tK o, true, ()), ()) from ha]
      simp only [Option.bind_some, Bool.not_true, Bool.not_false, bU, uk sm', rb sm', Option.isSome_some, Option.getD_some, if_true, Bool.false_or, Option.filter_some]
      rcases tf (aR o) with h2 | h2
      · simp only [h2, Bool.not_true, if_neg Bool.false_ne_true, if_true]
      · simp only [h2, Bool.not_false, if_neg Bool.false_ne_true, if_true]
  · simp only [h, Bool.not_false, if_neg Bool.false_ne_true, if_true]
end Go.VS
namespace Go.VS
open Go
theorem Ia {s : ByteArray} {a i : Nat} (h : a + i < s.size) : bt (s.extract a s.size) i = bt s ((a + i : Nat) : Int) := by
  rw [Fa, Fa, Fh]
  congr 2
  rw [List.getD_eq_getElem?_getD, List.getD_eq_getElem?_getD, List.getElem?_take_of_lt (by omega), List.getElem?_drop]
theorem KR {s : ByteArray} {a i j : Nat} (h : a + j ≤ s.size) : (s.extract a s.size).extract i j = s.extract (a + i) (a + j) := by
  apply tk
  rw [Fh, Fh, Fh]
  rw [List.drop_take, List.drop_drop, List.take_take]
  congr 1
  omega
theorem dy {s : ByteArray} {a b : Nat} (hb : b ≤ s.size) : (s.extract a b).size = b - a := by
  rw [← lq, Fh, List.length_take, List.length_drop, lq]
  omega
def KW (s : ByteArray) : Int := iD (min s.size 3) fun i => decide (bt s i = 58)
def mw (s : ByteArray) : Option (ByteArray × Nat) :=
  if KW s < 0 then none else
  let c := (KW s).toNat
  let n := an (s.extract 0 c)
  if n < 1 then none else if 60 < n then none else
  if (s.size : Int) < c + 2 + n then none else
  if !decide (bt s ((c + 1 + n.toNat : Nat) : Int) = 59) then none else some (s.extract (c + 1) (c + 1 + n.toNat), c + 2 + n.toNat)
theorem sS (s : ByteArray) : (KW s = -1 ∧ ∀ i, i < min s.size 3 → bt s (i : Int) ≠ 58) ∨ ∃ c : Nat, KW s = c ∧ c < s.size ∧ c < 3 ∧ bt s (c : Int) = 58 ∧ ∀ i, i < c → bt s (i : Int) ≠ 58 := by
  rcases cB (min s.size 3) (fun i => decide (bt s i = 58)) with ⟨h1, h2⟩ | ⟨c, h1, h2, h3, h4⟩
  · exact .inl ⟨h1, fun i hi => by simpa using h2 i hi⟩
  · exact .inr ⟨c, h1, by omega, by omega, by simpa using h3, fun i hi => by simpa using h4 i hi⟩
theorem JL {s : ByteArray} (hs : s.size ≤ 1048576) : kK (s, ()) = some ((match mw s with | some p => (p.1, (p.2 : Int), ()) | none => (noB, 0, ())), ()) := by
  have hb : ∀ i, i < min s.size 3 → bK (s, (i : Int), ()) = if decide (bt s (i : Int) = 58) then bK (s, (i : Int), ()) else some (.inl (s, ((i + 1 : Nat) : Int), ())) := fun i hi => by
    have hi2 : i < s.size := by omega
    rcases tf (decide (bt s (i : Int) = 58)) with h | h
    · rw [h]; rfl
    · rw [h]
      have e1 : decide ((i : Int) < 3) = true := by simp; omega
      unfold bK
      simp only [ae hi2, ak hi2, h, ab hi2 (by omega : s.size ≤ 9223372036854775807), e1]
      rfl
  have hloop : ∃ y, iO (s, 0, ()) = some y ∧ ((mw s = none ∧ (y = .inl (noB, 0, ()) ∨ y = .inr ())) ∨ ∃ p, mw s = some p ∧ y = .inl (p.1, (p.2 : Int), ())) := by
    rcases sS s with ⟨h1, h2⟩ | ⟨c, h1, h2, h3, h4, h5⟩
    · refine ⟨.inr (), ?_, .inl ⟨by unfold mw; rw [h1, if_pos (by omega)], .inr rfl⟩⟩
      refine ee (fun i => (s, (i : Int), ())) (min s.size 3) (fun i hi => ?_) ?_
      · rw [hb i hi, show decide (bt s (i : Int) = 58) = false by simpa using h2 i hi]
        rfl
      · unfold bK
        have e : (decide (((min s.size 3 : Nat) : Int) < (s.size : Int)) && decide (((min s.size 3 : Nat) : Int) < 3)) = false := by
          rw [Bool.eq_false_iff]
          simp only [ne_eq, Bool.and_eq_true, decide_eq_true_eq]
          omega
        simp only [e]
        rfl
    · have hone : mw s = (let n := an (s.extract 0 c); if n < 1 then none else if 60 < n then none else if (s.size : Int) < c + 2 + n then none else
          if !decide (bt s ((c + 1 + n.toNat : Nat) : Int) = 59) then none else some (s.extract (c + 1) (c + 1 + n.toNat), c + 2 + n.toNat)) := by
        unfold mw
        rw [h1, if_neg (by omega)]
        rfl
      have hround : ∃ y, bK (s, (c : Int), ()) = some (.inr y) ∧ ((mw s = none ∧ (y = .inl (noB, 0, ()) ∨ y = .inr ())) ∨ ∃ p, mw s = some p ∧ y = .inl (p.1, (p.2 : Int), ())) := by
        rw [hone]
        unfold bK
        have e1 : decide ((c : Int) < 3) = true := by simp; omega
        have e2 : (decide (0 ≤ (c : Int)) && decide ((c : Int) ≤ (s.size : Int))) = true := by simp; omega
        have e3 : (!decide (bt s (c : Int) = 58)) = false := by simp [h4]
        have hse : (s.extract 0 c).size = c := dy (by omega)
        simp only [ae h2, ak h2, e1, e2, e3, Int.toNat_natCast, if_neg Bool.false_ne_true, Bool.and_self, if_true, pp (show (s.extract 0 c).size ≤ 9223372036854775807 by omega), Option.bind_some]
        have hrg := pR (s.extract 0 c)
        generalize an (s.extract 0 c) = n at *
        by_cases k1 : n < 1
        · exact ⟨.inl (noB, 0, ()), by simp [k1], .inl ⟨by simp [k1], .inl rfl⟩⟩
        by_cases k2 : 60 < n
        · exact ⟨.inl (noB, 0, ()), by simp [k1, k2], .inl ⟨by simp [k1, k2], .inl rfl⟩⟩
        obtain ⟨m, hm⟩ := Int.eq_ofNat_of_zero_le (show 0 ≤ n by omega)
        subst hm
        have w1 : w64 ((c : Int) + 2) = (c : Int) + 2 := aP (by omega) (by omega)
        have w2 : w64 ((c : Int) + 1) = ((c + 1 : Nat) : Int) := by rw [aP (by omega) (by omega)]; omega
        have w3 : w64 ((c : Int) + 2 + (m : Int)) = ((c + 2 + m : Nat) : Int) := by rw [aP (by omega) (by omega)]; omega
        have w4 : w64 (((c + 1 : Nat) : Int) + (m : Int)) = ((c + 1 + m : Nat) : Int) := by rw [aP (by omega) (by omega)]; omega
        simp only [w1, w2, w3, w4, Int.toNat_natCast]
        by_cases k3 : (s.size : Int) < (c : Int) + 2 + m
        · have k3' : (s.size : Int) < ((c + 2 + m : Nat) : Int) := by omega
          exact ⟨.inl (noB, 0, ()), by simp only [k1, k2, k3', decide_true, decide_false, if_true, if_neg Bool.false_ne_true], .inl ⟨by simp [k1, k2, k3], .inl rfl⟩⟩
        have k3' : ¬ (s.size : Int) < ((c + 2 + m : Nat) : Int) := by omega
        have k4 : c + 1 + m < s.size := by omega
        have e5 : ((decide (0 ≤ ((c + 1 + m : Nat) : Int)) && decide (((c + 1 + m : Nat) : Int) ≤ (s.size : Int))) && (decide (0 ≤ ((c + 1 : Nat) : Int)) && decide (((c + 1 : Nat) : Int) ≤ ((c + 1 + m : Nat) : Int)))) = true := by
          simp only [Bool.and_eq_true, decide_eq_true_eq]; omega
        simp only [k1, k2, k3, k3', decide_false, if_neg Bool.false_ne_true, if_false, ae k4, if_true, e5]
        rcases tf (!decide (bt s ((c + 1 + m : Nat) : Int) = 59)) with k5 | k5
        · exact ⟨.inl (noB, 0, ()), by simp only [k5, if_true], .inl ⟨by simp only [k5, if_true], .inl rfl⟩⟩
        · exact ⟨.inl (s.extract (c + 1) (c + 1 + m), ((c + 2 + m : Nat) : Int), ()), by simp only [k5, if_neg Bool.false_ne_true], .inr ⟨(s.extract (c + 1) (c + 1 + m), c + 2 + m), by simp only [k5, if_neg Bool.false_ne_true], rfl⟩⟩
      obtain ⟨y, hy, hy2⟩ := hround
      refine ⟨y, ?_, hy2⟩
      refine ee (fun i => (s, (i : Int), ())) c (fun i hi => ?_) hy
      rw [hb i (by omega), show decide (bt s (i : Int) = 58) = false by simpa using h5 i hi]
      rfl
  obtain ⟨y, hy, hy2⟩ := hloop
  unfold kK
  simp only [hy]
  rcases hy2 with ⟨h1, rfl | rfl⟩ | ⟨p, h1, rfl⟩ <;> rw [h1] <;> rfl
theorem yV {s : ByteArray} {p : ByteArray × Nat} (h : mw s = some p) : 3 ≤ p.2 ∧ p.2 ≤ s.size ∧ p.1.size ≤ 60 ∧ 1 ≤ p.1.size := by
  unfold mw at h
  split at h
  · cases h
  rename_i hc
  rcases sS s with ⟨h1, _⟩ | ⟨c, h1, h2, h3, h4, h5⟩
  · omega
  rw [h1] at h
  simp only [Int.toNat_natCast] at h
  split at h
  · cases h
  split at h
  · cases h
  split at h
  · cases h
  split at h
  · cases h
  cases h
  simp only
  rw [dy (by omega)]
  omega
def rq (log : ByteArray) : Nat → List ByteArray → Nat → List ByteArray × Nat
  | 0, out, at_ => (out, at_)
  | f + 1, out, at_ => if at_ < log.size then (match mw (log.extract at_ log.size) with
    | none => (out, at_)
    | some p => rq log f (out ++ [p.1]) (at_ + p.2)) else (out, at_)
theorem CO {log : ByteArray} : ∀ (f : Nat) (out : List ByteArray) (at_ : Nat), at_ ≤ log.size → out.length ≤ at_ → (∀ r ∈ out, r.size ≤ 60 ∧ 1 ≤ r.size) →
    (rq log f out at_).2 ≤ log.size ∧ (rq log f out at_).1.length ≤ (rq log f out at_).2 ∧ ∀ r ∈ (rq log f out at_).1, r.size ≤ 60 ∧ 1 ≤ r.size
  | 0, out, at_, h1, h2, h3 => ⟨h1, h2, h3⟩
  | f + 1, out, at_, h1, h2, h3 => by
    unfold rq
    split
    · rename_i hlt
      cases h : mw (log.extract at_ log.size) with
      | none => exact ⟨h1, h2, h3⟩
      | some p =>
        obtain ⟨a, b, c, d⟩ := yV h
        rw [dy (Nat.le_refl _)] at b
        exact CO f _ _ (by omega) (by simp; omega) (fun r hr => by
          rcases List.mem_append.1 hr with hr | hr
          · exact h3 r hr
          · obtain rfl := List.mem_singleton.1 hr
            exact ⟨c, d⟩)
    · exact ⟨h1, h2, h3⟩
def oo (log : ByteArray) : List ByteArray × Nat := rq log (log.size + 1) [] 0
theorem px (log : ByteArray) : (oo log).2 ≤ log.size ∧ (oo log).1.length ≤ log.size ∧ ∀ r ∈ (oo log).1, r.size ≤ 60 ∧ 1 ≤ r.size := by
  have := CO (log := log) (log.size + 1) [] 0 (Nat.zero_le _) (Nat.zero_le _) (fun r hr => by cases hr)
  exact ⟨this.1, Nat.le_trans this.2.1 this.1, this.2.2⟩
theorem yT {ρ : Type} {log : ByteArray} {b : (ByteArray × List ByteArray × Int × Unit) → Option ((ByteArray × List ByteArray × Int × Unit) ⊕ ρ)} (ok : List ByteArray → Nat → ρ → Prop)
    (h : ∀ (out : List ByteArray) (at_ : Nat), at_ < log.size → out.length ≤ at_ → match mw (log.extract at_ log.size) with
      | some p => b (log, out, (at_ : Int), ()) = some (.inl (log, out ++ [p.1], ((at_ + p.2 : Nat) : Int), ()))
      | none => ∃ y, b (log, out, (at_ : Int), ()) = some (.inr y) ∧ ok out at_ y)
    (hn : ∀ (out : List ByteArray) (at_ : Nat), log.size ≤ at_ → ∃ y, b (log, out, (at_ : Int), ()) = some (.inr y) ∧ ok out at_ y) :
    ∀ (f : Nat) (out : List ByteArray) (at_ : Nat), log.size < at_ + f → at_ ≤ log.size → out.length ≤ at_ → ∃ y, aA b (log, out, (at_ : Int), ()) = some y ∧ ok (rq log f out at_).1 (rq log f out at_).2 y
  | 0, out, at_, h1, h2, h3 => by omega
  | f + 1, out, at_, h1, h2, h3 => by
    unfold rq
    by_cases hlt : at_ < log.size
    · rw [if_pos hlt]
      have hb := h out at_ hlt h3
      cases hone : mw (log.extract at_ log.size) with
      | none =>
        rw [hone] at hb
        obtain ⟨y, h4, h5⟩ := hb
        exact ⟨y, cW h4, h5⟩
      | some p =>
        rw [hone] at hb
        obtain ⟨a, c, _, _⟩ := yV hone
        rw [dy (Nat.le_refl _)] at c
        obtain ⟨y, h4, h5⟩ := yT ok h hn f (out ++ [p.1]) (at_ + p.2) (by omega) (by omega) (by simp; omega)
        exact ⟨y, mg hb h4, h5⟩
    · rw [if_neg hlt]
      obtain ⟨y, h4, h5⟩ := hn out at_ (by omega)
      exact ⟨y, cW h4, h5⟩
theorem ff {log : ByteArray} (hs : log.size ≤ 1048576) : a7 (log, ()) = some (((oo log).1, ((oo log).2 : Int), ()), ()) := by
  obtain ⟨y, h1, h2⟩ := yT (log := log) (b := bQ) (fun out at_ y => y = .inl (out, (at_ : Int), ()) ∨ y = .inr (out, (at_ : Int), ())) (fun out at_ hlt hl => by
    have hse : (log.extract at_ log.size).size = log.size - at_ := dy (Nat.le_refl _)
    have e1 : (decide (0 ≤ (at_ : Int)) && decide ((at_ : Int) ≤ (log.size : Int))) = true := by simp; omega
    have hb : bQ (log, out, (at_ : Int), ()) = (match mw (log.extract at_ log.size) with | some p => some (.inl (log, out ++ [p.1], ((at_ + p.2 : Nat) : Int), ())) | none => some (.inr (.inl (out, (at_ : Int), ())))) := by
      unfold bQ
      simp only [ak hlt, e1, if_true, Int.toNat_natCast, JL (show (log.extract at_ log.size).size ≤ 1048576 by omega), Option.bind_some]
      cases hone : mw (log.extract at_ log.size) with
      | none => rfl
      | some p =>
        obtain ⟨a, c, _, _⟩ := yV hone
        have e2 : decide (((p.2 : Nat) : Int) = 0) = false := by simp; omega
        have e3 : w64 ((at_ : Int) + (p.2 : Int)) = ((at_ + p.2 : Nat) : Int) := by rw [aP (by omega) (by omega)]; omega
        simp only [e2, e3, if_neg Bool.false_ne_true, List.length_cons, List.length_nil, Nat.zero_add, aM (show out.length + 1 ≤ 4294967296 by omega), if_true]
    rw [hb]
    cases mw (log.extract at_ log.size) with
    | none => exact ⟨_, rfl, .inl rfl⟩
    | some p => rfl) (fun out at_ hge => by
    refine ⟨.inr (out, (at_ : Int), ()), ?_, .inr rfl⟩
    unfold bQ
    have e : decide ((at_ : Int) < (log.size : Int)) = false := by simp; omega
    simp only [e]
    rfl) (log.size + 1) [] 0 (by omega) (Nat.zero_le _) (Nat.zero_le _)
  unfold a7
  rw [show eC (log, [], 0, ()) = some y from h1]
  rcases h2 with rfl | rfl <;> rfl
end Go.VS
namespace Go.VS
open Go
theorem Fg {log : ByteArray} {out : List ByteArray} {at_ n : Nat} (hs : log.size ≤ 1048576) (h : ∀ i, i < n → at_ + i < log.size ∧ bt log ((at_ + i : Nat) : Int) ≠ 58) (hn : n ≤ 3) (hle : at_ + n ≤ log.size)
    (hend : log.size ≤ at_ + n ∨ n = 3 ∨ bt log ((at_ + n : Nat) : Int) = 58) : eU (log, out, (at_ : Int), (at_ : Int), ()) = some (.inr (log, out, (at_ : Int), ((at_ + n : Nat) : Int), ())) := by
  have e3 : w64 ((at_ : Int) + 3) = ((at_ + 3 : Nat) : Int) := by rw [aP (by omega) (by omega)]; omega
  refine ee (fun i => (log, out, (at_ : Int), ((at_ + i : Nat) : Int), ())) n (fun i hi => ?_) ?_
  · obtain ⟨h1, h2⟩ := h i hi
    unfold eh
    have e2 : decide (bt log ((at_ + i : Nat) : Int) = 58) = false := by simpa using h2
    simp only [ak h1, ae h1, e3, ak (show at_ + i < at_ + 3 by omega), e2, ab h1 (by omega : log.size ≤ 9223372036854775807)]
    rfl
  · unfold eh
    by_cases h1 : at_ + n < log.size
    · simp only [ak h1, ae h1, e3]
      rcases hend with h2 | h2 | h2
      · omega
      · have : decide (((at_ + n : Nat) : Int) < ((at_ + 3 : Nat) : Int)) = false := by simp; omega
        rw [this]; rfl
      · rw [show decide (bt log ((at_ + n : Nat) : Int) = 58) = true by simpa using h2]
        cases decide (((at_ + n : Nat) : Int) < ((at_ + 3 : Nat) : Int)) <;> rfl
    · have e1 : decide (((at_ + n : Nat) : Int) < (log.size : Int)) = false := by simp; omega
      simp only [e1, if_neg Bool.false_ne_true, bq, if_true]
theorem Bc {log : ByteArray} {out : List ByteArray} {at_ : Nat} (hs : log.size ≤ 1048576) (hlt : at_ < log.size) (hl : out.length ≤ at_) :
    bT (log, out, (at_ : Int), ()) = some (match mw (log.extract at_ log.size) with | some p => .inl (log, out ++ [p.1], ((at_ + p.2 : Nat) : Int), ()) | none => .inr (.inr (out, (at_ : Int), ()))) := by
  have hse : (log.extract at_ log.size).size = log.size - at_ := dy (Nat.le_refl _)
  unfold bT
  simp only [ak hlt, if_true]
  rcases sS (log.extract at_ log.size) with ⟨h1, h2⟩ | ⟨c, h1, h2, h3, h4, h5⟩
  · have hone : mw (log.extract at_ log.size) = none := by unfold mw; rw [h1, if_pos (by omega)]
    have hb : ∀ i, i < min (log.size - at_) 3 → at_ + i < log.size ∧ bt log ((at_ + i : Nat) : Int) ≠ 58 := fun i hi => by
      refine ⟨by omega, ?_⟩
      rw [← Ia (by omega)]
      exact h2 i (by rw [hse]; exact hi)
    rw [hone, Fg (n := min (log.size - at_) 3) hs hb (by omega) (by omega) (by omega)]
    simp only [aI]
    by_cases h6 : log.size ≤ at_ + min (log.size - at_) 3
    · have e : decide ((log.size : Int) ≤ ((at_ + min (log.size - at_) 3 : Nat) : Int)) = true := by simp; omega
      simp only [e, Bool.not_true, bq, if_true, Bool.true_or]
    · have e : decide ((log.size : Int) ≤ ((at_ + min (log.size - at_) 3 : Nat) : Int)) = false := by simp; omega
      have hm : min (log.size - at_) 3 = 3 := by omega
      rw [hm] at e h6 ⊢
      simp only [e, ae (show at_ + 3 < log.size by omega), Bool.not_false, bU, if_true, Bool.false_or]
      rcases tf (decide (bt log ((at_ + 3 : Nat) : Int) = 58)) with h7 | h7
      · simp only [h7, Bool.not_true, if_neg Bool.false_ne_true]
        have e4 : ((decide (0 ≤ ((at_ + 3 : Nat) : Int)) && decide (((at_ + 3 : Nat) : Int) ≤ (log.size : Int))) && (decide (0 ≤ (at_ : Int)) && decide ((at_ : Int) ≤ ((at_ + 3 : Nat) : Int)))) = true := by simp; omega
        simp only [e4, if_true, Int.toNat_natCast]
        have hz : (log.extract at_ (at_ + 3)).size = 3 := by rw [dy (by omega)]; omega
        rw [jx (by omega)]
        simp only [Option.bind_some]
        rcases pD (log.extract at_ (at_ + 3)) with h8 | ⟨n, h8, h9, h10⟩
        · simp only [h8]; rfl
        · have h11 : 100 ≤ n := by
            rcases Nat.lt_or_ge n 100 with h12 | h12
            · have := nG 2 n (by omega) (by omega)
              rw [← h10, lq] at this
              omega
            · exact h12
          have e5 : inB (n : Int) 1 60 = false := by simp [inB]; omega
          simp only [h8, cf, Option.bind_some, e5]; rfl
      · simp only [h7]; rfl
  · have hb : ∀ i, i < c → at_ + i < log.size ∧ bt log ((at_ + i : Nat) : Int) ≠ 58 := fun i hi => by
      refine ⟨by omega, ?_⟩
      rw [← Ia (by omega)]
      exact h5 i hi
    have h4' : bt log ((at_ + c : Nat) : Int) = 58 := by rw [← Ia (by omega)]; exact h4
    have hc : at_ + c < log.size := by omega
    rw [Fg (n := c) hs hb (by omega) (by omega) (.inr (.inr h4'))]
    simp only [aI]
    have e : decide ((log.size : Int) ≤ ((at_ + c : Nat) : Int)) = false := by simp; omega
    have e4 : ((decide (0 ≤ ((at_ + c : Nat) : Int)) && decide (((at_ + c : Nat) : Int) ≤ (log.size : Int))) && (decide (0 ≤ (at_ : Int)) && decide ((at_ : Int) ≤ ((at_ + c : Nat) : Int)))) = true := by simp; omega
    simp only [e, ae hc, Bool.not_false, bU, if_true, Bool.false_or, show decide (bt log ((at_ + c : Nat) : Int) = 58) = true by simpa using h4', Bool.not_true, if_neg Bool.false_ne_true, e4, Int.toNat_natCast]
    have hz : (log.extract at_ (at_ + c)).size = c := by rw [dy (by omega)]; omega
    have hz2 : (log.extract at_ log.size).extract 0 c = log.extract at_ (at_ + c) := by rw [KR (by omega)]; simp
    rw [jx (by omega)]
    have hone : mw (log.extract at_ log.size) = (let n := an (log.extract at_ (at_ + c)); if n < 1 then none else if 60 < n then none else if ((log.extract at_ log.size).size : Int) < c + 2 + n then none else
        if !decide (bt (log.extract at_ log.size) ((c + 1 + n.toNat : Nat) : Int) = 59) then none else some ((log.extract at_ log.size).extract (c + 1) (c + 1 + n.toNat), c + 2 + n.toNat)) := by
      unfold mw
      rw [h1, if_neg (by omega), Int.toNat_natCast]
      simp only [hz2]
    rw [hone]
    simp only [Option.bind_some]
    rcases pD (log.extract at_ (at_ + c)) with h8 | ⟨n, h8, h9, h10⟩
    · have hd : an (log.extract at_ (at_ + c)) = -1 := by
        rcases mY (log.extract at_ (at_ + c)) with ⟨h9, _⟩ | ⟨n, h9, h10, h11⟩
        · exact h9
        · rw [yX (by omega) h11] at h8; cases h8
      simp only [h8, hd]; rfl
    · rw [Jg (by omega) h10]
      simp only [h8, cf, Option.bind_some, Bool.not_true, if_neg Bool.false_ne_true, Int.toNat_natCast, hse]
      by_cases h11 : (n : Int) < 1
      · rw [if_pos h11, show inB (n : Int) 1 60 = false by simp [inB]; omega]; rfl
      · rw [if_neg h11]
        by_cases h12 : 60 < (n : Int)
        · rw [if_pos h12, show inB (n : Int) 1 60 = false by simp [inB]; omega]; rfl
        · rw [if_neg h12, show inB (n : Int) 1 60 = true by simp [inB]; omega]
          have e5 : w64 (((at_ + c : Nat) : Int) + 1) = ((at_ + c + 1 : Nat) : Int) := by rw [aP (by omega) (by omega)]; omega
          have e6 : w64 (((at_ + c + 1 : Nat) : Int) + (n : Int)) = ((at_ + c + 1 + n : Nat) : Int) := by rw [aP (by omega) (by omega)]; omega
          simp only [e5, e6, Bool.not_true, if_neg Bool.false_ne_true]
          by_cases h13 : at_ + c + 1 + n < log.size
          · rw [if_neg (show ¬ (((log.size - at_ : Nat) : Int) < c + 2 + n) by omega)]
            have e7 : decide ((log.size : Int) ≤ ((at_ + c + 1 + n : Nat) : Int)) = false := by simp; omega
            simp only [e7, if_neg Bool.false_ne_true, ae h13, if_true]
            have e10 : bt (log.extract at_ log.size) ((c + 1 + n : Nat) : Int) = bt log ((at_ + c + 1 + n : Nat) : Int) := by rw [Ia (show at_ + (c + 1 + n) < log.size by omega), show at_ + (c + 1 + n) = at_ + c + 1 + n by omega]
            simp only [e10]
            rcases tf (decide (bt log ((at_ + c + 1 + n : Nat) : Int) = 59)) with h14 | h14
            · have e8 : ((decide (0 ≤ ((at_ + c + 1 + n : Nat) : Int)) && decide (((at_ + c + 1 + n : Nat) : Int) ≤ (log.size : Int))) && (decide (0 ≤ ((at_ + c + 1 : Nat) : Int)) && decide (((at_ + c + 1 : Nat) : Int) ≤ ((at_ + c + 1 + n : Nat) : Int)))) = true := by simp; omega
              have e9 : w64 (((at_ + c + 1 + n : Nat) : Int) + 1) = ((at_ + (c + 2 + n) : Nat) : Int) := by rw [aP (by omega) (by omega)]; omega
              simp only [h14, Bool.not_true, if_neg Bool.false_ne_true, e8, if_true, List.length_cons, List.length_nil, Nat.zero_add, aM (show out.length + 1 ≤ 4294967296 by omega), Int.toNat_natCast, e9, KR (show at_ + (c + 1 + n) ≤ log.size by omega)]
              rw [show at_ + (c + 1) = at_ + c + 1 by omega, show at_ + (c + 1 + n) = at_ + c + 1 + n by omega]
            · simp only [h14, Bool.not_false, if_true]
          · rw [if_pos (show (((log.size - at_ : Nat) : Int) < c + 2 + n) by omega)]
            have e7 : decide ((log.size : Int) ≤ ((at_ + c + 1 + n : Nat) : Int)) = true := by simp; omega
            simp only [e7, if_true]
theorem kw {log : ByteArray} (hs : log.size ≤ 1048576) : cg (log, ()) = some (((oo log).1, ((oo log).2 : Int), ()), ()) := by
  obtain ⟨y, h1, h2⟩ := yT (log := log) (b := bT) (fun out at_ y => y = .inr (out, (at_ : Int), ())) (fun out at_ hlt hl => by
    rw [Bc hs hlt hl]
    cases mw (log.extract at_ log.size) with
    | none => exact ⟨_, rfl, rfl⟩
    | some p => rfl) (fun out at_ hge => by
    refine ⟨.inr (out, (at_ : Int), ()), ?_, rfl⟩
    unfold bT
    have e : decide ((at_ : Int) < (log.size : Int)) = false := by simp; omega
    simp only [e]
    rfl) (log.size + 1) [] 0 (by omega) (Nat.zero_le _) (Nat.zero_le _)
  unfold cg
  rw [show eV (log, [], 0, ()) = some y from h1]
  subst h2
  have h3 := px log
  simp only [aI]
  rw [show (rq log (log.size + 1) [] 0) = oo log from rfl, rP (by omega)]
  rfl
abbrev zK : Keep := ⟨0, 0, 0, [], [], []⟩
noncomputable def oD (k : Keep) (r : ByteArray) : Option Keep := if (jn k r).2 then some (jn k r).1 else none
noncomputable def pG (k : Keep) (rs : List ByteArray) : Option Keep := rs.foldlM oD k
noncomputable def lz (id : Int) (rs : List ByteArray) : Option Keep := if isN id then pG ⟨id, 0, 1, [], [], []⟩ rs else none
theorem G0 {σ β γ κ α : Type} {b : σ → Option (σ ⊕ (β ⊕ γ))} (st : Nat → κ → σ) (l : List α) (f : κ → α → Option κ) (bad : β) (fin : κ → γ) (I : κ → Prop)
    (h : ∀ i k x, l[i]? = some x → I k → b (st i k) = some (match f k x with | some k' => .inl (st (i + 1) k') | none => .inr (.inl bad)))
    (hn : ∀ k, I k → b (st l.length k) = some (.inr (.inr (fin k)))) (hI : ∀ k x k', I k → f k x = some k' → I k') :
    ∀ k, I k → aA b (st 0 k) = some (match l.foldlM f k with | some k' => .inr (fin k') | none => .inl bad) := by
  have : ∀ (m i : Nat), i + m = l.length → ∀ k, I k → aA b (st i k) = some (match (l.drop i).foldlM f k with | some k' => .inr (fin k') | none => .inl bad) := by
    intro m
    induction m with
    | zero =>
      intro i hi k hk
      rw [List.drop_of_length_le (by omega), show i = l.length by omega]
      exact cW (hn k hk)
    | succ m ih =>
      intro i hi k hk
      have hlt : i < l.length := by omega
      rw [List.drop_eq_getElem_cons hlt, List.foldlM_cons]
      have hb := h i k l[i] (List.getElem?_eq_getElem hlt) hk
      cases hf : f k l[i] with
      | none => rw [hf] at hb; exact cW hb
      | some k' => rw [hf] at hb; exact mg hb (ih (i + 1) (by omega) k' (hI k _ k' hk hf))
  intro k hk
  have := this l.length 0 (by omega) k hk
  rwa [List.drop_zero] at this
theorem LS {k : Keep} {r : ByteArray} (h : (jn k r).2 = true) : aR (jn k r).1 = true := by
  unfold jn at h ⊢
  split at h <;> rename_i hk
  · rw [if_pos hk]
    cases hs : (q5 k r).filter aR with
    | none => rw [hs] at h; cases h
    | some o => exact (Option.filter_eq_some_iff.1 hs).2
  · cases h
theorem xJ {k o : Keep} {r : ByteArray} (h : oD k r = some o) : aR o = true := by
  unfold oD at h
  split at h
  · cases h; exact LS (by assumption)
  · cases h
theorem GW {k : Keep} (h : aR k = true) : SmK k := by
  have hf := l5 h
  have hn : ∀ {l : List Note}, cl l = true → ∀ x ∈ l, cH x := fun {l} hl x hx => by
    obtain ⟨i, hi, rfl⟩ := List.getElem_of_mem hx
    have := pz hl hi
    rw [nq (List.getElem?_eq_getElem hi)] at this
    exact cS this
  exact ⟨by have := hf.hl; omega, hn hf.h, by have := hf.ml; omega, by have := hf.il; omega, hn hf.i⟩
theorem l4 {id : Int} (h : isN id = true) : aR ⟨id, 0, 1, [], [], []⟩ = true := by
  unfold aR
  simp only [h]
  rfl
theorem Dv : ∀ {rs : List ByteArray} {k o : Keep}, aR k = true → pG k rs = some o → aR o = true
  | [], k, o, hk, h => by cases h; exact hk
  | r :: rs, k, o, hk, h => by
    unfold pG at h
    rw [List.foldlM_cons] at h
    cases hs : oD k r with
    | none => rw [hs] at h; cases h
    | some k' => rw [hs] at h; exact Dv (rs := rs) (xJ hs) h
theorem LQ {id : Int} {rs : List ByteArray} {o : Keep} (h : lz id rs = some o) : aR o = true := by
  unfold lz at h
  split at h
  · exact Dv (l4 (by assumption)) h
  · cases h
theorem F0 {id : Int} {rs : List ByteArray} (hl : rs.length ≤ 1048576) (hr : ∀ r ∈ rs, r.size ≤ 1048576) : kW (id, rs, ()) = some ((tK ((lz id rs).getD zK), (lz id rs).isSome, ()), ()) := by
  unfold kW lz
  simp only [bH, Option.bind_some, zq]
  rcases tf (isN id) with h | h
  · simp only [h, Bool.not_true, if_neg Bool.false_ne_true, if_true]
    have := G0 (b := eW) (fun i (k : Keep) => (tK zK, tK k, rs, (rs.length : Int), (i : Int), ())) rs oD (tK zK, false, ()) (fun k => (tK zK, tK k, ())) (fun k => aR k = true) (fun i k x hx hk => by
      have hi := (List.getElem?_eq_some_iff.1 hx).1
      have hxs := hr x (List.mem_of_getElem? hx)
      unfold eW
      simp only [ak hi, ae hi, cR, bf hx, if_true]
      rw [F1 (GW hk) hxs]
      unfold oD
      simp only [Option.bind_some]
      rcases tf (jn k x).2 with h2 | h2
      · simp only [h2, Bool.not_true, if_neg Bool.false_ne_true, if_true, ab hi (by omega : rs.length ≤ 9223372036854775807)]
      · simp only [h2, Bool.not_false, if_neg Bool.false_ne_true, if_true]) (fun k hk => by simp [eW]) (fun k x k' _ hs => xJ hs) ⟨id, 0, 1, [], [], []⟩ (l4 h)
    rw [show jV ((0, 0, 0, [], [], [], ()), (id, 0, 1, [], [], [], ()), rs, (rs.length : Int), 0, ()) = _ from this]
    unfold pG
    cases rs.foldlM oD ⟨id, 0, 1, [], [], []⟩ <;> rfl
  · simp only [h, Bool.not_false, if_neg Bool.false_ne_true, if_true]
    rfl
theorem ul {id : Int} {rs : List ByteArray} (hl : rs.length ≤ 1048576) (hr : ∀ r ∈ rs, r.size ≤ 1048576) : dG (id, rs, ()) = some ((tK ((lz id rs).getD zK), (lz id rs).isSome, ()), ()) := by
  unfold dG lz
  simp only [bF, Option.bind_some, yP]
  rcases tf (isN id) with h | h
  · simp only [h, Bool.not_true, if_neg Bool.false_ne_true, if_true]
    have := G0 (b := eD) (fun i (k : Keep) => (rs, tK zK, tK k, (i : Int), ())) rs oD (tK zK, false, ()) (fun k => (tK zK, tK k, ())) (fun k => aR k = true) (fun i k x hx hk => by
      have hi := (List.getElem?_eq_some_iff.1 hx).1
      have hxs := hr x (List.mem_of_getElem? hx)
      unfold eD
      simp only [ak hi, ae hi, cR, bf hx, if_true]
      rw [Fp (GW hk) hxs]
      unfold oD
      simp only [Option.bind_some]
      rcases tf (jn k x).2 with h2 | h2
      · simp only [h2, Bool.not_true, if_neg Bool.false_ne_true, if_true, ab hi (by omega : rs.length ≤ 9223372036854775807)]
      · simp only [h2, Bool.not_false, if_neg Bool.false_ne_true, if_true]) (fun k hk => by simp [eD]) (fun k x k' _ hs => xJ hs) ⟨id, 0, 1, [], [], []⟩ (l4 h)
    rw [show iZ (rs, (0, 0, 0, [], [], [], ()), (id, 0, 1, [], [], [], ()), 0, ()) = _ from this]
    unfold pG
    cases rs.foldlM oD ⟨id, 0, 1, [], [], []⟩ <;> rfl
  · simp only [h, Bool.not_false, if_neg Bool.false_ne_true, if_true]
    rfl
noncomputable def bd (id : Int) (log : ByteArray) : Option Keep := lz id (oo log).1
theorem mR {id : Int} {log : ByteArray} (hs : log.size ≤ 1048576) : bN (id, log, ()) = some ((tK ((bd id log).getD zK), (bd id log).isSome, ()), ()) := by
  have h := px log
  unfold bN bd
  rw [kw hs]
  simp only [Option.bind_some]
  rw [F0 (by omega) (fun r hr => by have := h.2.2 r hr; omega)]
  rfl
theorem vK {id fo : Int} {up : Bool} {log : ByteArray} {hv : List Half} (hs : log.size ≤ 1048576) : cG ((id, up, log, fo, hv, ()), ()) = some ((tK ((bd id log).getD zK), (bd id log).isSome, ()), ()) := by
  have h := px log
  unfold cG bd
  rw [ff hs]
  simp only [Option.bind_some]
  rw [ul (by omega) (fun r hr => by have := h.2.2 r hr; omega)]
  rfl
noncomputable def kM (lg : ByteArray) (fo : Int) : Bool := decide (lg.size ≤ 2400) && (inB fo 0 lg.size && (decide (((oo lg).2 : Int) = lg.size) && decide (((oo (lg.extract 0 fo.toNat)).2 : Int) = fo)))
theorem DZ {lg : ByteArray} {fo : Int} (hs : lg.size ≤ 1048576) : jN ((lg, fo, ()), ()) = some ((kM lg fo, ()), ()) := by
  unfold jN kM
  simp only [cf, kw hs, Option.bind_some, Option.isSome_some, Option.getD_some]
  by_cases h1 : lg.size ≤ 2400
  · have e1 : decide (2400 < (lg.size : Int)) = false := by simp; omega
    simp only [e1, h1, Bool.not_false, bU, if_true, Bool.false_or, decide_true, Bool.true_and]
    rcases tf (inB fo 0 lg.size) with h2 | h2
    · have h3 := be.1 h2
      have e2 : (decide (0 ≤ fo) && decide (fo ≤ (lg.size : Int))) = true := by simp; omega
      simp only [h2, Bool.not_true, if_neg Bool.false_ne_true, e2, if_true, Bool.true_and]
      rw [kw (by rw [dy (by omega)]; omega)]
      rfl
    · simp only [h2, Bool.not_false, if_true, Bool.false_and]
  · have e1 : decide (2400 < (lg.size : Int)) = true := by simp; omega
    simp only [e1, h1, Bool.not_true, bq, if_true, Bool.true_or, decide_false, Bool.false_and]
theorem CG {lg : ByteArray} {fo : Int} (hs : lg.size ≤ 1048576) : iP ((lg, fo, ()), ()) = some ((kM lg fo, ()), ()) := by
  unfold iP kM
  simp only [ko, ff hs, Option.bind_some, Option.isSome_some, Option.getD_some]
  by_cases h1 : lg.size ≤ 2400
  · have e1 : decide (2400 < (lg.size : Int)) = false := by simp; omega
    simp only [e1, h1, Bool.not_false, bU, if_true, Bool.false_or, decide_true, Bool.true_and]
    rcases tf (inB fo 0 lg.size) with h2 | h2
    · have h3 := be.1 h2
      have e2 : (decide (0 ≤ fo) && decide (fo ≤ (lg.size : Int))) = true := by simp; omega
      simp only [h2, Bool.not_true, if_neg Bool.false_ne_true, e2, if_true, Bool.true_and]
      rw [ff (by rw [dy (by omega)]; omega)]
      rfl
    · simp only [h2, Bool.not_false, if_true, Bool.false_and]
  · have e1 : decide (2400 < (lg.size : Int)) = true := by simp; omega
    simp only [e1, h1, Bool.not_true, bq, if_true, Bool.true_or, decide_false, Bool.false_and]
end Go.VS
namespace Go.VS
open Go
theorem pL (p : Bool) : aE p true = true := by cases p <;> rfl
theorem Oj {k o : Keep} {w : ByteArray} {n : Int} (h : Fu k w n = some o) : o.id = k.id := by
  unfold Fu at h
  repeat' split at h
  all_goals first | (cases h; done) | (cases h; rfl)
theorem K0 {k o : Keep} {n : Note} (h : Ca k n = some o) : o.id = k.id := by
  unfold Ca at h
  repeat' split at h
  all_goals first | (cases h; done) | (cases h; rfl)
theorem Kc {k o : Keep} {w : ByteArray} {n : Note} (h : gU k w n = some o) : o.id = k.id := by
  unfold gU at h
  split at h
  · exact (K0 h).trans rfl
  split at h
  · exact K0 h
  split at h
  · cases h
  repeat' split at h
  all_goals first | (cases h; done) | (cases h; rfl)
theorem Ke {k o : Keep} {w : ByteArray} {m : Mark} (h : cD k w m = some o) : o.id = k.id := by
  unfold cD at h
  repeat' split at h
  all_goals first | (cases h; done) | (cases h; rfl)
theorem MJ {k o : Keep} {w r : ByteArray} (h : db k w r = some o) : o.id = k.id := by
  unfold db at h
  split at h
  · split at h
    · exact Oj h
    · cases h
  split at h
  · split at h
    · exact Kc h
    · cases h
  split at h
  · split at h
    · exact Ke h
    · cases h
  · cases h
theorem Nf {k o : Keep} {r : ByteArray} (h : oD k r = some o) (hk : aR k = true) : o.id = k.id := by
  unfold oD at h
  split at h
  case isFalse => cases h
  rename_i h2
  cases h
  unfold jn at h2 ⊢
  simp only [hk, if_true] at h2 ⊢
  cases hs : (q5 k r).filter aR with
  | none => rfl
  | some o =>
    simp only
    have := (Option.filter_eq_some_iff.1 hs).1
    unfold q5 at this
    split at this
    · cases this
    · exact MJ this
theorem Dw : ∀ {rs : List ByteArray} {k o : Keep}, aR k = true → pG k rs = some o → o.id = k.id
  | [], k, o, _, h => by cases h; rfl
  | r :: rs, k, o, hk, h => by
    unfold pG at h
    rw [List.foldlM_cons] at h
    cases hs : oD k r with
    | none => rw [hs] at h; cases h
    | some k' => rw [hs] at h; exact (Dw (rs := rs) (xJ hs) h).trans (Nf hs hk)
theorem LR {id : Int} {rs : List ByteArray} {o : Keep} (h : lz id rs = some o) : o.id = id := by
  unfold lz at h
  split at h
  · exact Dw (k := ⟨id, 0, 1, [], [], []⟩) (l4 (by assumption)) h
  · cases h
def xA (l : List Mixed) (i : Nat) : Mixed := l.getD i (dfl .mixed)
def hA (l : List Half) (i : Nat) : Half := l.getD i (dfl .half)
theorem xp (l : List Mixed) (i : Nat) : @rd Mixed (dfl .mixed) l (i : Int) = xA l i := rfl
theorem Cj (l : List Half) (i : Nat) : @rd Half (dfl .half) l (i : Int) = hA l i := rfl
theorem N3 {l : List Mixed} {i j : Nat} (h : j < i) : xA (l.take i) j = xA l j := by
  unfold xA
  simp [List.getD_eq_getElem?_getD, h]
def yd (l : List Mixed) (i : Nat) : Bool := (inB (xA l i).nu 0 999 && decide (((xA l i).da.size : Int) = 4)) && aN i fun j => !decide ((xA l j).nu = (xA l i).nu)
def wJ (h : Half) : Bool := isN h.fr && (isN h.to && (inB h.nu 1 99 && (inB h.un 1 999 && (inB h.sz 1 24 && (decide ((h.got.length : Int) ≤ 14) && aN h.got.length (yd h.got))))))
theorem FT {h : Half} (sm : kq h) : kU ((h.fr, h.nu, h.to, h.un, h.sz, h.got, ()), ()) = some ((wJ h, ()), ()) := by
  have hl : h.got.length ≤ 9223372036854775807 := by have := sm.1; omega
  have hloop : jF ((h.fr, h.nu, h.to, h.un, h.sz, h.got, ()), h.got, (h.got.length : Int), 0, ()) = some (if aN h.got.length (yd h.got) then .inr () else .inl (false, ())) :=
    az (fun i => ((h.fr, h.nu, h.to, h.un, h.sz, h.got, ()), h.got, (h.got.length : Int), (i : Int), ())) h.got.length (yd h.got) (false, ()) () (fun i hi => by
      unfold jH yd
      simp only [ak hi, ae hi, if_true, xp, cf, Option.bind_some]
      rcases tf (inB (xA h.got i).nu 0 999) with e | e <;> rcases tfp (((xA h.got i).da.size : Int) = 4) with e' | e'
      rotate_left
      · simp only [e, e', decide_false, Bool.and_false, Bool.not_false, Bool.or_true, Bool.false_and, if_true, if_neg Bool.false_ne_true]
      · simp only [e, Bool.false_and, Bool.not_false, Bool.true_or, if_true, if_neg Bool.false_ne_true]
      · simp only [e, Bool.false_and, Bool.not_false, Bool.true_or, if_true, if_neg Bool.false_ne_true]
      · have e2 : (decide (0 ≤ (i : Int)) && decide ((i : Int) ≤ (h.got.length : Int))) = true := by simp; omega
        have e3 : (List.take i h.got).length = i := by simp; omega
        simp only [e, e', decide_true, Bool.not_true, Bool.or_self, if_neg Bool.false_ne_true, e2, if_true, Int.toNat_natCast, e3, Bool.true_and]
        have hin : jE ((h.fr, h.nu, h.to, h.un, h.sz, h.got, ()), ((xA h.got i).nu, (xA h.got i).da, ()), h.got, (h.got.length : Int), (i : Int), List.take i h.got, (i : Int), 0, ()) =
            some (if aN i (fun j => !decide ((xA h.got j).nu = (xA h.got i).nu)) then .inr ((h.fr, h.nu, h.to, h.un, h.sz, h.got, ()), h.got, (h.got.length : Int), (i : Int), ()) else .inl (false, ())) :=
          az (fun j => ((h.fr, h.nu, h.to, h.un, h.sz, h.got, ()), ((xA h.got i).nu, (xA h.got i).da, ()), h.got, (h.got.length : Int), (i : Int), List.take i h.got, (i : Int), (j : Int), ())) i (fun j => !decide ((xA h.got j).nu = (xA h.got i).nu)) (false, ()) _ (fun j hj => by
            unfold jG
            simp only [ak hj, e3, ae hj, if_true, xp, N3 hj, ab hj (by omega : i ≤ 9223372036854775807)]
            rcases tfp ((xA h.got j).nu = (xA h.got i).nu) with e4 | e4 <;> simp only [e4, decide_true, decide_false] <;> rfl) (by simp [jG])
        rw [hin]
        rcases tf (aN i (fun j => !decide ((xA h.got j).nu = (xA h.got i).nu))) with e4 | e4
        · simp only [e4, if_true, aI, ab hi hl]
        · simp only [e4, if_neg Bool.false_ne_true, bB]) (by simp [jH])
  unfold kU wJ
  simp only [bH, cf, Option.bind_some, hloop]
  rcases tf (isN h.fr) with e | e <;> simp only [e, Bool.not_true, Bool.not_false, if_true, if_neg Bool.false_ne_true, Bool.true_and, Bool.false_and]
  rcases tf (isN h.to) with e | e <;> simp only [e, Bool.not_true, Bool.not_false, if_true, if_neg Bool.false_ne_true, Bool.true_and, Bool.false_and]
  rcases tf (inB h.nu 1 99) with e | e <;> simp only [e, Bool.not_true, Bool.not_false, if_true, if_neg Bool.false_ne_true, Bool.true_and, Bool.false_and]
  rcases tf (inB h.un 1 999) with e | e <;> simp only [e, Bool.not_true, Bool.not_false, if_true, if_neg Bool.false_ne_true, Bool.true_and, Bool.false_and]
  rcases tf (inB h.sz 1 24) with e | e <;> simp only [e, Bool.not_true, Bool.not_false, if_true, if_neg Bool.false_ne_true, Bool.true_and, Bool.false_and]
  rcases dc (h.got.length : Int) 14 with ⟨e1, e2⟩ | ⟨e1, e2⟩ <;> simp only [e1, e2, decide_true, decide_false, if_true, if_neg Bool.false_ne_true, Bool.true_and, Bool.false_and]
  rcases tf (aN h.got.length (yd h.got)) with e | e <;> simp only [e, if_true, if_neg Bool.false_ne_true] <;> rfl
theorem Mo {sz : Int} (h : inB sz 1 24 = true) : inB (w64 (Int.tdiv (w64 (w64 (sz + 4) - 1)) 4)) 1 6 = true := by
  have h := be.1 h
  rw [aP (n := sz + 4) (by omega) (by omega), aP (n := sz + 4 - 1) (by omega) (by omega)]
  have e : Int.tdiv (sz + 4 - 1) 4 = (sz + 4 - 1) / 4 := Int.tdiv_eq_ediv_of_nonneg (by omega)
  rw [e, aP (by omega) (by omega), be]
  omega
theorem Fl {h : Half} (sm : kq h) : fb ((h.fr, h.nu, h.to, h.un, h.sz, h.got, ()), ()) = some ((wJ h, ()), ()) := by
  have hl : h.got.length ≤ 9223372036854775807 := by have := sm.1; omega
  have hloop : inB h.sz 1 24 = true → ey ((h.fr, h.nu, h.to, h.un, h.sz, h.got, ()), 0, ()) = some (if aN h.got.length (yd h.got) then .inr () else .inl (false, ())) := fun hz =>
    az (fun i => ((h.fr, h.nu, h.to, h.un, h.sz, h.got, ()), (i : Int), ())) h.got.length (yd h.got) (false, ()) () (fun i hi => by
      unfold dX yd lr mp q9
      simp only [ak hi, ae hi, if_true, xp, ko, Option.bind_some, Mo hz, bU, Option.isSome_some, Option.getD_some, Bool.true_and]
      rcases tf (inB (xA h.got i).nu 0 999) with e | e <;> rcases tfp (((xA h.got i).da.size : Int) = 4) with e' | e'
      rotate_left
      · simp only [e, e', decide_false, Bool.and_false, Bool.not_false, Bool.false_and, if_true, if_neg Bool.false_ne_true]
      · simp only [e, Bool.false_and, Bool.not_false, if_true, if_neg Bool.false_ne_true]
      · simp only [e, Bool.false_and, Bool.not_false, if_true, if_neg Bool.false_ne_true]
      · simp only [e, e', decide_true, Bool.and_self, Bool.not_true, if_neg Bool.false_ne_true, Bool.true_and]
        have hin : ew ((h.fr, h.nu, h.to, h.un, h.sz, h.got, ()), (i : Int), 0, ()) =
            some (if aN i (fun j => !decide ((xA h.got j).nu = (xA h.got i).nu)) then .inr ((h.fr, h.nu, h.to, h.un, h.sz, h.got, ()), (i : Int), ()) else .inl (false, ())) :=
          az (fun j => ((h.fr, h.nu, h.to, h.un, h.sz, h.got, ()), (i : Int), (j : Int), ())) i (fun j => !decide ((xA h.got j).nu = (xA h.got i).nu)) (false, ()) _ (fun j hj => by
            unfold dW
            simp only [ak hj, ae hi, ae (Nat.lt_trans hj hi), if_true, xp, ab hj (by omega : i ≤ 9223372036854775807)]
            rcases tfp ((xA h.got j).nu = (xA h.got i).nu) with e4 | e4 <;> simp only [e4, decide_true, decide_false] <;> rfl) (by simp [dW])
        rw [hin]
        rcases tf (aN i (fun j => !decide ((xA h.got j).nu = (xA h.got i).nu))) with e4 | e4
        · simp only [e4, if_true, aI, ab hi hl]
        · simp only [e4, if_neg Bool.false_ne_true, bB]) (by simp [dX])
  unfold fb wJ
  simp only [bF, ko, Option.bind_some]
  rcases tf (isN h.fr) with e | e <;> simp only [e, Bool.not_true, Bool.not_false, if_true, if_neg Bool.false_ne_true, Bool.true_and, Bool.false_and]
  rcases tf (isN h.to) with e | e <;> simp only [e, Bool.not_true, Bool.not_false, if_true, if_neg Bool.false_ne_true, Bool.true_and, Bool.false_and]
  rcases tf (inB h.nu 1 99) with e | e <;> simp only [e, Bool.not_true, Bool.not_false, if_true, if_neg Bool.false_ne_true, Bool.true_and, Bool.false_and]
  rcases tf (inB h.un 1 999) with e | e <;> simp only [e, Bool.not_true, Bool.not_false, if_true, if_neg Bool.false_ne_true, Bool.true_and, Bool.false_and]
  rcases tf (inB h.sz 1 24) with e | e <;> simp only [e, Bool.not_true, Bool.not_false, if_true, if_neg Bool.false_ne_true, Bool.true_and, Bool.false_and]
  rw [hloop e]
  rcases dc (h.got.length : Int) 14 with ⟨e1, e2⟩ | ⟨e1, e2⟩ <;> simp only [e1, e2, decide_true, decide_false, if_true, if_neg Bool.false_ne_true, Bool.true_and, Bool.false_and]
  rcases tf (aN h.got.length (yd h.got)) with e | e <;> simp only [e, if_true, if_neg Bool.false_ne_true] <;> rfl
def PA (l : List Half) (f n : Int) : Int := iD l.length fun i => decide ((hA l i).fr = f) && decide ((hA l i).nu = n)
theorem FU {l : List Half} {f n : Int} (hl : l.length ≤ 1048576) : fT (l, f, n, ()) = some ((PA l f n, ()), ()) := by
  unfold fT
  have := mh (b := eS) (fun i => (f, n, l, (l.length : Int), (i : Int), ())) l.length (fun i => decide ((hA l i).fr = f) && decide ((hA l i).nu = n)) (fun r => (r, ())) () (fun i hi => by
    unfold eS
    simp only [ak hi, ae hi, if_true, Cj, ab hi (by omega : l.length ≤ 9223372036854775807)]
    rcases tfp ((hA l i).fr = f) with e | e <;> rcases tfp ((hA l i).nu = n) with e2 | e2 <;> simp only [e, e2, decide_true, decide_false] <;> rfl) (by simp [eS])
  rw [show jI (f, n, l, (l.length : Int), 0, ()) = _ from this]
  exact n9
theorem Nr {n : Nat} {p : Nat → Bool} {i : Nat} (hi : i < n) (hp : p i = true) : decide (iD n p < (i : Int)) = !(aN i fun j => !p j) := by
  rcases cB n p with ⟨_, h2⟩ | ⟨c, h1, h2, h3, h4⟩
  · rw [h2 i hi] at hp; cases hp
  · rw [h1]
    by_cases hc : c < i
    · have : aN i (fun j => !p j) = false := by
        rw [Bool.eq_false_iff]
        intro h
        have := lp.1 h c hc
        simp [h3] at this
      rw [this]
      simpa using hc
    · have : aN i (fun j => !p j) = true := lp.2 fun j hj => by rw [h4 j (by omega)]; rfl
      rw [this]
      simp; omega
def Bf (l : List Half) (i : Nat) : Bool := wJ (hA l i) && aN i fun j => !(decide ((hA l j).fr = (hA l i).fr) && decide ((hA l j).nu = (hA l i).nu))
noncomputable def eQ (k : Keeper) : Bool := isN k.id && (kM k.log k.fo && (decide ((k.halves.length : Int) ≤ 3) && ((k.up || decide (k.halves.length = 0)) && (((bd k.id k.log).isSome && (bd k.id (k.log.extract 0 k.fo.toNat)).isSome) && aN k.halves.length (Bf k.halves)))))
abbrev tKp (k : Keeper) : Int × Bool × ByteArray × Int × List Half × Unit := (k.id, k.up, k.log, k.fo, k.halves, ())
theorem OQ {l : List Half} (h : ∀ x ∈ l, kq x) (i : Nat) : kq (hA l i) := by
  unfold hA
  rcases Nat.lt_or_ge i l.length with hi | hi
  · rw [bf (List.getElem?_eq_getElem hi)]
    exact h _ (List.getElem_mem hi)
  · rw [List.getD_eq_getElem?_getD, List.getElem?_eq_none hi]
    exact ⟨by decide, fun m hm => by cases hm⟩
theorem qm {k : Keeper} (sm : ch k) : cr (tKp k, ()) = some ((eQ k, ()), ()) := by
  obtain ⟨id, up, lg, fo, hv⟩ := k
  obtain ⟨sl, hl, hs⟩ := sm
  simp only at sl hl hs
  have hloop : cK ((id, up, lg, fo, hv, ()), hv, (hv.length : Int), 0, ()) = some (if aN hv.length (Bf hv) then .inr () else .inl (false, ())) :=
    az (fun i => ((id, up, lg, fo, hv, ()), hv, (hv.length : Int), (i : Int), ())) hv.length (Bf hv) (false, ()) () (fun i hi => by
      unfold fC Bf
      simp only [ak hi, ae hi, if_true, Cj, FT (OQ hs i), FU hl, Option.bind_some, Option.isSome_some, Option.getD_some, pL, ab hi (by omega : hv.length ≤ 9223372036854775807)]
      rcases tf (wJ (hA hv i)) with e | e
      · have hf := Nr (p := fun j => decide ((hA hv j).fr = (hA hv i).fr) && decide ((hA hv j).nu = (hA hv i).nu)) hi (by simp)
        unfold PA
        simp only [e, Bool.not_true, Bool.false_or, Bool.true_and, hf]
        cases aN i (fun j => !(decide ((hA hv j).fr = (hA hv i).fr) && decide ((hA hv j).nu = (hA hv i).nu))) <;> rfl
      · simp only [e, Bool.not_false, Bool.true_or, if_true, Bool.false_and, if_neg Bool.false_ne_true]) (by simp [fC])
  unfold cr eQ
  simp only [bH, Option.bind_some, DZ sl]
  rcases tf (isN id) with e | e <;> simp only [e, Bool.not_true, Bool.not_false, if_true, if_neg Bool.false_ne_true, Bool.true_and, Bool.false_and, iC]
  rcases tf (kM lg fo) with e2 | e2 <;> simp only [e2, Bool.not_true, Bool.not_false, if_true, if_neg Bool.false_ne_true, Bool.true_and, Bool.false_and, iC]
  have e3 : 0 ≤ fo ∧ fo ≤ (lg.size : Int) := by
    unfold kM at e2
    simp only [Bool.and_eq_true] at e2
    exact be.1 e2.2.1
  have e4 : (decide (0 ≤ fo) && decide (fo ≤ (lg.size : Int))) = true := by simp; omega
  rcases dc (hv.length : Int) 3 with ⟨e5, e6⟩ | ⟨e5, e6⟩ <;> simp only [e5, e6, decide_true, decide_false, if_true, if_neg Bool.false_ne_true, Bool.true_and, Bool.false_and, iC]
  have hrest : ∀ b : Bool, (b = true) → fH (X := Y3 × Unit) (fun j5 =>
      (bN (j5.1.1, j5.1.2.2.1, ())).bind fun r8 =>
      (if (decide (0 ≤ j5.1.2.2.2.1) && decide (j5.1.2.2.2.1 ≤ (j5.1.2.2.1.size : Int))) then
      (bN (j5.1.1, (j5.1.2.2.1.extract (0) (Int.toNat j5.1.2.2.2.1)), ())).bind fun r9 =>
      (if ((!r8.1.2.1) || (!r9.1.2.1)) then
      some ((false, ()), ())
      else
      (aw (cK (j5.1, j5.1.2.2.2.2.1, (j5.1.2.2.2.2.1.length : Int), 0, ()))
      (fun y56 => some (y56, ()))
      (fun y56 => some ((true, ()), ()))))
      else none)) (some (.inr ((id, up, lg, fo, hv, ()), ()))) = some ((b && (((bd id lg).isSome && (bd id (lg.extract 0 fo.toNat)).isSome) && aN hv.length (Bf hv)), ()), ()) := by
    rintro b rfl
    simp only [ce, mR sl, Option.bind_some, e4, if_true]
    rw [mR (by rw [dy (by omega)]; omega)]
    simp only [Option.bind_some, hloop, Bool.true_and]
    rcases tf (bd id lg).isSome with e | e <;> rcases tf (bd id (lg.extract 0 fo.toNat)).isSome with e2 | e2 <;> simp only [e, e2, Bool.not_true, Bool.not_false, Bool.or_self, Bool.true_or, Bool.or_true, if_true, if_neg Bool.false_ne_true, Bool.and_self, Bool.and_false, Bool.false_and, Bool.true_and]
    rcases tf (aN hv.length (Bf hv)) with e | e <;> simp only [e, if_true, if_neg Bool.false_ne_true] <;> rfl
  rcases tf up with e7 | e7
  · simp only [e7, Bool.not_true, if_neg Bool.false_ne_true, Bool.true_or]
    rw [e7] at hrest
    exact hrest true rfl
  · simp only [e7, Bool.not_false, if_true, Bool.false_or]
    rw [e7] at hrest
    by_cases e8 : hv.length = 0
    · have e9 : decide (0 < (hv.length : Int)) = false := by rw [e8]; rfl
      simp only [e9, if_neg Bool.false_ne_true, e8, decide_true]
      rw [e8] at hrest
      exact hrest true rfl
    · have e9 : decide (0 < (hv.length : Int)) = true := by simp; omega
      simp only [e9, if_true, e8, decide_false, Bool.false_and, iC]
theorem AB {k : Keeper} (sm : ch k) : gw (tKp k, ()) = some ((eQ k, ()), ()) := by
  obtain ⟨id, up, lg, fo, hv⟩ := k
  obtain ⟨sl, hl, hs⟩ := sm
  simp only at sl hl hs
  have hloop : cJ ((id, up, lg, fo, hv, ()), 0, ()) = some (if aN hv.length (Bf hv) then .inr () else .inl (false, ())) :=
    az (fun i => ((id, up, lg, fo, hv, ()), (i : Int), ())) hv.length (Bf hv) (false, ()) () (fun i hi => by
      unfold fh Bf
      simp only [ak hi, ae hi, if_true, Cj, Fl (OQ hs i), Option.bind_some, ab hi (by omega : hv.length ≤ 9223372036854775807)]
      rcases tf (wJ (hA hv i)) with e | e
      · simp only [e, Bool.not_true, if_neg Bool.false_ne_true, Bool.true_and]
        have hin : fK ((id, up, lg, fo, hv, ()), (i : Int), 0, ()) = some (if aN i (fun j => !(decide ((hA hv j).fr = (hA hv i).fr) && decide ((hA hv j).nu = (hA hv i).nu))) then .inr ((id, up, lg, fo, hv, ()), (i : Int), ()) else .inl (false, ())) :=
          az (fun j => ((id, up, lg, fo, hv, ()), (i : Int), (j : Int), ())) i (fun j => !(decide ((hA hv j).fr = (hA hv i).fr) && decide ((hA hv j).nu = (hA hv i).nu))) (false, ()) _ (fun j hj => by
            unfold fg
            simp only [ak hj, ae hi, ae (Nat.lt_trans hj hi), if_true, Cj, pL, ab hj (by omega : i ≤ 9223372036854775807)]
            rcases tfp ((hA hv j).fr = (hA hv i).fr) with e | e <;> rcases tfp ((hA hv j).nu = (hA hv i).nu) with e2 | e2 <;> simp only [e, e2, decide_true, decide_false] <;> rfl) (by simp [fg])
        rw [hin]
        rcases tf (aN i (fun j => !(decide ((hA hv j).fr = (hA hv i).fr) && decide ((hA hv j).nu = (hA hv i).nu)))) with e4 | e4
        · simp only [e4, if_true, aI, ab hi (by omega : hv.length ≤ 9223372036854775807)]
        · simp only [e4, if_neg Bool.false_ne_true, bB]
      · simp only [e, Bool.not_false, if_true, Bool.false_and, if_neg Bool.false_ne_true]) (by simp [fh])
  unfold gw eQ
  simp only [bF, Option.bind_some, CG sl]
  rcases tf (isN id) with e | e <;> simp only [e, Bool.not_true, Bool.not_false, if_true, if_neg Bool.false_ne_true, Bool.true_and, Bool.false_and, iC]
  rcases tf (kM lg fo) with e2 | e2 <;> simp only [e2, Bool.not_true, Bool.not_false, if_true, if_neg Bool.false_ne_true, Bool.true_and, Bool.false_and, iC]
  have e3 : 0 ≤ fo ∧ fo ≤ (lg.size : Int) := by
    unfold kM at e2
    simp only [Bool.and_eq_true] at e2
    exact be.1 e2.2.1
  have e4 : (decide (0 ≤ fo) && decide (fo ≤ (lg.size : Int))) = true := by simp; omega
  rcases dc (hv.length : Int) 3 with ⟨e5, e6⟩ | ⟨e5, e6⟩ <;> simp only [e5, e6, decide_true, decide_false, if_true, if_neg Bool.false_ne_true, Bool.true_and, Bool.false_and, iC]
  have hrest : ∀ b : Bool, (b = true) → fH (X := Y3 × Unit) (fun j5 =>
      (if (decide (0 ≤ j5.1.2.2.2.1) && decide (j5.1.2.2.2.1 ≤ (j5.1.2.2.1.size : Int))) then
      (a7 ((j5.1.2.2.1.extract (0) (Int.toNat j5.1.2.2.2.1)), ())).bind fun r8 =>
      (dG (j5.1.1, r8.1.1, ())).bind fun r9 =>
      (cG j5).bind fun r10 =>
      (if ((!r10.1.2.1) || (!r9.1.2.1)) then
      some ((false, ()), ())
      else
      (aw (cJ (j5.1, 0, ()))
      (fun y27 => some (y27, ()))
      (fun y27 => some ((true, ()), ()))))
      else none)) (some (.inr ((id, up, lg, fo, hv, ()), ()))) = some ((b && (((bd id lg).isSome && (bd id (lg.extract 0 fo.toNat)).isSome) && aN hv.length (Bf hv)), ()), ()) := by
    rintro b rfl
    have hz : (lg.extract 0 fo.toNat).size ≤ 1048576 := by rw [dy (by omega)]; omega
    have hg := px (lg.extract 0 fo.toNat)
    simp only [ce, e4, if_true, ff hz, Option.bind_some, ul (id := id) (show (oo (lg.extract 0 fo.toNat)).1.length ≤ 1048576 by omega) (fun r hr => by have := hg.2.2 r hr; omega), vK sl, hloop, Bool.true_and]
    rw [show lz id (oo (lg.extract 0 fo.toNat)).1 = bd id (lg.extract 0 fo.toNat) from rfl]
    rcases tf (bd id lg).isSome with e | e <;> rcases tf (bd id (lg.extract 0 fo.toNat)).isSome with e2 | e2 <;> simp only [e, e2, Bool.not_true, Bool.not_false, Bool.or_self, Bool.true_or, Bool.or_true, if_true, if_neg Bool.false_ne_true, Bool.and_self, Bool.and_false, Bool.false_and, Bool.true_and]
    rcases tf (aN hv.length (Bf hv)) with e | e <;> simp only [e, if_true, if_neg Bool.false_ne_true] <;> rfl
  rcases tf up with e7 | e7
  · simp only [e7, Bool.not_true, if_neg Bool.false_ne_true, Bool.true_or]
    rw [e7] at hrest
    exact hrest true rfl
  · simp only [e7, Bool.not_false, if_true, Bool.false_or]
    rw [e7] at hrest
    by_cases e8 : hv.length = 0
    · have e9 : decide (0 < (hv.length : Int)) = false := by rw [e8]; rfl
      simp only [e9, if_neg Bool.false_ne_true, e8, decide_true]
      rw [e8] at hrest
      exact hrest true rfl
    · have e9 : decide (0 < (hv.length : Int)) = true := by simp; omega
      simp only [e9, if_true, e8, decide_false, Bool.false_and, iC]
end Go.VS
namespace Go.VS
open Go
abbrev YR := Int × List Keeper × List Bool × List Parcel × List Note × List Note × Unit
def kA (l : List Keeper) (i : Nat) : Keeper := l.getD i (dfl .keeper)
def pA (l : List Parcel) (i : Nat) : Parcel := l.getD i (dfl .parcel)
def bA (l : List Bool) (i : Nat) : Bool := l.getD i (dfl .bool)
theorem md (l : List Keeper) (i : Nat) : @rd Keeper (dfl .keeper) l (i : Int) = kA l i := rfl
theorem GH (l : List Parcel) (i : Nat) : @rd Parcel (dfl .parcel) l (i : Int) = pA l i := rfl
theorem Kw (l : List Bool) (i : Nat) : @rd Bool (dfl .bool) l (i : Int) = bA l i := rfl
def z7 (l : List Note) : Bool := aN l.length fun i => aD (nA l i)
def Ft (p : Parcel) : Bool := isN p.src && (isN p.dst && ((decide (p.src - p.dst = 1) || decide (p.dst - p.src = 1)) && decide ((p.data.size : Int) ≤ 40)))
noncomputable def FO (l : List Keeper) (i : Nat) : Bool := decide ((kA l i).id = (i : Int)) && eQ (kA l i)
noncomputable def lX (ti : Int) (ks : List Keeper) (ls : List Bool) (ra : List Parcel) (se go : List Note) : Bool :=
  inB ti 0 99999 && (decide ((ks.length : Int) = 4) && (decide ((ls.length : Int) = 3) && (decide ((ra.length : Int) ≤ 30) && ((z7 se && decide ((se.length : Int) ≤ 6)) && ((z7 go && decide ((go.length : Int) ≤ 6)) &&
    (aN ks.length (FO ks) && aN ra.length (fun i => Ft (pA ra i))))))))
theorem GF {l : List Keeper} (h : ∀ x ∈ l, ch x) (i : Nat) : ch (kA l i) := by
  unfold kA
  rcases Nat.lt_or_ge i l.length with hi | hi
  · rw [bf (List.getElem?_eq_getElem hi)]
    exact h _ (List.getElem_mem hi)
  · rw [List.getD_eq_getElem?_getD, List.getElem?_eq_none hi]
    exact ⟨by decide, by decide, fun m hm => by cases hm⟩
theorem x6 {l : List Note} (hl : l.length ≤ 1048576) (h : ∀ x ∈ l, cH x) : jL (l, ()) = some ((z7 l && decide ((l.length : Int) ≤ 6), ()), ()) := by
  have hloop : kv (l, l, (l.length : Int), 0, ()) = some (if z7 l then .inr (l, ()) else .inl (false, ())) :=
    az (fun i => (l, l, (l.length : Int), (i : Int), ())) l.length (fun i => aD (nA l i)) (false, ()) (l, ()) (fun i hi => by
      unfold kV
      simp only [ak hi, ae hi, if_true, aV, fX (Iz h i), Option.bind_some, ab hi (by omega : l.length ≤ 9223372036854775807)]
      rcases tf (aD (nA l i)) with e | e <;> simp only [e] <;> rfl) (by simp [kV])
  unfold jL
  simp only [hloop]
  rcases tf (z7 l) with e | e <;> simp only [e] <;> rfl
theorem tI {n : Int} (h : isN n = true) : 0 ≤ n ∧ n ≤ 3 := be.1 h
theorem wY {a b : Int} (ha : isN a = true) (hb : isN b = true) : w64 (a - b) = a - b := by
  have := tI ha
  have := tI hb
  exact aP (by omega) (by omega)
theorem Bb {w : YR} {ks : List Keeper} (kl : ks.length ≤ 1048576) (k : ∀ x ∈ ks, ch x) :
    iy (w, ks, (ks.length : Int), 0, ()) = some (if aN ks.length (FO ks) then .inr (w, ()) else .inl (false, ())) :=
  az (fun i => (w, ks, (ks.length : Int), (i : Int), ())) ks.length (FO ks) (false, ()) (w, ()) (fun i hi => by
    have hk := qm (GF k i)
    unfold gS FO
    simp only [ak hi, ae hi, if_true, md, hk, Option.isSome_some, Option.getD_some, pL, ab hi (by omega : ks.length ≤ 9223372036854775807)]
    rcases tfp ((kA ks i).id = (i : Int)) with e | e <;> rcases tf (eQ (kA ks i)) with e2 | e2 <;> simp only [e, e2, decide_true, decide_false] <;> rfl) (by simp [gS])
theorem ql {ra : List Parcel} (rl : ra.length ≤ 1048576) :
    iw (ra, (ra.length : Int), 0, ()) = some (if aN ra.length (fun i => Ft (pA ra i)) then .inr () else .inl (false, ())) :=
  az (fun i => (ra, (ra.length : Int), (i : Int), ())) ra.length (fun i => Ft (pA ra i)) (false, ()) () (fun i hi => by
    unfold gR Ft
    simp only [ak hi, ae hi, if_true, GH, bH, Option.bind_some, ab hi (by omega : ra.length ≤ 9223372036854775807)]
    rcases tf (isN (pA ra i).src) with e | e <;> rcases tf (isN (pA ra i).dst) with e2 | e2 <;> simp only [e, e2, Bool.not_true, Bool.not_false, if_true, if_neg Bool.false_ne_true, Bool.true_and, Bool.false_and]
    simp only [wY e e2, wY e2 e]
    rcases tfp ((pA ra i).src - (pA ra i).dst = 1) with e3 | e3 <;> rcases tfp ((pA ra i).dst - (pA ra i).src = 1) with e4 | e4 <;> rcases dc ((pA ra i).data.size : Int) 40 with ⟨e5, e6⟩ | ⟨e5, e6⟩ <;> simp only [e3, e4, e5, e6, decide_true, decide_false] <;> rfl) (by simp [gR])
theorem D0 {ti : Int} {ks : List Keeper} {ls : List Bool} {ra : List Parcel} {se go : List Note} (sm : SmRiver ks ls ra se go) :
    jO ((ti, ks, ls, ra, se, go, ()), ()) = some ((lX ti ks ls ra se go, ()), ()) := by
  unfold jO lX
  simp only [cf, x6 sm.sl sm.s, x6 sm.gl sm.g, Bb sm.kl sm.k, ql sm.rl, Option.bind_some]
  rcases tf (inB ti 0 99999) with e | e <;> simp only [e, Bool.not_true, Bool.not_false, if_true, if_neg Bool.false_ne_true, Bool.true_and, Bool.false_and]
  rcases tfp ((ks.length : Int) = 4) with e | e <;> simp only [e, decide_true, decide_false, Bool.not_true, Bool.not_false, if_true, if_neg Bool.false_ne_true, Bool.true_and, Bool.false_and]
  rcases tfp ((ls.length : Int) = 3) with e | e <;> simp only [e, decide_true, decide_false, Bool.not_true, Bool.not_false, if_true, if_neg Bool.false_ne_true, Bool.true_and, Bool.false_and]
  rcases dc (ra.length : Int) 30 with ⟨e1, e2⟩ | ⟨e1, e2⟩ <;> simp only [e1, e2, decide_true, decide_false, if_true, if_neg Bool.false_ne_true, Bool.true_and, Bool.false_and]
  rcases tf (z7 se && decide ((se.length : Int) ≤ 6)) with e | e <;> simp only [e, Bool.not_true, Bool.not_false, if_true, if_neg Bool.false_ne_true, Bool.true_and, Bool.false_and]
  rcases tf (z7 go && decide ((go.length : Int) ≤ 6)) with e | e <;> simp only [e, Bool.not_true, Bool.not_false, if_true, if_neg Bool.false_ne_true, Bool.true_and, Bool.false_and]
  rcases tf (aN ks.length (FO ks)) with e | e <;> simp only [e, if_true, if_neg Bool.false_ne_true, Bool.true_and, Bool.false_and, bB, aI]
  rw [ql sm.rl]
  rcases tf (aN ra.length (fun i => Ft (pA ra i))) with e | e <;> simp only [e, if_true, if_neg Bool.false_ne_true, bB, aI]
theorem Az {ti : Int} {ks : List Keeper} {ls : List Bool} {ra : List Parcel} {se go : List Note} (sm : SmRiver ks ls ra se go) :
    hD ((ti, ks, ls, ra, se, go, ()), 0, ()) = some (if aN ks.length (FO ks) then .inr ((ti, ks, ls, ra, se, go, ()), ()) else .inl (false, ())) :=
  az (fun i => ((ti, ks, ls, ra, se, go, ()), (i : Int), ())) ks.length (FO ks) (false, ()) _ (fun i hi => by
    have hk := AB (GF sm.k i)
    unfold gu FO
    have kl := sm.kl
    simp only [ak hi, ae hi, if_true, md, hk, Option.bind_some, pL, ab hi (by omega : ks.length ≤ 9223372036854775807)]
    rcases tfp ((kA ks i).id = (i : Int)) with e | e <;> rcases tf (eQ (kA ks i)) with e2 | e2 <;> simp only [e, e2, decide_true, decide_false] <;> rfl) (by simp [gu])
theorem Ay {ti : Int} {ks : List Keeper} {ls : List Bool} {ra : List Parcel} {se go : List Note} (sm : SmRiver ks ls ra se go) :
    g9 ((ti, ks, ls, ra, se, go, ()), 0, ()) = some (if aN ra.length (fun i => Ft (pA ra i)) then .inr ((ti, ks, ls, ra, se, go, ()), ()) else .inl (false, ())) :=
  az (fun i => ((ti, ks, ls, ra, se, go, ()), (i : Int), ())) ra.length (fun i => Ft (pA ra i)) (false, ()) _ (fun i hi => by
    have rl := sm.rl
    unfold gr Ft
    simp only [ak hi, ae hi, if_true, GH, bF, Option.bind_some, ab hi (by omega : ra.length ≤ 9223372036854775807)]
    rcases tf (isN (pA ra i).src) with e | e <;> rcases tf (isN (pA ra i).dst) with e2 | e2 <;> simp only [e, e2, Bool.not_true, Bool.not_false, if_true, if_neg Bool.false_ne_true, Bool.true_and, Bool.false_and]
    simp only [wY e e2, wY e2 e]
    rcases tfp ((pA ra i).src - (pA ra i).dst = 1) with e3 | e3 <;> rcases tfp ((pA ra i).dst - (pA ra i).src = 1) with e4 | e4 <;> rcases dc ((pA ra i).data.size : Int) 40 with ⟨e5, e6⟩ | ⟨e5, e6⟩ <;> simp only [e3, e4, e5, e6, decide_true, decide_false] <;> rfl) (by simp [gr])
theorem Ax {ti : Int} {ks : List Keeper} {ls : List Bool} {ra : List Parcel} {se go : List Note} (sm : SmRiver ks ls ra se go) :
    g8 ((ti, ks, ls, ra, se, go, ()), 0, ()) = some (if z7 se then .inr ((ti, ks, ls, ra, se, go, ()), ()) else .inl (false, ())) :=
  az (fun i => ((ti, ks, ls, ra, se, go, ()), (i : Int), ())) se.length (fun i => aD (nA se i)) (false, ()) _ (fun i hi => by
    have rl := sm.sl
    unfold gq
    simp only [ak hi, ae hi, if_true, aV, fQ (Iz sm.s i), Option.bind_some, ab hi (by omega : se.length ≤ 9223372036854775807)]
    rcases tf (aD (nA se i)) with e | e <;> simp only [e] <;> rfl) (by simp [gq])
theorem Aw {ti : Int} {ks : List Keeper} {ls : List Bool} {ra : List Parcel} {se go : List Note} (sm : SmRiver ks ls ra se go) :
    g7 ((ti, ks, ls, ra, se, go, ()), 0, ()) = some (if z7 go then .inr () else .inl (false, ())) :=
  az (fun i => ((ti, ks, ls, ra, se, go, ()), (i : Int), ())) go.length (fun i => aD (nA go i)) (false, ()) _ (fun i hi => by
    have rl := sm.gl
    unfold gp
    simp only [ak hi, ae hi, if_true, aV, fQ (Iz sm.g i), Option.bind_some, ab hi (by omega : go.length ≤ 9223372036854775807)]
    rcases tf (aD (nA go i)) with e | e <;> simp only [e] <;> rfl) (by simp [gp])
theorem CH {ti : Int} {ks : List Keeper} {ls : List Bool} {ra : List Parcel} {se go : List Note} (sm : SmRiver ks ls ra se go) :
    iQ ((ti, ks, ls, ra, se, go, ()), ()) = some ((lX ti ks ls ra se go, ()), ()) := by
  unfold iQ lX
  simp only [ko, Option.bind_some]
  rcases tf (inB ti 0 99999) with e | e <;> simp only [e, Bool.not_true, Bool.not_false, if_true, if_neg Bool.false_ne_true, Bool.true_and, Bool.false_and]
  rcases tfp ((ks.length : Int) = 4) with e | e <;> simp only [e, decide_true, decide_false, Bool.not_true, Bool.not_false, if_true, if_neg Bool.false_ne_true, Bool.true_and, Bool.false_and]
  rcases tfp ((ls.length : Int) = 3) with e | e <;> simp only [e, decide_true, decide_false, Bool.not_true, Bool.not_false, if_true, if_neg Bool.false_ne_true, Bool.true_and, Bool.false_and]
  rcases dc (ra.length : Int) 30 with ⟨e1, e2⟩ | ⟨e1, e2⟩ <;> simp only [e1, e2, decide_true, decide_false, if_true, if_neg Bool.false_ne_true, Bool.true_and, Bool.false_and]
  rcases dc (se.length : Int) 6 with ⟨e1, e2⟩ | ⟨e1, e2⟩ <;> simp only [e1, e2, decide_true, decide_false, if_true, if_neg Bool.false_ne_true, Bool.and_true, Bool.and_false, Bool.false_and]
  rcases dc (go.length : Int) 6 with ⟨e1, e2⟩ | ⟨e1, e2⟩ <;> simp only [e1, e2, decide_true, decide_false, if_true, if_neg Bool.false_ne_true, Bool.and_true, Bool.and_false, Bool.false_and]
  rw [Az sm]
  rcases tf (aN ks.length (FO ks)) with e | e <;> simp only [e, if_true, if_neg Bool.false_ne_true, Bool.true_and, Bool.false_and, Bool.and_false, bB, aI]
  rw [Ay sm]
  rcases tf (aN ra.length (fun i => Ft (pA ra i))) with e | e <;> simp only [e, if_true, if_neg Bool.false_ne_true, bB, aI, Bool.and_false, Bool.and_true]
  rw [Ax sm]
  rcases tf (z7 se) with e | e <;> simp only [e, if_true, if_neg Bool.false_ne_true, bB, aI, Bool.and_false, Bool.and_true, Bool.true_and, Bool.false_and]
  rw [Aw sm]
  rcases tf (z7 go) with e | e <;> simp only [e, if_true, if_neg Bool.false_ne_true, bB, aI, Bool.and_false, Bool.and_true]
def uF (a t : Int) : Int := if !isN a || (!isN t || decide (a = t)) then -1 else if a < t then a + 1 else a - 1
theorem wZ {a : Int} (h : isN a = true) : w64 (a + 1) = a + 1 ∧ w64 (a - 1) = a - 1 := by
  have := tI h
  exact ⟨aP (by omega) (by omega), aP (by omega) (by omega)⟩
theorem Be {a t : Int} : gT (a, t, ()) = some ((uF a t, ()), ()) := by
  unfold gT uF
  simp only [bH, Option.bind_some]
  rcases tf (isN a) with e | e
  · rcases tf (isN t) with e2 | e2
    · rcases tfp (a = t) with e3 | e3
      · simp only [e, e2, e3, decide_true]; rfl
      · rcases tfp (a < t) with e4 | e4 <;> simp only [e, e2, e3, e4, decide_false, decide_true, Bool.not_true, if_neg Bool.false_ne_true, ce, if_true, if_false, Bool.or_self, (wZ e).1, (wZ e).2]
    · simp only [e, e2]; rfl
  · simp only [e]; rfl
theorem AA {a t : Int} : gv (a, t, ()) = some ((uF a t, ()), ()) := by
  unfold gv uF
  simp only [bF, Option.bind_some]
  rcases tf (isN a) with e | e
  · rcases tf (isN t) with e2 | e2
    · rcases tfp (a = t) with e3 | e3
      · simp only [e, e2, e3, decide_true]; rfl
      · rcases tfp (a < t) with e4 | e4 <;> simp only [e, e2, e3, e4, decide_false, decide_true, Bool.not_true, if_neg Bool.false_ne_true, ce, if_true, if_false, Bool.or_self, (wZ e).1, (wZ e).2]
    · simp only [e, e2]; rfl
  · simp only [e]; rfl
theorem LG {a t : Int} (ha : isN a = true) (ht : isN t = true) (hne : a ≠ t) : isN (uF a t) = true := by
  have := tI ha
  have := tI ht
  have e3 : decide (a = t) = false := by simpa using hne
  unfold uF
  simp only [ha, ht, e3, Bool.not_true, Bool.or_self, if_neg Bool.false_ne_true]
  rw [be]
  split <;> omega
end Go.VS
namespace Go.VS
open Go
noncomputable def stT (k : Keeper) : Keep := (bd k.id k.log).getD zK
structure KpFit (k : Keeper) : Prop where
  id : isN k.id = true
  sh : kM k.log k.fo = true
  hl : k.halves.length ≤ 3
  up : k.up = true ∨ k.halves.length = 0
  st : bd k.id k.log = some (stT k)
  ok : aR (stT k) = true
  sid : (stT k).id = k.id
  fo : (bd k.id (k.log.extract 0 k.fo.toNat)).isSome = true
  hv : ∀ i, i < k.halves.length → Bf k.halves i = true
theorem y5 {k : Keeper} (h : eQ k = true) : KpFit k := by
  unfold eQ at h
  simp only [Bool.and_eq_true, Bool.or_eq_true, decide_eq_true_eq, lp] at h
  obtain ⟨a, b, c, d, ⟨e, f⟩, g⟩ := h
  have hs : bd k.id k.log = some (stT k) := by
    unfold stT
    cases hh : bd k.id k.log with
    | none => rw [hh] at e; cases e
    | some o => rfl
  exact ⟨a, b, by omega, d, hs, LQ hs, LR hs, f, g⟩
structure RvFit (ti : Int) (ks : List Keeper) (ls : List Bool) (ra : List Parcel) (se go : List Note) : Prop where
  t0 : 0 ≤ ti
  t1 : ti ≤ 99999
  kl : ks.length = 4
  ll : ls.length = 3
  rl : ra.length ≤ 30
  s : z7 se = true
  sl : se.length ≤ 6
  g : z7 go = true
  gl : go.length ≤ 6
  k : ∀ i, i < 4 → (kA ks i).id = (i : Int) ∧ eQ (kA ks i) = true
  r : ∀ i, i < ra.length → Ft (pA ra i) = true
theorem IE {ti : Int} {ks : List Keeper} {ls : List Bool} {ra : List Parcel} {se go : List Note} (h : lX ti ks ls ra se go = true) : RvFit ti ks ls ra se go := by
  unfold lX at h
  simp only [Bool.and_eq_true, decide_eq_true_eq, lp] at h
  obtain ⟨a, b, c, d, ⟨e, f⟩, ⟨g, i⟩, j, l⟩ := h
  have a := be.1 a
  refine ⟨a.1, a.2, by omega, by omega, by omega, e, by omega, g, by omega, fun m hm => ?_, l⟩
  have := j m (by omega)
  unfold FO at this
  simp only [Bool.and_eq_true, decide_eq_true_eq] at this
  exact this
theorem oL {k : Keeper} (sm : ch k) (h : eQ k = true) : c5 (tKp k, ()) = some ((tK (stT k), ()), ()) := by
  unfold c5
  rw [qm sm]
  simp only [Option.bind_some, h, Bool.not_true, if_neg Bool.false_ne_true]
  rw [mR sm.1]
  rfl
theorem LY {k : Keep} {n : Note} (h : aR k = true) (hn : n ∈ k.held) : isN (uF k.id n.to) = true := by
  have hf := l5 h
  obtain ⟨i, hi, rfl⟩ := List.getElem_of_mem hn
  have h1 := pz hf.h hi
  rw [nq (List.getElem?_eq_getElem hi)] at h1
  have h2 := fp h1
  have h3 := hf.ho i hi
  unfold lA Ae at h3
  rw [nq (List.getElem?_eq_getElem hi)] at h3
  simp only [Bool.and_eq_true, Bool.not_eq_true', decide_eq_false_iff_not] at h3
  exact LG (be.2 ⟨hf.id0, hf.id1⟩) (be.2 ⟨h2.t0, h2.t1⟩) h3.2.2.1.1
noncomputable def po (ks : List Keeper) (id : Int) (l : List Note) (j : Nat) : Bool := decide ((nA l j).un ≤ (stT (kA ks (uF id (nA l j).to).toNat)).ti)
noncomputable def pn (ks : List Keeper) (i : Nat) : Bool := (kA ks i).up && aN (stT (kA ks i)).held.length (po ks (kA ks i).id (stT (kA ks i)).held)
noncomputable def pv (ti : Int) (ks : List Keeper) (ls : List Bool) (ra : List Parcel) (se go : List Note) : Bool :=
  lX ti ks ls ra se go && (decide (ra.length = 0) && (aN ls.length (bA ls) && aN ks.length (pn ks)))
section
variable {ti : Int} {ks : List Keeper} {ls : List Bool} {ra : List Parcel} {se go : List Note}
theorem Ph {l : List Note} {j : Nat} (h : j < l.length) : nA l j ∈ l := by
  rw [nq (List.getElem?_eq_getElem h)]
  exact List.getElem_mem h
theorem GO (hf : RvFit ti ks ls ra se go) {i : Nat} (hi : i < 4) {j : Nat} (hj : j < (stT (kA ks i)).held.length) :
    ∃ m : Nat, m < 4 ∧ uF (kA ks i).id (nA (stT (kA ks i)).held j).to = (m : Int) := by
  have h1 := y5 (hf.k i hi).2
  have h2 := LY h1.ok (Ph hj)
  rw [h1.sid] at h2
  have := tI h2
  exact ⟨(uF (kA ks i).id (nA (stT (kA ks i)).held j).to).toNat, by omega, by omega⟩
theorem FX (sm : SmRiver ks ls ra se go) (hf : RvFit ti ks ls ra se go) {w : YR} (hw : w = (ti, ks, ls, ra, se, go, ())) {i : Nat} (hi : i < 4) {len : Int} {ii : Int} :
    dS (w, tKp (kA ks i), ks, len, ii, (stT (kA ks i)).held, ((stT (kA ks i)).held.length : Int), 0, ()) =
      some (if aN (stT (kA ks i)).held.length (po ks (kA ks i).id (stT (kA ks i)).held) then .inr (w, ks, len, ii, ()) else .inl (false, ())) := by
  subst hw
  exact az (fun j => ((ti, ks, ls, ra, se, go, ()), tKp (kA ks i), ks, len, ii, (stT (kA ks i)).held, ((stT (kA ks i)).held.length : Int), (j : Int), ())) (stT (kA ks i)).held.length (po ks (kA ks i).id (stT (kA ks i)).held) (false, ()) _ (fun j hj => by
    obtain ⟨m, hm, e⟩ := GO hf hi hj
    have hl := (l5 (y5 (hf.k i hi).2).ok).hl
    unfold dn po
    simp only [ak hj, ae hj, if_true, aV, Be, Option.bind_some, e, ae (show m < ks.length by rw [hf.kl]; exact hm), md, Int.toNat_natCast]
    rw [oL (GF sm.k m) (hf.k m hm).2]
    simp only [Option.bind_some, ab hj (by omega : (stT (kA ks i)).held.length ≤ 9223372036854775807)]
    rcases dc (nA (stT (kA ks i)).held j).un (stT (kA ks m)).ti with ⟨e5, e6⟩ | ⟨e5, e6⟩ <;> simp only [e5, e6, decide_true, decide_false] <;> rfl) (by simp [dn])
theorem FY (sm : SmRiver ks ls ra se go) (hf : RvFit ti ks ls ra se go) :
    dT ((ti, ks, ls, ra, se, go, ()), ks, (ks.length : Int), 0, ()) = some (if aN ks.length (pn ks) then .inr () else .inl (false, ())) :=
  az (fun i => ((ti, ks, ls, ra, se, go, ()), ks, (ks.length : Int), (i : Int), ())) ks.length (pn ks) (false, ()) () (fun i hi => by
    have hi4 : i < 4 := by rw [← hf.kl]; exact hi
    have h2 := FX (i := i) (len := (ks.length : Int)) (ii := (i : Int)) sm hf rfl hi4
    have h3 := oL (GF sm.k i) (hf.k i hi4).2
    unfold dp pn
    simp only [ak hi, ae hi, if_true, md, h3, Option.bind_some]
    rcases tf (kA ks i).up with e | e
    · simp only [tKp, e] at h2
      simp only [e, Bool.not_true, if_neg Bool.false_ne_true, Bool.true_and, h2]
      rcases tf (aN (stT (kA ks i)).held.length (po ks (kA ks i).id (stT (kA ks i)).held)) with e2 | e2
      · simp only [e2, if_true, aI, ab hi (by rw [hf.kl]; decide : ks.length ≤ 9223372036854775807)]
      · simp only [e2, if_neg Bool.false_ne_true, bB]
    · simp only [e, Bool.not_false, if_true, Bool.false_and, if_neg Bool.false_ne_true]) (by simp [dp])
theorem FZ {w : YR} (hl : ls.length ≤ 1048576) :
    dU (w, ls, (ls.length : Int), 0, ()) = some (if aN ls.length (bA ls) then .inr (w, ()) else .inl (false, ())) :=
  az (fun i => (w, ls, (ls.length : Int), (i : Int), ())) ls.length (bA ls) (false, ()) _ (fun i hi => by
    unfold dq
    simp only [ak hi, ae hi, if_true, Kw, ab hi (by omega : ls.length ≤ 9223372036854775807)]
    rcases tf (bA ls i) with e | e <;> simp only [e] <;> rfl) (by simp [dq])
theorem x8 (sm : SmRiver ks ls ra se go) : el ((ti, ks, ls, ra, se, go, ()), ()) = some ((pv ti ks ls ra se go, ()), ()) := by
  unfold el pv
  rw [D0 sm]
  simp only [Option.bind_some]
  rcases tf (lX ti ks ls ra se go) with e | e
  · have hf := IE e
    simp only [e, Bool.not_true, Bool.false_or, Bool.true_and]
    by_cases e2 : ra.length = 0
    · have e3 : decide (0 < (ra.length : Int)) = false := by rw [e2]; rfl
      have e2' : decide (ra.length = 0) = true := by rw [e2]; rfl
      simp only [e3, e2', if_neg Bool.false_ne_true, Bool.true_and, FZ sm.l]
      rcases tf (aN ls.length (bA ls)) with e4 | e4 <;> simp only [e4, if_true, if_neg Bool.false_ne_true, aI, bB, Bool.true_and, Bool.false_and]
      rw [FY sm hf]
      rcases tf (aN ks.length (pn ks)) with e5 | e5 <;> simp only [e5, if_true, if_neg Bool.false_ne_true, aI, bB]
    · have e3 : decide (0 < (ra.length : Int)) = true := by simp; omega
      simp only [e3, e2, decide_false, if_true, Bool.false_and]
  · simp only [e, Bool.not_false, Bool.true_or, if_true, Bool.false_and]
theorem Fn (sm : SmRiver ks ls ra se go) (hf : RvFit ti ks ls ra se go) {i : Nat} (hi : i < 4) :
    dQ ((ti, ks, ls, ra, se, go, ()), (i : Int), tK (stT (kA ks i)), 0, ()) =
      some (if aN (stT (kA ks i)).held.length (po ks (kA ks i).id (stT (kA ks i)).held) then .inr ((ti, ks, ls, ra, se, go, ()), (i : Int), ()) else .inl (false, ())) :=
  az (fun j => ((ti, ks, ls, ra, se, go, ()), (i : Int), tK (stT (kA ks i)), (j : Int), ())) (stT (kA ks i)).held.length (po ks (kA ks i).id (stT (kA ks i)).held) (false, ()) _ (fun j hj => by
    obtain ⟨m, hm, e⟩ := GO hf hi hj
    rw [(hf.k i hi).1] at e
    have hl := (l5 (y5 (hf.k i hi).2).ok).hl
    unfold dj mm po
    rw [(hf.k i hi).1]
    simp only [ak hj, ae hj, if_true, aV, AA, Option.bind_some, e, ae (show m < ks.length by rw [hf.kl]; exact hm), md, Int.toNat_natCast, vK (GF sm.k m).1, ab hj (by omega : (stT (kA ks i)).held.length ≤ 9223372036854775807)]
    rw [show (bd (kA ks m).id (kA ks m).log).getD zK = stT (kA ks m) from rfl]
    rcases tfp ((nA (stT (kA ks i)).held j).un ≤ (stT (kA ks m)).ti) with e5 | e5 <;> simp only [e5, decide_true, decide_false] <;> rfl) (by simp [dj])
theorem Fo (sm : SmRiver ks ls ra se go) (hf : RvFit ti ks ls ra se go) :
    dR ((ti, ks, ls, ra, se, go, ()), 0, ()) = some (if aN ks.length (pn ks) then .inr ((ti, ks, ls, ra, se, go, ()), ()) else .inl (false, ())) :=
  az (fun i => ((ti, ks, ls, ra, se, go, ()), (i : Int), ())) ks.length (pn ks) (false, ()) _ (fun i hi => by
    have hi4 : i < 4 := by rw [← hf.kl]; exact hi
    have h2 := Fn (i := i) sm hf hi4
    unfold dk pn
    simp only [ak hi, ae hi, if_true, md, vK (GF sm.k i).1, Option.bind_some]
    rw [show (bd (kA ks i).id (kA ks i).log).getD zK = stT (kA ks i) from rfl]
    rcases tf (kA ks i).up with e | e
    · simp only [e, Bool.not_true, if_neg Bool.false_ne_true, Bool.true_and, h2]
      rcases tf (aN (stT (kA ks i)).held.length (po ks (kA ks i).id (stT (kA ks i)).held)) with e2 | e2
      · simp only [e2, if_true, aI, ab hi (by rw [hf.kl]; decide : ks.length ≤ 9223372036854775807)]
      · simp only [e2, if_neg Bool.false_ne_true, bB]
    · simp only [e, Bool.not_false, if_true, Bool.false_and, if_neg Bool.false_ne_true]) (by simp [dk])
theorem Fm (hl : ls.length ≤ 1048576) :
    dP ((ti, ks, ls, ra, se, go, ()), 0, ()) = some (if aN ls.length (bA ls) then .inr () else .inl (false, ())) :=
  az (fun i => ((ti, ks, ls, ra, se, go, ()), (i : Int), ())) ls.length (bA ls) (false, ()) _ (fun i hi => by
    unfold di
    simp only [ak hi, ae hi, if_true, Kw, ab hi (by omega : ls.length ≤ 9223372036854775807)]
    rcases tf (bA ls i) with e | e <;> simp only [e] <;> rfl) (by simp [di])
theorem xg (sm : SmRiver ks ls ra se go) : dZ ((ti, ks, ls, ra, se, go, ()), ()) = some ((pv ti ks ls ra se go, ()), ()) := by
  unfold dZ pv
  rw [CH sm]
  simp only [Option.bind_some]
  rcases tf (lX ti ks ls ra se go) with e | e
  · have hf := IE e
    simp only [e, Bool.not_true, Bool.false_or, Bool.true_and]
    by_cases e2 : ra.length = 0
    · have e3 : decide (0 < (ra.length : Int)) = false := by rw [e2]; rfl
      have e2' : decide (ra.length = 0) = true := by rw [e2]; rfl
      simp only [e3, e2', if_neg Bool.false_ne_true, Bool.true_and, Fo sm hf]
      rcases tf (aN ks.length (pn ks)) with e5 | e5 <;> simp only [e5, if_true, if_neg Bool.false_ne_true, aI, bB, Bool.and_true, Bool.and_false]
      rw [Fm sm.l]
      rcases tf (aN ls.length (bA ls)) with e4 | e4 <;> simp only [e4, if_true, if_neg Bool.false_ne_true, aI, bB]
    · have e3 : decide (0 < (ra.length : Int)) = true := by simp; omega
      simp only [e3, e2, decide_false, if_true, Bool.false_and]
  · simp only [e, Bool.not_false, Bool.true_or, if_true, Bool.false_and]
end
theorem Iu (x : LTs [.int .i64, .fz .keeper, .fz .bool, .fz .parcel, .fz .note, .fz .note]) (hw : Gy _ x) : aX (x, ()) = some ((true, ()), ()) := by
  obtain ⟨ti, ks, ls, ra, se, go, ⟨⟩⟩ := x
  obtain ⟨_, hk, hl, hr, hs, hg, _⟩ := hw
  obtain ⟨r, e, h1, h2, h3⟩ := Le (ti := ti) (left := 1048576) hk hl.1 hr hs hg (by omega) (by omega)
  unfold aX
  rw [show jf ((ti, ks, ls, ra, se, go, ()), 1048576, ()) = some ((r, ()), ()) from e]
  simp only [Option.bind_some]
  by_cases hneg : r < 0
  · simp only [hneg, decide_true, if_true]
  · have sm := h3 (by omega)
    simp only [hneg, decide_false, if_neg Bool.false_ne_true, K7 sm, Option.bind_some, xg sm, x8 sm, decide_true, Bool.not_true, L7 sm]
end Go.VS
