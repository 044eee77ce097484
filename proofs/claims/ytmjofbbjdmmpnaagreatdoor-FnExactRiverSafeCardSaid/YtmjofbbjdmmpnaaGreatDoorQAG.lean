/- An evaluator of the program's own code with its soundness, the printed texts of the functions, and plain laws of them (part 7). -/
import Derived.Laws.MakeOwn
import Derived.Great.BuildSlice
import Derived.Lib.ConvBytes
import Derived.Test.YtmjofbbjdmmpnaaGreatDoorQAF
set_option linter.unusedVariables false
set_option linter.unusedSimpArgs false
namespace Go.VS
open Go
theorem Nq (f : AV → AV) (hf : ∀ c, f c = c) (o : Option Ob) : cY f o = o := by
  cases o with
  | none => rfl
  | some ob => cases ob with
    | box e cs => simp [cY, show f = fun c => c from funext hf]
    | _ => rfl
section
variable {P : Program} {B : Base} {β : Beta} {H : Hp} {w w' : World} {b : Nat} {tm : Nat → Value} {ρ : Operand → AV} {η : Operand → Value}
theorem Hs.grow (h : Hs B β H w) {id : Nat} (hid : H id = none) (ob : Ob) (hd : Value) (n : Nat)
    (hos : w'.os = w.os) (htape : w'.tape = w.tape) (hout : w'.output = w.output) (hsize : w.heap.size ≤ w'.heap.size) (hold : ∀ j, j < w.heap.size → w'.heap[j]? = w.heap[j]?)
    (ha : ∀ a, adr hd = some a → w.heap.size ≤ a.block ∧ a.block < w'.heap.size)
    (hob : ∀ β', β' id = some (hd, n) → Kp w β w' β' → ObOK B.P w' β' id ob) :
    ∃ β', Hs B β' (upd H id (some ob)) w' ∧ Kp w β w' β' ∧ β' id = some (hd, n) := by
  have hnone : β id = none := by
    cases hb : β id with
    | none => rfl
    | some p => obtain ⟨ob', ho⟩ := h.dom id p hb; rw [hid] at ho; cases ho
  have hM : ∀ b, MB (β.up id (some (hd, n))) b → MB β b ∨ w.heap.size ≤ b := by
    rintro b ⟨j, hd', n', a', hj, ha', hb⟩
    by_cases e : j = id
    · subst e
      rw [Beta.up_same] at hj
      cases hj
      exact .inr (hb ▸ (ha a' ha').1)
    · rw [Beta.up_ne _ _ e] at hj
      exact .inl ⟨j, hd', n', a', hj, ha', hb⟩
  have hk : Kp w β w' (β.up id (some (hd, n))) := fun c v x => RC.mono
    (fun j p hj => by
      by_cases e : j = id
      · subst e; rw [hnone] at hj; cases hj
      · rw [Beta.up_ne _ _ e]; exact hj)
    (fun b o v _ hc => by
      rw [World.cell?_of_block (w := w) (w' := w') (hold b (World.block_lt_of_cell? w _ hc))]; exact hc)
    (fun b hb hlt hm => by
      rcases hm with hm | hm
      · rcases hM b hm with h1 | h1
        · exact hb (.inl h1)
        · omega
      · exact hb (.inr hm)) x
  have h1 := h.turn (w' := w') (β' := β.up id (some (hd, n))) (f := fun c => c) (fun _ _ => rfl) hk (id := id) (ob := some ob) (fun j e => al _ _ e)
    (.inr ⟨ob, hd, n, rfl, ai _ _ _, hob _ (ai _ _ _) hk, fun a h => .inr (ha a h)⟩)
    (fun j p a e hj h2 => hold _ (h.old _ ⟨j, p.1, p.2, a, hj, h2, rfl⟩).2) hos htape hout hsize (fun b hb _ => hold b (Nat.lt_of_lt_of_le hb h.size)) rfl (Pk.old hold)
  refine ⟨_, ?_, hk, ai _ _ _⟩
  rwa [show (fun j => cY (fun c => c) (H j)) = H from funext fun j => Nq _ (fun _ => rfl) _] at h1
theorem OL (h : Hs B β H w) (hb : H b = none) {ob : Ob} {hd : Value} {n : Nat} {v : AV}
    (hos : w'.os = w.os) (htape : w'.tape = w.tape) (hout : w'.output = w.output) (hsize : w.heap.size ≤ w'.heap.size) (hold : ∀ j, j < w.heap.size → w'.heap[j]? = w.heap[j]?)
    (ha : ∀ a, adr hd = some a → w.heap.size ≤ a.block ∧ a.block < w'.heap.size)
    (hob : ∀ β', β' b = some (hd, n) → Kp w β w' β' → ObOK B.P w' β' b ob) {u : Value}
    (hv : ∀ β', β' b = some (hd, n) → R2 w' β' v u) {r : Result Next} (hr : r = .ok (.value u) w') : Good B β H w b v [ob] r := by
  obtain ⟨β', h1, h2, h3⟩ := h.grow hb ob hd n hos htape hout hsize hold ha hob
  exact ⟨u, w', β', hr, h1, h2, hv _ h3⟩
theorem Ei (h : Hs B β H w) (hb : H b = none) {e : TypeId} {fz : Bool} {k : K} {xs : List (Tof k)} {cap : Nat} {us : Array Value}
    (hos : w'.os = w.os) (htape : w'.tape = w.tape) (hout : w'.output = w.output) (hold : ∀ j, j < w.heap.size → w'.heap[j]? = w.heap[j]?)
    (hnew : w'.heap[w.heap.size]? = some (.cells us e (if fz then (us.size, us.size + 1) else (0, 0)))) (hc : xs.length ≤ cap) (hm : cap ≤ maxLen) (hs : cap * ks k ≤ us.size)
    (hr : ∀ i x j c u, xs[i]? = some x → (enc k x)[j]? = some c → us[i * ks k + j]? = some u → RC w β c u)
    {r : Result Next} (hrun : r = .ok (.value (.slice (some ⟨w.heap.size, 0, none⟩) xs.length cap)) w') : Good B β H w b (.own b) [.row e fz k xs] r := by
  have hlt : w.heap.size < w'.heap.size := (Array.getElem?_eq_some_iff.1 hnew).1
  refine OL h hb (hd := .slice (some ⟨w.heap.size, 0, none⟩) xs.length cap) (n := xs.length) hos htape hout (Nat.le_of_lt hlt) hold (fun a ha => by cases ha; exact ⟨Nat.le_refl _, hlt⟩) ?_ ?_ hrun
  · intro β' hβ hk
    refine ⟨_, hβ, .inr ⟨w.heap.size, 0, cap, us, _, rfl, hnew, rfl, hc, hm, by omega, fun i x j c u h1 h2 h3 => hk _ _ (hr i x j c u h1 h2 ?_)⟩⟩
    simpa using h3
  · intro β' hβ
    exact RC.own hβ rfl
theorem RD (s : ByteArray) {i : Int} (h : inb i s.size = true) : ∃ x, s[i.toNat]? = some x ∧ bt s i = (x.toNat : Int) ∧ 0 ≤ i := by
  simp only [inb, Bool.and_eq_true, decide_eq_true_eq] at h
  have hlt : i.toNat < s.size := by omega
  refine ⟨s[i.toNat], by simp [hlt], ?_, h.1⟩
  have h2 : i.toNat < s.data.size := hlt
  have : s.data.toList.getD i.toNat 0 = s[i.toNat] := by
    rw [List.getD_eq_getElem?_getD, Array.getElem?_toList, Array.getElem?_eq_getElem h2]
    rfl
  unfold bt
  rw [this]
theorem R1.enc {k : K} {xs : List (Tof k)} {us : List Value} (hl : us.length = xs.length * ks k) (hr : ∀ i x j c u, xs[i]? = some x → (enc k x)[j]? = some c → us[i * ks k + j]? = some u → RC w β c u)
    {i : Nat} {x : Tof k} (hi : xs[i]? = some x) : RL (RC w β) (enc k x) ((us.drop (i * ks k)).take (ks k)) := by
  have hlt : i < xs.length := (List.getElem?_eq_some_iff.1 hi).1
  have h1 : (i + 1) * ks k ≤ xs.length * ks k := Nat.mul_le_mul_right _ hlt
  rw [Nat.add_mul] at h1
  refine ⟨by simp [az]; omega, fun j c u h2 h3 => hr i x j c u hi h2 ?_⟩
  have hj : j < ks k := by rw [← az k x]; exact (List.getElem?_eq_some_iff.1 h2).1
  rw [List.getElem?_take, if_pos hj, List.getElem?_drop] at h3
  exact h3
theorem MQ (hη : ∀ x, RX w β tm (ρ x) (η x)) (hH : Hs B β H w) {t : TypeId} {x ix : Operand} {k : IntKind} {i : Int} (hi : ρ ix = .lit (.int k i)) {q : Bool} {v : AV} {os : List Ob} (h : OK P t i (ρ x) = some (q, v, os)) (hq : q = true) :
    Good B β H w b v os (((Instr.index t (η x) (η ix)).run P w).andThen fun u w => .ok (.value u) w) := by
  subst hq
  have hx := hη x
  have hix := hη ix
  rw [hi] at hix
  rw [hix.lit]
  generalize ρ x = c at h hx
  unfold OK at h
  split at h
  · rename_i s
    split at h
    · rename_i hu
      simp only [Option.some.injEq, Prod.mk.injEq] at h
      obtain ⟨h1, rfl, rfl⟩ := h
      obtain ⟨y, hy, hb, h0⟩ := RD s h1
      rw [hx.lit, hb]
      exact Good.same hH (u := .int .u8 y.toNat) (by simp [Instr.index, asIntOf, run_underlying hu, h0, hy]) rfl
    · cases h
  · rename_i k' xs
    split at h
    · rename_i n e hu
      split at h
      · rename_i h1 h2
        cases hv : mN P e (enc k' (rd (dfl k') xs i)) 0 with
        | none => rw [hv] at h; cases h
        | some v' =>
          rw [hv] at h
          simp only [Option.bind_some, Option.some.injEq, Prod.mk.injEq] at h
          obtain ⟨hb, rfl, rfl⟩ := h
          simp only [inb, Bool.and_eq_true, decide_eq_true_eq] at hb
          obtain ⟨us, e1, hl, hr⟩ := hx
          simp only [Bool.and_eq_true] at h1
          have hk := ak h1.1
          have hi' : xs[i.toNat]? = some (rd (dfl k') xs i) := by
            have : i.toNat < xs.length := by omega
            simp [rd, this]
          have hrl := R1.enc hl hr hi'
          unfold mN at hv
          rw [h2] at hv
          simp only at hv
          obtain ⟨u, hu1, hu2⟩ := hrl.get hv
          have hlen : P.cellsOf e = 1 := ak h1.2
          have hu3 : us[i.toNat]? = some u := by
            rw [hk] at hu1
            simpa using hu1
          refine Good.same hH (u := u) ?_ (R2.ofR1 (R1.of_RC hu2))
          have hb' : 0 ≤ i ∧ i < (n : Int) := by omega
          rw [e1]
          simp only [Instr.index, asIntOf, Sem.run_bind, Sem.run_pure, Result.andThen_ok, run_underlying hu, hb', and_self, if_true, fq (P := P) (w := w) (t := e) (by omega), hlen, Nat.mul_one, EW hu3 h2]
      · cases h
    · cases h
  · cases h
end
end Go.VS
namespace Go.VS
open Go Go.Lib
theorem cC {a b : K} {xs : List (Tof a)} {ys : List (Tof b)} (h : qr a b xs = some ys) : ∃ e : a = b, e ▸ xs = ys := by
  cases a <;> cases b <;> first | (cases h; exact ⟨rfl, rfl⟩) | cases h
def SlOK (w : World) (β : Beta) (k : K) (xs : List (Tof k)) (v : Value) : Prop :=
  (xs = [] ∧ ∃ a cap, v = .slice a 0 cap) ∨ ∃ b f cap, ∃ u : Nat → Nat → Value, v = .slice (some ⟨b, f, none⟩) xs.length cap ∧ xs.length ≤ cap ∧
    (∀ i j, i < xs.length → j < ks k → w.cell? ⟨b, f + (i * ks k + j), none⟩ = some (u i j)) ∧ ∀ i x j c, xs[i]? = some x → (enc k x)[j]? = some c → RC w β c (u i j)
section
variable {P : Program} {B : Base} {β : Beta} {H : Hp} {w w' : World} {b : Nat} {tm : Nat → Value} {ρ : Operand → AV} {η : Operand → Value}
theorem RC.slOK {k : K} {xs : List (Tof k)} {v : Value} (h : RC w β (.sl k xs) v) : SlOK w β k xs v := by
  cases h with
  | nil => exact .inl ⟨rfl, _, _, rfl⟩
  | sl u hn hm hu hr => obtain ⟨rfl, hc⟩ := hn; exact .inr ⟨_, _, _, u, rfl, hc, hu, hr⟩
theorem RowOK.cells {e : TypeId} {fz : Bool} {k : K} {xs : List (Tof k)} {hd : Value} (h : RowOK w β e fz k xs hd) : SlOK w β k xs hd := by
  rcases h with ⟨rfl, rfl⟩ | ⟨b, f, cap, us, fr, rfl, hh, hfr, hn, hc, hs, hr⟩
  · exact .inl ⟨rfl, _, _, rfl⟩
  · have hcell : ∀ i j, i < xs.length → j < ks k → f + (i * ks k + j) < us.size := by
      intro i j hi hj
      have h1 : (i + 1) * ks k ≤ cap * ks k := Nat.mul_le_mul_right _ (by omega)
      rw [Nat.add_mul] at h1
      omega
    refine .inr ⟨b, f, cap, fun i j => us.getD (f + (i * ks k + j)) undef, rfl, hn, fun i j hi hj => ?_, fun i x j c h1 h2 => ?_⟩
    · rw [cell_of_row w b _ us e fr hh]
      have := hcell i j hi hj
      simp [this]
    · have hi : i < xs.length := (List.getElem?_eq_some_iff.1 h1).1
      have hj : j < ks k := by rw [← az k x]; exact (List.getElem?_eq_some_iff.1 h2).1
      have := hcell i j hi hj
      exact hr i x j c _ h1 h2 (by simp [this])
theorem NM (hH : Hs B β H w) {k : K} {c : AV} {v : Value} {xs : List (Tof k)} (h : cT H k c = some xs) (hx : R2 w β c v) : SlOK w β k xs v := by
  unfold cT at h
  split at h
  · obtain ⟨e, rfl⟩ := cC h
    subst e
    exact RC.slOK hx
  · cases h
    have : v = _ := hx
    exact .inl ⟨rfl, _, _, this⟩
  · rename_i id
    split at h
    · rename_i e fz k' ys hid
      obtain ⟨ek, rfl⟩ := cC h
      subst ek
      obtain ⟨hd, h1, h2⟩ := hH.objs id _ hid
      have h3 : RC w β (.own id) v := hx
      cases h3 with
      | own h4 h5 => rw [h1] at h4; cases h4; exact h2.cells
    · cases h
  · cases h
theorem SlOK.len {k : K} {xs : List (Tof k)} {v : Value} (h : SlOK w β k xs v) : ∃ a cap, v = .slice a xs.length cap ∧ xs.length ≤ cap := by
  rcases h with ⟨rfl, a, cap, rfl⟩ | ⟨b, f, cap, u, rfl, hc, _⟩
  · exact ⟨_, _, rfl, by simp⟩
  · exact ⟨_, _, rfl, hc⟩
theorem BZ {t e : TypeId} (hu : P.underlying t = some (.slice e)) (h1 : 1 ≤ P.cellsOf e) {bb f n cap : Nat} {k : IntKind} {i : Int} (h0 : 0 ≤ i) (hn : i < (n : Int)) :
    (Instr.indexAt t (.slice (some ⟨bb, f, none⟩) n cap) (.int k i)).run P w = .ok (.pointer (some ⟨bb, f + i.toNat * P.cellsOf e, none⟩)) w := by
  have hb' : 0 ≤ i ∧ i < (n : Int) := ⟨h0, hn⟩
  have hb1 : n ≤ 1 ∨ ¬ n ≤ 1 := by omega
  rcases hb1 with hb1 | hb1 <;>
  simp [Instr.indexAt, asIntOf, run_underlying hu, hb1, hb', fq h1, Addr.add_lit]
theorem JU {t e : TypeId} {n : Nat} (hu : P.underlying t = some (.array n e)) (h1 : 1 ≤ P.cellsOf e) {bb f : Nat} {k : IntKind} {i : Int} (h0 : 0 ≤ i) (hn : i < (n : Int)) :
    (Instr.indexAt t (.pointer (some ⟨bb, f, none⟩)) (.int k i)).run P w = .ok (.pointer (some ⟨bb, f + i.toNat * P.cellsOf e, none⟩)) w := by
  have hb' : 0 ≤ i ∧ i < (n : Int) := ⟨h0, hn⟩
  have hb1 : n ≤ 1 ∨ ¬ n ≤ 1 := by omega
  rcases hb1 with hb1 | hb1 <;>
  simp [Instr.indexAt, asIntOf, Instr.sureAddr, run_underlying hu, hb1, hb', fq h1, Addr.add_lit]
theorem F6 (hP : P = B.P) (hη : ∀ x, RX w β tm (ρ x) (η x)) (hH : Hs B β H w) {t : TypeId} {x ix : Operand} {k : IntKind} {i : Int} (hi : ρ ix = .lit (.int k i)) {q : Bool} {v : AV} {os : List Ob} (h : k6 P H t i (ρ x) = some (q, v, os)) (hq : q = true) :
    Good B β H w b v os (((Instr.indexAt t (η x) (η ix)).run P w).andThen fun u w => .ok (.value u) w) := by
  subst hq
  have hx := hη x
  have hix := hη ix
  rw [hi] at hix
  rw [hix.lit]
  generalize ρ x = c at h hx
  generalize η x = vx at hx
  unfold k6 at h
  split at h
  · rename_i k' xs
    split at h
    · rename_i e hu
      split at h
      · rename_i hk
        have hk := ak hk
        simp only [Option.some.injEq, Prod.mk.injEq, inb, Bool.and_eq_true, decide_eq_true_eq] at h
        obtain ⟨⟨h0, hn⟩, rfl, rfl⟩ := h
        have hx' : RC w β (.sl k' xs) vx := hx
        cases hx' with
        | nil => simp at hn; omega
        | @sl _ _ bb f cap n u hn' hm hu' hr =>
          obtain ⟨rfl, hc⟩ := hn'
          have h1 := jg k'
          have hlt : i.toNat < xs.length := by omega
          have hget : xs[i.toNat]? = some (rd (dfl k') xs i) := by simp [rd, hlt]
          refine Good.same hH (u := .pointer (some ⟨bb, f + i.toNat * ks k', none⟩)) ?_ ?_
          · rw [BZ hu (by omega) h0 hn, hk]; rfl
          · have := RC.ipt (w := w) (β := β) (k := k') (x := rd (dfl k') xs i) (o := 0) (b := bb) (f := f + i.toNat * ks k') (u i.toNat) hm (fun j hj => by rw [Nat.add_assoc]; exact hu' _ _ hlt hj) (fun j c hc => hr _ _ _ _ hget hc)
            exact this
      · cases h
    · cases h
  · rename_i id
    split at h
    · rename_i e e' fz k' xs hu hid
      split at h
      · rename_i hk
        have hk := ak hk
        simp only [Option.some.injEq, Prod.mk.injEq, inb, Bool.and_eq_true, decide_eq_true_eq] at h
        obtain ⟨⟨h0, hn⟩, rfl, rfl⟩ := h
        obtain ⟨hd, h1, h2⟩ := hH.objs id _ hid
        have h3 : RC w β (.own id) vx := hx
        cases h3 with
        | own h4 h5 =>
          rw [h1] at h4; cases h4
          have h1' := jg k'
          rcases h2 with ⟨_, e2⟩ | ⟨bb, f, cap, us, fr, rfl, hh, hfr, hnc, hc, hs, hr⟩
          · subst e2; simp at hn; omega
          · refine Good.same hH (u := .pointer (some ⟨bb, f + i.toNat * ks k', none⟩)) ?_ ?_
            · rw [BZ hu (by omega) h0 hn, hk]; rfl
            · have := RC.ptr (w := w) (β := β) (id := id) (sz := ks k') (i := i.toNat) (o := 0) h1 (b := bb) (f := f) rfl (by omega)
              simpa [R2, R1] using this
      · cases h
    · cases h
  · rename_i id z
    split at h
    · rename_i n e e' k' xs hu hid
      split at h
      · rename_i hk
        simp only [Bool.and_eq_true] at hk
        have hk1 := ak hk.1.1
        have hk2 := ak hk.1.2
        obtain rfl := ak hk.2
        simp only [Option.some.injEq, Prod.mk.injEq, inb, Bool.and_eq_true, decide_eq_true_eq] at h
        obtain ⟨⟨h0, hn⟩, rfl, rfl⟩ := h
        obtain ⟨bb, us, h1, hh, hsz, hce, hr⟩ := hH.objs id _ hid
        have h1' := jg k'
        have hlen : xs.length = n := by
          rw [hP] at hk2
          rw [hsz, hk2] at hce
          exact Nat.eq_of_mul_eq_mul_right h1' hce
        have h3 : RC w β (.ptr id z 0 0) vx := hx
        cases h3 with
        | @ptr _ _ _ _ hd n' b' f h4 ha hi' =>
          rw [h1] at h4; cases h4
          cases ha
          refine Good.same hH (u := .pointer (some ⟨bb, 0 + i.toNat * ks k', none⟩)) ?_ ?_
          · rw [show (0 : Nat) + (0 * z + 0) = 0 by omega, JU hu (by omega) h0 (by omega), hk1]; rfl
          · have := RC.ptr (w := w) (β := β) (id := id) (sz := ks k') (i := i.toNat) (o := 0) h1 (b := bb) (f := 0) rfl (by omega)
            simpa [R2, R1] using this
      · cases h
    · cases h
  · cases h
theorem AZ {t ty : TypeId} {e : TypeId} (hu : P.underlying t = some (.slice e)) {a : Option Addr} {n cap : Nat} : (Builtin.len_ #[t] ty #[.slice a n cap]).run P w = .ok (.int .i64 n) w := by
  simp [Builtin.len_, run_underlying hu, goInt]
theorem Ol {src dst e : TypeId} (hs : P.underlying src = some (.slice e)) (he : P.underlying e = some (.int .u8)) (hd : P.underlying dst = some .string) {xs : List (Tof .u8)} {v : Value} (h : SlOK w β .u8 xs v) :
    (convert src dst v).run P w = .ok (.string (HA xs)) w := by
  rcases h with ⟨rfl, a, cap, rfl⟩ | ⟨bb, f, cap, u, rfl, hc, hu, hr⟩
  · cases a with
    | none => exact run_convert_bytes_nil w src e hs he _ _ dst hd
    | some a =>
      rw [run_convert_bytes_string w src dst e _ 0 cap hs he hd]
      simp [Conv.bytesToString, loadCells, HA]
      rfl
  · refine run_convert_bytes_arg w src e hs he bb f _ cap xs rfl (fun i hi => ?_) dst hd
    have h1 := hu i 0 hi (by decide)
    have hx : xs[i]? = some (xs.getD i 0) := by simp [hi]
    have h2 := hr i _ 0 (.y (xs.getD i 0)) hx rfl
    have h3 := h2.litv
    rw [h3] at h1
    simpa [ks] using h1
theorem M9 (hH : Hs B β H w) (hb : H b = none) {src dst e : TypeId} (hs : P.underlying src = some .string) (hd : P.underlying dst = some (.slice e)) (he : P.underlying e = some (.int .u8)) {s : ByteArray} (hr : de s.size = true) :
    Good B β H w b (.own b) [.row e true .u8 (pw s)] (((convert src dst (.string s)).run P w).andThen fun u w => .ok (.value u) w) := by
  have hlen : (pw s).length = s.size := by rw [pw, List.length_map, Array.length_toList]; rfl
  have hsz : (bytesCells w e s).size = grownCap w s.size 0 e := by
    have := grownCap_ge w s.size 0 e
    simp only [bytesCells, Array.size_append, Array.size_map, Array.size_replicate]
    have : s.data.size = s.size := rfl
    omega
  have hroom : s.size ≤ maxLen := by
    simp only [de, decide_eq_true_eq] at hr
    exact Nat.le_trans hr (by decide)
  refine Ei (w' := bytesWorld w e s) (cap := grownCap w s.size 0 e) (us := bytesCells w e s) hH hb rfl rfl rfl (bytesWorld_at_old w e s) (bytesWorld_at_new w e s) (by rw [hlen]; exact grownCap_ge _ _ _ _)
    (grownCap_le_maxLen _ _ _ _ hroom) (by rw [hsz]; simp [ks]) ?_ ?_
  · intro i x j c u h1 h2 h3
    have hj : j = 0 := by
      have := (List.getElem?_eq_some_iff.1 h2).1
      simp [enc] at this; omega
    subst hj
    simp only [enc, List.getElem?_cons_zero, Option.some.injEq] at h2
    subst h2
    simp only [pw, List.getElem?_map, Option.map_eq_some_iff] at h1
    obtain ⟨y, hy, rfl⟩ := h1
    have hi : i < s.data.size := by have := (List.getElem?_eq_some_iff.1 hy).1; simpa using this
    rw [show i * ks .u8 + 0 = i by simp [ks]] at h3
    simp only [bytesCells] at h3
    rw [Array.getElem?_append_left (by simpa using hi)] at h3
    simp only [Array.getElem?_map, Option.map_eq_some_iff] at h3
    obtain ⟨y', hy', rfl⟩ := h3
    have : y = y' := by
      rw [Array.getElem?_toList] at hy
      rw [hy] at hy'; exact Option.some.inj hy'
    subst this
    exact .lit rfl
  · rw [Go.Lib.run_convert_string_bytes w src dst e s hs hd he, hlen]; rfl
end
end Go.VS
namespace Go.VS
open Go
section
variable {P : Program} {B : Base} {β : Beta} {H : Hp} {w w' : World} {b : Nat} {tm : Nat → Value} {ρ : Operand → AV} {η : Operand → Value}
theorem QM {a c : ByteArray} (h1 : Nat.beq a.size 0 = true) (h2 : Nat.beq c.size 0 = true) : a = c := by
  have e1 : a.size = 0 := ak h1
  have e2 : c.size = 0 := ak h2
  obtain ⟨x⟩ := a
  obtain ⟨y⟩ := c
  have e1' : x.size = 0 := e1
  have e2' : y.size = 0 := e2
  rw [Array.eq_empty_of_size_eq_zero e1', Array.eq_empty_of_size_eq_zero e2']
theorem Ph {a c : AV} (h : QU a c = true) {v : Value} (hv : RC w β a v) : RC w β c v := by
  unfold QU at h
  split at h
  · simp only [Bool.and_eq_true, decide_eq_true_eq] at h
    obtain ⟨rfl, rfl⟩ := h; exact hv
  · simp only [beq_iff_eq] at h
    subst h; exact hv
  · simp only [Bool.and_eq_true] at h
    obtain rfl := QM h.1 h.2; exact hv
  · obtain rfl := hv.litv; exact .nil
  · cases h
theorem Er : ∀ {as cs : List AV} {us : List Value}, JD as cs = true → RL (RC w β) as us → RL (RC w β) cs us
  | [], [], us, _, h => h
  | [], _ :: _, _, h, _ => by simp [JD] at h
  | _ :: _, [], _, h, _ => by simp [JD] at h
  | a :: as, c :: cs, us, h, hl => by
    simp only [JD, Bool.and_eq_true] at h
    obtain ⟨u, us', rfl, h1, h2⟩ := hl.uncons
    exact .cons (Ph h.1 h1) (Er h.2 h2)
theorem D7 {t : TypeId} {k : K} (h : zok P t k = true) : ∃ i z, P.info? t = some i ∧ i.zero = some z ∧ z.cells.size = ks k ∧ ∀ w β, RL (RC w β) (enc k (dfl k)) z.cells.toList := by
  unfold zok at h
  cases hz : nk P t with
  | none => rw [hz] at h; cases h
  | some zs =>
    rw [hz] at h
    obtain ⟨i, z, hi, hz', rfl, h1⟩ := qD hz
    have key : ∀ w β, RL (RC w β) (enc k (dfl k)) z.cells.toList := fun w β => Er h (RL.lits _ h1)
    refine ⟨i, z, hi, hz', ?_, key⟩
    have := (key default ⟨fun _ => none, fun _ => False⟩).1
    rw [az] at this
    simpa using this
theorem la {t : TypeId} {i : TypeInfo} (h : P.info? t = some i) : P.cellsOf t = i.size := by simp [Program.cellsOf, h]
theorem q9 {t : TypeId} {i : TypeInfo} (h : P.info? t = some i) : P.bytesOf t = i.bytes := by simp [Program.bytesOf, h]
theorem jX {t e : TypeId} (h : bW P t = some e) : P.underlying t = some (.slice e) := by
  unfold bW at h
  split at h
  · cases h; assumption
  · cases h
theorem HY {k : K} {z : Array Value} (hz : z.size = ks k) (hr : RL (RC w β) (enc k (dfl k)) z.toList) {n : Nat} :
    ∀ i x j c u, (List.replicate n (dfl k))[i]? = some x → (enc k x)[j]? = some c → (madeCells z (n * ks k))[i * ks k + j]? = some u → RC w β c u := by
  intro i x j c u h1 h2 h3
  have hx : x = dfl k := List.eq_of_mem_replicate (List.mem_of_getElem? h1)
  have hi : i < n := by have := (List.getElem?_eq_some_iff.1 h1).1; simpa using this
  subst hx
  have hj : j < ks k := by rw [← az k (dfl k)]; exact (List.getElem?_eq_some_iff.1 h2).1
  have hlt : i * ks k + j < n * ks k := ft hi hj
  simp only [madeCells, Array.getElem?_map, Option.map_eq_some_iff] at h3
  obtain ⟨q, hq, rfl⟩ := h3
  have hq' : q = i * ks k + j := by
    rw [Array.getElem?_eq_some_iff] at hq
    obtain ⟨_, hq⟩ := hq
    simpa using hq.symm
  subst hq'
  have hm : (i * ks k + j) % z.size = j := by rw [hz, Nat.add_comm, Nat.add_mul_mod_self_right, Nat.mod_eq_of_lt hj]
  rw [hm]
  have hjz : j < z.size := by omega
  refine hr.2 j c _ h2 ?_
  simp [hjz]
theorem OB (hH : Hs B β H w) (hb : H b = none) {t e : TypeId} {k : K} (he : bW P t = some e) (hz : zok P e k = true) (hc : P.cellsOf e = ks k) (hby : P.bytesOf e ≤ 256) {n : Int} (h0 : 0 ≤ n) (hn : n ≤ 4294967296) :
    Good B β H w b (.own b) [.row e false k (List.replicate n.toNat (dfl k))] (((Instr.makeSlice t (.int .i64 n) (.int .i64 n)).run P w).andThen fun u w => .ok (.value u) w) := by
  obtain ⟨i, z, hi, hz', hs, hr⟩ := D7 hz
  have hu := jX he
  rw [la hi] at hc
  rw [q9 hi] at hby
  have hb1 : (i.bytes : Int) * n ≤ 281474976710656 := by
    have h1 : (i.bytes : Int) * n ≤ 256 * 4294967296 := Int.mul_le_mul (by omega) hn h0 (by omega)
    omega
  have hrun := run_make (P := P) w t e i z hu hi hz' .i64 .i64 n n h0 (Int.le_refl _) hb1 (by omega)
  rw [hrun, hc]
  have hml : n.toNat ≤ maxLen := Nat.le_trans (show n.toNat ≤ 4294967296 by omega) (by decide)
  refine Ei (w' := w.alloc (.cells (madeCells z.cells (n.toNat * ks k)) e)) (cap := n.toNat) (us := madeCells z.cells (n.toNat * ks k)) hH hb rfl rfl rfl (fun j hj => heap_alloc_old w _ hj) (heap_alloc_new w _) (by simp) hml
    (by rw [size_madeCells]; exact Nat.le_refl _) (HY hs (hr w β)) ?_
  simp
theorem zZ {k : K} : ∀ {xs : List (Tof k)} {i j : Nat} {x : Tof k}, xs[i]? = some x → j < ks k → (xs.flatMap (enc k))[i * ks k + j]? = (enc k x)[j]?
  | [], _, _, _, h, _ => by simp at h
  | y :: ys, 0, j, x, h, hj => by
    simp only [List.getElem?_cons_zero, Option.some.injEq] at h
    subst h
    rw [List.flatMap_cons, List.getElem?_append_left (by rw [az]; omega)]
    simp
  | y :: ys, i + 1, j, x, h, hj => by
    simp only [List.getElem?_cons_succ] at h
    rw [List.flatMap_cons, List.getElem?_append_right (by rw [az, Nat.add_mul]; omega), az, ← zZ h hj]
    congr 1
    rw [Nat.add_mul]; omega
theorem bS {k : K} (xs : List (Tof k)) : (xs.flatMap (enc k)).length = xs.length * ks k := by
  induction xs with
  | nil => simp
  | cons x xs ih => rw [List.flatMap_cons, List.length_append, az, ih, List.length_cons, Nat.add_mul]; omega
theorem p7 {k : K} {xs : List (Tof k)} {us : List Value} (h : RL (RC w β) (xs.flatMap (enc k)) us) : ∀ i x j c u, xs[i]? = some x → (enc k x)[j]? = some c → us[i * ks k + j]? = some u → RC w β c u := by
  intro i x j c u h1 h2 h3
  have hj : j < ks k := by rw [← az k x]; exact (List.getElem?_eq_some_iff.1 h2).1
  exact h.2 _ c u (by rw [zZ h1 hj]; exact h2) h3
theorem IL (hP : P = B.P) (hH : Hs B β H w) (hb : H b = none) {t : TypeId} {n : Nat} {k : K} {zs : List AV} (hz : nk P t = some zs) (hk : JD zs ((List.replicate n (dfl k)).flatMap (enc k)) = true) (hc : P.cellsOf t = n * ks k) (hn : 1 ≤ n)
    {o : Oper} (ho : o.op = .alloc t) : Good B β H w b (.ptr b (ks k) 0 0) [.arr t k (List.replicate n (dfl k))] ((execOp η o).run P w) := by
  obtain ⟨i, z, hi, hz', rfl, h1⟩ := qD hz
  have hrel : RL (RC w β) _ z.cells.toList := Er hk (RL.lits _ h1)
  have hsz : z.cells.size = n * ks k := by
    have := hrel.1
    rw [bS] at this
    simpa using this
  obtain ⟨β', g1, g2, g3⟩ := hH.grow (w' := w.alloc (.cells z.cells t)) hb (.arr t k (List.replicate n (dfl k))) (.pointer (some ⟨w.heap.size, 0, none⟩)) n rfl rfl rfl (by simp) (fun j hj => heap_alloc_old w _ hj) (fun a ha => by cases ha; simp)
    (fun β' hβ hk => ⟨w.heap.size, z.cells, by simpa using hβ, heap_alloc_new w _, by simpa using hsz, by rw [← hP, hc]; exact hsz, fun i x j c u a1 a2 a3 => hk _ _ (p7 hrel i x j c u a1 a2 (by simpa using a3))⟩)
  · refine ⟨_, _, β', ?_, g1, g2, (?_ : R2 (w.alloc (.cells z.cells t)) β' _ (.pointer (some ⟨w.heap.size, 0, none⟩)))⟩
    · unfold execOp
      rw [ho]
      simp [Instr.alloc, Ld hi hz', newVar, newRow]
    · have := RC.ptr (w := w.alloc (.cells z.cells t)) (β := β') (id := b) (sz := ks k) (i := 0) (o := 0) g3 (b := w.heap.size) (f := 0) rfl (by omega)
      simpa [R2, R1] using this
theorem Ji (off : Nat) : ∀ (ys : List Value) (n : Nat) (cs : Array Value), off + n + ys.length ≤ cs.size →
    (ys.zipIdx n).foldl (fun cs (c, j) => cs.setIfInBounds (off + j) c) cs = (cs.toList.take (off + n) ++ ys ++ cs.toList.drop (off + n + ys.length)).toArray
  | [], n, cs, _ => by simp
  | y :: ys, n, cs, h => by
    simp only [List.length_cons] at h
    rw [List.zipIdx_cons, List.foldl_cons, Ji off ys (n + 1) _ (by simp; omega)]
    have e := list_seg_step cs.toList (off + n) y ys (by simp; omega)
    simpa [Array.toList_setIfInBounds, Nat.add_assoc, Nat.add_comm, Nat.add_left_comm] using e
theorem Jn (place : Nat → Option (Nat × Nat)) (cells : Array Value) (i off : Nat) (v : Value) (rest : List (Nat × Value)) (hp : place i = some (off, v.cells.size)) (hl : off + v.cells.size ≤ cells.size) :
    Instr.fill place cells ((i, v) :: rest) = Instr.fill place (cells.toList.take off ++ v.cells.toList ++ cells.toList.drop (off + v.cells.size)).toArray rest := by
  have h1 : ¬ (v.cells.size ≠ v.cells.size ∨ off + v.cells.size > cells.size) := by omega
  rw [Instr.fill, hp]
  simp only [ne_eq, not_true_eq_false, decide_false, Bool.false_or, decide_eq_true_eq]
  rw [if_neg (by omega), ← Array.foldl_toList, Array.toList_zipIdx]
  have := Ji off v.cells.toList 0 cells (by simpa using hl)
  simp only [Nat.add_zero, Array.length_toList] at this
  rw [this]
theorem Lt {α β' : Type} (f : α → Option β') : ∀ (l : List α), (∀ x ∈ l, (f x).isSome = true) → ∃ r, l.mapM f = some r ∧ r.length = l.length ∧ ∀ (i : Nat) (x : α), l[i]? = some x → r[i]? = f x
  | [], _ => ⟨[], by simp, rfl, fun i x h => by simp at h⟩
  | x :: l, h => by
    obtain ⟨r, h1, h2, h3⟩ := Lt f l (fun y hy => h y (by simp [hy]))
    cases hx : f x with
    | none => have := h x (by simp); rw [hx] at this; cases this
    | some y =>
      refine ⟨y :: r, by simp [hx, h1], by simp [h2], fun i z hi => ?_⟩
      cases i with
      | zero => simp at hi; subst hi; simp [hx]
      | succ i => simp at hi ⊢; exact h3 i z hi
theorem Cd (hη : ∀ x, RX w β tm (ρ x) (η x)) {t : TypeId} {fs : Array Field} (hu : P.underlying t = some (.struct fs)) {places : List (Nat × Nat)}
    (hp : ∀ (i : Nat) (f : Field), fs[i]? = some f → places[i]? = some (f.offset, P.cellsOf f.type)) : ∀ (ps : List (Nat × Operand)) (cs : List AV) (us : Array Value) (ds : List AV), js P ρ t ps cs = some ds → RL (RC w β) cs us.toList →
    ∃ vs : Array Value, Instr.fill (places.toArray[·]?) us (ps.map fun (i, x) => (i, η x)) = some vs ∧ RL (RC w β) ds vs.toList
  | [], cs, us, ds, h, hl => by
    simp only [js, Option.some.injEq] at h
    subst h
    exact ⟨us, by simp [Instr.fill], hl⟩
  | (i, x) :: ps, cs, us, ds, h, hl => by
    simp only [js] at h
    cases hf : gW P t i with
    | none => rw [hf] at h; cases h
    | some f =>
      rw [hf] at h
      simp only [Option.bind_some] at h
      cases hc : d6 (ρ x) with
      | none => rw [hc] at h; cases h
      | some ys =>
        rw [hc] at h
        simp only [Option.bind_some] at h
        split at h
        · rename_i hb
          simp only [Bool.and_eq_true] at hb
          have hb1 := ak hb.1
          have hb2 := Nat.le_of_ble_eq_true hb.2
          have hr := lF hc (hη x)
          obtain ⟨fs', hu', hf'⟩ := q6 hf
          rw [hu] at hu'
          cases hu'
          have hys : (η x).cells.size = ys.length := by have := hr.1; simpa using this
          have hcs : us.size = cs.length := by have := hl.1; simpa using this
          have hsp : RL (RC w β) (eT cs f.offset ys) (us.toList.take f.offset ++ (η x).cells.toList ++ us.toList.drop (f.offset + (η x).cells.size)) := by
            unfold eT
            rw [hys]
            exact ((hl.take _).append hr).append (hl.drop _)
          obtain ⟨vs, h1, h2⟩ := Cd hη hu hp ps _ (us.toList.take f.offset ++ (η x).cells.toList ++ us.toList.drop (f.offset + (η x).cells.size)).toArray ds h hsp
          refine ⟨vs, ?_, h2⟩
          rw [List.map_cons, Jn _ _ i f.offset (η x) _ ?_ (by omega)]
          · exact h1
          · rw [List.getElem?_toArray, hp i f hf', hys, hb1]
        · cases h
theorem Na (hη : ∀ x, RX w β tm (ρ x) (η x)) (hH : Hs B β H w) {t : TypeId} {fs : Array Field} {ps : Array (Nat × Operand)} {zs cs : List AV} (hz : nk P t = some zs) (hu : P.underlying t = some (.struct fs)) (ha : (fs.toList.all fun f => (P.info? f.type).isSome) = true)
    (h : js P ρ t ps.toList zs = some cs) {o : Oper} (ho : o.op = .build t ps) : Good B β H w b (.agg cs) [] ((execOp η o).run P w) := by
  obtain ⟨i, z, hi, hz', rfl, h1⟩ := qD hz
  obtain ⟨places, hm, hlen, hpl⟩ := Lt (fun f : Field => (P.info? f.type).map fun i => (f.offset, i.size)) fs.toList (fun f hf => by
    have := List.all_eq_true.1 ha f hf
    simpa using this)
  obtain ⟨vs, g1, g2⟩ := Cd (places := places) hη hu (fun i f hf => by
    have hsome := List.all_eq_true.1 ha f (List.mem_of_getElem? (by simpa using hf))
    rw [hpl i f (by simpa using hf)]
    obtain ⟨inf, hinf⟩ := Option.isSome_iff_exists.1 hsome
    simp [hinf, la hinf]) ps.toList _ z.cells cs h (RL.lits _ h1)
  refine Good.same hH (u := .agg vs) ?_ ⟨vs.toList, by simp, g2⟩
  unfold execOp
  rw [ho]
  have hb : P.built t (ps.map fun (i, x) => (i, η x)).toList = some vs := by
    simp only [Program.built, hi, hu, hz', hm]
    rw [← g1, Array.toList_map]
  simp only [Sem.run_bind, run_build w t _ _ hb, Result.andThen_ok]
  rfl
theorem RA {k : K} {cs : List AV} {x : Tof k} (h : dec (fun _ => none) k cs = some x) {us : List Value} (hl : RL (RC w β) cs us) : RL (RC w β) (enc k x) us := by
  have sl : ∀ (k : K) (c : AV) (l : List (Tof k)) (u : Value), cT (fun _ => none) k c = some l → RC w β c u → RC w β (.sl k l) u := by
    intro k c l u h1 h2
    unfold cT at h1
    split at h1
    · obtain ⟨e, rfl⟩ := cC h1
      subst e
      exact h2
    · cases h1; rw [h2.litv]; exact .nil
    · cases h1
    · cases h1
  unfold dec at h
  split at h <;> try (cases h; done)
  all_goals try (cases h; exact hl)
  · rename_i x'
    cases hx : cT (fun _ => none) K.mixed x' with
    | none => rw [hx] at h; cases h
    | some l =>
      rw [hx] at h; cases h
      obtain ⟨u1, _, rfl, g1, hl⟩ := hl.uncons
      obtain ⟨u2, _, rfl, g2, hl⟩ := hl.uncons
      obtain ⟨u3, _, rfl, g3, hl⟩ := hl.uncons
      obtain ⟨u4, _, rfl, g4, hl⟩ := hl.uncons
      obtain ⟨u5, _, rfl, g5, hl⟩ := hl.uncons
      obtain ⟨u6, _, rfl, g6, hl⟩ := hl.uncons
      exact .cons g1 (.cons g2 (.cons g3 (.cons g4 (.cons g5 (.cons (sl _ _ _ _ hx g6) hl)))))
  · rename_i x' y' z'
    cases hx : cT (fun _ => none) K.note x' with
    | none => rw [hx] at h; cases h
    | some l =>
      cases hy : cT (fun _ => none) K.mark y' with
      | none => rw [hx, hy] at h; cases h
      | some m =>
        cases hz : cT (fun _ => none) K.note z' with
        | none => rw [hx, hy, hz] at h; cases h
        | some n =>
          rw [hx, hy, hz] at h; cases h
          obtain ⟨u1, _, rfl, g1, hl⟩ := hl.uncons
          obtain ⟨u2, _, rfl, g2, hl⟩ := hl.uncons
          obtain ⟨u3, _, rfl, g3, hl⟩ := hl.uncons
          obtain ⟨u4, _, rfl, g4, hl⟩ := hl.uncons
          obtain ⟨u5, _, rfl, g5, hl⟩ := hl.uncons
          obtain ⟨u6, _, rfl, g6, hl⟩ := hl.uncons
          exact .cons g1 (.cons g2 (.cons g3 (.cons (sl _ _ _ _ hx g4) (.cons (sl _ _ _ _ hy g5) (.cons (sl _ _ _ _ hz g6) hl)))))
  · rename_i x'
    cases hx : cT (fun _ => none) K.half x' with
    | none => rw [hx] at h; cases h
    | some l =>
      rw [hx] at h; cases h
      obtain ⟨u1, _, rfl, g1, hl⟩ := hl.uncons
      obtain ⟨u2, _, rfl, g2, hl⟩ := hl.uncons
      obtain ⟨u3, _, rfl, g3, hl⟩ := hl.uncons
      obtain ⟨u4, _, rfl, g4, hl⟩ := hl.uncons
      obtain ⟨u5, _, rfl, g5, hl⟩ := hl.uncons
      exact .cons g1 (.cons g2 (.cons g3 (.cons g4 (.cons (sl _ _ _ _ hx g5) hl))))
theorem Af {k : K} : ∀ {vs : List AV} {us : List Value} {xs : List (Tof k)}, nc k vs = some xs → (us.length = vs.length ∧ ∀ (j : Nat) (c : AV) (u : Value), vs[j]? = some c → us[j]? = some u → RX w β tm c u) →
    xs.length = vs.length ∧ (∀ u ∈ us, u.cells.size = ks k) ∧ RL (RC w β) (xs.flatMap (enc k)) (us.flatMap fun u => u.cells.toList)
  | [], us, xs, h, hl => by
    simp only [nc, Option.some.injEq] at h
    subst h
    obtain rfl : us = [] := List.eq_nil_of_length_eq_zero (by simpa using hl.1)
    exact ⟨rfl, by simp, RL.nil⟩
  | v :: vs, us, xs, h, hl => by
    cases us with
    | nil => exact absurd hl.1 (by simp)
    | cons u us =>
      simp only [nc] at h
      cases hc : d6 v with
      | none => rw [hc] at h; cases h
      | some cs =>
        rw [hc] at h
        simp only [Option.bind_some] at h
        cases hd : dec (fun _ => none) k cs with
        | none => rw [hd] at h; cases h
        | some x =>
          rw [hd] at h
          simp only [Option.bind_some] at h
          cases hr : nc k vs with
          | none => rw [hr] at h; cases h
          | some ys =>
            rw [hr] at h
            cases h
            have h1 := RA hd (lF hc (hl.2 0 v u rfl rfl))
            obtain ⟨i1, i2, i3⟩ := Af hr ⟨by have := hl.1; simpa using this, fun j c u' a1 a2 => hl.2 (j + 1) c u' (by simpa using a1) (by simpa using a2)⟩
            refine ⟨by simp [i1], fun u' hu' => ?_, ?_⟩
            · rcases List.mem_cons.1 hu' with e | e
              · subst e
                have := h1.1
                rw [az] at this
                simpa using this
              · exact i2 u' e
            · rw [List.flatMap_cons, List.flatMap_cons]
              exact h1.append i3
theorem s7 : ∀ {n : Nat} {ps : List (Nat × Operand)} {vs : List AV}, i7 ρ n ps = some vs → ps = ((ps.map (·.2)).zipIdx n).map (fun x => (x.2, x.1)) ∧ vs = ps.map (fun p => ρ p.2)
  | n, [], vs, h => by simp only [i7, Option.some.injEq] at h; subst h; exact ⟨rfl, rfl⟩
  | n, (i, x) :: ps, vs, h => by
    simp only [i7] at h
    split at h
    · rename_i hi
      obtain rfl := ak hi
      cases hr : i7 ρ (i + 1) ps with
      | none => rw [hr] at h; cases h
      | some ws =>
        rw [hr] at h
        cases h
        obtain ⟨h1, h2⟩ := s7 hr
        refine ⟨?_, by simp [h2]⟩
        rw [List.map_cons, List.zipIdx_cons, List.map_cons]
        exact congrArg _ h1
    · cases h
theorem LO (sz : Nat) : ∀ (us : List Value) (n : Nat) (cells : Array Value), (∀ u ∈ us, u.cells.size = sz) → (n + us.length) * sz ≤ cells.size →
    Instr.fill (fun i => some (i * sz, sz)) cells ((us.zipIdx n).map fun x => (x.2, x.1)) = some (cells.toList.take (n * sz) ++ (us.flatMap fun u => u.cells.toList) ++ cells.toList.drop ((n + us.length) * sz)).toArray
  | [], n, cells, _, _ => by simp [Instr.fill]
  | u :: us, n, cells, h, hl => by
    have hu := h u (by simp)
    simp only [List.length_cons] at hl
    have e1 : (n + (us.length + 1)) * sz = n * sz + (us.length * sz + sz) := by rw [Nat.add_mul, Nat.add_mul, Nat.one_mul]
    have e2 : (n + 1 + us.length) * sz = n * sz + (us.length * sz + sz) := by rw [← e1]; congr 1; omega
    have e3 : (n + 1) * sz = n * sz + sz := by rw [Nat.add_mul, Nat.one_mul]
    rw [List.zipIdx_cons, List.map_cons, Jn _ _ n (n * sz) u _ (by simp [hu]) (by omega), LO sz us (n + 1) _ (fun v hv => h v (by simp [hv])) ?_]
    · congr 2
      simp only [List.toList_toArray, List.flatMap_cons, hu]
      have hcl : cells.toList.length = cells.size := Array.length_toList
      have ht : (cells.toList.take (n * sz) ++ u.cells.toList).length = (n + 1) * sz := by
        simp only [List.length_append, List.length_take, Array.length_toList, hu]; omega
      have h4 : (cells.toList.take (n * sz) ++ u.cells.toList ++ cells.toList.drop (n * sz + sz)).take ((n + 1) * sz) = cells.toList.take (n * sz) ++ u.cells.toList := by
        rw [← ht, List.take_left']; rfl
      have h5 : (cells.toList.take (n * sz) ++ u.cells.toList ++ cells.toList.drop (n * sz + sz)).drop ((n + 1 + us.length) * sz) = cells.toList.drop ((n + (us.length + 1)) * sz) := by
        rw [List.drop_append, ht, List.drop_eq_nil_of_le (by rw [ht, e2, e3]; omega), List.nil_append, List.drop_drop]
        congr 1
        rw [e1, e2, e3]; omega
      rw [h4, h5]
      simp [List.append_assoc, Nat.add_comm, Nat.add_left_comm, Nat.add_assoc]
    · simp only [List.size_toArray, List.length_append, List.length_take, Array.length_toList, List.length_drop, hu]
      omega
theorem D3 (hη : ∀ x, RX w β tm (ρ x) (η x)) (hH : Hs B β H w) (hb : H b = none) {t e : TypeId} {len : Nat} {ps : Array (Nat × Operand)} {k : K} {vs : List AV} {xs : List (Tof k)} (he : bW P t = some e) (hp : i7 ρ 0 ps.toList = some vs) (hd : nc k vs = some xs)
    (hl : vs.length = len) (hc : P.cellsOf e = ks k) (hsm : len ≤ 65536) (hz : zok P e k = true) {o : Oper} (ho : o.op = .buildSlice t len ps) : Good B β H w b (.own b) [.row e false k xs] ((execOp η o).run P w) := by
  obtain ⟨i, z, hi, hz', hs, _⟩ := D7 hz
  have hu := jX he
  by_cases hlen0 : len = 0
  · subst hlen0
    obtain rfl : vs = [] := List.eq_nil_of_length_eq_zero hl
    simp only [nc, Option.some.injEq] at hd
    subst hd
    have hps : ps = #[] := by
      have := (s7 hp).2
      have h2 : ps.toList = [] := by
        have := congrArg List.length this
        exact List.eq_nil_of_length_eq_zero (by simpa using this.symm)
      exact Array.toList_inj.1 (by simpa using h2)
    subst hps
    refine Ei (w' := w.alloc (.cells #[] e)) (cap := 0) (us := #[]) hH hb rfl rfl rfl (fun j hj => heap_alloc_old w _ hj) (heap_alloc_new w _) (by simp) (by simp) (by simp) (fun i x j c u a1 => by simp at a1) ?_
    unfold execOp
    rw [ho]
    simp [Instr.buildSlice, run_underlying hu, sizeOf, typeInfo, hi, Instr.fill, newRow, show Array.range 0 = #[] from by simp [Array.range]]
  have h0 : 1 ≤ len := by omega
  rw [la hi] at hc
  obtain ⟨h1, rfl⟩ := s7 hp
  have hkp := jg k
  have hk16 : ks k ≤ 16 := by cases k <;> decide
  have hu' : ((ps.toList.map fun p => η p.2).length = (ps.toList.map fun p => ρ p.2).length) := by simp
  obtain ⟨d1, d2, d3⟩ := Af (w := w) (β := β) (tm := tm) (us := ps.toList.map fun p => η p.2) hd ⟨by simp, fun j c u a1 a2 => by
    simp only [List.getElem?_map, Option.map_eq_some_iff] at a1 a2
    obtain ⟨p, hp1, rfl⟩ := a1
    obtain ⟨p', hp2, rfl⟩ := a2
    rw [hp1] at hp2
    cases hp2
    exact hη _⟩
  have hparts : (ps.map fun (i, x) => (i, η x)).toList = ((ps.toList.map fun p => η p.2).zipIdx 0).map fun x => (x.2, x.1) := by
    rw [Array.toList_map]
    conv => lhs; rw [h1]
    rw [List.map_map, List.zipIdx_map, List.zipIdx_map, List.map_map, List.map_map]
    rfl
  have hlen : (ps.toList.map fun p => η p.2).length = len := by simpa using hl
  have hfill := LO (ks k) (ps.toList.map fun p => η p.2) 0 ((Array.range (len * ks k)).map (z.cells[· % z.cells.size]!)) d2 (by simp [hlen])
  have hsmall : ¬ len * i.size > 2 ^ 24 := by
    rw [hc]
    have : len * ks k ≤ 65536 * 16 := Nat.mul_le_mul hsm hk16
    omega
  have hpos : ¬ len * i.size = 0 := by
    rw [hc]
    have : 1 * 1 ≤ len * ks k := Nat.mul_le_mul h0 hkp
    omega
  have hrow : (((Array.range (len * ks k)).map (z.cells[· % z.cells.size]!)).toList.take (0 * ks k) ++ ((ps.toList.map fun p => η p.2).flatMap fun u => u.cells.toList) ++ ((Array.range (len * ks k)).map (z.cells[· % z.cells.size]!)).toList.drop ((0 + (ps.toList.map fun p => η p.2).length) * ks k)).toArray
      = ((ps.toList.map fun p => η p.2).flatMap fun u => u.cells.toList).toArray := by
    rw [hlen, List.drop_eq_nil_of_le (by simp)]
    simp
  rw [hrow] at hfill
  have hrun := run_buildSlice w t e len (ps.map fun (i, x) => (i, η x)) _ i z hu hi hz' hsmall hpos (by rw [hparts, hc]; exact hfill)
  have hxl : xs.length = len := by rw [d1]; exact hl
  refine Ei (w' := w.alloc (.cells ((ps.toList.map fun p => η p.2).flatMap fun u => u.cells.toList).toArray e)) (cap := len) hH hb rfl rfl rfl (fun j hj => heap_alloc_old w _ hj) (heap_alloc_new w _) (by omega) (Nat.le_trans hsm (by decide)) ?_ ?_ ?_
  · have := d3.1
    rw [bS] at this
    simp only [List.size_toArray]
    rw [this, hxl]
    exact Nat.le_refl _
  · intro i x j c u a1 a2 a3
    exact p7 d3 i x j c u a1 a2 (by simpa using a3)
  · unfold execOp
    rw [ho]
    simp only [Sem.run_bind, hrun, Result.andThen_ok, hxl]
    rfl
theorem o8 {lo hi : Option Operand} {n : Nat} {l h : Int} (hη : ∀ x, RX w β tm (ρ x) (η x)) (hc : DN (lo.map ρ) (hi.map ρ) n = some (true, l, h)) (isS : Bool) {cap : Nat} (hcap : n ≤ cap) :
    (Instr.sliceBounds isS n cap (lo.map η) (hi.map η) none).run P w = .ok (l.toNat, h.toNat, cap) w ∧ 0 ≤ l ∧ l ≤ h ∧ h ≤ (n : Int) := by
  have hB : ∀ (k : IntKind) (i : Int) (y : Nat) (code : BoundsCode), 0 ≤ i → i ≤ (y : Int) → (Instr.sliceBound (.int k i) y code).run P w = .ok i.toNat w := by
    intro k i y code h1 h2
    simp [Instr.sliceBound, asIntOf, h1, h2]
  unfold DN at hc
  split at hc
  · rename_i h1 h2
    cases lo with
    | some x => cases h1
    | none =>
    cases hi with
    | some x => cases h2
    | none =>
      simp only [Option.some.injEq, Prod.mk.injEq] at hc
      obtain ⟨_, rfl, rfl⟩ := hc
      exact ⟨by simp [Instr.sliceBounds], by omega, by omega, by omega⟩
  · rename_i k l' h1 h2
    cases hi with
    | some x => cases h2
    | none =>
    cases lo with
    | none => cases h1
    | some x =>
      simp only [Option.map_some, Option.some.injEq] at h1
      have hx := hη x
      rw [h1] at hx
      simp only [Option.some.injEq, Prod.mk.injEq, Bool.and_eq_true, decide_eq_true_eq] at hc
      obtain ⟨⟨g1, g2⟩, rfl, rfl⟩ := hc
      refine ⟨?_, g1, g2, by omega⟩
      simp [Instr.sliceBounds, hx.lit, hB _ _ _ _ g1 g2]
  · rename_i k l' h1 h2
    cases lo with
    | some x => cases h1
    | none =>
    cases hi with
    | none => cases h2
    | some x =>
      simp only [Option.map_some, Option.some.injEq] at h2
      have hx := hη x
      rw [h2] at hx
      simp only [Option.some.injEq, Prod.mk.injEq, Bool.and_eq_true, decide_eq_true_eq] at hc
      obtain ⟨⟨g1, g2⟩, rfl, rfl⟩ := hc
      refine ⟨?_, by omega, g1, g2⟩
      cases isS <;> simp [Instr.sliceBounds, hx.lit, hB _ _ _ _ g1 (show l' ≤ (cap : Int) by omega)]
  · rename_i k1 l' k2 h' h1 h2
    cases lo with
    | none => cases h1
    | some y =>
    cases hi with
    | none => cases h2
    | some x =>
      simp only [Option.map_some, Option.some.injEq] at h1 h2
      have hy := hη y
      rw [h1] at hy
      have hx := hη x
      rw [h2] at hx
      simp only [Option.some.injEq, Prod.mk.injEq, Bool.and_eq_true, decide_eq_true_eq] at hc
      obtain ⟨⟨⟨g1, g2⟩, g3, g4⟩, rfl, rfl⟩ := hc
      refine ⟨?_, g3, g4, g2⟩
      have e1 := hB k2 h' cap
      have e2 := hB k1 l' h'.toNat .sliceB g3 (by omega)
      cases isS <;> simp [Instr.sliceBounds, hx.lit, hy.lit, e1 _ g1 (show h' ≤ (cap : Int) by omega), e2]
  · cases hc
theorem Kx {α : Type} {lo hi : Option AV} {l h : Int} {xs : List α} (hc : DN lo hi xs.length = some (true, l, h)) : BO lo hi l h xs = (xs.take h.toNat).drop l.toNat := by
  unfold DN at hc
  split at hc
  · simp only [Option.some.injEq, Prod.mk.injEq] at hc
    obtain ⟨_, rfl, rfl⟩ := hc
    simp [BO]
  · simp only [Option.some.injEq, Prod.mk.injEq] at hc
    obtain ⟨_, rfl, rfl⟩ := hc
    simp [BO]
  · simp only [Option.some.injEq, Prod.mk.injEq] at hc
    obtain ⟨_, rfl, rfl⟩ := hc
    simp [BO]
  · simp only [Option.some.injEq, Prod.mk.injEq] at hc
    obtain ⟨_, rfl, rfl⟩ := hc
    simp [BO]
  · cases hc
theorem RC.cut {k : K} {xs : List (Tof k)} {bb f cap l h : Nat} {ys : List (Tof k)} (hy : ys = (xs.take h).drop l) (hlh : l ≤ h) (hh : h ≤ xs.length) (hx : RC w β (.sl k xs) (.slice (some ⟨bb, f, none⟩) xs.length cap)) (hcap : xs.length ≤ cap) :
    RC w β (.sl k ys) (.slice (if cap = l then some ⟨bb, f, none⟩ else some ⟨bb, f + l * ks k, none⟩) (h - l) (cap - l)) := by
  by_cases he : h = l
  · obtain rfl : ys = [] := by subst hy; subst he; rw [List.drop_eq_nil_of_le]; simp; omega
    rw [show h - l = 0 by omega]
    exact .nil
  · have hne : xs ≠ [] := fun e => by subst e; simp at hh; omega
    rw [if_neg (by omega)]
    cases hx with
    | nil => exact absurd rfl hne
    | sl u hn hm hu hr =>
      have hyl : ys.length = h - l := by subst hy; simp; omega
      refine .sl (fun i j => u (l + i) j) ⟨hyl.symm, by omega⟩ hm (fun i j hi hj => ?_) (fun i x j c h1 h2 => hr (l + i) x j c ?_ h2)
      · have := hu (l + i) j (by omega) hj
        rw [Nat.add_mul] at this
        rw [← this]
        congr 2
        omega
      · subst hy
        rw [List.getElem?_drop, List.getElem?_take] at h1
        split at h1
        · exact h1
        · cases h1
theorem sY {t e : TypeId} (hu : P.underlying t = some (.slice e)) (h1 : 1 ≤ P.cellsOf e) {a : Option Addr} {n cap l h m : Nat} {lo hi : Option Value} (hb : (Instr.sliceBounds true n cap lo hi none).run P w = .ok (l, h, m) w) :
    (Instr.sliceAt t (.slice a n cap) lo hi none).run P w = .ok (.slice (if m = l then a else a.map (·.add (l * P.cellsOf e))) (h - l) (m - l)) w := by
  simp [Instr.sliceAt, Instr.slice, run_underlying hu, hb, fq h1]
theorem MA (hη : ∀ x, RX w β tm (ρ x) (η x)) (hH : Hs B β H w) {t : TypeId} {x : Operand} {lo hi : Option Operand} (hf : cm P H t (ρ x) = true) {q : Bool} {v : AV} {os : List Ob} (h : AL (lo.map ρ) (hi.map ρ) (ρ x) = some (q, v, os)) (hq : q = true) :
    Good B β H w b v os (((Instr.sliceAt t (η x) (lo.map η) (hi.map η) none).run P w).andThen fun u w => .ok (.value u) w) := by
  subst hq
  have hx := hη x
  generalize ρ x = c at h hx hf
  unfold AL at h
  split at h
  · rename_i s
    cases hc : DN (lo.map ρ) (hi.map ρ) s.size with
    | none => rw [hc] at h; cases h
    | some r =>
      obtain ⟨q', l, h'⟩ := r
      rw [hc] at h
      simp only [Option.bind_some, Option.some.injEq, Prod.mk.injEq] at h
      obtain ⟨rfl, rfl, rfl⟩ := h
      obtain ⟨hb, g1, g2, g3⟩ := o8 (P := P) (w := w) (β := β) (tm := tm) hη hc false (Nat.le_refl _)
      rw [hx.lit]
      have hu : P.underlying t = some .string := by
        unfold cm at hf
        split at hf <;> simp_all
      refine Good.same hH (u := .string (s.extract l.toNat h'.toNat)) ?_ rfl
      simp [Instr.sliceAt, Instr.slice, run_underlying hu, hb]
  · rename_i k xs
    cases hc : DN (lo.map ρ) (hi.map ρ) xs.length with
    | none => rw [hc] at h; cases h
    | some r =>
      obtain ⟨q', l, h'⟩ := r
      rw [hc] at h
      simp only [Option.bind_some, Option.some.injEq, Prod.mk.injEq] at h
      obtain ⟨rfl, rfl, rfl⟩ := h
      obtain ⟨e, hu, hk⟩ : ∃ e, P.underlying t = some (.slice e) ∧ P.cellsOf e = ks k := by
        unfold cm at hf
        split at hf <;> simp_all
      have h1 := jg k
      have hx' : RC w β (.sl k xs) (η x) := hx
      obtain ⟨a, cap, hv, hcap⟩ := hx'.slOK.len
      obtain ⟨hb, g1, g2, g3⟩ := o8 (P := P) (w := w) (β := β) (tm := tm) hη hc true hcap
      rw [hv] at hx' ⊢
      rw [sY hu (by omega) hb, hk]
      refine Good.same hH rfl ?_
      by_cases hxs : xs = []
      · subst hxs
        have e1 : h'.toNat - l.toNat = 0 := by simp at g3; omega
        have e2 : BO (lo.map ρ) (hi.map ρ) l h' ([] : List (Tof k)) = [] := by rw [Kx hc]; simp
        rw [e1, e2]
        exact RC.nil
      · have ha : ∃ bb f, a = some ⟨bb, f, none⟩ := by
          cases hx' with
          | nil => exact absurd rfl hxs
          | sl => exact ⟨_, _, rfl⟩
        obtain ⟨bb, f, rfl⟩ := ha
        have := RC.cut (l := l.toNat) (h := h'.toNat) (Kx hc) (by omega) (by omega) hx' hcap
        simpa [R2, R1, Addr.add_lit, apply_ite] using this
  · cases hc : DN (lo.map ρ) (hi.map ρ) 0 with
    | none => rw [hc] at h; cases h
    | some r =>
      obtain ⟨q', l, h'⟩ := r
      rw [hc] at h
      simp only [Option.bind_some, Option.some.injEq, Prod.mk.injEq] at h
      obtain ⟨rfl, rfl, rfl⟩ := h
      obtain ⟨e, hu, hk⟩ : ∃ e, P.underlying t = some (.slice e) ∧ 1 ≤ P.cellsOf e := by
        unfold cm at hf
        split at hf <;> simp_all
      obtain ⟨hb, g1, g2, g3⟩ := o8 (P := P) (w := w) (β := β) (tm := tm) hη hc true (Nat.le_refl _)
      rw [hx.lit, sY hu hk hb]
      have e1 : h'.toNat = 0 := by omega
      have e2 : l.toNat = 0 := by omega
      refine Good.same hH (u := .slice none 0 0) ?_ rfl
      rw [e1, e2]
      rfl
  · cases h
end
end Go.VS
namespace Go.VS
open Go
section
variable {P : Program} {B : Base} {β : Beta} {H : Hp} {w w' : World} {b : Nat} {tm : Nat → Value} {ρ : Operand → AV} {η : Operand → Value} {kd : TypeId → Option K}
theorem On (hP : P = B.P) (hη : ∀ x, RX w β tm (ρ x) (η x)) (htm : ∀ g, η (.tmp g) = tm g) (hcv : ∀ v, η (.const v) = v) (hH : Hs B β H w) (hb : H b = none) {o : Oper} {q : Bool} {v : AV} {os : List Ob}
    (h : aM P kd ρ H b o.op = some (q, v, os)) (hq : q = true) : Good B β H w b v os ((execOp η o).run P w) := by
  generalize ho : o.op = op at h
  have run1 : ∀ {s : Sem Value}, (execOp η o = (do pure (.value (← s)) : Sem Next)) → (execOp η o).run P w = (s.run P w).andThen fun u w => .ok (.value u) w := by
    intro s e
    rw [e]
    simp only [Sem.run_bind]
    rfl
  cases op <;> try (simp [aM] at h; done)
  case move x =>
    obtain ⟨rfl, _, rfl, hg⟩ := mh h
    refine Good.same hH (u := η x) ?_ ((hη x).of hg)
    unfold execOp; rw [ho]; rfl
  case assign x =>
    obtain ⟨rfl, _, rfl, hg⟩ := mh h
    refine Good.same hH (u := η x) ?_ ((hη x).of hg)
    unfold execOp; rw [ho]; rfl
  case pick c x y => exact Oo hη htm hcv hH h hq ho
  case alloc t =>
    simp only [aM] at h
    split at h
    · rename_i n e hu
      cases hk : kd e with
      | none => rw [hk] at h; cases h
      | some k =>
        cases hz : nk P t with
        | none => rw [hk, hz] at h; cases h
        | some zs =>
          rw [hk, hz] at h
          simp only [Option.bind_some] at h
          split at h
          · rename_i hc
            simp only [Bool.and_eq_true] at hc
            cases h
            exact IL hP hH hb hz hc.1.1 (ak hc.1.2) (Nat.le_of_ble_eq_true hc.2) ho
          · cases h
    · cases hz : nk P t with
      | none => rw [hz] at h; cases h
      | some zs =>
        rw [hz] at h
        cases h
        exact Nf hH hb hz ho
  case box t x =>
    simp only [aM] at h
    cases hc : d6 (ρ x) with
    | none => rw [hc] at h; cases h
    | some cs =>
      rw [hc] at h
      cases h
      exact QH hη hH hb hc ho
  case build t ps =>
    simp only [aM] at h
    cases hz : nk P t with
    | none => rw [hz] at h; cases h
    | some zs =>
      rw [hz] at h
      simp only [Option.bind_some] at h
      split at h
      · rename_i fs hu
        split at h
        · rename_i ha
          cases hc : js P ρ t ps.toList zs with
          | none => rw [hc] at h; cases h
          | some cs =>
            rw [hc] at h
            obtain ⟨rfl, _, rfl⟩ := aH h
            exact Na hη hH hz hu ha hc ho
        · cases h
      · cases h
  case buildSlice t len ps =>
    simp only [aM] at h
    cases he : bW P t with
    | none => rw [he] at h; cases h
    | some e =>
      rw [he] at h
      simp only [Option.bind_some] at h
      cases hk : kd e with
      | none => rw [hk] at h; cases h
      | some k =>
        rw [hk] at h
        simp only [Option.bind_some] at h
        cases hp : i7 ρ 0 ps.toList with
        | none => rw [hp] at h; cases h
        | some vs =>
          rw [hp] at h
          simp only [Option.bind_some] at h
          cases hd : nc k vs with
          | none => rw [hd] at h; cases h
          | some xs =>
            rw [hd] at h
            simp only [Option.bind_some] at h
            split at h
            · rename_i hc
              simp only [Bool.and_eq_true] at hc
              cases h
              exact D3 hη hH hb he hp hd (ak hc.1.1.1) (ak hc.1.1.2) (Nat.le_of_ble_eq_true hc.1.2) hc.2 ho
            · cases h
  case load t p =>
    simp only [aM] at h
    cases hl : th P H t (ρ p) with
    | none => rw [hl] at h; cases h
    | some v' =>
      rw [hl] at h
      obtain ⟨rfl, _, rfl⟩ := aH h
      exact Rh hP hη hH hl ho
  case nilCheck p =>
    simp only [aM] at h
    split at h
    · rename_i hp
      obtain ⟨rfl, _, rfl⟩ := aH h
      exact wa hη hH (.inl ⟨_, _, _, _, rfl⟩) hp ho
    · rename_i hp
      obtain ⟨rfl, _, rfl⟩ := aH h
      exact wa hη hH (.inr ⟨_, _, _, rfl⟩) hp ho
    · cases h
  case binOp op t x y z =>
    refine Nb (t := t) (x := x) (y := y) hη hH h hq (run1 ?_)
    unfold execOp; rw [ho]
  case unOp op t x =>
    rw [run1 (by unfold execOp; rw [ho])]
    exact NU hη hH h
  case convert src dst x =>
    rw [run1 (by unfold execOp; rw [ho])]
    have hx := hη x
    have conv : (qp P src dst (ρ x) = some (q, v, os) ∧ ∀ i, v ≠ .own i) ∨ (∃ c i os', qp P src dst (ρ x) = some (c, .own i, os') ∧ (c, AV.own b, os') = (q, v, os)) ∨ ∃ e xs, P.underlying src = some (.slice e) ∧ P.underlying dst = some .string ∧ P.underlying e = some (.int .u8) ∧ cT H .u8 (ρ x) = some xs ∧ v = .s (HA xs) ∧ os = [] := by
      simp only [aM] at h
      split at h
      · rename_i e hs hd
        split at h
        · rename_i he
          cases hx : cT H .u8 (ρ x) with
          | none => rw [hx] at h; cases h
          | some xs =>
            rw [hx] at h
            obtain ⟨rfl, _, rfl⟩ := aH h
            exact .inr (.inr ⟨e, xs, hs, hd, he, rfl, rfl, rfl⟩)
        · cases h
      · split at h
        · rename_i c i os' hc
          exact .inr (.inl ⟨c, i, os', hc, Option.some.inj h⟩)
        · rename_i hno
          exact .inl ⟨h, fun i e => hno q i os (by rw [h, e])⟩
    have nogd : ∀ e xs, cT H .u8 (ρ x) = some xs → P.underlying src = some (.slice e) → ∀ g w y, ρ x ≠ .gd g w y := by
      intro e xs h1 h2 g w y h3
      rw [h3] at h1
      simp [cT] at h1
    have cA : ∀ q v os, qp P src dst (ρ x) = some (q, v, os) → q = true → (∀ i, v ≠ .own i) → Good B β H w b v os (((convert src dst (η x)).run P w).andThen fun u w => .ok (.value u) w) := by
      intro q v os h hq hn
      generalize ρ x = c at h hx
      unfold qp at h
      split at h
      · rename_i d k k' n hsrc hd
        obtain ⟨rfl, _, rfl⟩ := aH h
        rw [hx.lit]
        refine Good.same hH (u := .int k (k.wrap n)) ?_ rfl
        cases d <;> simp [convert, run_underlying hsrc, run_underlying hd, Conv.intToInt]
      · rename_i hs hd
        obtain ⟨rfl, _, rfl⟩ := aH h
        rw [hx.lit]
        refine Good.same hH (u := .string _) ?_ rfl
        simp [convert, run_underlying hs, run_underlying hd]
      · split at h
        · simp only [Option.some.injEq, Prod.mk.injEq] at h
          exact absurd h.2.1.symm (hn 0)
        · cases h
      · cases h
    rcases conv with ⟨h1, hno⟩ | ⟨c, i, os', h1, h2⟩ | ⟨e, xs, hs, hd, he, h1, rfl, rfl⟩
    · exact cA q v os h1 hq hno
    · cases h2
      subst hq
      generalize ρ x = c at h1 hx
      unfold qp at h1
      split at h1
      · cases h1
      · cases h1
      · rename_i e s hs hd
        split at h1
        · rename_i he
          simp only [Option.some.injEq, Prod.mk.injEq] at h1
          obtain ⟨hr, _, rfl⟩ := h1
          rw [hx.lit]
          exact M9 hH hb hs hd he hr
        · cases h1
      · cases h1
    · have hx2 : R2 w β (ρ x) (η x) := hx.of (nogd e xs h1 hs)
      refine Good.same hH (u := .string (HA xs)) ?_ rfl
      rw [Ol hs he hd (NM hH h1 hx2)]
      rfl
  case makeSlice t l c =>
    rw [run1 (by unfold execOp; rw [ho])]
    have mk : ∀ n, η l = .int .i64 n → η c = .int .i64 n → ((bW P t).bind fun e => (kd e).bind fun k =>
      match zok P e k && Nat.beq (P.cellsOf e) (ks k) && Nat.ble (P.bytesOf e) 256 with
      | true => some (decide (0 ≤ n) && decide (n ≤ 4294967296), AV.own b, [Ob.row e false k (List.replicate n.toNat (dfl k))])
      | false => none) = some (q, v, os) → Good B β H w b v os (((Instr.makeSlice t (η l) (η c)).run P w).andThen fun u w => .ok (.value u) w) := by
      intro n h1 h2 h
      cases he : bW P t with
      | none => rw [he] at h; cases h
      | some e =>
        rw [he] at h
        simp only [Option.bind_some] at h
        cases hk : kd e with
        | none => rw [hk] at h; cases h
        | some k =>
          rw [hk] at h
          simp only [Option.bind_some] at h
          split at h
          · rename_i hc
            simp only [Bool.and_eq_true] at hc
            simp only [Option.some.injEq, Prod.mk.injEq] at h
            obtain ⟨hr, rfl, rfl⟩ := h
            rw [hq] at hr
            simp only [Bool.and_eq_true, decide_eq_true_eq] at hr
            rw [h1, h2]
            exact OB hH hb he hc.1.1 (ak hc.1.2) (Nat.le_of_ble_eq_true hc.2) hr.1 hr.2
          · cases h
    have hl := hη l
    have hc := hη c
    simp only [aM] at h
    split at h
    · rename_i n hl' hsame
      rw [hl'] at hl
      split at hsame
      · obtain rfl := ak hsame
        exact mk n hl.lit hl.lit h
      · cases hsame
    · rename_i n m hl' hc' hsame
      rw [hl'] at hl
      rw [hc'] at hc
      split at h
      · rename_i hnm
        obtain rfl : n = m := by simpa using hnm
        exact mk n hl.lit hc.lit h
      · cases h
    · cases h
  case slice t x lo hi mx =>
    cases mx with
    | some m => simp [aM] at h
    | none =>
      rw [run1 (by unfold execOp; rw [ho])]
      simp only [aM] at h
      split at h
      · rename_i hf
        exact MA hη hH hf h hq
      · cases h
  case fieldAddr t x f =>
    simp only [aM] at h
    cases hf : gW P t f with
    | none => rw [hf] at h; cases h
    | some fd =>
      rw [hf] at h
      simp only [Option.bind_some] at h
      split at h
      · rename_i h1
        split at h
        · rename_i hp
          obtain ⟨rfl, _, rfl⟩ := aH h
          exact tQ hη hH hf (Nat.le_of_ble_eq_true h1) (.inl ⟨_, _, _, _, hp, rfl⟩) ho
        · rename_i hp
          obtain ⟨rfl, _, rfl⟩ := aH h
          exact tQ hη hH hf (Nat.le_of_ble_eq_true h1) (.inr ⟨_, _, _, hp, rfl⟩) ho
        · cases h
      · cases h
  case field t x f =>
    simp only [aM] at h
    cases hf : gW P t f with
    | none => rw [hf] at h; cases h
    | some fd =>
      rw [hf] at h
      simp only [Option.bind_some] at h
      split at h
      · rename_i cs hx
        cases hl : mN P fd.type cs fd.offset with
        | none => rw [hl] at h; cases h
        | some v' =>
          rw [hl] at h
          obtain ⟨rfl, _, rfl⟩ := aH h
          exact MV hη hH hf hx hl ho
      · cases h
  case indexAddr t x ix =>
    rw [run1 (by unfold execOp; rw [ho])]
    simp only [aM] at h
    split at h
    · rename_i hi
      exact F6 hP hη hH hi h hq
    · cases h
  case index t x ix =>
    rw [run1 (by unfold execOp; rw [ho])]
    simp only [aM] at h
    split at h
    · rename_i hi
      exact MQ hη hH hi h hq
    · cases h
  case extract x i =>
    simp only [aM] at h
    split at h
    · rename_i vs hx
      cases hv : vs[i]? with
      | none => rw [hv] at h; cases h
      | some v' =>
        rw [hv] at h
        obtain ⟨rfl, _, rfl⟩ := aH h
        exact Kr hη hH hx hv ho
    · cases h
  case call c =>
    have xlit : ∀ {x : Operand} {v : Value}, ρ x = .lit v → η x = v := fun {x v} e => by have := hη x; rw [e] at this; exact this.lit
    obtain ⟨cal, ⟨args⟩, ⟨tys⟩⟩ := c
    simp only [aM, sq] at h
    split at h
    · rename_i x t
      have run : ∀ n : Nat, (Builtin.len_ #[t] o.type #[η x]).run P w = .ok (.int .i64 n) w → Good B β H w b (.i n) [] ((execOp η o).run P w) := by
        intro n hn
        refine Good.same hH (u := .int .i64 n) ?_ rfl
        unfold execOp
        rw [ho]
        simp [resolve, invoke, builtin, hn]
      split at h
      · rename_i s hu hx
        obtain ⟨rfl, _, rfl⟩ := aH h
        refine run _ ?_
        rw [xlit hx]
        simp [Builtin.len_, run_underlying hu, goInt]
      · rename_i e k xs hu hx
        obtain ⟨rfl, _, rfl⟩ := aH h
        have h1 := hη x
        rw [hx] at h1
        have h2 : RC w β (.sl k xs) (η x) := h1
        obtain ⟨a, cap, hv, _⟩ := h2.slOK.len
        refine run _ ?_
        rw [hv, AZ hu]
      · rename_i e hu hx
        obtain ⟨rfl, _, rfl⟩ := aH h
        refine run 0 ?_
        rw [xlit hx, AZ hu]
      · rename_i e id hu hx
        split at h
        · rename_i e' fz k xs hid
          obtain ⟨rfl, _, rfl⟩ := aH h
          have h1 := hη x
          rw [hx] at h1
          have h2 : RC w β (.own id) (η x) := h1
          obtain ⟨hd, h3, h4⟩ := hH.objs id _ hid
          generalize hg : η x = g at h2 run
          cases h2 with
          | own h5 h6 =>
            rw [h3] at h5; cases h5
            obtain ⟨a, cap, hv, _⟩ := h4.cells.len
            refine run _ ?_
            rw [hv, AZ hu]
        · cases h
      · rename_i n e v hu
        obtain ⟨rfl, _, rfl⟩ := aH h
        refine run _ ?_
        simp [Builtin.len_, run_underlying hu, goInt]
      · cases h
    · rename_i x y
      split at h
      · rename_i k a k' c hx hy
        split at h
        · rename_i hk
          obtain rfl : k = k' := by simpa using hk
          obtain ⟨rfl, _, rfl⟩ := aH h
          refine Good.same hH (u := .int k (if c < a then c else a)) ?_ rfl
          unfold execOp
          rw [ho]
          simp [resolve, invoke, builtin, Builtin.min_, Builtin.min2, xlit hx, xlit hy]
        · cases h
      · cases h
    · rename_i x y
      split at h
      · rename_i k a k' c hx hy
        split at h
        · rename_i hk
          obtain rfl : k = k' := by simpa using hk
          obtain ⟨rfl, _, rfl⟩ := aH h
          refine Good.same hH (u := .int k (if a < c then c else a)) ?_ rfl
          unfold execOp
          rw [ho]
          simp [resolve, invoke, builtin, Builtin.max_, Builtin.max2, xlit hx, xlit hy]
        · cases h
      · cases h
    · cases h
end
end Go.VS
namespace Go.VS
open Go
section
variable {B : Base} {β β' : Beta} {stk : List (Array Value)} {s : S} {a : Act} {w w' : World}
theorem PL {cs : List Value} (h : cs.all Q8 = true) : ∀ v ∈ cs, v.oneCell' = true := fun v hv => by
  rw [← Nl]; exact List.all_eq_true.1 h v hv
theorem PM (v : Value) : R2 w β (ofV v) v := by
  unfold ofV
  split
  · rename_i cs
    split
    · rename_i h
      exact ⟨cs.toList, by simp, RL.lits _ (PL h)⟩
    · trivial
  · rfl
theorem St.eval (h : St B β stk s a w) (x : Operand) : RX w β (bA a) (s.ev x) (a.eval x) := by
  cases x with
  | tmp t => exact (h.T t).toRX
  | const v =>
    have := PM (w := w) (β := β) v
    show RX w β (bA a) (ofV v) v
    exact RT.toRX (RT.ofR2 this)
  | _ => trivial
theorem NN {l : List Nat} {t : Nat} (h : (l.any fun p => Nat.beq p t) = false) : t ∉ l := by
  intro hm
  have : (l.any fun p => Nat.beq p t) = true := List.any_eq_true.2 ⟨t, hm, by simp⟩
  rw [h] at this; cases this
theorem St.put (h : St B β stk s a w) {d : Option Nat} (hd : s.has d = true) {v : AV} {u : Value} (hv : RT w β (bA a) v u) (hg : ∀ g want x, v = .gd g want x → s.gs g = true) : St B β stk (s.put d v) (a.put d u) w := by
  cases d with
  | none => exact h
  | some d =>
    simp only [S.has, Bool.and_eq_true, Bool.not_eq_true'] at hd
    obtain ⟨⟨h1, h2⟩, h3⟩ := hd
    have hlt : d < a.tmps.size := by rw [h.n]; exact Nat.lt_of_lt_of_le (Nat.lt_succ_self d) (Nat.le_of_ble_eq_true h1)
    have hp := NN h2
    have hgs : s.gs d ≠ true := by rw [h3]; simp
    have tsame : bA (a.put (some d) u) d = u := by simp [bA, Act.put, hlt]
    have tne : ∀ t, t ≠ d → bA (a.put (some d) u) t = bA a t := fun t ht => by
      simp only [bA, Act.put, Array.getD_eq_getD_getElem?]
      rw [Array.getElem?_setIfInBounds_ne (fun e => ht e.symm)]
    have rt : ∀ x y, RT w β (bA a) x y → (∀ g want z, x = .gd g want z → s.gs g = true) → RT w β (bA (a.put (some d) u)) x y := by
      intro x y hx hx'
      cases x with
      | gd g want z =>
        have hne : g ≠ d := fun e => hgs (e ▸ hx' g want z rfl)
        refine ⟨fun e => hx.1 (by rwa [tne g hne] at e), fun e => hx.2 (by rwa [tne g hne] at e)⟩
      | _ => exact hx
    refine ⟨fun t => ?_, h.stack, ?_, h.defers, fun t ht => ?_, fun t g want x hx => ?_, h.hs⟩
    · show RT w β _ (upd s.T d v t) _
      by_cases e : t = d
      · subst e
        rw [ai, tsame]
        exact rt _ _ hv hg
      · rw [al _ _ e, tne t e]
        exact rt _ _ (h.T t) (h.gs t)
    · show (a.put (some d) u).tmps.size = s.n
      simpa [Act.put] using h.n
    · have hne : t ≠ d := fun e => hp (e ▸ ht)
      rw [tne t hne]
      exact h.pins t ht
    · have hx : upd s.T d v t = .gd g want x := hx
      by_cases e : t = d
      · subst e; rw [ai] at hx; exact hg _ _ _ hx
      · rw [al _ _ e] at hx; exact h.gs _ _ _ _ hx
theorem St.map {f : AV → AV} (h : St B β stk s a w) (hf : ∀ c, noRef c = true → f c = c) (hg : ∀ c g want x, f c = .gd g want x → ∃ y, c = .gd g want y) (hk : Kf f w β w' β') {H' : Hp} (hH : Hs B β' H' w') : St B β' stk { s.map f with H := H' } a w' := by
  have g1 : ∀ c g want x, ju f c = .gd g want x → ∃ y, c = .gd g want y := by
    intro c g want x e
    cases c <;> first | (cases e; done) | exact hg _ _ _ _ e
  have g2 : ∀ c g want x, j8 f c = .gd g want x → ∃ y, c = .gd g want y := by
    intro c g want x e
    cases c <;> first | (cases e; done) | exact g1 _ _ _ _ e
  have g3 : ∀ c g want x, nJ f c = .gd g want x → ∃ y, c = .gd g want y := by
    intro c g want x e
    cases c with
    | gd g' w' y => cases e; exact ⟨_, rfl⟩
    | _ => exact g2 _ _ _ _ e
  refine ⟨fun t => RT.map hf hk (h.T t), ⟨by simpa [S.map] using h.stack.1, fun i T tm h1 h2 t => ?_⟩, h.n, h.defers, h.pins, fun t g want x hx => ?_, hH⟩
  · simp only [S.map, List.getElem?_map, Option.map_eq_some_iff] at h1
    obtain ⟨T0, h3, rfl⟩ := h1
    exact RT.map hf hk (h.stack.2 i T0 tm h3 h2 t)
  · obtain ⟨y, hy⟩ := g3 _ _ _ _ hx
    exact h.gs _ _ _ _ hy
theorem tz (id : Nat) : ∀ c g want x, kl1 id c = .gd g want x → ∃ y, c = .gd g want y := by
  intro c g want x h
  unfold kl1 at h
  split at h
  · split at h <;> cases h
  · split at h <;> cases h
  · exact ⟨_, h⟩
theorem MU (id : Nat) (k : K) (xs : List (Tof k)) : ∀ c g want x, fz1 id k xs c = .gd g want x → ∃ y, c = .gd g want y := by
  intro c g want x h
  unfold fz1 at h
  split at h
  · split at h <;> cases h
  · split at h <;> cases h
  · exact ⟨_, h⟩
theorem St.kill (h : St B β stk s a w) (id : Nat) : ∃ β', St B β' stk (s.kill id) a w ∧ Kf (kl1 id) w β w β' := by
  obtain ⟨β', h1, h2⟩ := h.hs.kill id
  exact ⟨β', h.map (bh id) (tz id) h2 h1, h2⟩
theorem St.freeze (h : St B β stk s a w) (id : Nat) : ∃ β', St B β' stk (s.freeze id) a w ∧ (∀ c v, noRef c = true → RC w β c v → RC w β' c v) ∧
    ∀ e fz k xs v, s.H id = some (.row e fz k xs) → RC w β (.own id) v → RC w β' (.sl k xs) v := by
  unfold S.freeze
  cases hid : s.H id with
  | none =>
    obtain ⟨β', h1, h2⟩ := h.kill id
    exact ⟨β', h1, fun c v hc hv => by have := h2 c v hv; rwa [bh id c hc] at this, fun e fz k xs v hh => by cases hh⟩
  | some ob =>
    cases ob with
    | row e fz k xs =>
      obtain ⟨β', h1, h2⟩ := h.hs.freeze hid
      refine ⟨β', h.map (p6 id k xs) (MU id k xs) h2 h1, fun c v hc hv => by have := h2 c v hv; rwa [p6 id k xs c hc] at this, ?_⟩
      intro e' fz' k' xs' v hh hv
      cases hh
      have := h2 _ v hv
      simpa [fz1] using this
    | box e cs =>
      obtain ⟨β', h1, h2⟩ := h.kill id
      exact ⟨β', h1, fun c v hc hv => by have := h2 c v hv; rwa [bh id c hc] at this, fun e fz k xs v hh => by cases hh⟩
    | arr e k xs =>
      obtain ⟨β', h1, h2⟩ := h.kill id
      exact ⟨β', h1, fun c v hc hv => by have := h2 c v hv; rwa [bh id c hc] at this, fun e fz k xs v hh => by cases hh⟩
theorem St.keep (h : St B β stk s a w) (hk : Kp w β w' β') {H' : Hp} (hH : Hs B β' H' w') : St B β' stk { s with H := H' } a w' :=
  ⟨fun t => RT.mono hk (h.T t), ⟨h.stack.1, fun i T tm h1 h2 t => RT.mono hk (h.stack.2 i T tm h1 h2 t)⟩, h.n, h.defers, h.pins, h.gs, hH⟩
end
end Go.VS
namespace Go.VS
open Go
section
variable {P : Program} {B : Base} {β β' : Beta} {H : Hp} {stk : List (Array Value)} {s : S} {a : Act} {w w' : World}
theorem LM {o n : Nat} {cs : List AV} (h : Qg o n cs = true) : o + n ≤ cs.length ∧ (o = 0 → nop (cs.headD (.lit (.bool false))) = true) := by
  unfold Qg at h
  simp only [Bool.and_eq_true, Bool.or_eq_true] at h
  exact ⟨Nat.le_of_ble_eq_true h.1, fun e => h.2.resolve_left fun h1 => by have := Nat.le_of_ble_eq_true h1; omega⟩
theorem Pg {e : TypeId} {k : K} (h : zok P e k = true) : E4 P e = false := by
  unfold zok at h
  unfold E4
  split at h
  · rename_i zs hz
    rw [hz]
    cases zs with
    | nil => rfl
    | cons c zs =>
      cases hk : enc k (dfl k) with
      | nil => rw [hk] at h; cases h
      | cons d ds =>
        rw [hk] at h
        simp only [JD, Bool.and_eq_true] at h
        cases c <;> first | rfl | skip
        rename_i v
        cases v <;> first | rfl | skip
        rename_i q
        cases q <;> first | rfl | skip
        have h1 := h.1
        simp [QU] at h1
  · cases h
theorem PQ {c : AV} {v : Value} (hn : nop c = true) (h : RC w β c v) : ∀ a, v ≠ .pointer (some a) := by
  rintro a rfl
  cases h with
  | un => cases hn
  | lit => cases hn
  | own _ hs => cases hs
  | ptr => cases hn
  | ipt => cases hn
theorem Ry : ∀ (k : K) (x : Tof k), (enc k x).all nop = true := by
  intro k x; cases k <;> rfl
theorem Pk.setRow {g : Nat} {us cs : Array Value} {e : TypeId} {fr : Nat × Nat} (hg : w.heap[g]? = some (.cells us e fr)) (h : E4 P e = true → ∀ a, us[0]? = some (.pointer (some a)) → cs[0]? = some (.pointer (some a))) : Pk P w (w.setRow g cs) := by
  intro b us' e' fr' a h1 h2 h3
  by_cases hb : b = g
  · subst hb
    rw [hg] at h1
    cases h1
    exact ⟨cs, _, setRow_heap w b us cs e _ hg, h h3 a h2⟩
  · exact ⟨us', fr', by rw [setRow_other w g b cs hb]; exact h1, h2⟩
theorem yz {l ys : List Value} {p : Nat} (h : p + ys.length ≤ l.length) {v : Value} (hv : l[0]? = some v) (h0 : p = 0 → ys ≠ [] → False) : ((l.take p ++ ys ++ l.drop (p + ys.length)).toArray)[0]? = some v := by
  rw [List.getElem?_toArray]
  by_cases hy : ys = []
  · subst hy; simpa using hv
  · have hp : 0 < p := Nat.pos_of_ne_zero fun e => h0 e hy
    rw [List.append_assoc, List.getElem?_append_left (by
      have := (List.getElem?_eq_some_iff.1 hv).1
      simp; omega), List.getElem?_take, if_pos hp]
    exact hv
theorem EN {k : K} {us : Array Value} {f : Nat} {xs : List (Tof k)} (hr : ∀ i x j c u, xs[i]? = some x → (enc k x)[j]? = some c → us[f + (i * ks k + j)]? = some u → RC w β c u) (hx : xs ≠ []) (hf : f = 0) {a : Addr} (hu : us[0]? = some (.pointer (some a))) : False := by
  subst hf
  obtain ⟨x, l, rfl⟩ := List.exists_cons_of_ne_nil hx
  have hk := jg k
  rw [← az k x] at hk
  have hc := hr 0 x 0 _ _ rfl (List.getElem?_eq_getElem hk) (by simpa using hu)
  exact PQ (List.all_eq_true.1 (Ry k x) _ (List.getElem_mem hk)) hc a rfl
theorem Hs.setRow (h : Hs B β H w) {id : Nat} {hd : Value} {n g o : Nat} (hβ : β id = some (hd, n)) (ha : adr hd = some ⟨g, o, none⟩) (cs : Array Value) (ob : Ob)
    (hob : Kp w β (w.setRow g cs) β → ObOK B.P (w.setRow g cs) β id ob) (hpk : Pk B.P w (w.setRow g cs)) : Hs B β (upd H id (some ob)) (w.setRow g cs) ∧ Kp w β (w.setRow g cs) β := by
  have hm : MB β g := ⟨id, hd, n, _, hβ, ha, rfl⟩
  have hk : Kp w β (w.setRow g cs) β := fun c v x => RC.mono (fun _ _ h => h) (fun b o v hb hc => by
    have hne : b ≠ g := fun e => hb (.inl (e ▸ hm))
    rw [cell_setRow_other w g cs _ hne]; exact hc) (fun _ h _ => h) x
  have h1 := h.turn (w' := w.setRow g cs) (β' := β) (f := fun c => c) (fun _ _ => rfl) hk (id := id) (ob := some ob) (fun _ _ => rfl)
    (.inr ⟨ob, hd, n, rfl, hβ, hob hk, fun a h => .inl ⟨_, a, hβ, h, rfl⟩⟩)
    (fun j p a' e hj h2 => setRow_other w g _ cs (fun e' => e (h.inj _ _ _ _ _ _ hj hβ h2 ha e'))) rfl rfl rfl (by simp)
    (fun b hb hO => setRow_other w g b cs (fun e => by
      subst e
      rcases (h.old b hm).1 with h3 | h3
      · exact hO h3
      · omega)) rfl hpk
  rw [show (fun j => cY (fun c => c) (H j)) = H from funext fun j => Nq _ (fun _ => rfl) _] at h1
  exact ⟨h1, hk⟩
theorem Ed {α : Type} (l : List α) (p : Nat) (ys : List α) (h : p + ys.length ≤ l.length) (q : Nat) :
    (l.take p ++ ys ++ l.drop (p + ys.length))[q]? = if p ≤ q ∧ q < p + ys.length then ys[q - p]? else l[q]? := by
  have ht : (l.take p).length = p := by simp; omega
  by_cases h1 : q < p
  · rw [if_neg (by omega), List.append_assoc, List.getElem?_append_left (by omega), List.getElem?_take, if_pos h1]
  · by_cases h2 : q < p + ys.length
    · rw [if_pos ⟨by omega, h2⟩, List.append_assoc, List.getElem?_append_right (by omega), ht, List.getElem?_append_left (by omega)]
    · rw [if_neg (by omega), List.getElem?_append_right (by simp; omega), List.getElem?_drop]
      congr 1
      simp only [List.length_append, ht]
      omega
theorem qK {t : TypeId} {v : Value} {g o : Nat} {e : TypeId} {fr : Nat × Nat} {cur : Array Value} (h1 : 1 ≤ P.cellsOf t) (hs : v.cells.size = P.cellsOf t) (hg : w.heap[g]? = some (.cells cur e fr)) (hl : o + v.cells.size ≤ cur.size)
    (hfr : fr = (0, 0) ∨ cur.size ≤ fr.1) (hone : ∀ u ∈ v.cells.toList, u.oneCell' = true) :
    (Instr.storeAt t (.pointer (some ⟨g, o, none⟩)) v).run P w = .ok () (w.setRow g (cur.toList.take o ++ v.cells.toList ++ cur.toList.drop (o + v.cells.size)).toArray) := by
  have := qJ (P := P) g o e fr v.cells.toList 0 cur w hg (by simpa using hl) hfr hone
  simp only [Nat.add_zero, Array.length_toList] at this
  simp only [Instr.storeAt, Instr.sureAddr, storeVar, Sem.run_bind, Sem.run_pure, Result.andThen_ok, fq h1, hs, ne_eq, not_true_eq_false, if_false]
  rw [hs] at this
  exact this
theorem N8 (hP : P = B.P) (h : St B β stk s a w) {t : TypeId} {p x : Operand} {id z o : Nat} {e : TypeId} {cs ys : List AV} (hp : s.ev p = .ptr id z 0 o) (hid : s.H id = some (.box e cs)) (hx : d6 (s.ev x) = some ys)
    (hy : ys.length = P.cellsOf t) (h1 : 1 ≤ P.cellsOf t) (hl : o + ys.length ≤ cs.length) (h0 : o = 0 → nop (cs.headD (.lit (.bool false))) = true) :
    ∃ w' β', (Instr.storeAt t (a.eval p) (a.eval x)).run P w = .ok () w' ∧ St B β' stk (s.setH id (some (.box e (eT cs o ys)))) a w' := by
  have hp' := h.eval p
  rw [hp] at hp'
  have hp' : RC w β (.ptr id z 0 o) (a.eval p) := hp'
  have hr := lF hx (h.eval x)
  have hys : (a.eval x).cells.size = ys.length := by have := hr.1; simpa using this
  obtain ⟨b', us, k1, k2, k3⟩ := h.hs.objs id _ hid
  have hcs : us.size = cs.length := by have := k3.1; simpa using this
  generalize hg : a.eval p = vp at hp'
  cases hp' with
  | @ptr _ _ _ _ hd n bb f hβ ha hi =>
    rw [k1] at hβ
    cases hβ
    cases ha
    have hrun := qK (P := P) (w := w) (v := a.eval x) (o := o) h1 (by rw [hys, hy]) k2 (by omega) (.inl rfl) hr.one
    refine ⟨_, β, by rw [show (0 : Nat) + (0 * z + o) = o by omega]; exact hrun, ?_⟩
    obtain ⟨g1, g2⟩ := h.hs.setRow (hpk := Pk.setRow k2 fun _ a' hu => by
      have hus : us.toList.length = us.size := Array.length_toList
      refine yz (ys := (a.eval x).cells.toList) (by simp; omega) (by simpa using hu) fun e1 _ => ?_
      cases cs with
      | nil => simp at hcs; simp [hcs] at hu
      | cons c cs => exact PQ (h0 e1) (k3.2 0 c _ rfl (by simpa using hu)) a' rfl) k1 rfl (us.toList.take o ++ (a.eval x).cells.toList ++ us.toList.drop (o + (a.eval x).cells.size)).toArray (.box e (eT cs o ys)) (fun hk => by
      refine ⟨b', _, k1, setRow_heap w b' us _ e _ k2, ?_⟩
      rw [List.toList_toArray]
      unfold eT
      rw [← hys]
      exact (((k3.take _).append hr).append (k3.drop _)).mono hk)
    exact h.keep g2 g1
theorem Gn {k : K} {us : List Value} {f : Nat} {xs : List (Tof k)} {i o : Nat} {y : Tof k} {ys : List AV} {vs : List Value} (hi : i < xs.length) (hsz : f + xs.length * ks k ≤ us.length)
    (hr : ∀ i x j c u, xs[i]? = some x → (enc k x)[j]? = some c → us[f + (i * ks k + j)]? = some u → RC w β c u) (hv : vs.length = ys.length) (ho : o + ys.length ≤ ks k)
    (hy : ∀ us0, RL (RC w β) (enc k (xs.getD i (dfl k))) us0 → RL (RC w β) (enc k y) (us0.take o ++ vs ++ us0.drop (o + vs.length))) :
    ∀ i' x j c u, (xs.set i y)[i']? = some x → (enc k x)[j]? = some c → (us.take (f + (i * ks k + o)) ++ vs ++ us.drop (f + (i * ks k + o) + vs.length))[f + (i' * ks k + j)]? = some u → RC w β c u := by
  intro i' x j c u h1 h2 h3
  have hj : j < ks k := by rw [← az k x]; exact (List.getElem?_eq_some_iff.1 h2).1
  have hi' : i' < xs.length := by have := (List.getElem?_eq_some_iff.1 h1).1; simpa using this
  have e1 : (i + 1) * ks k ≤ xs.length * ks k := Nat.mul_le_mul_right _ hi
  rw [Nat.add_mul, Nat.one_mul] at e1
  have hlen := hv
  rw [Ed _ _ _ (by omega)] at h3
  by_cases e : i' = i
  · subst e
    have hx : x = y := by
      rw [List.getElem?_set_self hi] at h1
      exact (Option.some.inj h1).symm
    subst hx
    have hold : RL (RC w β) (enc k (xs.getD i' (dfl k))) ((us.drop (f + i' * ks k)).take (ks k)) := by
      refine ⟨by simp [az]; omega, fun j' c' u' g1 g2 => hr i' _ j' c' u' (getD_some hi) g1 ?_⟩
      have hj' : j' < ks k := by rw [← az k (xs.getD i' (dfl k))]; exact (List.getElem?_eq_some_iff.1 g1).1
      rw [List.getElem?_take, if_pos hj', List.getElem?_drop, Nat.add_assoc] at g2
      exact g2
    have hnew := hy _ hold
    refine hnew.2 j c u h2 ?_
    rw [Ed _ _ _ (by simp; omega)]
    by_cases g : o ≤ j ∧ j < o + vs.length
    · rw [if_pos g]
      rw [if_pos (by omega)] at h3
      rw [← h3]
      congr 1
      omega
    · rw [if_neg g, List.getElem?_take, if_pos hj, List.getElem?_drop]
      rw [if_neg (by omega)] at h3
      rw [← h3]
      congr 1
      omega
  · have hx : xs[i']? = some x := by
      rw [List.getElem?_set_ne (fun q => e q.symm)] at h1; exact h1
    refine hr i' x j c u hx h2 ?_
    rw [if_neg] at h3
    · exact h3
    · rcases Nat.lt_or_gt_of_ne e with g | g
      · have : (i' + 1) * ks k ≤ i * ks k := Nat.mul_le_mul_right _ g
        rw [Nat.add_mul, Nat.one_mul] at this
        omega
      · have : (i + 1) * ks k ≤ i' * ks k := Nat.mul_le_mul_right _ g
        rw [Nat.add_mul, Nat.one_mul] at this
        omega
theorem Mr (h : St B β stk s a w) {t : TypeId} {p : Operand} {id i o : Nat} {e : TypeId} {fz : Bool} {k : K} {xs : List (Tof k)} {ys : List AV} {vs : Value} (hp : RC w β (.ptr id (ks k) i o) (a.eval p)) (hid : s.H id = some (.row e fz k xs))
    (hys : vs.cells.size = ys.length) (hone : ∀ u ∈ vs.cells.toList, u.oneCell' = true) (hy : ys.length = P.cellsOf t) (h1 : 1 ≤ P.cellsOf t) (hl : o + ys.length ≤ ks k) {y : Tof k} (hd : ∀ us0, RL (RC w β) (enc k (xs.getD i (dfl k))) us0 → RL (RC w β) (enc k y) (us0.take o ++ vs.cells.toList ++ us0.drop (o + vs.cells.toList.length))) :
    ∃ w', (Instr.storeAt t (a.eval p) vs).run P w = .ok () w' ∧ St B β stk (s.setH id (some (.row e fz k (xs.set i y)))) a w' := by
  obtain ⟨hd', k1, k2⟩ := h.hs.objs id _ hid
  generalize hg : a.eval p = vp at hp
  cases hp with
  | @ptr _ _ _ _ hdd n bb f hβ ha hi =>
    rw [k1] at hβ
    cases hβ
    rcases k2 with ⟨rfl, rfl⟩ | ⟨b', f', cap, us, fr, hslice, hh, hfr, hn, hc, hsz, hcell⟩
    · cases ha
    · subst hslice
      have ha' : (⟨b', f', none⟩ : Addr) = ⟨bb, f, none⟩ := Option.some.inj ha
      obtain ⟨rfl, rfl⟩ : b' = bb ∧ f' = f := by simpa using ha'
      have hxc : xs.length * ks k ≤ cap * ks k := Nat.mul_le_mul_right _ hn
      have hic : (i + 1) * ks k ≤ xs.length * ks k := Nat.mul_le_mul_right _ hi
      rw [Nat.add_mul, Nat.one_mul] at hic
      have hfr' : fr = (0, 0) ∨ us.size ≤ fr.1 := by
        subst hfr
        cases fz
        · exact .inl rfl
        · exact .inr (Nat.le_refl _)
      have hrun := qK (P := P) (w := w) (v := vs) (o := f' + (i * ks k + o)) h1 (by rw [hys, hy]) hh (by omega) hfr' hone
      refine ⟨_, hrun, ?_⟩
      obtain ⟨g1, g2⟩ := h.hs.setRow (hpk := Pk.setRow hh fun _ a' hu => by
        have hus : us.toList.length = us.size := Array.length_toList
        exact yz (ys := vs.cells.toList) (by simp; omega) (by simpa using hu) fun e1 _ => EN hcell (fun e2 => by subst e2; simp at hi) (by omega) hu) k1 rfl (us.toList.take (f' + (i * ks k + o)) ++ vs.cells.toList ++ us.toList.drop (f' + (i * ks k + o) + vs.cells.size)).toArray (.row e fz k (xs.set i y)) (fun hk => by
        have hsize : (us.toList.take (f' + (i * ks k + o)) ++ vs.cells.toList ++ us.toList.drop (f' + (i * ks k + o) + vs.cells.size)).toArray.size = us.size := by
          simp only [List.size_toArray, List.length_append, List.length_take, List.length_drop, Array.length_toList]
          omega
        refine ⟨_, by simpa using k1, .inr ⟨b', f', cap, _, fr, by simp, setRow_heap w b' us _ e _ hh, ?_, by simpa using hn, hc, by rw [hsize]; exact hsz, ?_⟩⟩
        · rw [hsize]; exact hfr
        · intro i' x' j c u q1 q2 q3
          have q3' : (us.toList.take (f' + (i * ks k + o)) ++ vs.cells.toList ++ us.toList.drop (f' + (i * ks k + o) + vs.cells.toList.length))[f' + (i' * ks k + j)]? = some u := by simpa using q3
          exact hk _ _ (Gn hi (by simp; omega) (fun i x j c u a1 a2 a3 => hcell i x j c u a1 a2 (by simpa using a3)) (by simpa using hys) hl hd i' x' j c u q1 q2 q3'))
      exact h.keep g2 g1
theorem N9 (h : St B β stk s a w) {t : TypeId} {p : Operand} {id i o : Nat} {e : TypeId} {k : K} {xs : List (Tof k)} {ys : List AV} {vs : Value} (hp : RC w β (.ptr id (ks k) i o) (a.eval p)) (hid : s.H id = some (.arr e k xs))
    (hys : vs.cells.size = ys.length) (hone : ∀ u ∈ vs.cells.toList, u.oneCell' = true) (hy : ys.length = P.cellsOf t) (h1 : 1 ≤ P.cellsOf t) (hl : o + ys.length ≤ ks k) {y : Tof k} (hd : ∀ us0, RL (RC w β) (enc k (xs.getD i (dfl k))) us0 → RL (RC w β) (enc k y) (us0.take o ++ vs.cells.toList ++ us0.drop (o + vs.cells.toList.length))) :
    ∃ w', (Instr.storeAt t (a.eval p) vs).run P w = .ok () w' ∧ St B β stk (s.setH id (some (.arr e k (xs.set i y)))) a w' := by
  obtain ⟨b', us, k1, hh, hsz, hce, hcell⟩ := h.hs.objs id _ hid
  generalize hg : a.eval p = vp at hp
  cases hp with
  | @ptr _ _ _ _ hdd n bb f hβ ha hi =>
    rw [k1] at hβ
    cases hβ
    cases ha
    have hic : (i + 1) * ks k ≤ xs.length * ks k := Nat.mul_le_mul_right _ hi
    rw [Nat.add_mul, Nat.one_mul] at hic
    have hrun := qK (P := P) (w := w) (v := vs) (o := 0 + (i * ks k + o)) h1 (by rw [hys, hy]) hh (by omega) (.inl rfl) hone
    refine ⟨_, hrun, ?_⟩
    obtain ⟨g1, g2⟩ := h.hs.setRow (hpk := Pk.setRow hh fun _ a' hu => by
      have hus : us.toList.length = us.size := Array.length_toList
      exact yz (ys := vs.cells.toList) (by simp; omega) (by simpa using hu) fun e1 _ => EN (f := 0) (xs := xs) (fun i x j c u a1 a2 a3 => hcell i x j c u a1 a2 (by simpa using a3)) (fun e2 => by subst e2; simp at hi) rfl hu) k1 rfl (us.toList.take (0 + (i * ks k + o)) ++ vs.cells.toList ++ us.toList.drop (0 + (i * ks k + o) + vs.cells.size)).toArray (.arr e k (xs.set i y)) (fun hk => by
      have hsize : (us.toList.take (0 + (i * ks k + o)) ++ vs.cells.toList ++ us.toList.drop (0 + (i * ks k + o) + vs.cells.size)).toArray.size = us.size := by
        simp only [List.size_toArray, List.length_append, List.length_take, List.length_drop, Array.length_toList]
        omega
      refine ⟨b', _, by simpa using k1, setRow_heap w b' us _ e _ hh, by rw [hsize]; simpa using hsz, by rw [hsize]; exact hce, ?_⟩
      intro i' x' j c u q1 q2 q3
      have q3' : (us.toList.take (0 + (i * ks k + o)) ++ vs.cells.toList ++ us.toList.drop (0 + (i * ks k + o) + vs.cells.toList.length))[0 + (i' * ks k + j)]? = some u := by simpa using q3
      exact hk _ _ (Gn hi (by simp; omega) (fun i x j c u a1 a2 a3 => hcell i x j c u a1 a2 (by simpa using a3)) (by simpa using hys) hl hd i' x' j c u q1 q2 q3'))
    exact h.keep g2 g1
end
end Go.VS
namespace Go.VS
open Go
section
variable {P : Program} {B : Base} {β β' : Beta} {H : Hp} {stk : List (Array Value)} {s : S} {a : Act} {w w' : World}
structure Frozen (w : World) (H : Hp) (β β' : Beta) (H' : Hp) (ids : List Nat) : Prop where
  imm : ∀ c v, noRef c = true → RC w β c v → RC w β' c v
  own : ∀ j v, j ∉ ids → RC w β (.own j) v → RC w β' (.own j) v
  ptr : ∀ j z i o v, j ∉ ids → RC w β (.ptr j z i o) v → RC w β' (.ptr j z i o) v
  fr : ∀ j v e fz k xs, j ∈ ids → H j = some (.row e fz k xs) → RC w β (.own j) v → RC w β' (.sl k xs) v
  row : ∀ j e fz k xs, j ∉ ids → H j = some (.row e fz k xs) → H' j = some (.row e fz k xs)
  arr : ∀ j e k xs, j ∉ ids → H j = some (.arr e k xs) → H' j = some (.arr e k xs)
  non : ∀ j, H j = none → H' j = none
theorem St.freeze' (h : St B β stk s a w) (id : Nat) : ∃ β', St B β' stk (s.freeze id) a w ∧ Frozen w s.H β β' (s.freeze id).H [id] := by
  have gen : ∀ f : AV → AV, (∀ c, noRef c = true → f c = c) → (∀ j, j ≠ id → f (.own j) = .own j) → (∀ j z i o, j ≠ id → f (.ptr j z i o) = .ptr j z i o) → (∀ e fz k xs, s.H id = some (.row e fz k xs) → f (.own id) = .sl k xs) →
      (∀ c g want x, f c = .gd g want x → ∃ y, c = .gd g want y) → ∀ β', Hs B β' (upd (fun j => cY f (s.H j)) id none) w → Kf f w β w β' → s.freeze id = { s.map f with H := upd (fun j => cY f (s.H j)) id none } →
      ∃ β', St B β' stk (s.freeze id) a w ∧ Frozen w s.H β β' (s.freeze id).H [id] := by
    intro f h1 h2 h3 h4 h5 β' h6 h7 h8
    refine ⟨β', by rw [h8]; exact h.map h1 h5 h7 h6, ?_⟩
    rw [h8]
    refine ⟨fun c v hc hv => by have := h7 c v hv; rwa [h1 c hc] at this, fun j v hj hv => by have := h7 _ v hv; rwa [h2 j (by simpa using hj)] at this,
      fun j z i o v hj hv => by have := h7 _ v hv; rwa [h3 j z i o (by simpa using hj)] at this, fun j v e fz k xs hj hh hv => ?_, fun j e fz k xs hj hh => ?_, fun j e k xs hj hh => ?_, fun j hh => ?_⟩
    · obtain rfl : j = id := by simpa using hj
      have := h7 _ v hv
      rwa [h4 e fz k xs hh] at this
    · show upd (fun j => cY f (s.H j)) id none j = _
      rw [al _ _ (by simpa using hj), hh]
      rfl
    · show upd (fun j => cY f (s.H j)) id none j = _
      rw [al _ _ (by simpa using hj), hh]
      rfl
    · show upd (fun j => cY f (s.H j)) id none j = _
      by_cases e : j = id
      · subst e; rw [ai]
      · rw [al _ _ e, hh]; rfl
  have kl : ∀ j, j ≠ id → Nat.beq j id = false := fun j hj => by rw [← Bool.not_eq_true, Nat.beq_eq]; exact hj
  cases hid : s.H id with
  | none =>
    obtain ⟨β', h1, h2⟩ := h.hs.kill id
    exact gen (kl1 id) (bh id) (fun j hj => by simp [kl1, kl j hj]) (fun j z i o hj => by simp [kl1, kl j hj]) (fun e fz k xs hh => by rw [hid] at hh; cases hh) (tz id) β' h1 h2 (by simp only [S.freeze, hid]; rfl)
  | some ob =>
    cases ob with
    | row e fz k xs =>
      obtain ⟨β', h1, h2⟩ := h.hs.freeze hid
      exact gen (fz1 id k xs) (p6 id k xs) (fun j hj => by simp [fz1, kl j hj]) (fun j z i o hj => by simp [fz1, kl j hj]) (fun e fz k xs hh => by rw [hid] at hh; cases hh; simp [fz1]) (MU id k xs) β' h1 h2 (by simp only [S.freeze, hid]; rfl)
    | box e cs =>
      obtain ⟨β', h1, h2⟩ := h.hs.kill id
      exact gen (kl1 id) (bh id) (fun j hj => by simp [kl1, kl j hj]) (fun j z i o hj => by simp [kl1, kl j hj]) (fun e fz k xs hh => by rw [hid] at hh; cases hh) (tz id) β' h1 h2 (by simp only [S.freeze, hid]; rfl)
    | arr e k xs =>
      obtain ⟨β', h1, h2⟩ := h.hs.kill id
      exact gen (kl1 id) (bh id) (fun j hj => by simp [kl1, kl j hj]) (fun j z i o hj => by simp [kl1, kl j hj]) (fun e fz k xs hh => by rw [hid] at hh; cases hh) (tz id) β' h1 h2 (by simp only [S.freeze, hid]; rfl)
theorem Frozen.nil : Frozen w H β β H [] :=
  ⟨fun _ _ _ h => h, fun _ _ _ h => h, fun _ _ _ _ _ _ h => h, fun _ _ _ _ _ _ h => by simp at h, fun _ _ _ _ _ _ h => h, fun _ _ _ _ _ h => h, fun _ h => h⟩
theorem Frozen.cons {β'' : Beta} {H' H'' : Hp} {i : Nat} {ids : List Nat} (h : Frozen w H β β' H' [i]) (k : Frozen w H' β' β'' H'' ids) : Frozen w H β β'' H'' (i :: ids) := by
  refine ⟨fun c v hc hv => k.imm c v hc (h.imm c v hc hv), fun j v hj hv => k.own j v (fun e => hj (by simp [e])) (h.own j v (fun e => hj (by simp at e; simp [e])) hv),
    fun j z i o v hj hv => k.ptr j z i o v (fun e => hj (by simp [e])) (h.ptr j z i o v (fun e => hj (by simp at e; simp [e])) hv), fun j v e fz kk xs hj hh hv => ?_,
    fun j e fz kk xs hj hh => k.row j e fz kk xs (fun e => hj (by simp [e])) (h.row j e fz kk xs (fun e => hj (by simp at e; simp [e])) hh),
    fun j e kk xs hj hh => k.arr j e kk xs (fun e => hj (by simp [e])) (h.arr j e kk xs (fun e => hj (by simp at e; simp [e])) hh), fun j hh => k.non j (h.non j hh)⟩
  by_cases e1 : j = i
  · exact k.imm _ _ rfl (h.fr j v e fz kk xs (by simp [e1]) hh hv)
  · have h1 : j ∉ [i] := by simpa using e1
    have h2 : j ∈ ids := by simpa [e1] using hj
    exact k.fr j v e fz kk xs h2 (h.row j e fz kk xs h1 hh) (h.own j v h1 hv)
theorem St.freezes : ∀ (ids : List Nat) {s : S} {β : Beta}, St B β stk s a w → ∃ β', St B β' stk (ids.foldl S.freeze s) a w ∧ Frozen w s.H β β' (ids.foldl S.freeze s).H ids
  | [], s, β, h => ⟨β, h, Frozen.nil⟩
  | i :: ids, s, β, h => by
    obtain ⟨β1, h1, h2⟩ := h.freeze' i
    obtain ⟨β2, h3, h4⟩ := St.freezes ids h1
    exact ⟨β2, h3, h2.cons h4⟩
def Q (H : Hp) (w : World) (β : Beta) (c : AV) (u : Value) : Prop := (∀ v, c = .lit v → RC w β c u) ∧ ∀ k l, cT H k c = some l → RC w β (.sl k l) u
theorem Q.lit {v u : Value} (h : Q H w β (.lit v) u) : RC w β (.lit v) u := h.1 v rfl
def Sy : AV → Bool
  | .lit _ => true
  | _ => false
theorem Q.all {cs : List AV} {us : List Value} (hl : RL (Q H w β) cs us) (h : cs.all Sy = true) : RL (RC w β) cs us := by
  refine ⟨hl.1, fun j c u h1 h2 => ?_⟩
  have h3 := List.all_eq_true.1 h c (List.mem_of_getElem? h1)
  cases c <;> first | cases h3 | skip
  exact (hl.2 j _ u h1 h2).lit
theorem Qw {k : K} {cs : List AV} {x : Tof k} (h : dec H k cs = some x) {us : List Value} (hl : RL (Q H w β) cs us) : RL (RC w β) (enc k x) us := by
  unfold dec at h
  split at h <;> try (cases h; done)
  all_goals try (cases h; exact Q.all hl rfl)
  · rename_i x'
    cases hx : cT H K.mixed x' with
    | none => rw [hx] at h; cases h
    | some l =>
      rw [hx] at h; cases h
      obtain ⟨u1, _, rfl, g1, hl⟩ := hl.uncons
      obtain ⟨u2, _, rfl, g2, hl⟩ := hl.uncons
      obtain ⟨u3, _, rfl, g3, hl⟩ := hl.uncons
      obtain ⟨u4, _, rfl, g4, hl⟩ := hl.uncons
      obtain ⟨u5, _, rfl, g5, hl⟩ := hl.uncons
      obtain ⟨u6, _, rfl, g6, hl⟩ := hl.uncons
      rw [hl.of_nil]
      exact .cons g1.lit (.cons g2.lit (.cons g3.lit (.cons g4.lit (.cons g5.lit (.cons (g6.2 _ _ hx) .nil)))))
  · rename_i x' y' z'
    cases hx : cT H K.note x' with
    | none => rw [hx] at h; cases h
    | some l =>
      cases hy : cT H K.mark y' with
      | none => rw [hx, hy] at h; cases h
      | some m =>
        cases hz : cT H K.note z' with
        | none => rw [hx, hy, hz] at h; cases h
        | some n =>
          rw [hx, hy, hz] at h; cases h
          obtain ⟨u1, _, rfl, g1, hl⟩ := hl.uncons
          obtain ⟨u2, _, rfl, g2, hl⟩ := hl.uncons
          obtain ⟨u3, _, rfl, g3, hl⟩ := hl.uncons
          obtain ⟨u4, _, rfl, g4, hl⟩ := hl.uncons
          obtain ⟨u5, _, rfl, g5, hl⟩ := hl.uncons
          obtain ⟨u6, _, rfl, g6, hl⟩ := hl.uncons
          rw [hl.of_nil]
          exact .cons g1.lit (.cons g2.lit (.cons g3.lit (.cons (g4.2 _ _ hx) (.cons (g5.2 _ _ hy) (.cons (g6.2 _ _ hz) .nil)))))
  · rename_i x'
    cases hx : cT H K.half x' with
    | none => rw [hx] at h; cases h
    | some l =>
      rw [hx] at h; cases h
      obtain ⟨u1, _, rfl, g1, hl⟩ := hl.uncons
      obtain ⟨u2, _, rfl, g2, hl⟩ := hl.uncons
      obtain ⟨u3, _, rfl, g3, hl⟩ := hl.uncons
      obtain ⟨u4, _, rfl, g4, hl⟩ := hl.uncons
      obtain ⟨u5, _, rfl, g5, hl⟩ := hl.uncons
      rw [hl.of_nil]
      exact .cons g1.lit (.cons g2.lit (.cons g3.lit (.cons g4.lit (.cons (g5.2 _ _ hx) .nil))))
theorem Frozen.Q {β0 : Beta} {H' : Hp} {ids : List Nat} (h : Frozen w H β0 β H' ids) {c : AV} {u : Value} (hc : ∀ j, c = .own j → j ∈ ids) (hx : RC w β0 c u) : VS.Q H w β c u := by
  refine ⟨fun v e => by subst e; exact h.imm _ _ rfl hx, fun k l hl => ?_⟩
  unfold cT at hl
  split at hl
  · obtain ⟨e, rfl⟩ := cC hl
    subst e
    exact h.imm _ _ rfl hx
  · cases hl; rw [hx.litv]; exact .nil
  · rename_i id _
    split at hl
    · rename_i e fz k' xs hid
      obtain ⟨ek, rfl⟩ := cC hl
      subst ek
      exact h.fr _ u e fz k' xs (hc _ rfl) hid hx
    · cases hl
  · cases hl
theorem LW {H : Hp} {β : Beta} {k : K} {x0 y : Tof k} {o : Nat} {ys : List AV} {vs us0 : List Value} (hd : dec H k (eT (enc k x0) o ys) = some y) (h0 : RL (RC w β) (enc k x0) us0) (hy : RL (VS.Q H w β) ys vs) :
    RL (RC w β) (enc k y) (us0.take o ++ vs ++ us0.drop (o + vs.length)) := by
  have h1 : RL (VS.Q H w β) (enc k x0) us0 := by
    refine ⟨h0.1, fun j c u a1 a2 => ?_⟩
    have hr := h0.2 j c u a1 a2
    have hn := b8 k x0 a1
    refine ⟨fun v e => by subst e; exact hr, fun k' l hl => ?_⟩
    unfold cT at hl
    split at hl
    · obtain ⟨e, rfl⟩ := cC hl
      subst e; exact hr
    · cases hl; rw [hr.litv]; exact .nil
    · cases hn
    · cases hl
  refine Qw hd ?_
  unfold eT
  rw [← hy.1]
  exact ((h1.take o).append hy).append (h1.drop _)
theorem Mq (hP : P = B.P) (h : St B β stk s a w) {t : TypeId} {p x : Operand} {s' : S} (hs : jA P t s (s.ev p) (s.ev x) = some s') :
    ∃ w' β', (Instr.storeAt t (a.eval p) (a.eval x)).run P w = .ok () w' ∧ St B β' stk s' a w' := by
  generalize hp : s.ev p = cp at hs
  unfold jA at hs
  split at hs
  · rename_i id z i o
    have hpx := h.eval p
    rw [hp] at hpx
    have hpr : RC w β (.ptr id z i o) (a.eval p) := hpx
    split at hs
    · rename_i e cs hid
      split at hs
      · cases hc : d6 (s.ev x) with
        | none => rw [hc] at hs; cases hs
        | some ys =>
          rw [hc] at hs
          simp only [Option.bind_some] at hs
          split at hs
          · rename_i hb
            simp only [Bool.and_eq_true] at hb
            cases hs
            exact N8 hP h hp hid hc (ak hb.1.1) (Nat.le_of_ble_eq_true hb.1.2) (LM hb.2).1 (LM hb.2).2
          · cases hs
      · cases hs
    · rename_i e fz k xs hid
      cases hc : d6 (s.ev x) with
      | none => rw [hc] at hs; cases hs
      | some ys =>
        rw [hc] at hs
        simp only [Option.bind_some] at hs
        split at hs
        · rename_i hb
          simp only [Bool.and_eq_true, Bool.not_eq_true'] at hb
          obtain ⟨⟨⟨⟨b1, b2⟩, b3⟩, b4⟩, b5⟩ := hb
          obtain rfl := ak b4
          have hni := NN b5
          cases hd : dec s.H k (eT (enc k (xs.getD i (dfl k))) o ys) with
          | none => rw [hd] at hs; cases hs
          | some y =>
            rw [hd] at hs
            simp only [Option.bind_some, Option.some.injEq] at hs
            subst hs
            obtain ⟨β', h1, h2⟩ := St.freezes (ys.filterMap mM) h
            have hr := lF hc (h.eval x)
            have hrQ : RL (VS.Q s.H w β') ys (a.eval x).cells.toList := ⟨hr.1, fun j c u g1 g2 => h2.Q (fun j' e' => by
              subst e'
              exact List.mem_filterMap.2 ⟨_, List.mem_of_getElem? g1, rfl⟩) (hr.2 j c u g1 g2)⟩
            obtain ⟨w', g1, g2⟩ := Mr (P := P) (t := t) (p := p) h1 (h2.ptr _ _ _ _ _ hni hpr) (h2.row _ _ _ _ _ hni hid) (by have := hr.1; simpa using this) hr.one (ak b1) (Nat.le_of_ble_eq_true b2) (Nat.le_of_ble_eq_true b3)
              (fun us0 h0 => LW hd h0 hrQ)
            exact ⟨w', β', g1, g2⟩
        · cases hs
    · rename_i e k xs hid
      cases hc : d6 (s.ev x) with
      | none => rw [hc] at hs; cases hs
      | some ys =>
        rw [hc] at hs
        simp only [Option.bind_some] at hs
        split at hs
        · rename_i hb
          simp only [Bool.and_eq_true] at hb
          obtain ⟨⟨⟨b1, b2⟩, b3⟩, b4⟩ := hb
          obtain rfl := ak b4
          cases hd : dec (fun _ => none) k (eT (enc k (xs.getD i (dfl k))) o ys) with
          | none => rw [hd] at hs; cases hs
          | some y =>
            rw [hd] at hs
            simp only [Option.bind_some, Option.some.injEq] at hs
            subst hs
            have hr := lF hc (h.eval x)
            have hrQ : RL (VS.Q (fun _ => none) w β) ys (a.eval x).cells.toList := ⟨hr.1, fun j c u g1 g2 => by
              have hx := hr.2 j c u g1 g2
              refine ⟨fun v e => by subst e; exact hx, fun k' l hl => ?_⟩
              unfold cT at hl
              split at hl
              · obtain ⟨e, rfl⟩ := cC hl
                subst e; exact hx
              · cases hl; rw [hx.litv]; exact .nil
              · cases hl
              · cases hl⟩
            obtain ⟨w', g1, g2⟩ := N9 (P := P) (t := t) (p := p) h hpr hid (by have := hr.1; simpa using this) hr.one (ak b1) (Nat.le_of_ble_eq_true b2) (Nat.le_of_ble_eq_true b3)
              (fun us0 h0 => LW hd h0 hrQ)
            exact ⟨w', β, g1, g2⟩
        · cases hs
    · cases hs
  · cases hs
end
end Go.VS
namespace Go.VS
open Go
section
variable {P : Program} {B : Base} {β β' : Beta} {H : Hp} {stk : List (Array Value)} {s : S} {a : Act} {w w' : World}
structure Src (P : Program) (w : World) (β : Beta) (k : K) (ys : List (Tof k)) (v : Value) (news : List Value) : Prop where
  len : ∀ w', (Builtin.lenOf v).run P w' = .ok ys.length w'
  cells : ∀ w', w'.heap = w.heap → (Builtin.firstCells (ks k) ys.length v).run P w' = .ok news.toArray w'
  rel : RL (RC w β) (ys.flatMap (enc k)) news
  firsts : ∀ n, n ≤ ys.length → (Builtin.firstCells (ks k) n v).run P w = .ok (news.take (n * ks k)).toArray w
theorem O3 {w w' : World} (h : w'.heap = w.heap) (a : Addr) : w'.cell? a = w.cell? a := by simp only [World.cell?, h]
theorem SlOK.cellsOf {k : K} {xs : List (Tof k)} {v : Value} (h : SlOK w β k xs v) : (∃ a cap, xs = [] ∧ v = .slice a 0 cap) ∨ ∃ b f cap, ∃ us : List Value, v = .slice (some ⟨b, f, none⟩) xs.length cap ∧ xs.length ≤ cap ∧ RL (RC w β) (xs.flatMap (enc k)) us ∧ ∀ (j : Nat) (u : Value), us[j]? = some u → w.cell? ⟨b, f + j, none⟩ = some u := by
  rcases h with ⟨rfl, a, cap, rfl⟩ | ⟨b, f, cap, u, rfl, hc, hu, hr⟩
  · exact .inl ⟨a, cap, rfl, rfl⟩
  · have hk := jg k
    refine .inr ⟨b, f, cap, (List.range (xs.length * ks k)).map fun q => u (q / ks k) (q % ks k), rfl, hc, ⟨by rw [bS, List.length_map, List.length_range], fun j c v h1 h2 => ?_⟩, fun j v h2 => ?_⟩
    · simp only [List.getElem?_map, Option.map_eq_some_iff] at h2
      obtain ⟨q, hq, rfl⟩ := h2
      have hlt : j < xs.length * ks k := by have := (List.getElem?_eq_some_iff.1 hq).1; simpa using this
      rw [List.getElem?_range hlt] at hq
      cases hq
      have hi : j / ks k < xs.length := by rw [Nat.div_lt_iff_lt_mul hk]; exact hlt
      have hm : j % ks k < ks k := Nat.mod_lt _ hk
      have hx : xs[j / ks k]? = some xs[j / ks k] := by simp [hi]
      refine hr _ _ _ _ hx ?_
      rw [← zZ hx hm, Nat.mul_comm, Nat.div_add_mod]
      exact h1
    · simp only [List.getElem?_map, Option.map_eq_some_iff] at h2
      obtain ⟨q, hq, rfl⟩ := h2
      have hlt : j < xs.length * ks k := by have := (List.getElem?_eq_some_iff.1 hq).1; simpa using this
      rw [List.getElem?_range hlt] at hq
      cases hq
      have hi : j / ks k < xs.length := by rw [Nat.div_lt_iff_lt_mul hk]; exact hlt
      have hm : j % ks k < ks k := Nat.mod_lt _ hk
      have := hu _ _ hi hm
      rw [Nat.mul_comm, Nat.div_add_mod] at this
      exact this
theorem K1 (hH : Hs B β H w) {k : K} {c : AV} {v : Value} {ys : List (Tof k)} (h : EA H k c = some ys) (hx : R2 w β c v) : ∃ news, Src P w β k ys v news := by
  unfold EA at h
  split at h
  · rename_i s
    split at h
    · cases h
      have hv : v = .string s := hx
      subst hv
      have hlen : (pw s).length = s.size := by rw [pw, List.length_map, Array.length_toList]; rfl
      refine ⟨s.data.toList.map fun b => Value.int .u8 b.toNat, fun w' => by rw [hlen]; rfl, fun w' _ => ?_, ?_, fun n hn => ?_⟩
      · rw [hlen]
        simp only [Builtin.firstCells, Sem.run_pure]
        congr 1
        apply Array.ext'
        have : (s.extract 0 s.size).data = s.data := by
          simp only [ByteArray.data_extract]
          rw [show s.size = s.data.size from rfl, Array.extract_size]
        rw [this]
        simp
      · refine ⟨by rw [bS, hlen, List.length_map, Array.length_toList]; simp [ks], fun j c u h1 h2 => ?_⟩
        simp only [List.getElem?_map, Option.map_eq_some_iff] at h2
        obtain ⟨y, hy, rfl⟩ := h2
        have hx : (pw s)[j]? = some (y.toNat : Int) := by simp [pw, hy]
        have := zZ (k := .u8) hx (j := 0) (by decide)
        rw [show j * ks .u8 + 0 = j by simp [ks], h1] at this
        cases this
        exact .lit rfl
      · simp only [Builtin.firstCells, Sem.run_pure]
        congr 1
        apply Array.ext'
        simp [ByteArray.data_extract, ks]
    · cases h
  · rcases (NM hH h hx).cellsOf with ⟨a, cap, rfl, rfl⟩ | ⟨b, f, cap, us, rfl, hc, hr, hu⟩
    · refine ⟨[], fun w' => rfl, fun w' _ => ?_, ?_, fun n hn => ?_⟩
      · cases a with
        | none => rfl
        | some a => simp [Builtin.firstCells, loadCells, loadCellsFrom]
      · exact RL.nil
      · obtain rfl : n = 0 := by simpa using hn
        cases a with
        | none => simp [Builtin.firstCells]
        | some a => simp [Builtin.firstCells, loadCells, loadCellsFrom]
    · refine ⟨us, fun w' => rfl, fun w' hw => ?_, hr, fun n hn => ?_⟩
      have hl : us.length = ys.length * ks k := by rw [hr.1, bS]
      exact run_firstCells_some w' (ks k) _ ⟨b, f, none⟩ _ cap us hl (fun j u hj => by rw [Addr.add_lit, O3 hw]; exact hu j u hj)
      have hl : us.length = ys.length * ks k := by rw [hr.1, bS]
      have hle : n * ks k ≤ ys.length * ks k := Nat.mul_le_mul_right _ hn
      exact run_firstCells_some w (ks k) n ⟨b, f, none⟩ _ cap (us.take (n * ks k)) (by simp; omega) (fun j u hj => by
        rw [Addr.add_lit]
        rw [List.getElem?_take] at hj
        split at hj
        · exact hu j u hj
        · cases hj)
theorem pe {t u ty e : TypeId} {d : TypeDesc} {i : TypeInfo} (ht : P.underlying t = some (.slice e)) (hu : P.underlying u = some d) (hd : d = .string ∨ ∃ e', d = .slice e') (hi : P.info? e = some i) {base : Option Addr} {sLen sCap n : Nat} {v : Value} {news : List Value}
    (hl : ∀ w', (Builtin.lenOf v).run P w' = .ok n w') (hf : ∀ w', w'.heap = w.heap → (Builtin.firstCells i.size n v).run P w' = .ok news.toArray w') (hn : sLen + n ≤ sCap) {w' : World}
    (hst : ∀ a, base = some a → (storeCells (a.add (sLen * i.size)) news).run P w = .ok () w') (hno : base = none → w' = w) :
    (Builtin.append_ #[t, u] ty #[.slice base sLen sCap, v]).run P w = .ok (.slice base (sLen + n) sCap) w' := by
  have h1 := hl w
  have h2 := hf w rfl
  cases base with
  | none =>
    obtain rfl := hno rfl
    rcases hd with rfl | ⟨e', rfl⟩ <;> simp [Builtin.append_, run_underlying ht, run_underlying hu, sizeOf, typeInfo, hi, h1, hn, h2]
  | some a =>
    have h3 := hst a rfl
    rcases hd with rfl | ⟨e', rfl⟩ <;> simp [Builtin.append_, run_underlying ht, run_underlying hu, sizeOf, typeInfo, hi, h1, hn, h2, h3]
theorem sZ {t u ty e : TypeId} {d : TypeDesc} {i : TypeInfo} {z : Value} (ht : P.underlying t = some (.slice e)) (hu : P.underlying u = some d) (hd : d = .string ∨ ∃ e', d = .slice e') (hi : P.info? e = some i) (hz : i.zero = some z) {base : Option Addr} {sLen sCap n : Nat} {v : Value} {news olds : List Value}
    (hl : ∀ w', (Builtin.lenOf v).run P w' = .ok n w') (hf : ∀ w', w'.heap = w.heap → (Builtin.firstCells i.size n v).run P w' = .ok news.toArray w') (hn : sCap < sLen + n) (h63 : ((sLen + n : Nat) : Int) ≤ 9223372036854775807) (hfit : Builtin.nextslicecap (sLen + n) sCap * i.bytes ≤ 281474976710656)
    (ho : (Builtin.firstCells i.size sLen (.slice base sLen sCap)).run P w.drew = .ok olds.toArray w.drew) :
    (Builtin.append_ #[t, u] ty #[.slice base sLen sCap, v]).run P w = .ok (.slice (some ⟨w.heap.size, 0, none⟩) (sLen + n) (grownCap w (sLen + n) sCap e))
        (w.drew.alloc (.cells (olds.toArray ++ news.toArray ++ Builtin.zeroCells z.cells (grownCap w (sLen + n) sCap e - (sLen + n))) e)) := by
  have hn' : ¬ (sLen + n ≤ sCap) := by omega
  have h63' : ¬ (9223372036854775807 < ((sLen : Int) + (n : Int))) := by omega
  have h48' : ¬ (281474976710656 < Builtin.nextslicecap (sLen + n) sCap * i.bytes) := by omega
  have h1 := hl w
  have h2 := hf w.drew rfl
  rcases hd with rfl | ⟨e', rfl⟩ <;> (simp [Builtin.append_, run_underlying ht, run_underlying hu, sizeOf, typeInfo, zeroValue, hi, hz, h1, hn', h63', h48', Question.forced, h2, ho, newRow, grownCap]; try (congr 2; apply Array.ext'; simp [List.append_assoc]))
theorem Hs.remake (h : Hs B β H w) {id : Nat} {hd0 : Value} {n0 : Nat} (hβ : β id = some (hd0, n0)) (ob : Ob) (hd : Value) (n : Nat)
    (hos : w'.os = w.os) (htape : w'.tape = w.tape) (hout : w'.output = w.output) (hsize : w.heap.size ≤ w'.heap.size)
    (hold : ∀ j, j < w.heap.size → (∀ a, adr hd0 = some a → j ≠ a.block) → w'.heap[j]? = w.heap[j]?)
    (ha : ∀ a, adr hd = some a → (∃ a0, adr hd0 = some a0 ∧ a0.block = a.block) ∨ (w.heap.size ≤ a.block ∧ a.block < w'.heap.size))
    (hob : ∀ β', β' id = some (hd, n) → Kf (kl1 id) w β w' β' → ObOK B.P w' β' id ob) (hpk : Pk B.P w w') :
    ∃ β', Hs B β' (upd (fun j => cY (kl1 id) (H j)) id (some ob)) w' ∧ Kf (kl1 id) w β w' β' ∧ β' id = some (hd, n) := by
  have hM : ∀ b, MB (β.up id (some (hd, n))) b → MB β b ∨ w.heap.size ≤ b := by
    rintro b ⟨j, hd', n', a', hj, ha', hb⟩
    by_cases e : j = id
    · subst e
      rw [Beta.up_same] at hj
      cases hj
      rcases ha a' ha' with ⟨a0, h1, h2⟩ | h1
      · exact .inl ⟨j, hd0, n0, a0, hβ, h1, h2.trans hb⟩
      · exact .inr (hb ▸ h1.1)
    · rw [Beta.up_ne _ _ e] at hj
      exact .inl ⟨j, hd', n', a', hj, ha', hb⟩
  have hk : Kf (kl1 id) w β w' (β.up id (some (hd, n))) := Kf.kill (fun j e => al _ _ e)
    (fun b o v hb hc => by
      rw [World.cell?_of_block (w := w) (w' := w') (hold b (World.block_lt_of_cell? w _ hc) (fun a0 h0 e => hb (.inl ⟨id, hd0, n0, a0, hβ, h0, e.symm⟩)))]; exact hc)
    (fun b hb hlt hm => by
      rcases hm with hm | hm
      · rcases hM b hm with h1 | h1
        · exact hb (.inl h1)
        · omega
      · exact hb (.inr hm))
  refine ⟨β.up id (some (hd, n)), ?_, hk, ai _ _ _⟩
  refine h.turn (bh id) hk (fun j e => al _ _ e)
    (.inr ⟨ob, hd, n, rfl, ai _ _ _, hob _ (ai _ _ _) hk, fun a h2 => ?_⟩)
    (fun j p a e hj h2 => hold _ (h.old _ ⟨j, p.1, p.2, a, hj, h2, rfl⟩).2 (fun a0 h0 e' => e (h.inj _ _ _ _ _ _ hj hβ h2 h0 e'))) hos htape hout hsize (fun b hb hO => hold b (Nat.lt_of_lt_of_le hb h.size) (fun a0 h0 e => ?_)) rfl hpk
  · rcases ha a h2 with ⟨a0, h3, h4⟩ | h3
    · exact .inl ⟨_, a0, hβ, h3, h4⟩
    · exact .inr h3
  · rcases (h.old a0.block ⟨id, hd0, n0, a0, hβ, h0, rfl⟩).1 with h3 | h3
    · exact hO (e ▸ h3)
    · omega
theorem SD {need cap bytes : Nat} (h : cap < need) (hn : need ≤ 4294967296) (hb : bytes ≤ 256) : Builtin.nextslicecap need cap * bytes ≤ 281474976710656 := by
  refine growslice_fits h ?_
  have : need * bytes ≤ 4294967296 * 256 := Nat.mul_le_mul hn hb
  omega
theorem Nh (z : Array Value) (n : Nat) : (Builtin.zeroCells z n).size = n * z.size := by simp [Builtin.zeroCells]
theorem D5 (hP : P = B.P) (hH : Hs B β H w) {b : Nat} (hb : H b = none) {t u ty e : TypeId} {k : K} {d : TypeDesc} {v : Value} {ys : List (Tof k)} {news : List Value} (ht : P.underlying t = some (.slice e)) (hu : P.underlying u = some d) (hd : d = .string ∨ ∃ e', d = .slice e')
    (hz : zok P e k = true) (hc : P.cellsOf e = ks k) (hby : P.bytesOf e ≤ 256) (hs : Src P w β k ys v news) (hr : ys.length ≤ 4294967296) :
    ∃ u' w' β', (Builtin.append_ #[t, u] ty #[.slice none 0 0, v]).run P w = .ok u' w' ∧ Hs B β' (upd H b (some (.row e false k ys))) w' ∧ Kp w β w' β' ∧ RC w' β' (.own b) u' := by
  obtain ⟨i, z, hi, hz', hzs, _⟩ := D7 hz
  rw [la hi] at hc
  rw [q9 hi] at hby
  by_cases h0 : ys = []
  · subst h0
    have hrun := pe (P := P) (w := w) (ty := ty) (base := none) (sLen := 0) (sCap := 0) (n := 0) (v := v) (news := news) (w' := w) ht hu hd hi hs.len (by rw [hc]; exact hs.cells) (by omega) (fun a h => by cases h) (fun _ => rfl)
    obtain ⟨β', h1, h2, h3⟩ := hH.grow (w' := w) hb (.row e false k []) (.slice none 0 0) 0 rfl rfl rfl (Nat.le_refl _) (fun _ _ => rfl) (fun a h => by cases h) (fun β' hβ hk => ⟨_, hβ, .inl ⟨rfl, rfl⟩⟩)
    exact ⟨_, _, β', hrun, h1, h2, .own h3 rfl⟩
  · have hpos : 0 < ys.length := by cases ys with
      | nil => exact absurd rfl h0
      | cons y l => simp
    have hrun := sZ (P := P) (w := w) (ty := ty) (base := none) (sLen := 0) (sCap := 0) (n := ys.length) (v := v) (news := news) (olds := []) ht hu hd hi hz' hs.len (by rw [hc]; exact hs.cells) (by omega) (by omega) (SD (by omega) (by omega) hby) (by simp [Builtin.firstCells])
    have hn : news.length = ys.length * ks k := by rw [hs.rel.1, bS]
    rw [Nat.zero_add] at hrun
    have hge := grownCap_ge w ys.length 0 e
    have hm := grownCap_le_maxLen w ys.length 0 e (Nat.le_trans hr (by decide))
    have hob : ∀ β', β' b = some (Value.slice (some ⟨w.heap.size, 0, none⟩) ys.length (grownCap w ys.length 0 e), ys.length) → Kp w β (w.drew.alloc (.cells (([] : List Value).toArray ++ news.toArray ++ Builtin.zeroCells z.cells (grownCap w ys.length 0 e - ys.length)) e)) β' →
        ObOK B.P (w.drew.alloc (.cells (([] : List Value).toArray ++ news.toArray ++ Builtin.zeroCells z.cells (grownCap w ys.length 0 e - ys.length)) e)) β' b (.row e false k ys) := by
      intro β' hβ hk
      refine ⟨_, hβ, .inr ⟨w.heap.size, 0, _, _, _, rfl, heap_alloc_new w.drew _, rfl, hge, hm, ?_, fun i x j c u a1 a2 a3 => ?_⟩⟩
      · simp only [Array.size_append, Nh, hzs, List.size_toArray, hn, List.length_nil]
        rw [Nat.sub_mul]
        have : ys.length * ks k ≤ grownCap w ys.length 0 e * ks k := Nat.mul_le_mul_right _ hge
        omega
      · have hj : j < ks k := by rw [← az k x]; exact (List.getElem?_eq_some_iff.1 a2).1
        have hi' : i < ys.length := (List.getElem?_eq_some_iff.1 a1).1
        have hlt : i * ks k + j < news.length := by rw [hn]; exact ft hi' hj
        refine hk _ _ (p7 hs.rel i x j c u a1 a2 ?_)
        rw [Array.getElem?_append_left (by simp; omega)] at a3
        simpa using a3
    obtain ⟨β', h1, h2, h3⟩ := hH.grow (w' := w.drew.alloc (.cells (([] : List Value).toArray ++ news.toArray ++ Builtin.zeroCells z.cells (grownCap w ys.length 0 e - ys.length)) e)) hb (.row e false k ys) (.slice (some ⟨w.heap.size, 0, none⟩) ys.length (grownCap w ys.length 0 e)) ys.length rfl rfl rfl (by simp)
      (fun j hj => heap_alloc_old w.drew _ hj) (fun a ha => by cases ha; simp) hob
    exact ⟨_, _, β', hrun, h1, h2, .own h3 rfl⟩
theorem D4 (hP : P = B.P) (hH : Hs B β H w) {id : Nat} {t u ty e : TypeId} {k : K} {d : TypeDesc} {v hd : Value} {xs ys : List (Tof k)} {news : List Value} (hid : H id = some (.row e false k xs)) (hb : RC w β (.own id) hd)
    (ht : P.underlying t = some (.slice e)) (hu : P.underlying u = some d) (hd' : d = .string ∨ ∃ e', d = .slice e')
    (hz : zok P e k = true) (hc : P.cellsOf e = ks k) (hby : P.bytesOf e ≤ 256) (hs : Src P w β k ys v news) (hr : xs.length + ys.length ≤ 4294967296) :
    ∃ u' w' β', (Builtin.append_ #[t, u] ty #[hd, v]).run P w = .ok u' w' ∧ Hs B β' (upd (fun j => cY (kl1 id) (H j)) id (some (.row e false k (xs ++ ys)))) w' ∧ Kf (kl1 id) w β w' β' ∧ RC w' β' (.own id) u' := by
  obtain ⟨i, z, hi, hz', hzs, _⟩ := D7 hz
  rw [la hi] at hc
  rw [q9 hi] at hby
  obtain ⟨hd0, k1, k2⟩ := hH.objs id _ hid
  cases hb with
  | own k3 k4 =>
  rw [k1] at k3
  cases k3
  have hn : news.length = ys.length * ks k := by rw [hs.rel.1, bS]
  have hkp := jg k
  have grow : ∀ (base : Option Addr) (cap : Nat) (olds : List Value), hd = .slice base xs.length cap → cap < xs.length + ys.length → RL (RC w β) (xs.flatMap (enc k)) olds →
      (Builtin.firstCells i.size xs.length (.slice base xs.length cap)).run P w.drew = .ok olds.toArray w.drew →
      ∃ u' w' β', (Builtin.append_ #[t, u] ty #[hd, v]).run P w = .ok u' w' ∧ Hs B β' (upd (fun j => cY (kl1 id) (H j)) id (some (.row e false k (xs ++ ys)))) w' ∧ Kf (kl1 id) w β w' β' ∧ RC w' β' (.own id) u' := by
    intro base cap olds he hcap hold hfc
    have hrun := sZ (P := P) (w := w) (ty := ty) (base := base) (sLen := xs.length) (sCap := cap) (n := ys.length) (v := v) (news := news) (olds := olds) ht hu hd' hi hz' hs.len (by rw [hc]; exact hs.cells) hcap (by omega) (SD hcap hr hby) hfc
    have hge := grownCap_ge w (xs.length + ys.length) cap e
    have hm := grownCap_le_maxLen w (xs.length + ys.length) cap e (Nat.le_trans hr (by decide))
    have ho : olds.length = xs.length * ks k := by rw [hold.1, bS]
    have hall : RL (RC w β) ((xs ++ ys).flatMap (enc k)) (olds ++ news) := by rw [List.flatMap_append]; exact hold.append hs.rel
    have hob : ∀ β', β' id = some (Value.slice (some ⟨w.heap.size, 0, none⟩) (xs.length + ys.length) (grownCap w (xs.length + ys.length) cap e), xs.length + ys.length) → Kf (kl1 id) w β (w.drew.alloc (.cells (olds.toArray ++ news.toArray ++ Builtin.zeroCells z.cells (grownCap w (xs.length + ys.length) cap e - (xs.length + ys.length))) e)) β' →
        ObOK B.P (w.drew.alloc (.cells (olds.toArray ++ news.toArray ++ Builtin.zeroCells z.cells (grownCap w (xs.length + ys.length) cap e - (xs.length + ys.length))) e)) β' id (.row e false k (xs ++ ys)) := by
      intro β' hβ hk
      refine ⟨_, by rw [hβ, List.length_append], .inr ⟨w.heap.size, 0, _, _, _, by rw [List.length_append], heap_alloc_new w.drew _, rfl, by rw [List.length_append]; exact hge, hm, ?_, fun i x j c u a1 a2 a3 => ?_⟩⟩
      · simp only [Array.size_append, Nh, hzs, List.size_toArray, hn, ho]
        rw [Nat.sub_mul]
        have h1 : (xs.length + ys.length) * ks k ≤ grownCap w (xs.length + ys.length) cap e * ks k := Nat.mul_le_mul_right _ hge
        rw [Nat.add_mul] at h1 ⊢
        omega
      · have hj : j < ks k := by rw [← az k x]; exact (List.getElem?_eq_some_iff.1 a2).1
        have hi' : i < xs.length + ys.length := by have := (List.getElem?_eq_some_iff.1 a1).1; simpa using this
        have hlt : i * ks k + j < (xs.length + ys.length) * ks k := ft hi' hj
        rw [Nat.add_mul] at hlt
        have h2 := hk _ _ (p7 hall i x j c u a1 a2 (by
          rw [Array.getElem?_append_left (by simp; omega)] at a3
          simpa using a3))
        rwa [bh id c (b8 k x a2)] at h2
    obtain ⟨β', h1, h2, h3⟩ := hH.remake (hpk := Pk.old fun j hj => by first | exact heap_alloc_old w.drew _ hj | exact heap_alloc_old w.drew _ _ hj) (w' := w.drew.alloc (.cells (olds.toArray ++ news.toArray ++ Builtin.zeroCells z.cells (grownCap w (xs.length + ys.length) cap e - (xs.length + ys.length))) e)) k1 (.row e false k (xs ++ ys)) (.slice (some ⟨w.heap.size, 0, none⟩) (xs.length + ys.length) (grownCap w (xs.length + ys.length) cap e)) (xs.length + ys.length) rfl rfl rfl (by simp)
      (fun j hj _ => heap_alloc_old w.drew _ hj) (fun a ha => by cases ha; right; simp) hob
    exact ⟨_, _, β', by rw [he]; exact hrun, h1, h2, .own h3 rfl⟩
  rcases k2 with ⟨rfl, rfl⟩ | ⟨b, f, cap, us, fr, rfl, hh, hfr, hnc, hcm, hsz, hcell⟩
  · by_cases h0 : ys = []
    · subst h0
      have hrun := pe (P := P) (w := w) (ty := ty) (base := none) (sLen := 0) (sCap := 0) (n := 0) (v := v) (news := news) (w' := w) ht hu hd' hi hs.len (by rw [hc]; exact hs.cells) (by omega) (fun a h => by cases h) (fun _ => rfl)
      obtain ⟨β', h1, h2, h3⟩ := hH.remake (hpk := Pk.refl _ _) (w' := w) k1 (.row e false k ([] ++ [])) (.slice none 0 0) 0 rfl rfl rfl (Nat.le_refl _) (fun _ _ _ => rfl) (fun a h => by cases h) (fun β' hβ hk => ⟨_, hβ, .inl ⟨rfl, rfl⟩⟩)
      exact ⟨_, _, β', hrun, h1, h2, .own h3 rfl⟩
    · have hpos : 0 < ys.length := by cases ys with
        | nil => exact absurd rfl h0
        | cons y l => simp
      exact grow none 0 [] rfl (by simp; omega) RL.nil (by simp [Builtin.firstCells])
  · have hsl : SlOK w β k xs (.slice (some ⟨b, f, none⟩) xs.length cap) := RowOK.cells (e := e) (fz := false) (.inr ⟨b, f, cap, us, fr, rfl, hh, hfr, hnc, hcm, hsz, hcell⟩)
    by_cases hfit : xs.length + ys.length ≤ cap
    · have hcap : (xs.length + ys.length) * ks k ≤ cap * ks k := Nat.mul_le_mul_right _ hfit
      rw [Nat.add_mul] at hcap
      have hone : ∀ u ∈ news, u.oneCell' = true := hs.rel.one
      have hst := qJ (P := P) b (f + xs.length * ks k) e fr news 0 us w hh (by rw [hn]; omega) (.inl (by rw [hfr]; rfl)) hone
      simp only [Nat.add_zero] at hst
      have hrun := pe (P := P) (w := w) (ty := ty) (base := some ⟨b, f, none⟩) (sLen := xs.length) (sCap := cap) (n := ys.length) (v := v) (news := news) ht hu hd' hi hs.len (by rw [hc]; exact hs.cells) hfit
        (fun a h => by cases h; rw [hc, Addr.add_lit]; exact hst) (fun h => by cases h)
      have hob : ∀ β', β' id = some (Value.slice (some ⟨b, f, none⟩) (xs.length + ys.length) cap, xs.length + ys.length) → Kf (kl1 id) w β (w.setRow b (us.toList.take (f + xs.length * ks k) ++ news ++ us.toList.drop (f + xs.length * ks k + news.length)).toArray) β' →
          ObOK B.P (w.setRow b (us.toList.take (f + xs.length * ks k) ++ news ++ us.toList.drop (f + xs.length * ks k + news.length)).toArray) β' id (.row e false k (xs ++ ys)) := by
        intro β' hβ hk
        have hsize : (us.toList.take (f + xs.length * ks k) ++ news ++ us.toList.drop (f + xs.length * ks k + news.length)).toArray.size = us.size := by
          simp only [List.size_toArray, List.length_append, List.length_take, List.length_drop, Array.length_toList]
          omega
        refine ⟨_, by rw [hβ, List.length_append], .inr ⟨b, f, cap, _, fr, by rw [List.length_append], setRow_heap w b us _ e _ hh, by rw [hfr]; rfl, by rw [List.length_append]; exact hfit, hcm, by rw [hsize]; exact hsz, fun i x j c u a1 a2 a3 => ?_⟩⟩
        have hj : j < ks k := by rw [← az k x]; exact (List.getElem?_eq_some_iff.1 a2).1
        have hi' : i < xs.length + ys.length := by have := (List.getElem?_eq_some_iff.1 a1).1; simpa using this
        have a3' : (us.toList.take (f + xs.length * ks k) ++ news ++ us.toList.drop (f + xs.length * ks k + news.length))[f + (i * ks k + j)]? = some u := by simpa using a3
        have hsp : f + xs.length * ks k + news.length ≤ us.toList.length   := by
          have : us.toList.length = us.size := Array.length_toList
          rw [hn]; omega
        rw [Ed _ _ _ hsp] at a3'
        have h2 : RC w β c u := by
          by_cases hx : i < xs.length
          · have h3 := ft hx hj
            rw [if_neg (by omega)] at a3'
            rw [List.getElem?_append_left hx] at a1
            exact hcell i x j c u a1 a2 (by simpa using a3')
          · have h3 : xs.length * ks k ≤ i * ks k := Nat.mul_le_mul_right _ (by omega)
            have h4 : i * ks k + j < (xs.length + ys.length) * ks k := ft hi' hj
            rw [Nat.add_mul] at h4
            rw [if_pos (by omega)] at a3'
            rw [List.getElem?_append_right (by omega)] at a1
            refine p7 hs.rel (i - xs.length) x j c u a1 a2 ?_
            rw [← a3', Nat.sub_mul]
            congr 1
            omega
        have h5 := hk _ _ h2
        rwa [bh id c (b8 k x a2)] at h5
      obtain ⟨β', h1, h2, h3⟩ := hH.remake (hpk := Pk.setRow hh fun hn => by rw [← hP, Pg hz] at hn; cases hn) (w' := w.setRow b (us.toList.take (f + xs.length * ks k) ++ news ++ us.toList.drop (f + xs.length * ks k + news.length)).toArray) k1 (.row e false k (xs ++ ys)) (.slice (some ⟨b, f, none⟩) (xs.length + ys.length) cap) (xs.length + ys.length) rfl rfl rfl (by simp)
        (fun j hj hne => setRow_other w b j _ (fun e => hne _ rfl e)) (fun a ha => by cases ha; exact .inl ⟨_, rfl, rfl⟩) hob
      exact ⟨_, _, β', hrun, h1, h2, .own h3 rfl⟩
    · rcases hsl.cellsOf with ⟨a, cap', rfl, he⟩ | ⟨b', f', cap', us', he, _, hrel, hcl⟩
      · cases he
        exact grow (some ⟨b, f, none⟩) cap [] rfl (by omega) RL.nil (by simp [Builtin.firstCells, loadCells, loadCellsFrom])
      · cases he
        exact grow (some ⟨b, f, none⟩) cap us' rfl (by omega) hrel (run_firstCells_some w.drew i.size _ ⟨b, f, none⟩ _ cap us' (by rw [hc, hrel.1, bS]) (fun j u hj => by rw [Addr.add_lit]; exact hcl j u hj))
end
end Go.VS
namespace Go.VS
open Go
section
variable {P : Program} {B : Base} {β β' : Beta} {H : Hp} {stk : List (Array Value)} {s : S} {a : Act} {w w' : World} {kd : TypeId → Option K}
theorem IU {k : K} {c : AV} {ys : List (Tof k)} (h : EA H k c = some ys) : ∀ g w x, c ≠ .gd g w x := by
  intro g w x e
  subst e
  simp [EA, cT] at h
theorem Q3 (s : S) (id : Nat) (ob : Option Ob) : s.setH id ob = { s with H := upd s.H id ob } := rfl
theorem Mb (hP : P = B.P) (h : St B β stk s a w) {b : Nat} (hb : s.H b = none) {t u ty : TypeId} {x y : Operand} {q : Bool} {v : AV} {s' : S} (hs : ld P kd t u s b (s.ev x) (s.ev y) = some (q, v, s')) (hq : q = true) :
    ∃ u' w' β', (Builtin.append_ #[t, u] ty #[a.eval x, a.eval y]).run P w = .ok u' w' ∧ St B β' stk s' a w' ∧ R2 w' β' v u' ∧ s'.gs = s.gs ∧ s'.n = s.n ∧ s'.pins = s.pins := by
  subst hq
  unfold ld at hs
  cases he : bW P t with
  | none => rw [he] at hs; cases hs
  | some e =>
  rw [he] at hs
  simp only [Option.bind_some] at hs
  cases hk : kd e with
  | none => rw [hk] at hs; cases hs
  | some k =>
  rw [hk] at hs
  simp only [Option.bind_some] at hs
  cases hy : EA s.H k (s.ev y) with
  | none => rw [hy] at hs; cases hs
  | some ys =>
  rw [hy] at hs
  simp only [Option.bind_some] at hs
  have hy2 : R2 w β (s.ev y) (a.eval y) := (h.eval y).of (IU hy)
  obtain ⟨news, hsrc⟩ := K1 (P := P) h.hs hy hy2
  have ht := jX he
  have conds : ∀ c : Bool, (Nat.beq (P.cellsOf e) (ks k) && Nat.ble (P.bytesOf e) 256 && zok P e k && c) = true → P.cellsOf e = ks k ∧ P.bytesOf e ≤ 256 ∧ zok P e k = true ∧ c = true := by
    intro c hc
    simp only [Bool.and_eq_true] at hc
    exact ⟨ak hc.1.1.1, Nat.le_of_ble_eq_true hc.1.1.2, hc.1.2, hc.2⟩
  have ud : (match P.underlying u with | some .string => true | some (.slice _) => true | _ => false) = true → ∃ d, P.underlying u = some d ∧ (d = .string ∨ ∃ e', d = .slice e') := by
    intro hc
    split at hc
    · rename_i hu; exact ⟨_, hu, .inl rfl⟩
    · rename_i e' hu; exact ⟨_, hu, .inr ⟨e', rfl⟩⟩
    · cases hc
  have hx := h.eval x
  split at hs
  · rename_i cx hc hcx
    rw [hcx] at hx
    obtain ⟨c1, c2, c3, c4⟩ := conds _ hc
    obtain ⟨d, hu, hd⟩ := ud c4
    simp only [Option.some.injEq, Prod.mk.injEq] at hs
    obtain ⟨hr, rfl, rfl⟩ := hs
    simp only [de, decide_eq_true_eq] at hr
    obtain ⟨u', w', β', g1, g2, g3, g4⟩ := D5 (ty := ty) hP h.hs hb ht hu hd c3 c1 c2 hsrc hr
    rw [hx.lit]
    exact ⟨u', w', β', g1, h.keep g3 g2, g4, rfl, rfl, rfl⟩
  · rename_i cx id hc hcx
    rw [hcx] at hx
    have hx : RC w β (.own id) (a.eval x) := hx
    obtain ⟨c1, c2, c3, c4⟩ := conds _ hc
    obtain ⟨d, hu, hd⟩ := ud c4
    split at hs
    · rename_i e' k' xs hid hne
      split at hs
      · rename_i hee
        obtain rfl := ak hee
        cases hcast : qr k' k xs with
        | none => rw [hcast] at hs; cases hs
        | some xs' =>
          rw [hcast] at hs
          obtain ⟨ek, rfl⟩ := cC hcast
          subst ek
          simp only [Option.bind_some, Option.some.injEq, Prod.mk.injEq] at hs
          obtain ⟨hr, rfl, rfl⟩ := hs
          simp only [de, decide_eq_true_eq] at hr
          obtain ⟨u', w', β', g1, g2, g3, g4⟩ := D4 (ty := ty) hP h.hs hid hx ht hu hd c3 c1 c2 hsrc hr
          exact ⟨u', w', β', g1, h.map (bh id) (tz id) g3 g2, g4, rfl, rfl, rfl⟩
      · cases hs
    · cases hs
  · cases hs
theorem O1 (hP : P = B.P) (h : St B β stk s a w) {t u ty : TypeId} {x y : Operand} {v : AV} {s' : S} (hs : w5 P t s (s.ev x) (s.ev y) = some (v, s')) :
    ∃ u' w' β', (Builtin.copy_ #[t, u] ty #[a.eval x, a.eval y]).run P w = .ok u' w' ∧ St B β' stk s' a w' ∧ R2 w' β' v u' ∧ s'.gs = s.gs ∧ s'.n = s.n ∧ s'.pins = s.pins := by
  unfold w5 at hs
  have hx := h.eval x
  split at hs
  · rename_i cx id hcx
    rw [hcx] at hx
    have hx : RC w β (.own id) (a.eval x) := hx
    split at hs
    · rename_i e fz k xs hid hne
      cases he : bW P t with
      | none => rw [he] at hs; cases hs
      | some e' =>
        rw [he] at hs
        simp only [Option.bind_some] at hs
        split at hs
        · rename_i hc
          have hc := ak hc
          cases hy : EA s.H k (s.ev y) with
          | none => rw [hy] at hs; cases hs
          | some ys =>
            rw [hy] at hs
            simp only [Option.bind_some, Option.some.injEq, Prod.mk.injEq] at hs
            obtain ⟨rfl, rfl⟩ := hs
            have hy2 : R2 w β (s.ev y) (a.eval y) := (h.eval y).of (IU hy)
            obtain ⟨news, hsrc⟩ := K1 (P := P) h.hs hy hy2
            have ht := jX he
            have hk := jg k
            have hn : news.length = ys.length * ks k := by rw [hsrc.rel.1, bS]
            obtain ⟨hd, k1, k2⟩ := h.hs.objs id _ hid
            generalize hg : a.eval x = vx at hx
            cases hx with
            | own k3 k4 =>
            rw [k1] at k3
            cases k3
            have hfc := hsrc.firsts (Nat.min ys.length xs.length) (Nat.min_le_left _ _)
            have hlen := hsrc.len w
            rcases k2 with ⟨rfl, rfl⟩ | ⟨b, f, cap, us, fr, rfl, hh, hfr, hnc, hcm, hsz, hcell⟩
            · refine ⟨.int .i64 (Nat.min ys.length 0 : Nat), w, β, ?_, ?_, rfl, rfl, rfl, rfl⟩
              · have hfc := hsrc.firsts 0 (Nat.zero_le _)
                simp [Builtin.copy_, run_underlying ht, hlen, fq (P := P) (w := w) (t := e') (by omega), hc, hfc, goInt]
              · have : s.setH id (some (.row e fz k (ys.take ([] : List (Tof k)).length ++ ([] : List (Tof k)).drop ys.length))) = s := by
                  simp only [List.length_nil, List.take_zero, List.drop_nil, List.append_nil, Q3]
                  rw [← hid]
                  have : upd s.H id (s.H id) = s.H := funext fun j => by
                    by_cases e : j = id
                    · subst e; rw [ai]
                    · rw [al _ _ e]
                  rw [this]
                rw [this]; exact h
            · have hmin : Nat.min ys.length xs.length ≤ xs.length := Nat.min_le_right _ _
              have hmin2 : Nat.min ys.length xs.length ≤ ys.length := Nat.min_le_left _ _
              have h1 : Nat.min ys.length xs.length * ks k ≤ xs.length * ks k := Nat.mul_le_mul_right _ hmin
              have h2 : xs.length * ks k ≤ cap * ks k := Nat.mul_le_mul_right _ hnc
              have h3 : Nat.min ys.length xs.length * ks k ≤ ys.length * ks k := Nat.mul_le_mul_right _ hmin2
              have hone : ∀ u ∈ news.take (Nat.min ys.length xs.length * ks k), u.oneCell' = true := fun u hu => hsrc.rel.one u (List.mem_of_mem_take hu)
              have htl : (news.take (Nat.min ys.length xs.length * ks k)).length = Nat.min ys.length xs.length * ks k := by rw [List.length_take, hn]; omega
              have hst := qJ (P := P) b f e fr (news.take (Nat.min ys.length xs.length * ks k)) 0 us w hh (by rw [htl]; omega) (by
                subst hfr
                cases fz
                · exact .inl rfl
                · exact .inr (Nat.le_refl _)) hone
              simp only [Nat.add_zero] at hst
              obtain ⟨g1, g2⟩ := h.hs.setRow (hpk := Pk.setRow hh fun _ a' hu => by
                have hus : us.toList.length = us.size := Array.length_toList
                refine yz (ys := news.take (Nat.min ys.length xs.length * ks k)) (by rw [htl]; omega) (by simpa using hu) fun e1 e2 => EN hcell (fun e3 => e2 ?_) e1 hu
                subst e3
                exact List.eq_nil_of_length_eq_zero (by rw [htl]; simp)) k1 rfl (us.toList.take f ++ news.take (Nat.min ys.length xs.length * ks k) ++ us.toList.drop (f + (news.take (Nat.min ys.length xs.length * ks k)).length)).toArray (.row e fz k (ys.take xs.length ++ xs.drop ys.length)) (fun hkp => by
                have hsize : (us.toList.take f ++ news.take (Nat.min ys.length xs.length * ks k) ++ us.toList.drop (f + (news.take (Nat.min ys.length xs.length * ks k)).length)).toArray.size = us.size := by
                  simp only [List.size_toArray, List.length_append, List.length_drop, htl, List.length_take, Array.length_toList] at *
                  omega
                have hll : (ys.take xs.length ++ xs.drop ys.length).length = xs.length := by simp; omega
                refine ⟨_, by rw [k1, hll], .inr ⟨b, f, cap, _, fr, by rw [hll], setRow_heap w b us _ e _ hh, by rw [hsize]; exact hfr, by rw [hll]; exact hnc, hcm, by rw [hsize]; exact hsz, fun i x j c u a1 a2 a3 => ?_⟩⟩
                have hj : j < ks k := by rw [← az k x]; exact (List.getElem?_eq_some_iff.1 a2).1
                have hi' : i < xs.length := by have := (List.getElem?_eq_some_iff.1 a1).1; rwa [hll] at this
                have a3' : (us.toList.take f ++ news.take (Nat.min ys.length xs.length * ks k) ++ us.toList.drop (f + (news.take (Nat.min ys.length xs.length * ks k)).length))[f + (i * ks k + j)]? = some u := by simpa using a3
                have hsp : f + (news.take (Nat.min ys.length xs.length * ks k)).length ≤ us.toList.length := by
                  have : us.toList.length = us.size := Array.length_toList
                  rw [htl]; omega
                rw [Ed _ _ _ hsp, htl] at a3'
                refine hkp _ _ ?_
                by_cases hy' : i < ys.length
                · have hm : i < Nat.min ys.length xs.length := Nat.lt_min.2 ⟨hy', hi'⟩
                  have hm2 := ft hm hj
                  rw [if_pos (by omega), List.getElem?_take, if_pos (by omega)] at a3'
                  rw [List.getElem?_append_left (by simp; omega), List.getElem?_take, if_pos hi'] at a1
                  refine p7 hsrc.rel i x j c u a1 a2 ?_
                  rw [← a3']
                  congr 1
                  omega
                · have hm : Nat.min ys.length xs.length = ys.length := Nat.min_eq_left (by omega)
                  have hm2 : ys.length * ks k ≤ i * ks k := Nat.mul_le_mul_right _ (by omega)
                  rw [hm] at a3'
                  rw [if_neg (by omega)] at a3'
                  have e1 : (ys.take xs.length).length = ys.length := by simp; omega
                  rw [List.getElem?_append_right (by omega), e1, List.getElem?_drop] at a1
                  have a1' : xs[i]? = some x := by rw [← a1]; congr 1; omega
                  exact hcell i x j c u a1' a2 (by simpa using a3'))
              refine ⟨.int .i64 (Nat.min ys.length xs.length : Nat), _, β, ?_, h.keep g2 g1, rfl, rfl, rfl, rfl⟩
              simp only [Builtin.copy_, List.getElem?_toArray, List.getElem?_cons_zero, List.getElem?_cons_succ, Sem.run_bind, run_underlying ht, Result.andThen_ok, hlen, fq (P := P) (w := w) (t := e') (by omega), hc, hfc, Sem.run_pure, hst, goInt]
        · cases hs
    · cases hs
  · cases hs
theorem RowOK.cut {e : TypeId} {fz : Bool} {k : K} {xs ys : List (Tof k)} {bb f cap l h : Nat} (hy : ys = (xs.take h).drop l) (hlh : l ≤ h) (hh : h ≤ xs.length) (hx : RowOK w β e fz k xs (.slice (some ⟨bb, f, none⟩) xs.length cap)) :
    RowOK w β e fz k ys (.slice (if cap = l then some ⟨bb, f, none⟩ else some ⟨bb, f + l * ks k, none⟩) (h - l) (cap - l)) := by
  rcases hx with ⟨h1, _⟩ | ⟨b', f', cap', us, fr, h1, hhp, hfr, hnc, hcm, hsz, hcell⟩
  · cases h1
  · cases h1
    have hyl : ys.length = h - l := by subst hy; simp; omega
    by_cases he : cap = l
    · rw [if_pos he]
      obtain rfl : ys = [] := List.eq_nil_of_length_eq_zero (by omega)
      refine .inr ⟨bb, f, cap - l, us, fr, by rw [hyl], hhp, hfr, by simp, by omega, ?_, fun i x j c u a1 => by simp at a1⟩
      have : (cap - l) * ks k ≤ cap * ks k := Nat.mul_le_mul_right _ (by omega)
      omega
    · rw [if_neg he]
      refine .inr ⟨bb, f + l * ks k, cap - l, us, fr, by rw [hyl], hhp, hfr, by omega, by omega, ?_, fun i x j c u a1 a2 a3 => ?_⟩
      · have : (cap - l) * ks k = cap * ks k - l * ks k := Nat.sub_mul _ _ _
        have : l * ks k ≤ cap * ks k := Nat.mul_le_mul_right _ (by omega)
        omega
      · subst hy
        rw [List.getElem?_drop, List.getElem?_take] at a1
        split at a1
        · refine hcell (l + i) x j c u a1 a2 ?_
          rw [← a3, Nat.add_mul]
          congr 1
          omega
        · cases a1
theorem HD (h : St B β stk s a w) {id : Nat} {x : Operand} {t : TypeId} {lo hi : Option Operand} {z : Bool} (hx : s.ev x = .own id) (hf : cm P s.H t (.own id) = true) {q : Bool} {v : AV} {s' : S}
    (hs : fp s id z (lo.map s.ev) (hi.map s.ev) = some (q, v, s')) (hq : q = true) :
    ∃ u' β', (Instr.sliceAt t (a.eval x) (lo.map a.eval) (hi.map a.eval) none).run P w = .ok u' w ∧ St B β' stk s' a w ∧ R2 w β' v u' ∧ s'.gs = s.gs ∧ s'.n = s.n ∧ s'.pins = s.pins := by
  subst hq
  have hxv := h.eval x
  rw [hx] at hxv
  have hxv : RC w β (.own id) (a.eval x) := hxv
  unfold fp at hs
  split at hs
  · rename_i e fz k xs hid
    obtain ⟨e', hu, hk⟩ : ∃ e', P.underlying t = some (.slice e') ∧ P.cellsOf e' = ks k := by
      unfold cm at hf
      split at hf <;> simp_all
    have hkp := jg k
    obtain ⟨hd, k1, k2⟩ := h.hs.objs id _ hid
    obtain ⟨a0, cap, hv, hcap⟩ := k2.cells.len
    have hval : a.eval x = hd := by
      generalize a.eval x = vx at hxv
      cases hxv with
      | own k3 k4 => rw [k1] at k3; cases k3; rfl
    cases hc : DN (lo.map s.ev) (hi.map s.ev) xs.length with
    | none => rw [hc] at hs; cases hs
    | some r =>
      obtain ⟨c, l, hh⟩ := r
      rw [hc] at hs
      simp only [Option.bind_some] at hs
      have main : c = true → ∃ bs, (Instr.sliceAt t (a.eval x) (lo.map a.eval) (hi.map a.eval) none).run P w = .ok bs w ∧ 0 ≤ l ∧ l ≤ hh ∧ hh ≤ (xs.length : Int) ∧ bs = .slice (if cap = l.toNat then a0 else a0.map (·.add (l.toNat * ks k))) (hh.toNat - l.toNat) (cap - l.toNat) := by
        intro hct
        subst hct
        obtain ⟨hb, g1, g2, g3⟩ := o8 (P := P) (w := w) (β := β) (tm := bA a) h.eval hc true hcap
        refine ⟨_, ?_, g1, g2, g3, rfl⟩
        rw [hval, hv, sY hu (by omega) hb, hk]
      have hcut : c = true → BO (lo.map s.ev) (hi.map s.ev) l hh xs = (xs.take hh.toNat).drop l.toNat := by
        intro hct
        subst hct
        exact Kx hc
      split at hs
      · simp only [Option.some.injEq, Prod.mk.injEq] at hs
        obtain ⟨hct, rfl, rfl⟩ := hs
        obtain ⟨bs, hrun, g1, g2, g3, hbs⟩ := main hct
        have hys := hcut hct
        have hlen : (BO (lo.map s.ev) (hi.map s.ev) l hh xs).length = hh.toNat - l.toNat := by rw [hys]; simp; omega
        have hbsl : OJ bs = true := by rw [hbs]; rfl
        obtain ⟨β', q1, q2, q3⟩ := h.hs.remake (hpk := Pk.refl _ _) (w' := w) k1 (.row e fz k (BO (lo.map s.ev) (hi.map s.ev) l hh xs)) bs (hh.toNat - l.toNat) rfl rfl rfl (Nat.le_refl _) (fun _ _ _ => rfl) (fun a' ha' => by
            left
            rw [hbs] at ha'
            cases a0 with
            | none => exfalso; split at ha' <;> cases ha'
            | some aa =>
              refine ⟨aa, by rw [hv]; rfl, ?_⟩
              split at ha'
              · cases ha'; rfl
              · cases ha'
                rcases k2 with ⟨e1, _⟩ | ⟨b', f', cap', us, fr, e1, _⟩
                · rw [hv] at e1; cases e1
                · rw [hv] at e1
                  simp only [Value.slice.injEq, Option.some.injEq] at e1
                  obtain ⟨rfl, _⟩ := e1
                  simp [Addr.add_lit])
          (fun β' hβ hkf => by
            refine ⟨bs, by rw [hβ, hlen], ?_⟩
            rw [hbs]
            rcases k2 with ⟨e1, e2⟩ | ⟨b', f', cap', us, fr, e1, hhp, hfr, hnc, hcm, hsz, hcell⟩
            · rw [hv] at e1
              simp only [Value.slice.injEq] at e1
              obtain ⟨rfl, _, rfl⟩ := e1
              subst e2
              refine .inl ⟨?_, by rw [hys]; simp⟩
              have : hh.toNat = 0 := by simp at g3; omega
              have : l.toNat = 0 := by omega
              simp [*]
            · rw [hv] at e1
              cases e1
              have hcells : RowOK w β' e fz k xs (.slice (some ⟨b', f', none⟩) xs.length cap) := .inr ⟨b', f', cap, us, fr, rfl, hhp, hfr, hnc, hcm, hsz, fun i x j c u a1 a2 a3 => by
                have := hkf _ _ (hcell i x j c u a1 a2 a3)
                rwa [bh id c (b8 k x a2)] at this⟩
              have := hcells.cut (l := l.toNat) (h := hh.toNat) hys (by omega) (by omega)
              simpa [Addr.add_lit] using this)
        refine ⟨bs, β', hrun, h.map (bh id) (tz id) q2 q1, ?_, rfl, rfl, rfl⟩
        exact RC.own q3 hbsl
      · cases hs
      · simp only [Option.some.injEq, Prod.mk.injEq] at hs
        obtain ⟨hct, rfl, rfl⟩ := hs
        obtain ⟨bs, hrun, g1, g2, g3, hbs⟩ := main hct
        have hys := hcut hct
        obtain ⟨β', q1, q2⟩ := h.freeze' id
        have hsl := q2.fr id _ e fz k xs (by simp) hid hxv
        refine ⟨bs, β', hrun, q1, ?_, ?_, ?_, ?_⟩
        · show RC w β' (.sl k _) bs
          rw [hval, hv] at hsl
          rw [hbs]
          by_cases hxs : xs = []
          · subst hxs
            have e1 : hh.toNat - l.toNat = 0 := by simp at g3; omega
            rw [e1, hys]
            simp only [List.take_nil, List.drop_nil]
            exact .nil
          · have ha : ∃ bb f, a0 = some ⟨bb, f, none⟩ := by
              cases hsl with
              | nil => exact absurd rfl hxs
              | sl => exact ⟨_, _, rfl⟩
            obtain ⟨bb, f, rfl⟩ := ha
            have := RC.cut (l := l.toNat) (h := hh.toNat) hys (by omega) (by omega) hsl hcap
            simpa [Addr.add_lit] using this
        · simp only [S.freeze, hid]; rfl
        · simp only [S.freeze, hid]; rfl
        · simp only [S.freeze, hid]; rfl
  · cases hs
end
end Go.VS
namespace Go.VS
open Go
section
variable {B : Base} {β β' : Beta} {H : Hp} {stk : List (Array Value)} {s s' : S} {a : Act} {w w' : World} {C : Cx}
def va (B : Base) (stk : List (Array Value)) (a : Act) (d : Option Nat) (s' : S) (K : Act → World → Prop) : Prop := ∀ β' u w', St B β' stk s' (a.put d u) w' → K (a.put d u) w'
theorem qE {o : Oper} {K : Act → World → Prop} {Q : Exit → Act → World → Prop} {u : Value} (h : (execOp a.eval o).run B.P w = .ok (.value u) w') (hk : K (a.put o.dst u) w') : o.wp B.P a w K Q := by
  unfold Oper.wp
  rw [h]
  exact hk
theorem Qa (h : St B β stk s a w) {b : Nat} {v : AV} {os : List Ob} {o : Oper} (hd : s.has o.dst = true) (hg : Good B β s.H w b v os ((execOp a.eval o).run B.P w)) {K : Act → World → Prop} {Q : Exit → Act → World → Prop}
    (hK : va B stk a o.dst ({ s with H := cd s.H b os }.put o.dst v) K) : o.wp B.P a w K Q := by
  obtain ⟨u, w', β', h1, h2, h3, h4⟩ := hg
  refine qE h1 (hK β' _ _ ?_)
  have h5 := h.keep h3 h2
  refine h5.put hd (RT.ofR2 h4) (fun g want x e => ?_)
  rw [e] at h4
  exact absurd h4 (by simp [R2, R1])
theorem ET (h : St B β stk s a w) {d : Option Nat} (hd : s.has d = true) {v : AV} {u : Value} (hv : R2 w β v u) : St B β stk (s.put d v) (a.put d u) w :=
  h.put hd (RT.ofR2 hv) (fun g want x e => by rw [e] at hv; exact absurd hv (by simp [R2, R1]))
theorem Bm {s s' : S} (h1 : s'.gs = s.gs) (h2 : s'.n = s.n) (h3 : s'.pins = s.pins) (d : Option Nat) : s'.has d = s.has d := by
  cases d with
  | none => rfl
  | some d => simp only [S.has, h1, h2, h3]
theorem IZ (hP : C.P = B.P) (h : St B β stk s a w) {b : Nat} (hb : s.H b = none) {o : Oper} (hd : s.has o.dst = true) {K : Act → World → Prop} {Q : Exit → Act → World → Prop}
    (he : (match aM C.P C.kd s.ev s.H b o.op with
      | some (q, v, os) => if q then some ({ s with H := cd s.H b os }.put o.dst v) else none
      | none => none) = some s') (hK : va B stk a o.dst s' K) : o.wp B.P a w K Q := by
  split at he
  · rename_i q v os hp
    split at he
    · rename_i hq
      cases he
      have hg := On (P := C.P) hP h.eval (fun _ => rfl) (fun _ => rfl) h.hs hb hp hq
      rw [hP] at hg
      exact Qa h hd hg hK
    · cases he
  · cases he
theorem m6 : ∀ (ids : List Nat) (s : S), (ids.foldl S.freeze s).gs = s.gs ∧ (ids.foldl S.freeze s).n = s.n ∧ (ids.foldl S.freeze s).pins = s.pins ∧ (ids.foldl S.freeze s).nid = s.nid
  | [], s => ⟨rfl, rfl, rfl, rfl⟩
  | i :: ids, s => by
    obtain ⟨h1, h2, h3, h4⟩ := m6 ids (s.freeze i)
    have : (s.freeze i).gs = s.gs ∧ (s.freeze i).n = s.n ∧ (s.freeze i).pins = s.pins ∧ (s.freeze i).nid = s.nid := by
      unfold S.freeze
      split <;> exact ⟨rfl, rfl, rfl, rfl⟩
    exact ⟨h1.trans this.1, h2.trans this.2.1, h3.trans this.2.2.1, h4.trans this.2.2.2⟩
theorem KZ {P : Program} {t : TypeId} {x y : AV} (h : jA P t s x y = some s') : s'.gs = s.gs ∧ s'.n = s.n ∧ s'.pins = s.pins := by
  unfold jA at h
  split at h
  · split at h
    · split at h
      · obtain ⟨ys, hc, h⟩ := Option.bind_eq_some_iff.1 h
        split at h <;> cases h
        exact ⟨rfl, rfl, rfl⟩
      · cases h
    · obtain ⟨ys, hc, h⟩ := Option.bind_eq_some_iff.1 h
      split at h
      · obtain ⟨z, hz, h⟩ := Option.bind_eq_some_iff.1 h
        cases h
        obtain ⟨h1, h2, h3, _⟩ := m6 (ys.filterMap mM) s
        exact ⟨h1, h2, h3⟩
      · cases h
    · obtain ⟨ys, hc, h⟩ := Option.bind_eq_some_iff.1 h
      split at h
      · obtain ⟨z, hz, h⟩ := Option.bind_eq_some_iff.1 h
        cases h
        exact ⟨rfl, rfl, rfl⟩
      · cases h
    · cases h
  · cases h
theorem Mp (hP : C.P = B.P) (h : St B β stk s a w) {o : Oper} (hd : s.has o.dst = true) {t : TypeId} {p x : Operand} (ho : o.op = .store t p x) {s1 : S} (hs : jA C.P t s (s.ev p) (s.ev x) = some s1) {K : Act → World → Prop} {Q : Exit → Act → World → Prop}
    (hK : va B stk a o.dst (s1.put o.dst qF) K) : o.wp B.P a w K Q := by
  obtain ⟨w', β', h1, h2⟩ := Mq hP h hs
  obtain ⟨e1, e2, e3⟩ := KZ hs
  rw [hP] at h1
  unfold Oper.wp execOp
  rw [ho]
  simp only [Sem.run_bind, h1, Result.andThen_ok, Sem.run_pure]
  exact hK β' _ _ (ET h2 (by rw [Bm e1 e2 e3]; exact hd) rfl)
theorem Ma (hP : C.P = B.P) (h : St B β stk s a w) {b : Nat} (hb : s.H b = none) {o : Oper} (hd : s.has o.dst = true) {x y : Operand} {t u : TypeId} (ho : o.op = .call { callee := .builtin .append, args := #[x, y], argTypes := #[t, u] })
    {v : AV} {s1 : S} (hs : ld C.P C.kd t u s b (s.ev x) (s.ev y) = some (true, v, s1)) {K : Act → World → Prop} {Q : Exit → Act → World → Prop} (hK : va B stk a o.dst (s1.put o.dst v) K) : o.wp B.P a w K Q := by
  obtain ⟨u', w', β', h1, h2, h3, e1, e2, e3⟩ := Mb (ty := o.type) hP h hb hs rfl
  rw [hP] at h1
  refine qE (u := u') (w' := w') ?_ (hK β' _ _ (ET h2 (by rw [Bm e1 e2 e3]; exact hd) h3))
  unfold execOp
  rw [ho]
  simp [resolve, invoke, builtin, h1]
theorem O0 (hP : C.P = B.P) (h : St B β stk s a w) {o : Oper} (hd : s.has o.dst = true) {x y : Operand} {t u : TypeId} (ho : o.op = .call { callee := .builtin .copy, args := #[x, y], argTypes := #[t, u] })
    {v : AV} {s1 : S} (hs : w5 C.P t s (s.ev x) (s.ev y) = some (v, s1)) {K : Act → World → Prop} {Q : Exit → Act → World → Prop} (hK : va B stk a o.dst (s1.put o.dst v) K) : o.wp B.P a w K Q := by
  obtain ⟨u', w', β', h1, h2, h3, e1, e2, e3⟩ := O1 (u := u) (ty := o.type) hP h hs
  rw [hP] at h1
  refine qE (u := u') (w' := w') ?_ (hK β' _ _ (ET h2 (by rw [Bm e1 e2 e3]; exact hd) h3))
  unfold execOp
  rw [ho]
  simp [resolve, invoke, builtin, h1]
theorem Mz (hP : C.P = B.P) (h : St B β stk s a w) {o : Oper} (hd : s.has o.dst = true) {t : TypeId} {x : Operand} {lo hi : Option Operand} (ho : o.op = .slice t x lo hi none) {id : Nat} (hx : s.ev x = .own id) {z : Bool} (hf : cm C.P s.H t (.own id) = true)
    {v : AV} {s1 : S} (hs : fp s id z (lo.map s.ev) (hi.map s.ev) = some (true, v, s1)) {K : Act → World → Prop} {Q : Exit → Act → World → Prop} (hK : va B stk a o.dst (s1.put o.dst v) K) : o.wp B.P a w K Q := by
  obtain ⟨u', β', h1, h2, h3, e1, e2, e3⟩ := HD (P := C.P) h hx hf hs rfl
  rw [hP] at h1
  refine qE (u := u') (w' := w) ?_ (hK β' _ _ (ET h2 (by rw [Bm e1 e2 e3]; exact hd) h3))
  unfold execOp
  rw [ho]
  simp [h1]
theorem D2 (hP : C.P = B.P) (h : St B β stk s a w) {b : Nat} (hb : s.H b = none) {o : Oper} (hd : s.has o.dst = true) {ids : List Nat} {K : Act → World → Prop} {Q : Exit → Act → World → Prop}
    (he : (match aM C.P C.kd (ids.foldl S.freeze s).ev (ids.foldl S.freeze s).H b o.op with
      | some (q, v, os) => if q then some ({ ids.foldl S.freeze s with H := cd (ids.foldl S.freeze s).H b os }.put o.dst v) else none
      | none => none) = some s') (hK : va B stk a o.dst s' K) : o.wp B.P a w K Q := by
  obtain ⟨β', h1, h2⟩ := h.freezes ids
  obtain ⟨e1, e2, e3, _⟩ := m6 ids s
  exact IZ hP h1 (h2.non b hb) (by rw [Bm e1 e2 e3]; exact hd) he hK
def lI (C : Cx) (B : Base) : Prop := ∀ (f : FuncId) (d : Option Nat) (m : Summ), C.Γ f d = some m → ∀ (β : Beta) (stk : List (Array Value)) (s : S) (a : Act) (w : World) (b : Nat) (as : List Operand) (s' : S) (o : Oper) (ts : Array TypeId) (K : Act → World → Prop) (Q : Exit → Act → World → Prop),
  St B β stk s a w → (∀ j, b ≤ j → j < b + 16 → s.H j = none) → s.has d = true → oA m s b d (as.map s.ev) some = some s' → o.dst = d → o.op = .call { callee := .value (.func f), args := as.toArray, argTypes := ts } → va B stk a d s' K → o.wp B.P a w K Q
theorem JY (hP : C.P = B.P) (hC : lI C B) (h : St B β stk s a w) {b : Nat} (hb : ∀ j, b ≤ j → j < b + 16 → s.H j = none) {o : Oper} (he : dF C (ae S) o b s some = some s') {K : Act → World → Prop} {Q : Exit → Act → World → Prop} (hK : va B stk a o.dst s' K) : o.wp B.P a w K Q := by
  have hb0 : s.H b = none := hb b (Nat.le_refl _) (by omega)
  unfold dF at he
  split at he
  · cases he
  rename_i hd
  generalize ho : o.op = op at he
  have pu : (match aM C.P C.kd s.ev s.H b op with
      | some (q, v, os) => if q then some ({ s with H := cd s.H b os }.put o.dst v) else none
      | none => none) = some s' → o.wp B.P a w K Q := fun he => IZ hP h hb0 hd (by rw [ho]; exact he) hK
  cases op <;> try (exact pu he)
  case store t p x =>
    simp only at he
    split at he
    · rename_i s1 hs
      cases he
      exact Mp hP h hd ho hs hK
    · cases he
  case call c =>
    obtain ⟨cal, ⟨args⟩, ⟨tys⟩⟩ := c
    simp only at he
    split at he
    · rename_i f
      split at he
      · rename_i m hm
        exact hC f o.dst m hm β stk s a w b _ s' o _ K Q h hb hd he rfl ho hK
      · cases he
    · split at he
      · rename_i q v s1 hs
        split at he
        · rename_i hq
          subst hq
          cases he
          exact Ma hP h hb0 hd ho hs hK
        · cases he
      · cases he
    · split at he
      · rename_i v s1 hs
        cases he
        exact O0 hP h hd ho hs hK
      · cases he
    · exact pu he
  case slice t x lo hi mx =>
    cases mx with
    | some m => exact pu he
    | none =>
      simp only at he
      split at he
      · rename_i id hx
        split at he
        · cases he
        · rename_i hf
          split at he
          · rename_i q v s1 hs
            split at he
            · rename_i hq
              subst hq
              cases he
              exact Mz hP h hd ho hx hf hs hK
            · cases he
          · cases he
      · exact pu he
  case buildSlice t n ps =>
    simp only at he
    exact D2 hP h hb0 hd (by rw [ho]; exact he) hK
end
end Go.VS
namespace Go.VS
open Go
mutual
theorem PX (E : Nat → AV) (H : Hp) (b : Nat) : ∀ (h : Sh) (x : LT h), j9 h = true → (aX E H b h x).2 = (H, b)
  | .int _, _, _ => rfl
  | .bool, _, _ => rfl
  | .str, _, _ => rfl
  | .agg l, x, h => by
    have := vk E H b l x h
    show ((match ah E H b l x with | (cs, H, b) => (AV.agg cs, H, b)) : AV × Hp × Nat).2 = (H, b)
    generalize ah E H b l x = r at *
    obtain ⟨cs, H', b'⟩ := r
    exact this
  | .sl _, _, h => by simp [j9] at h
  | .row _ _, _, h => by simp [j9] at h
  | .fz _, _, h => by simp [j9] at h
  | .rowz _ _, _, h => by simp [j9] at h
  | .abx _ _, _, h => by simp [j9] at h
  | .arr _, _, h => by simp [j9] at h
  | .same _, _, h => by simp [j9] at h
  | .box _ _, _, h => by simp [j9] at h
theorem vk (E : Nat → AV) (H : Hp) (b : Nat) : ∀ (l : List Sh) (x : LTs l), tk l = true → (ah E H b l x).2 = (H, b)
  | [], _, _ => rfl
  | h :: l, x, hl => by
    simp only [tk, Bool.and_eq_true] at hl
    have h1 := PX E H b h x.1 hl.1
    have h2 := vk E H b l x.2 hl.2
    show ((match aX E H b h x.1 with | (c, H, b) => match ah E H b l x.2 with | (cs, H, b) => (c :: cs, H, b)) : List AV × Hp × Nat).2 = (H, b)
    generalize hm : aX E H b h x.1 = r at *
    obtain ⟨c, H', b'⟩ := r
    cases h1
    show ((match ah E H b l x.2 with | (cs, H, b) => (c :: cs, H, b)) : List AV × Hp × Nat).2 = (H, b)
    generalize ah E H b l x.2 = r at *
    obtain ⟨cs, H', b'⟩ := r
    exact h2
end
mutual
theorem PY : ∀ h : Sh, j9 h = true → J7 h = false
  | .int _, _ => rfl
  | .bool, _ => rfl
  | .str, _ => rfl
  | .agg l, h => AW l h
  | .sl _, h => by simp [j9] at h
  | .row _ _, h => by simp [j9] at h
  | .fz _, h => by simp [j9] at h
  | .rowz _ _, h => by simp [j9] at h
  | .abx _ _, h => by simp [j9] at h
  | .arr _, h => by simp [j9] at h
  | .same _, h => by simp [j9] at h
  | .box _ _, h => by simp [j9] at h
theorem AW : ∀ l : List Sh, tk l = true → bD l = false
  | [], _ => rfl
  | h :: l, hl => by
    simp only [tk, Bool.and_eq_true] at hl
    simp only [bD, PY h hl.1, AW l hl.2, Bool.or_false]
end
theorem Jh (E : Nat → AV) (H : Hp) (b : Nat) : ∀ (l : List Sh) (cs : List AV) (x : LTs l), l.isEmpty = true → aC E H b l cs x = ([], H, b)
  | [], _, _, _ => rfl
  | _ :: _, _, _, h => by simp at h
theorem Oz : ∀ l : List Sh, l.isEmpty = true → bD l = false
  | [], _ => rfl
  | _ :: _, h => by simp at h
theorem Q9 (l : List Nat) : off l [] = true := by simp [off]
theorem O8 {m : Summ} {s : S} {b : Nat} {d : Option Nat} {as : List AV} {v : AV} {x : LTs m.ps} {r : LTs m.rs × LTs (aq m.ps)} (h1 : tk m.rs = true) (h2 : (aq m.ps).isEmpty = true) (h3 : (bC s.H m.ps as).isEmpty = true) (h4 : (aQ s.H m.ps as).isEmpty = true)
    (hx : j0 (fun i => (as[i]?).getD .un) s.H m.ps as = some x) (hr : m.g x = some r) (hv : Ev (ah (fun i => (as[i]?).getD .un) s.H b m.rs r.1).1 = v) : oA m s b d as some = some (s.put d v) := by
  have h3' : bC s.H m.ps as = [] := by simpa using h3
  have h4' : aQ s.H m.ps as = [] := by simpa using h4
  unfold oA
  simp only [hx, h4', B2, h3', Q9, Bool.and_self, hr, Option.bind_some, List.foldl_nil, AW _ h1, Oz _ h2, Bool.or_self, sE, Jh _ _ _ _ _ _ h2]
  have hm := vk (fun i => (as[i]?).getD .un) s.H b m.rs r.1 h1
  generalize ah (fun i => (as[i]?).getD .un) s.H b m.rs r.1 = q at *
  obtain ⟨vs, H', b'⟩ := q
  cases hm
  have : Nat.ble b (b + 16) = true := Nat.ble_eq_true_of_le (by omega)
  simp only [this]
  rw [← hv]
section
variable {B : Base} {β β' : Beta} {H : Hp} {stk : List (Array Value)} {s s' : S} {a : Act} {w w' : World} {C : Cx}
theorem PC {b : Nat} {o : Oper} {v : AV} (hd : s.has o.dst = true) (h : spA C b o.dst s.ev s.H o.op = some (true, v)) : dF C (ae S) o b s some = some (s.put o.dst v) := by
  have eqS : ∀ v', ({ s with H := s.H } : S).put o.dst v' = s.put o.dst v' := fun _ => rfl
  unfold dF
  rw [hd]
  generalize ho : o.op = op at h
  have pu : (match aM C.P C.kd s.ev s.H b op with
      | some (q, v, []) => some (q, v)
      | _ => none) = some (true, v) → (match aM C.P C.kd s.ev s.H b op with
      | some (q, v, os) => if q then some ({ s with H := cd s.H b os }.put o.dst v) else none
      | none => none) = some (s.put o.dst v) := by
    intro h
    split at h
    · rename_i v' hp
      cases h
      rw [hp]
      rfl
    · cases h
  cases op <;> try (exact pu h)
  case store => simp [spA] at h
  case buildSlice => simp [spA] at h
  case slice t x lo hi mx =>
    cases mx with
    | some m => exact pu h
    | none =>
      simp only [spA] at h
      simp only
      cases hx : s.ev x <;> simp only [hx] at h ⊢ <;> first | (cases h; done) | exact pu h
  case call c =>
    obtain ⟨cal, ⟨args⟩, ⟨tys⟩⟩ := c
    simp only [spA] at h
    simp only
    split at h
    · rename_i f
      obtain ⟨m, hm, h⟩ := Option.bind_eq_some_iff.1 h
      split at h
      · rename_i hc
        simp only [Bool.and_eq_true] at hc
        obtain ⟨x, hx, h⟩ := Option.bind_eq_some_iff.1 h
        simp only [Option.some.injEq, Prod.mk.injEq] at h
        obtain ⟨h1, h2⟩ := h
        cases hr : m.g x with
        | none => rw [hr] at h1; cases h1
        | some r =>
          rw [hr] at h2
          simp only [hm]
          exact O8 hc.1.1.1 hc.1.1.2 hc.1.2 hc.2 hx hr h2
      · cases h
    · cases h
    · cases h
    · rename_i n1 n2 n3
      split
      · exact absurd rfl (n1 _)
      · exact absurd rfl n2
      · exact absurd rfl n3
      · exact pu h
end
end Go.VS
namespace Go.VS
open Go
section
variable {B : Base} {β β' : Beta} {H : Hp} {stk : List (Array Value)} {s s' : S} {a : Act} {w w' : World} {C : Cx}
theorem mT {ops : Array Oper} {j g : Nat} (hg : (ops[j]?).bind (·.dst) = some g) {b : Bool} (hv : bA a g = .bool b) : yielded ops a.tmps j = some b := by
  unfold yielded
  rw [hg]
  have : a.tmps[g]? = some (.bool b) := by
    unfold bA at hv
    rw [Array.getD_eq_getD_getElem?] at hv
    cases h : a.tmps[g]? with
    | none => rw [h] at hv; cases hv
    | some u => rw [h] at hv; exact congrArg some hv
  rw [Option.bind_some, this]
theorem mS {ops : Array Oper} {j g : Nat} (hg : (ops[j]?).bind (·.dst) = some g) {b : Bool} (hv : yielded ops a.tmps j = some b) : bA a g = .bool b := by
  unfold yielded at hv
  rw [hg, Option.bind_some] at hv
  split at hv
  · rename_i c hc
    cases hv
    simp [bA, hc]
  · cases hv
theorem St.narrow (h : St B β stk s a w) {g : Nat} {want : Bool} (hg : bA a g = .bool want) : St B β stk (s.narrow g want) a w := by
  have rt : ∀ x y, RT w β (bA a) x y → RT w β (bA a) (lm g want x) y := by
    intro x y hx
    cases x with
    | gd g' w' z =>
      simp only [lm]
      split
      · rename_i h1 h2
        obtain rfl := ak h1
        obtain rfl : want = w' := by simpa using h2
        exact RT.ofR2 (hx.1 hg)
      · exact hx
    | _ => exact hx
  refine ⟨fun t => ?_, h.stack, h.n, h.defers, h.pins, fun t g' w' x hx => ?_, h.hs⟩
  · show RT w β (bA a) (upd (fun t => lm g want (s.T t)) g (.b want) t) (bA a t)
    by_cases e : t = g
    · subst e; rw [ai, hg]; rfl
    · rw [al _ _ e]; exact rt _ _ (h.T t)
  · have hx : upd (fun t => lm g want (s.T t)) g (.b want) t = .gd g' w' x := hx
    by_cases e : t = g
    · subst e; rw [ai] at hx; cases hx
    · rw [al _ _ e] at hx
      cases hs : s.T t with
      | gd g2 w2 z =>
        rw [hs] at hx
        simp only [lm] at hx
        split at hx
        · rename_i h1 h2
          obtain rfl := ak h1
          obtain rfl : want = w2 := by simpa using h2
          subst hx
          have := h.T t
          rw [hs] at this
          exact (this.1 hg).elim
        · cases hx; exact h.gs _ _ _ _ hs
      | _ => rw [hs] at hx; simp [lm] at hx
theorem PI (a : Act) {d t : Nat} (h : t ≠ d) (u : Value) : bA (a.put (some d) u) t = bA a t := by
  simp only [bA, Act.put, Array.getD_eq_getD_getElem?]
  rw [Array.getElem?_setIfInBounds_ne (fun e => h e.symm)]
theorem R2.bool {x : AV} {b : Bool} (h : R2 w β x (.bool b)) : R2 w' β' x (.bool b) := by
  cases x with
  | un => trivial
  | lit v => exact h
  | sl k xs => exact absurd (show RC w β (.sl k xs) (.bool b) from h) (fun h => by cases h)
  | arr k xs => obtain ⟨us, e, _⟩ := h; cases e
  | own id => exact absurd (show RC w β (.own id) (.bool b) from h) (fun h => by cases h with | own h1 h2 => cases h2)
  | ptr a b c d => exact absurd (show RC w β (.ptr a b c d) (.bool _) from h) (fun h => by cases h)
  | ipt a b c => exact absurd (show RC w β (.ipt a b c) (.bool _) from h) (fun h => by cases h)
  | agg cs => obtain ⟨us, e, _⟩ := h; cases e
  | tup vs => obtain ⟨us, e, _⟩ := h; cases e
  | gd a b c => exact h.elim
theorem St.more (h : St B β stk s a w) (g : Nat) : St B β stk { s with gs := upd s.gs g true } a w :=
  ⟨h.T, h.stack, h.n, h.defers, h.pins, fun t g' want x hx => by
    show upd s.gs g true g' = true
    by_cases e : g' = g
    · rw [e, ai]
    · rw [al _ _ e]; exact h.gs t g' want x hx, h.hs⟩
theorem RT.toR2 {tm : Nat → Value} {x : AV} {v : Value} (h : RT w β tm x v) (hn : Sf x = true) : R2 w β x v := by
  cases x with
  | gd => cases hn
  | _ => exact h
theorem RT.bool_of {tm tm' : Nat → Value} {x : AV} {b : Bool} (h : RT w β tm x (.bool b)) (ht : ∀ g want z, x = .gd g want z → tm' g = tm g) : RT w' β' tm' x (.bool b) := by
  cases x with
  | gd g want z =>
    have e := ht g want z rfl
    refine ⟨fun h1 => R2.bool (h.1 (e ▸ h1)), fun h1 => ?_⟩
    exact h.2 (e ▸ h1)
  | _ => exact RT.ofR2 (R2.bool (RT.toR2 h rfl))
theorem LI {g d : Nat} (h : ({ s with gs := upd s.gs g true } : S).has (some d) = true) : s.has (some d) = true ∧ d ≠ g ∧ s.gs d = false := by
  simp only [S.has, Bool.and_eq_true, Bool.not_eq_true'] at h ⊢
  obtain ⟨⟨h1, h2⟩, h3⟩ := h
  by_cases e : d = g
  · subst e; rw [ai] at h3; cases h3
  · rw [al _ _ e] at h3
    exact ⟨⟨⟨h1, h2⟩, h3⟩, e, h3⟩
theorem St.unnarrow (h : St B β stk s a w) {g d : Nat} {want : Bool} (hg : bA a g = .bool want) (hhas : ({ s with gs := upd s.gs g true } : S).has (some d) = true) {v : AV} (hn : Sf v = true) {u : Value}
    (h' : St B β' stk ((s.narrow g want).put (some d) v) (a.put (some d) u) w') : St B β' stk { s.put (some d) (.gd g want v) with gs := upd s.gs g true } (a.put (some d) u) w' := by
  obtain ⟨_, hdg, hgs⟩ := LI hhas
  have tg : bA (a.put (some d) u) g = .bool want := by rw [PI a (Ne.symm hdg)]; exact hg
  refine ⟨fun t => ?_, h'.stack, h'.n, h'.defers, h'.pins, fun t g' w1 x hx => ?_, h'.hs⟩
  · show RT w' β' _ (upd s.T d (.gd g want v) t) _
    have ht : RT w' β' (bA (a.put (some d) u)) (upd (upd (fun t => lm g want (s.T t)) g (.b want)) d v t) (bA (a.put (some d) u) t) := h'.T t
    by_cases e : t = d
    · subst e
      rw [ai] at ht ⊢
      exact ⟨fun _ => ht.toR2 hn, fun hne => absurd tg hne⟩
    · rw [al _ _ e] at ht ⊢
      by_cases e2 : t = g
      · subst e2
        rw [tg]
        have h0 := h.T t
        rw [hg] at h0
        refine h0.bool_of fun g' w1 z hz => ?_
        have hg' : s.gs g' = true := h.gs _ _ _ _ hz
        exact PI a (fun e => by rw [e, hgs] at hg'; cases hg') u
      · rw [al _ _ e2] at ht
        cases hs : s.T t with
        | gd g2 w2 z =>
          rw [hs] at ht
          simp only [lm] at ht
          split at ht
          · rename_i h1 h2
            obtain rfl := ak h1
            obtain rfl : want = w2 := by simpa using h2
            have h0 := h.T t
            rw [hs] at h0
            refine ⟨fun _ => ht.toR2 ?_, fun hne => absurd tg hne⟩
            have := h0.1 hg
            cases z <;> first | rfl | exact this.elim
          · exact ht
        | _ => rw [hs] at ht; exact ht
  · show upd s.gs g true g' = true
    have hx : upd s.T d (.gd g want v) t = .gd g' w1 x := hx
    by_cases e : t = d
    · subst e; rw [ai] at hx; cases hx; exact ai _ _ _
    · rw [al _ _ e] at hx
      by_cases e3 : g' = g
      · rw [e3, ai]
      · rw [al _ _ e3]; exact h.gs _ _ _ _ hx
theorem G1 (h : St B β stk s a w) {ops : Array Oper} : ∀ (n : Nat) (o : Oper) {c : Bool}, Aw ops s n o = some c → Region.wanted o (yielded ops a.tmps) = true → c = true
  | 0, _, _, he, _ => by cases he
  | n + 1, o, c, he, hw => by
    unfold Aw at he
    cases hg : o.guard with
    | none => rw [hg] at he; cases he; rfl
    | some jw =>
      obtain ⟨j, want⟩ := jw
      rw [hg] at he
      obtain ⟨oj, hj, he⟩ := Option.bind_eq_some_iff.1 he
      obtain ⟨g, hgd, he⟩ := Option.bind_eq_some_iff.1 he
      have hgd' : (ops[j]?).bind (·.dst) = some g := by rw [hj]; exact hgd
      have hy : yielded ops a.tmps j = some want := by simpa [Region.wanted, hg] using hw
      have htg := mS hgd' hy
      have hT := h.T g
      split at he
      · rename_i c0 hc0
        rw [hc0, htg] at hT
        have hT : Value.bool want = Value.bool c0 := hT
        cases hT
        cases he
        cases want <;> rfl
      · rename_i vs hc0
        rw [hc0, htg] at hT
        cases (show Value.bool want = Value.tuple vs from hT)
      · rename_i g' w' c0 hc0
        rw [hc0] at hT
        split at he
        · rename_i j' w2 hoj
          split at he
          · rename_i g2 hg2
            split at he
            · rename_i e1 e2
              obtain rfl := ak e1
              obtain rfl : w' = w2 := by simpa using e2
              obtain ⟨b, hb, he⟩ := Option.bind_eq_some_iff.1 he
              by_cases hq : bA a g' = .bool w'
              · have hv : bA a g = .bool c0 := hT.1 hq
                rw [htg] at hv
                cases hv
                have hb1 := G1 h n oj hb (by
                  have : yielded ops a.tmps j' = some w' := mT hg2 hq
                  simp [Region.wanted, hoj, this])
                rw [hb1] at he
                cases he
                cases want <;> rfl
              · have hv : bA a g = undef := hT.2 hq
                rw [htg] at hv
                cases hv
            · cases he
          · cases he
        · cases he
      · cases he
theorem O2 {c : Option Bool} {q : Bool} (h : SG c q = true) (hc : ∀ b, c = some b → b = true) : q = true := by
  cases c with
  | none => exact h
  | some b =>
    obtain rfl := hc b rfl
    cases q with
    | true => rfl
    | false => cases h
theorem LQ (hP : C.P = B.P) (hC : lI C B) {ops : Array Oper} {i : Nat} {o : Oper} (hi : ops[i]? = some o) (h : St B β stk s a w) {b : Nat} (hb : ∀ j, b ≤ j → j < b + 16 → s.H j = none)
    (he : evG C (ae S) ops o b s some = some s') {K : Act → World → Prop} {Q : Exit → Act → World → Prop} (hK : va B stk a o.dst s' K) : wpOp B.P ops Q i K a w := by
  unfold wpOp
  simp only [hi]
  unfold evG at he
  split at he
  · rename_i hg
    have hw : Region.wanted o (yielded ops a.tmps) = true := by simp [Region.wanted, hg]
    rw [if_pos hw]
    exact .inl (JY hP hC h hb he hK)
  · rename_i j want hg
    have hwd : Region.wanted o (yielded ops a.tmps) = (yielded ops a.tmps j == some want) := by simp [Region.wanted, hg]
    rw [hwd]
    split at he
    · cases he
    · rename_i g hgd hsp
      split at he
      · rename_i q v hhas hv
        split at he
        · rename_i hn
          split at he
          case isFalse => cases he
          rename_i hchk
          cases he
          obtain ⟨d, hd⟩ : ∃ d, o.dst = some d := by
            cases hd : o.dst with
            | none => rw [hd] at hsp; cases hsp
            | some d => exact ⟨d, rfl⟩
          rw [hd] at hhas hv
          by_cases hy : yielded ops a.tmps j = some want
          · have htg := mS hgd hy
            rw [if_pos (by simp [hy])]
            have hh := (LI hhas).1
            have hqt : q = true := O2 hchk (fun b hb => G1 h 4 o hb (by rw [hwd, hy]; simp))
            subst hqt
            have he : dF C (ae S) o b (s.narrow g want) some = some ((s.narrow g want).put o.dst v) :=
              PC (by rw [hd]; exact hh) (by rw [hd]; exact hv)
            refine .inl (JY hP hC (h.narrow htg) (s := s.narrow g want) hb he ?_)
            intro β' u w' h'
            rw [hd] at h' ⊢
            have := hK β' u w'
            rw [hd] at this
            exact this (h.unnarrow htg hhas hn h')
          · rw [if_neg (by simpa using hy)]
            have hne : bA a g ≠ .bool want := fun e => hy (mT hgd e)
            have := hK β undef w
            rw [hd] at this ⊢
            exact this ((h.more g).put hhas ⟨fun e => absurd e hne, fun _ => rfl⟩ (fun g' w1 x e => by cases e; exact ai _ _ _))
        · cases he
      · cases he
    · rename_i g hgd hsp
      split at he
      · rename_i c hT
        have htg : bA a g = .bool c := by have := h.T g; rw [hT] at this; exact this
        have hy : yielded ops a.tmps j = some c := mT hgd htg
        rw [hy]
        have hn : ∀ w0 : Bool, c = w0 → St B β stk { s with T := upd s.T g (.b w0) } a w := by
          intro w0 e
          subst e
          refine ⟨fun t => ?_, h.stack, h.n, h.defers, h.pins, fun t g' w' x hx => ?_, h.hs⟩
          · show RT w β (bA a) (upd s.T g (.b c) t) (bA a t)
            by_cases e : t = g
            · subst e; rw [ai, htg]; rfl
            · rw [al _ _ e]; exact h.T t
          · have hx : upd s.T g (.b c) t = .gd g' w' x := hx
            by_cases e : t = g
            · subst e; rw [ai] at hx; cases hx
            · rw [al _ _ e] at hx; exact h.gs _ _ _ _ hx
        have yes : dF C (ae S) o b { s with T := upd s.T g (.b want) } some = some s' → c = want →
            (if (some c == some want) = true then o.wp B.P a w K Q ∨ (o.asks B.P a w ∧ LetsOut Q) else K (a.put o.dst undef) w) := by
          intro he e
          rw [if_pos (by simp [e])]
          exact .inl (JY hP hC (hn want e) hb he hK)
        have no : (match s.has o.dst with
            | true => some (({ s with T := upd s.T g (.b (!want)) } : S).put o.dst qF)
            | false => none) = some s' → c = !want →
            (if (some c == some want) = true then o.wp B.P a w K Q ∨ (o.asks B.P a w ∧ LetsOut Q) else K (a.put o.dst undef) w) := by
          intro he e
          rw [if_neg (by subst e; cases want <;> simp)]
          split at he
          · rename_i hhas
            cases he
            exact hK β undef w ((hn (!want) e).put (by exact hhas) (u := undef) rfl (fun g' w1 x e => by cases e))
          · cases he
        cases want <;> cases c <;> simp only [if_true, if_false, Bool.false_eq_true] at he
        · exact yes he rfl
        · exact no he rfl
        · exact no he rfl
        · exact yes he rfl
      · rename_i vs hT
        have htg : bA a g = .tuple vs := by have := h.T g; rw [hT] at this; exact this
        have hy : ¬ (yielded ops a.tmps j == some want) = true := by
          intro e
          have := mS hgd (show yielded ops a.tmps j = some want by simpa using e)
          rw [htg] at this; cases this
        rw [if_neg hy]
        split at he
        · rename_i hhas
          cases he
          exact hK β undef w (h.put hhas (u := undef) rfl (fun g' w1 x e => by cases e))
        · cases he
      · cases he
end
end Go.VS
namespace Go.VS
open Go
def In1 (F : Nat → Prop) : AV → Prop
  | .own id => F id
  | .ptr id _ _ _ => F id
  | .agg _ => False
  | .tup _ => False
  | .gd _ _ _ => False
  | _ => True
def In2 (F : Nat → Prop) : AV → Prop
  | .agg cs => ∀ c ∈ cs, In1 F c
  | v => In1 F v
def In3 (F : Nat → Prop) : AV → Prop
  | .tup vs => ∀ v ∈ vs, In2 F v
  | v => In2 F v
def InA (F : Nat → Prop) : AV → Prop
  | .gd _ _ v => In3 F v
  | v => In3 F v
def u9 (F : Nat → Prop) : Ob → Prop
  | .box _ cs => ∀ c ∈ cs, In1 F c
  | _ => True
def Closed (F : Nat → Prop) (H : Hp) : Prop := ∀ id ob, F id → H id = some ob → u9 F ob
def Agr (F : Nat → Prop) (H H' : Hp) : Prop := ∀ id, F id → H' id = H id
section
variable {F : Nat → Prop} {H H' : Hp} {P : Program} {kd : TypeId → Option K} {ρ ρ' : Operand → AV} {b : Nat}
theorem In2.of1 {v : AV} (h : In1 F v) : In2 F v := by
  cases v <;> first | exact h | exact h.elim
theorem In3.of2 {v : AV} (h : In2 F v) : In3 F v := by
  cases v <;> first | exact h | exact (show False from h).elim
theorem InA.of3 {v : AV} (h : In3 F v) : InA F v := by
  cases v <;> first | exact h | exact (show False from h).elim
theorem InA.of1 {v : AV} (h : In1 F v) : InA F v := .of3 (.of2 (.of1 h))
theorem InA.of2 {v : AV} (h : In2 F v) : InA F v := .of3 (.of2 h)
theorem In1.noRef {v : AV} (h : noRef v = true) : In1 F v := by
  cases v <;> first | trivial | cases h
theorem z7 (k : K) (x : Tof k) : ∀ c ∈ enc k x, In1 F c := fun c hc => .noRef (List.all_eq_true.1 (NH k x) c hc)
theorem pK {t : TypeId} {cs : List AV} {o : Nat} {v : AV} (hc : ∀ c ∈ cs, In1 F c) (h : mN P t cs o = some v) : InA F v := by
  unfold mN at h
  split at h
  · split at h
    · cases h
      exact .of2 fun c hm => hc c (List.mem_of_mem_drop (List.mem_of_mem_take hm))
    · cases h
  · exact .of1 (hc v (List.mem_of_getElem? h))
  · cases h
theorem P2 {t : TypeId} {p : AV} (hp : InA F p) (hH : Agr F H H') : th P H' t p = th P H t p := by
  unfold th
  cases p with
  | ptr id z i o => simp only [hH id hp]
  | _ => rfl
theorem P3 {t : TypeId} {p v : AV} (hp : InA F p) (hH : Closed F H) (h : th P H t p = some v) : InA F v := by
  unfold th at h
  split at h
  · exact pK (z7 _ _) h
  · rename_i id z i o
    split at h
    · rename_i hid
      split at h
      · exact pK (hH id _ hp hid) h
      · cases h
    · split at h
      · exact pK (z7 _ _) h
      · cases h
    · split at h
      · split at h <;> cases h
        trivial
      · split at h
        · exact pK (z7 _ _) h
        · cases h
    · cases h
  · cases h
theorem KF {k : K} {v : AV} (hv : InA F v) (hH : Agr F H H') : cT H' k v = cT H k v := by
  cases v with
  | own id => simp only [cT, hH id hv]
  | lit v => cases v with
    | slice a n c => cases a <;> cases n <;> cases c <;> rfl
    | _ => rfl
  | _ => rfl
theorem JM {k : K} {v : AV} (hv : InA F v) (hH : Agr F H H') : EA H' k v = EA H k v := by
  cases v with
  | own id => simp only [EA, cT, hH id hv]
  | lit v => cases v with
    | slice a n c => cases a <;> cases n <;> cases c <;> rfl
    | _ => rfl
  | _ => rfl
theorem yI {t : TypeId} {v : AV} (hv : InA F v) (hH : Agr F H H') : cm P H' t v = cm P H t v := by
  unfold cm
  generalize P.underlying t = u
  rcases u with _ | d
  · rfl
  cases d <;> cases v <;> first | rfl | (simp only [hH _ hv]; done) | (rename_i v; cases v <;> rfl)
theorem LD {t : TypeId} {i : Int} {v : AV} (hv : InA F v) (hH : Agr F H H') : k6 P H' t i v = k6 P H t i v := by
  unfold k6
  cases v with
  | own id => simp only [hH id hv]
  | ptr id z i o =>
    cases i <;> cases o <;> first | (simp only [hH id hv]; done) | rfl
  | _ => rfl
theorem Sc {v v' : AV} {q : Bool} {os : List Ob} (hv : InA F v) (h : okN v = some (q, v', os)) : InA F v' ∧ os = [] := by
  obtain ⟨rfl, _, rfl, _⟩ := mh h
  exact ⟨hv, rfl⟩
theorem Sd {v v' : AV} {q : Bool} {os : List Ob} (hv : InA F v) (h : okA v = some (q, v', os)) : InA F v' ∧ os = [] := by
  obtain ⟨rfl, _, rfl⟩ := aH h
  exact ⟨hv, rfl⟩
def PIn (F : Nat → Prop) (r : PR) : Prop := ∀ q v os, r = some (q, v, os) → InA F v ∧ os.length ≤ 1 ∧ ∀ ob ∈ os, u9 F ob
theorem PIn.okN {v : AV} (hv : InA F v) : PIn F (okN v) := fun q v' os h => by
  obtain ⟨h1, rfl⟩ := Sc hv h; exact ⟨h1, by simp, by simp⟩
theorem PIn.okA {v : AV} (hv : InA F v) : PIn F (okA v) := fun q v' os h => by
  obtain ⟨h1, rfl⟩ := Sd hv h; exact ⟨h1, by simp, by simp⟩
theorem PIn.lit {v : Value} : PIn F (VS.okA (.lit v)) := .okA (.of1 trivial)
theorem PIn.none : PIn F .none := fun q v os h => by cases h
theorem PIn.nil {q : Bool} {v : AV} (hv : InA F v) : PIn F (some (q, v, [])) := fun q v' os h => by cases h; exact ⟨hv, by simp, by simp⟩
theorem PIn.one {q : Bool} {v : AV} {ob : Ob} (hv : InA F v) (ho : u9 F ob) : PIn F (some (q, v, [ob])) := fun q v' os h => by
  cases h; exact ⟨hv, by simp, fun ob' hm => by simp at hm; subst hm; exact ho⟩
theorem PIn.bind {α : Type} {o : Option α} {f : α → PR} (h : ∀ a, o = some a → PIn F (f a)) : PIn F (o.bind f) := by
  cases o with
  | none => exact .none
  | some a => exact h a rfl
theorem RF (op : BinOp) (k : IntKind) (x y : Int) : PIn F (QJ op k x y) := by
  cases op <;> first | exact .lit | exact .none | exact .nil (.of1 trivial)
theorem RE (op : BinOp) (x y : ByteArray) : PIn F (QI op x y) := by
  cases op <;> first | exact .lit | exact .none | exact .nil (.of1 trivial)
theorem RG (op : BinOp) (t : TypeId) (x y : AV) : PIn F (Nc P op t x y) := by
  unfold Nc
  split
  · split
    · exact RF _ _ _ _
    · exact .none
  · exact RE _ _ _
  · split <;> first | exact .lit | exact .none
  · split <;> first | exact .lit | exact .none
  · exact .none
theorem R3 (op : UnOp) (x : AV) : PIn F (unA op x) := by
  unfold unA
  split <;> first | exact .lit | exact .none
theorem PJ {c x y : Operand} (hx : InA F (ρ x)) (hy : InA F (ρ y)) : PIn F (EV ρ c x y) := by
  unfold EV
  split
  · split
    · exact .lit
    · split
      · exact .lit
      · exact .okN hy
  · split
    · exact .lit
    · split
      · exact .okN hx
      · exact .lit
  · split
    · exact .okN hx
    · exact .okN hy
  · exact .none
theorem vw {v : AV} {cs : List AV} (hv : InA F v) (h : d6 v = some cs) : ∀ c ∈ cs, In1 F c := by
  cases v with
  | un => cases h
  | gd => cases h
  | tup => cases h
  | arr => cases h
  | agg cs => cases h; exact hv
  | lit v => cases v <;> first | (cases h; done) | (cases h; intro c hc; simp at hc; subst hc; trivial)
  | _ => cases h; intro c hc; simp at hc; subst hc; exact hv
theorem KI {t : TypeId} {zs : List AV} (h : nk P t = some zs) : ∀ c ∈ zs, In1 F c := by
  obtain ⟨i, _, h⟩ := Option.bind_eq_some_iff.1 h
  obtain ⟨z, _, h⟩ := Option.bind_eq_some_iff.1 h
  split at h
  · cases h
    intro c hc
    obtain ⟨v, _, rfl⟩ := List.mem_map.1 hc
    trivial
  · cases h
theorem AH {cs ys : List AV} {o : Nat} (hc : ∀ c ∈ cs, In1 F c) (hy : ∀ c ∈ ys, In1 F c) : ∀ c ∈ eT cs o ys, In1 F c := by
  intro c h
  unfold eT at h
  simp only [List.mem_append] at h
  rcases h with (h | h) | h
  · exact hc c (List.mem_of_mem_take h)
  · exact hy c h
  · exact hc c (List.mem_of_mem_drop h)
theorem Jy {t : TypeId} : ∀ (l : List (Nat × Operand)) (cs : List AV) {r : List AV}, (∀ p ∈ l, InA F (ρ p.2)) → (∀ c ∈ cs, In1 F c) → js P ρ t l cs = some r → ∀ c ∈ r, In1 F c
  | [], cs, r, _, hc, h => by cases h; exact hc
  | (i, x) :: l, cs, r, hl, hc, h => by
    obtain ⟨f, _, h⟩ := Option.bind_eq_some_iff.1 h
    obtain ⟨ys, h2, h⟩ := Option.bind_eq_some_iff.1 h
    split at h
    · exact Jy l _ (fun p hp => hl p (List.mem_cons_of_mem _ hp)) (AH hc (vw (hl _ (List.mem_cons_self)) h2)) h
    · cases h
theorem Jx {t : TypeId} : ∀ (l : List (Nat × Operand)) (cs : List AV), (∀ p ∈ l, ρ' p.2 = ρ p.2) → js P ρ' t l cs = js P ρ t l cs
  | [], cs, _ => rfl
  | (i, x) :: l, cs, hl => by
    have ih : ∀ cs, js P ρ' t l cs = js P ρ t l cs := fun cs => Jx l cs fun p hp => hl p (List.mem_cons_of_mem _ hp)
    have h1 : ρ' x = ρ x := hl (i, x) (List.mem_cons_self)
    simp only [js, h1, ih]
theorem I2 : ∀ (l : List (Nat × Operand)) (n : Nat), (∀ p ∈ l, ρ' p.2 = ρ p.2) → i7 ρ' n l = i7 ρ n l
  | [], _, _ => rfl
  | (i, x) :: l, n, hl => by
    have ih : ∀ n, i7 ρ' n l = i7 ρ n l := fun n => I2 l n fun p hp => hl p (List.mem_cons_of_mem _ hp)
    have h1 : ρ' x = ρ x := hl (i, x) (List.mem_cons_self)
    simp only [i7, h1, ih]
theorem Ou : ∀ (l : List (Nat × Operand)), (∀ p ∈ l, ρ' p.2 = ρ p.2) → pf ρ' l = pf ρ l := fun l hl => by
  unfold pf
  induction l with
  | nil => rfl
  | cons p l ih => simp only [List.flatMap_cons, hl p (List.mem_cons_self), ih fun q hq => hl q (List.mem_cons_of_mem _ hq)]
theorem Ok (lo hi : Option AV) (v : AV) : PIn F (AL lo hi v) := by
  unfold AL
  split <;> first | exact .none | exact .bind fun a _ => .nil (.of1 trivial)
theorem QD (hb : F 0) (s d : TypeId) (v : AV) : PIn F (qp P s d v) := by
  unfold qp
  split
  · exact .lit
  · exact .lit
  · split
    · exact .one (.of1 hb) trivial
    · exact .none
  · exact .none
theorem Rn (t : TypeId) (i : Int) (v : AV) : PIn F (OK P t i v) := by
  unfold OK
  split
  · split
    · exact .nil (.of1 trivial)
    · exact .none
  · split
    · split
      · exact .bind fun v hv => .nil (pK (z7 _ _) hv)
      · exact .none
    · exact .none
  · exact .none
theorem LE {t : TypeId} {i : Int} {v : AV} (hv : InA F v) : PIn F (k6 P H t i v) := by
  unfold k6
  split
  · split
    · split
      · exact .nil (.of1 trivial)
      · exact .none
    · exact .none
  · split
    · split
      · exact .nil (.of1 hv)
      · exact .none
    · exact .none
  · split
    · split
      · exact .nil (.of1 hv)
      · exact .none
    · exact .none
  · exact .none
theorem L6 (c : Call) : PIn F (sq P ρ H c) := by
  unfold sq
  split
  · split <;> first | exact .lit | exact .none | skip
    split <;> first | exact .lit | exact .none
  · split
    · split <;> first | exact .lit | exact .none
    · exact .none
  · split
    · split <;> first | exact .lit | exact .none
    · exact .none
  · exact .none
theorem L5 {c : Call} (hρ : ∀ x ∈ c.args.toList, ρ' x = ρ x) (hF : ∀ x ∈ c.args.toList, InA F (ρ x)) (hH : Agr F H H') : sq P ρ' H' c = sq P ρ H c := by
  obtain ⟨cal, ⟨args⟩, ⟨tys⟩⟩ := c
  simp only at hρ hF
  unfold sq
  simp only
  split
  · rename_i x t
    rw [hρ x (by simp)]
    have hx := hF x (by simp)
    generalize ρ x = v at hx
    generalize P.underlying t = u
    rcases u with _ | d
    · rfl
    cases d <;> cases v <;> first | rfl | (simp only [hH _ hx]; done) | (rename_i v; cases v <;> first | rfl | (rename_i a n c; cases a <;> cases n <;> cases c <;> rfl))
  · rename_i x y
    rw [hρ x (by simp), hρ y (by simp)]
  · rename_i x y
    rw [hρ x (by simp), hρ y (by simp)]
  · rfl
theorem I0 {op : Op} (hF : ∀ x ∈ op.operands, InA F (ρ x)) (hH : Closed F H) (hb : F b) : PIn F (aM P kd ρ H b op) := by
  cases op <;> simp only [aM] <;> try (exact .none)
  case move x => exact .okN (hF x (by simp [Op.operands]))
  case assign x => exact .okN (hF x (by simp [Op.operands]))
  case pick c x y => exact PJ (hF x (by simp [Op.operands])) (hF y (by simp [Op.operands]))
  case alloc t =>
    split
    · refine .bind fun k hk => .bind fun zs hz => ?_
      split
      · exact .one (.of1 hb) trivial
      · exact .none
    · exact .bind fun zs hz => .one (.of1 hb) (KI hz)
  case box t x => exact .bind fun cs hc => .one (.of1 hb) (vw (hF x (by simp [Op.operands])) hc)
  case build t ps =>
    refine .bind fun zs hz => ?_
    split
    · split
      · refine .bind fun cs hc => .okA (.of2 ?_)
        refine Jy _ _ (fun p hp => hF p.2 ?_) (KI hz) hc
        simp only [Op.operands, List.mem_toArray, List.mem_map]
        exact ⟨p, hp, rfl⟩
      · exact .none
    · exact .none
  case buildSlice t n ps =>
    refine .bind fun e _ => .bind fun k _ => .bind fun vs _ => .bind fun xs _ => ?_
    split
    · exact .one (.of1 hb) trivial
    · exact .none
  case load t p =>
    exact .bind fun v hv => .okA (P3 (hF p (by simp [Op.operands])) hH hv)
  case nilCheck p =>
    have hp := hF p (by simp [Op.operands])
    split <;> first | exact .none | (rename_i e; rw [e] at hp; exact .okA hp)
  case binOp => exact RG _ _ _ _
  case unOp => exact R3 _ _
  case convert src dst x =>
    split
    · split
      · exact .bind fun v hv => .lit
      · exact .none
    · split
      · rename_i c id os h
        intro q v os' e
        cases e
        have := QD (F := fun _ => True) trivial src dst (ρ x) _ _ _ h
        refine ⟨.of1 hb, this.2.1, fun ob ho => ?_⟩
        unfold qp at h
        split at h <;> first | (cases h; done) | skip
        split at h
        · cases h
          simp at ho
          subst ho
          trivial
        · cases h
      · rename_i h
        intro q v os e
        unfold qp at e
        split at e
        · cases e; exact ⟨.of1 trivial, by simp, by simp⟩
        · cases e; exact ⟨.of1 trivial, by simp, by simp⟩
        · split at e
          · cases e; exact (h _ 0 _ (by simp only [qp, *]; rfl)).elim
          · cases e
        · cases e
  case makeSlice t l c =>
    split
    · refine .bind fun e _ => .bind fun k _ => ?_
      split
      · exact .one (.of1 hb) trivial
      · exact .none
    · split
      · refine .bind fun e _ => .bind fun k _ => ?_
        split
        · exact .one (.of1 hb) trivial
        · exact .none
      · exact .none
    · exact .none
  case slice t x lo hi mx =>
    cases mx with
    | some m => exact .none
    | none =>
      simp only
      split
      · exact Ok _ _ _
      · exact .none
  case fieldAddr t x f =>
    have hx := hF x (by simp [Op.operands])
    refine .bind fun fd _ => ?_
    split
    · split
      · rename_i e; rw [e] at hx; exact .okA (.of1 hx)
      · exact .okA (.of1 trivial)
      · exact .none
    · exact .none
  case field t x f =>
    have hx := hF x (by simp [Op.operands])
    refine .bind fun fd _ => ?_
    split
    · rename_i cs e
      rw [e] at hx
      exact .bind fun v hv => .okA (pK hx hv)
    · exact .none
  case indexAddr t x ix =>
    have hx := hF x (by simp [Op.operands])
    split
    · exact LE hx
    · exact .none
  case index t x ix =>
    split
    · exact Rn _ _ _
    · exact .none
  case extract x i =>
    have hx := hF x (by simp [Op.operands])
    split
    · rename_i vs e
      rw [e] at hx
      exact .bind fun v hv => .okA (.of2 (hx v (List.mem_of_getElem? hv)))
    · exact .none
  case call c => exact L6 c
theorem vi {op : Op} (hρ : ∀ x ∈ op.operands, ρ' x = ρ x) (hF : ∀ x ∈ op.operands, InA F (ρ x)) (hH : Agr F H H') : aM P kd ρ' H' b op = aM P kd ρ H b op := by
  have one : ∀ {x : Operand}, x ∈ op.operands → ρ' x = ρ x := fun h => hρ _ h
  cases op <;> simp only [aM]
  case move x => rw [hρ x (by simp [Op.operands])]
  case assign x => rw [hρ x (by simp [Op.operands])]
  case pick c x y =>
    have h1 := hρ c (by simp [Op.operands])
    have h2 := hρ x (by simp [Op.operands])
    have h3 := hρ y (by simp [Op.operands])
    unfold EV
    rw [h1]
    split
    · simp only [h3]
    · simp only [h2]
    · simp only [h2, h3]
    · rfl
  case box t x => rw [hρ x (by simp [Op.operands])]
  case build t ps =>
    have : ∀ zs, js P ρ' t ps.toList zs = js P ρ t ps.toList zs := fun zs => Jx _ _ fun p hp => hρ p.2 (by
      simp only [Op.operands, List.mem_toArray, List.mem_map]
      exact ⟨p, hp, rfl⟩)
    simp only [this]
  case buildSlice t n ps =>
    have : i7 ρ' 0 ps.toList = i7 ρ 0 ps.toList := I2 _ _ fun p hp => hρ p.2 (by
      simp only [Op.operands, List.mem_toArray, List.mem_map]
      exact ⟨p, hp, rfl⟩)
    simp only [this]
  case load t p => rw [hρ p (by simp [Op.operands]), P2 (hF p (by simp [Op.operands])) hH]
  case nilCheck p => rw [hρ p (by simp [Op.operands])]
  case binOp o t x y t2 => rw [hρ x (by simp [Op.operands]), hρ y (by simp [Op.operands])]
  case unOp o t x => rw [hρ x (by simp [Op.operands])]
  case convert src dst x => rw [hρ x (by simp [Op.operands]), KF (hF x (by simp [Op.operands])) hH]
  case makeSlice t l c => rw [hρ l (by simp [Op.operands]), hρ c (by simp [Op.operands])]
  case slice t x lo hi mx =>
    cases mx with
    | some m => rfl
    | none =>
      have h1 := hρ x (by simp [Op.operands])
      have h2 : lo.map ρ' = lo.map ρ := by cases lo with
        | none => rfl
        | some l => exact congrArg some (hρ l (by simp [Op.operands]))
      have h3 : hi.map ρ' = hi.map ρ := by cases hi with
        | none => rfl
        | some l => exact congrArg some (hρ l (by simp [Op.operands]))
      simp only
      rw [h1, h2, h3, yI (hF x (by simp [Op.operands])) hH]
  case fieldAddr t x f => rw [hρ x (by simp [Op.operands])]
  case field t x f => rw [hρ x (by simp [Op.operands])]
  case indexAddr t x ix =>
    rw [hρ x (by simp [Op.operands]), hρ ix (by simp [Op.operands])]
    split
    · rw [LD (hF x (by simp [Op.operands])) hH]
    · rfl
  case index t x ix => rw [hρ x (by simp [Op.operands]), hρ ix (by simp [Op.operands])]
  case extract x i => rw [hρ x (by simp [Op.operands])]
  case call c =>
    refine L5 (fun x hx => hρ x ?_) (fun x hx => hF x ?_) hH <;>
    · simp only [Op.operands, Call.operands, Array.mem_append]
      exact .inr (by simpa using hx)
end
end Go.VS
namespace Go.VS
open Go
inductive Fk where
  | no
  | kl
  | fz (k : K) (xs : List (Tof k))
def Fk.f (id : Nat) : Fk → AV → AV
  | .no => fun v => v
  | .kl => kl1 id
  | .fz k xs => fz1 id k xs
structure Step where
  id : Nat
  fk : Fk
  ob : Option Ob
def S.app (s : S) (e : Step) : S := (s.map (e.fk.f e.id)).setH e.id e.ob
def StOK (F : Nat → Prop) (e : Step) : Prop := ∀ ob, e.ob = some ob → u9 F ob
def Loc {α : Type} (F W : Nat → Prop) (g : S → Option (α × S)) (s : S) (x : α) (s' : S) : Prop :=
  ∃ es : List Step, (∀ e ∈ es, W e.id ∧ StOK F e) ∧ s' = es.foldl S.app s ∧ ∀ s2 : S, Agr F s.H s2.H → g s2 = some (x, es.foldl S.app s2)
section
variable {F W : Nat → Prop} {H H' : Hp} {P : Program} {kd : TypeId → Option K} {s s' s2 : S} {b : Nat}
theorem P1 (v : AV) : ju (fun v => v) v = v := by cases v <;> simp [ju]
theorem I6 : (ju fun v => v) = id := funext P1
theorem P0 (v : AV) : j8 (fun v => v) v = v := by
  cases v <;> simp [j8, I6]
  all_goals simp [ju]
theorem Rf (v : AV) : nJ (fun v => v) v = v := by
  cases v with
  | gd g w v => simp [nJ, P0]
  | tup vs => simp [nJ, j8, I6]
  | _ => simp [nJ, j8, ju]
theorem PZ (o : Option Ob) : cY (fun v => v) o = o := by
  cases o with
  | none => rfl
  | some o => cases o <;> simp [cY]
theorem map_id (s : S) : s.map (fun v => v) = s := by
  cases s
  simp [S.map, Rf, PZ]
theorem gA (s : S) (id : Nat) (o : Option Ob) : s.app ⟨id, .no, o⟩ = s.setH id o := by
  simp [S.app, Fk.f, map_id]
theorem KH (s : S) (e : Step) (j : Nat) : (s.app e).H j = if j = e.id then e.ob else cY (e.fk.f e.id) (s.H j) := by
  show upd (fun j => cY (e.fk.f e.id) (s.H j)) e.id e.ob j = _
  by_cases h : j = e.id
  · subst h; rw [ai]; simp
  · rw [al _ _ h]; simp [h]
theorem Agr.app (h : Agr F s.H s2.H) (e : Step) : Agr F (s.app e).H (s2.app e).H := fun id hid => by rw [KH, KH, h id hid]
theorem Agr.apps {es : List Step} (h : Agr F s.H s2.H) : Agr F (es.foldl S.app s).H (es.foldl S.app s2).H := by
  induction es generalizing s s2 with
  | nil => exact h
  | cons e es ih => exact ih (h.app e)
theorem Agr.refl (F : Nat → Prop) (H : Hp) : Agr F H H := fun _ _ => rfl
theorem Fk.f_In (id : Nat) (fk : Fk) {c : AV} (h : In1 F c) : In1 F (fk.f id c) := by
  cases fk with
  | no => exact h
  | kl =>
    show In1 F (kl1 id c)
    unfold kl1
    split
    · split
      · trivial
      · exact h
    · split
      · trivial
      · exact h
    · exact h
  | fz k xs =>
    show In1 F (fz1 id k xs c)
    unfold fz1
    split
    · split
      · trivial
      · exact h
    · split
      · trivial
      · exact h
    · exact h
theorem Re {f : AV → AV} (hf : ∀ c, In1 F c → In1 F (f c)) {o : Option Ob} (h : ∀ ob, o = some ob → u9 F ob) : ∀ ob, cY f o = some ob → u9 F ob := by
  intro ob e
  cases o with
  | none => cases e
  | some o =>
    have := h o rfl
    cases o with
    | box t cs =>
      cases e
      intro c hc
      obtain ⟨c0, h0, rfl⟩ := List.mem_map.1 hc
      exact hf _ (this c0 h0)
    | _ => cases e; trivial
theorem Closed.app {e : Step} (h : Closed F s.H) (he : StOK F e) : Closed F (s.app e).H := by
  intro j ob hj hob
  rw [KH] at hob
  split at hob
  · exact he ob hob
  · exact Re (fun c hc => Fk.f_In _ _ hc) (fun ob ho => h j ob hj ho) ob hob
theorem Gi (s : S) (id : Nat) : ∃ fk, s.freeze id = s.app ⟨id, fk, none⟩ ∧ ∀ s2 : S, s2.H id = s.H id → s2.freeze id = s2.app ⟨id, fk, none⟩ := by
  cases h : s.H id with
  | none => exact ⟨.kl, by simp only [S.freeze, h]; rfl, fun s2 h2 => by simp only [S.freeze, h2]; rfl⟩
  | some ob =>
    cases ob with
    | row e fz k xs => exact ⟨.fz k xs, by simp only [S.freeze, h]; rfl, fun s2 h2 => by simp only [S.freeze, h2]; rfl⟩
    | box e cs => exact ⟨.kl, by simp only [S.freeze, h]; rfl, fun s2 h2 => by simp only [S.freeze, h2]; rfl⟩
    | arr e k xs => exact ⟨.kl, by simp only [S.freeze, h]; rfl, fun s2 h2 => by simp only [S.freeze, h2]; rfl⟩
theorem o3 : ∀ (ids : List Nat) (s : S), (∀ i ∈ ids, F i) → ∃ es : List Step, (∀ e ∈ es, e.id ∈ ids ∧ e.ob = none) ∧ ids.foldl S.freeze s = es.foldl S.app s ∧ ∀ s2 : S, Agr F s.H s2.H → ids.foldl S.freeze s2 = es.foldl S.app s2
  | [], s, _ => ⟨[], by simp, rfl, fun _ _ => rfl⟩
  | i :: ids, s, hF => by
    obtain ⟨fk, h1, h2⟩ := Gi s i
    obtain ⟨es, h3, h4, h5⟩ := o3 ids (s.freeze i) fun j hj => hF j (List.mem_cons_of_mem _ hj)
    refine ⟨⟨i, fk, none⟩ :: es, fun e he => ?_, ?_, fun s2 hs => ?_⟩
    · rcases List.mem_cons.1 he with rfl | he
      · exact ⟨List.mem_cons_self, rfl⟩
      · exact ⟨List.mem_cons_of_mem _ (h3 e he).1, (h3 e he).2⟩
    · show ids.foldl S.freeze (s.freeze i) = es.foldl S.app (s.app ⟨i, fk, none⟩)
      rw [h4, h1]
    · have e1 := h2 s2 (hs i (hF i List.mem_cons_self))
      simp only [List.foldl_cons, e1]
      refine h5 _ ?_
      rw [h1]
      exact hs.app _
theorem I8 : ∀ (ids : List Nat) (s : S), ∃ es : List Step, (∀ e ∈ es, e.id ∈ ids ∧ e.ob = none) ∧ ids.foldl S.kill s = es.foldl S.app s ∧ ∀ s2 : S, ids.foldl S.kill s2 = es.foldl S.app s2
  | [], s => ⟨[], by simp, rfl, fun _ => rfl⟩
  | i :: ids, s => by
    obtain ⟨es, h3, h4, h5⟩ := I8 ids (s.kill i)
    refine ⟨⟨i, .kl, none⟩ :: es, fun e he => ?_, ?_, fun s2 => ?_⟩
    · rcases List.mem_cons.1 he with rfl | he
      · exact ⟨List.mem_cons_self, rfl⟩
      · exact ⟨List.mem_cons_of_mem _ (h3 e he).1, (h3 e he).2⟩
    · exact h4
    · exact h5 _
theorem Sm {k : K} {cs : List AV} (hc : ∀ c ∈ cs, In1 F c) (hH : Agr F H H') : dec H' k cs = dec H k cs := by
  have key : ∀ c ∈ cs, ∀ k, cT H' k c = cT H k c := fun c hm k => KF (.of1 (hc c hm)) hH
  unfold dec
  split <;> first | rfl | simp [key]
theorem Loc.mk1 {α : Type} {g : S → Option (α × S)} {x : α} (e : Step) (hW : W e.id) (ho : StOK F e) (h1 : s' = s.app e) (h : ∀ s2 : S, Agr F s.H s2.H → g s2 = some (x, s2.app e)) : Loc F W g s x s' :=
  ⟨[e], fun e' he => by simp at he; subst he; exact ⟨hW, ho⟩, h1, h⟩
theorem PK {ys : List AV} (hy : ∀ c ∈ ys, In1 F c) : ∀ i ∈ ys.filterMap mM, F i := by
  intro i hi
  obtain ⟨c, h1, h2⟩ := List.mem_filterMap.1 hi
  have := hy c h1
  cases c <;> first | (cases h2; done) | (cases h2; exact this)
theorem N7 {t : TypeId} {x y : AV} (hx : InA F x) (hy : InA F y) (hcl : Closed F s.H) (h : jA P t s x y = some s') : Loc F (fun i => i ∈ xp s.H x y) (fun s => (jA P t s x y).map fun s => ((), s)) s () s' := by
  cases x <;> first | (cases h; done) | skip
  rename_i id z i o
  have hid : F id := hx
  simp only [jA] at h
  split at h
  · rename_i e cs hob
    split at h
    · obtain ⟨ys, hc, h⟩ := Option.bind_eq_some_iff.1 h
      split at h
      · rename_i hg
        cases h
        refine .mk1 ⟨id, .no, some (.box e (eT cs o ys))⟩ (by simp [xp, hob]) ?_ (gA _ _ _).symm fun s2 h2 => ?_
        · intro ob e'
          cases e'
          exact AH (hcl id _ hid hob) (vw hy hc)
        · rw [gA]
          simp only [jA, h2 id hid, hob, hc, Option.bind_some, hg]
          rfl
      · cases h
    · cases h
  · rename_i e fz k xs hob
    obtain ⟨ys, hc, h⟩ := Option.bind_eq_some_iff.1 h
    split at h
    · rename_i hg
      obtain ⟨v, hd, h⟩ := Option.bind_eq_some_iff.1 h
      cases h
      have hys := vw hy hc
      obtain ⟨es, h3, h4, h5⟩ := o3 (F := F) (ys.filterMap mM) s (PK hys)
      refine ⟨es ++ [⟨id, .no, some (.row e fz k (xs.set i v))⟩], fun e' he => ?_, ?_, fun s2 h2 => ?_⟩
      · have hsw : xp s.H (.ptr id z i o) y = id :: ys.filterMap mM := by simp [xp, hob, hc]
        rw [hsw]
        rcases List.mem_append.1 he with he | he
        · exact ⟨List.mem_cons_of_mem _ (h3 e' he).1, fun ob eo => by rw [(h3 e' he).2] at eo; cases eo⟩
        · simp at he
          subst he
          exact ⟨List.mem_cons_self, fun ob eo => by cases eo; trivial⟩
      · rw [List.foldl_append, ← h4]
        exact (gA _ _ _).symm
      · rw [List.foldl_append, ← h5 s2 h2]
        have hd2 : dec s2.H k (eT (enc k (xs.getD i (dfl k))) o ys) = some v := by
          rw [Sm (AH (z7 _ _) hys) h2]; exact hd
        simp only [jA, h2 id hid, hob, hc, Option.bind_some, hg, hd2, List.foldl_cons, List.foldl_nil, gA]
        rfl
    · cases h
  · rename_i e k xs hob
    obtain ⟨ys, hc, h⟩ := Option.bind_eq_some_iff.1 h
    split at h
    · rename_i hg
      obtain ⟨v, hd, h⟩ := Option.bind_eq_some_iff.1 h
      cases h
      refine .mk1 ⟨id, .no, some (.arr e k (xs.set i v))⟩ (by simp [xp, hob]) (fun ob e' => by cases e'; trivial) (gA _ _ _).symm fun s2 h2 => ?_
      rw [gA]
      simp only [jA, h2 id hid, hob, hc, Option.bind_some, hg, hd]
      rfl
    · cases h
  · cases h
theorem Nd {t t2 : TypeId} {x y v : AV} {q : Bool} (hx : InA F x) (hy : InA F y) (hb : F b) (h : ld P kd t t2 s b x y = some (q, v, s')) :
    Loc F (fun i => i = b ∨ i ∈ EX x) (fun s => (ld P kd t t2 s b x y).map fun r => ((r.1, r.2.1), r.2.2)) s (q, v) s' ∧ InA F v := by
  unfold ld at h
  obtain ⟨e, he, h1⟩ := Option.bind_eq_some_iff.1 h
  obtain ⟨k, hk, h2⟩ := Option.bind_eq_some_iff.1 h1
  obtain ⟨ys, hys, h3⟩ := Option.bind_eq_some_iff.1 h2
  clear h h1 h2
  revert h3
  intro h
  split at h
  · rename_i hg
    cases h
    refine ⟨.mk1 ⟨b, .no, some (.row e false k ys)⟩ (.inl rfl) (fun ob e' => by cases e'; trivial) (gA _ _ _).symm fun s2 h2 => ?_, .of1 hb⟩
    rw [gA]
    simp only [ld, he, hk, Option.bind_some, JM hy h2, hys, hg]
    rfl
  · rename_i id hg
    have hid : F id := hx
    split at h
    · rename_i e' k' xs hob hne
      split at h
      · rename_i hee
        obtain ⟨zs, hz, h⟩ := Option.bind_eq_some_iff.1 h
        cases h
        refine ⟨.mk1 ⟨id, .kl, some (.row e false k (zs ++ ys))⟩ (.inr (by simp [EX, mM])) (fun ob e' => by cases e'; trivial) rfl fun s2 h2 => ?_, .of1 hid⟩
        simp only [ld, he, hk, Option.bind_some, JM hy h2, hys, hg, h2 id hid, hob, hne, hee, hz]
        rfl
      · cases h
    · cases h
  · cases h
theorem QC {t : TypeId} {x y v : AV} (hx : InA F x) (hy : InA F y) (h : w5 P t s x y = some (v, s')) :
    Loc F (fun i => i ∈ EX x) (fun s => w5 P t s x y) s v s' ∧ InA F v := by
  unfold w5 at h
  split at h
  · rename_i id
    have hid : F id := hx
    split at h
    · rename_i e fz k xs hob hne
      obtain ⟨e', he, h⟩ := Option.bind_eq_some_iff.1 h
      split at h
      · rename_i hg
        obtain ⟨ys, hys, h⟩ := Option.bind_eq_some_iff.1 h
        cases h
        refine ⟨.mk1 ⟨id, .no, some (.row e fz k (ys.take xs.length ++ xs.drop ys.length))⟩ (by simp [EX, mM]) (fun ob e' => by cases e'; trivial) (gA _ _ _).symm fun s2 h2 => ?_, .of1 trivial⟩
        rw [gA]
        simp only [w5, h2 id hid, hob, hne, he, Option.bind_some, hg, JM hy h2, hys]
      · cases h
    · cases h
  · cases h
theorem JT {id : Nat} {z : Bool} {lo hi : Option AV} {v : AV} {q : Bool} (hid : F id) (h : fp s id z lo hi = some (q, v, s')) :
    Loc F (fun i => i = id) (fun s => (fp s id z lo hi).map fun r => ((r.1, r.2.1), r.2.2)) s (q, v) s' ∧ InA F v := by
  unfold fp at h
  split at h
  · rename_i e fz k xs hob
    obtain ⟨⟨c, l, hh⟩, hc, h⟩ := Option.bind_eq_some_iff.1 h
    simp only at h
    split at h
    · cases h
      refine ⟨.mk1 ⟨id, .kl, some (.row e fz k (BO lo none l hh xs))⟩ rfl (fun ob e' => by cases e'; trivial) rfl fun s2 h2 => ?_, .of1 hid⟩
      simp only [fp, h2 id hid, hob, hc, Option.bind_some]
      rfl
    · cases h
    · cases h
      obtain ⟨fk, h1, h2⟩ := Gi s id
      refine ⟨.mk1 ⟨id, fk, none⟩ rfl (fun ob e' => by cases e') h1 fun s2 h3 => ?_, .of1 trivial⟩
      rw [← h2 s2 (h3 id hid)]
      simp only [fp, h3 id hid, hob, hc, Option.bind_some]
      rfl
  · cases h
end
end Go.VS
namespace Go.VS
open Go
abbrev me (es : List (Nat × Ob)) (H : Hp) : Hp := es.foldl (fun H p => upd H p.1 (some p.2)) H
section
variable {F W : Nat → Prop} {H H' : Hp} {P : Program} {s s' s2 : S} {b : Nat} {E : Nat → AV}
set_option linter.unusedSectionVars false
theorem InA.of_In1_all {cs : List AV} (h : ∀ c ∈ cs, In1 F c) : ∀ c ∈ cs, InA F c := fun c hc => .of1 (h c hc)
section eqs
variable (hH : Agr F H H') (hC : Closed F H)
include hH hC
mutual
theorem Q6 : ∀ (h : Sh) (v : AV), InA F v → bL E H' h v = bL E H h v
  | .int _, v, _ => by cases v with
    | lit v => cases v <;> rfl
    | _ => rfl
  | .bool, v, _ => by cases v with
    | lit v => cases v <;> rfl
    | _ => rfl
  | .str, v, _ => by cases v with
    | lit v => cases v <;> rfl
    | _ => rfl
  | .sl _, v, _ => by
    cases v with
    | lit v => cases v with
      | slice a n c => cases a <;> cases n <;> cases c <;> rfl
      | _ => rfl
    | _ => rfl
  | .arr _, v, _ => by cases v <;> rfl
  | .same _, v, _ => by
    cases v with
    | ptr id z i o => cases i <;> cases o <;> rfl
    | _ => rfl
  | .fz k, v, hv => KF hv hH
  | .row e k, v, hv => by
    cases v with
    | own id => simp only [bL, hH id hv]
    | lit v => cases v with
      | slice a n c => cases a <;> cases n <;> cases c <;> rfl
      | _ => rfl
    | _ => rfl
  | .rowz e k, v, hv => by
    cases v with
    | own id => simp only [bL, hH id hv]
    | _ => rfl
  | .abx e k, v, hv => by
    cases v with
    | ptr id z i o => cases i <;> cases o <;> first | rfl | simp only [bL, hH id hv]
    | _ => rfl
  | .agg l, v, hv => by
    cases v with
    | agg cs => exact s6 l cs (InA.of_In1_all hv)
    | _ => rfl
  | .box e l, v, hv => by
    cases v with
    | ptr id z i o =>
      cases i <;> cases o <;> first | rfl | skip
      simp only [bL, hH id hv]
      cases ho : H id with
      | none => rfl
      | some ob =>
        cases ob with
        | box e' cs =>
          have := s6 l cs (InA.of_In1_all (hC id _ hv ho))
          simp only [this]
        | _ => rfl
    | _ => rfl
theorem s6 : ∀ (l : List Sh) (cs : List AV), (∀ c ∈ cs, InA F c) → j0 E H' l cs = j0 E H l cs
  | [], [], _ => rfl
  | [], _ :: _, _ => rfl
  | _ :: _, [], _ => rfl
  | h :: l, c :: cs, hv => by
    simp only [j0, Q6 h c (hv c List.mem_cons_self), s6 l cs fun d hd => hv d (List.mem_cons_of_mem _ hd)]
end
mutual
theorem Rq : ∀ (h : Sh) (v : AV), InA F v → dt H' h v = dt H h v
  | .int _, _, _ => rfl
  | .bool, _, _ => rfl
  | .str, _, _ => rfl
  | .sl _, _, _ => rfl
  | .arr _, _, _ => rfl
  | .same _, _, _ => rfl
  | .fz k, _, _ => rfl
  | .row e k, v, _ => by cases v <;> rfl
  | .rowz e k, v, _ => by cases v <;> rfl
  | .abx e k, v, _ => by
    cases v with
    | ptr id z i o => cases i <;> cases o <;> rfl
    | _ => rfl
  | .agg l, v, hv => by
    cases v with
    | agg cs => exact tM l cs (InA.of_In1_all hv)
    | _ => rfl
  | .box e l, v, hv => by
    cases v with
    | ptr id z i o =>
      cases i <;> cases o <;> first | rfl | skip
      simp only [dt, hH id hv]
      cases ho : H id with
      | none => rfl
      | some ob =>
        cases ob with
        | box e' cs =>
          have := tM l cs (InA.of_In1_all (hC id _ hv ho))
          simp only [this]
        | _ => rfl
    | _ => rfl
theorem tM : ∀ (l : List Sh) (cs : List AV), (∀ c ∈ cs, InA F c) → aQ H' l cs = aQ H l cs
  | [], _, _ => by simp only [aQ]
  | _ :: _, [], _ => by simp only [aQ]
  | h :: l, c :: cs, hv => by
    simp only [aQ, Rq h c (hv c List.mem_cons_self), tM l cs fun d hd => hv d (List.mem_cons_of_mem _ hd)]
end
mutual
theorem Q4 : ∀ (h : Sh) (v : AV), InA F v → cN H' h v = cN H h v
  | .int _, _, _ => rfl
  | .bool, _, _ => rfl
  | .str, _, _ => rfl
  | .sl _, _, _ => rfl
  | .arr _, _, _ => rfl
  | .same _, _, _ => rfl
  | .fz k, _, _ => rfl
  | .row e k, v, _ => by cases v <;> rfl
  | .rowz e k, v, _ => by cases v <;> rfl
  | .abx e k, v, _ => by
    cases v with
    | ptr id z i o => cases i <;> cases o <;> rfl
    | _ => rfl
  | .agg l, v, hv => by
    cases v with
    | agg cs => exact s4 l cs (InA.of_In1_all hv)
    | _ => rfl
  | .box e l, v, hv => by
    cases v with
    | ptr id z i o =>
      cases i <;> cases o <;> first | rfl | skip
      simp only [cN, hH id hv]
      cases ho : H id with
      | none => rfl
      | some ob =>
        cases ob with
        | box e' cs =>
          have := s4 l cs (InA.of_In1_all (hC id _ hv ho))
          simp only [this]
        | _ => rfl
    | _ => rfl
theorem s4 : ∀ (l : List Sh) (cs : List AV), (∀ c ∈ cs, InA F c) → bC H' l cs = bC H l cs
  | [], _, _ => by simp only [bC]
  | _ :: _, [], _ => by simp only [bC]
  | h :: l, c :: cs, hv => by
    simp only [bC, Q4 h c (hv c List.mem_cons_self), s4 l cs fun d hd => hv d (List.mem_cons_of_mem _ hd)]
end
mutual
theorem Rs : ∀ (h : Sh) (v : AV), InA F v → dQ H' h v = dQ H h v
  | .int _, _, _ => rfl
  | .bool, _, _ => rfl
  | .str, _, _ => rfl
  | .sl _, _, _ => rfl
  | .arr _, _, _ => rfl
  | .same _, _, _ => rfl
  | .fz k, v, _ => by cases v <;> rfl
  | .row e k, _, _ => rfl
  | .rowz e k, _, _ => rfl
  | .abx e k, _, _ => rfl
  | .agg l, v, hv => by
    cases v with
    | agg cs => exact zW l cs (InA.of_In1_all hv)
    | _ => rfl
  | .box e l, v, hv => by
    cases v with
    | ptr id z i o =>
      cases i <;> cases o <;> first | rfl | skip
      simp only [dQ, hH id hv]
      cases ho : H id with
      | none => rfl
      | some ob =>
        cases ob with
        | box e' cs =>
          have := zW l cs (InA.of_In1_all (hC id _ hv ho))
          simp only [this]
        | _ => rfl
    | _ => rfl
theorem zW : ∀ (l : List Sh) (cs : List AV), (∀ c ∈ cs, InA F c) → b7 H' l cs = b7 H l cs
  | [], _, _ => by simp only [b7]
  | _ :: _, [], _ => by simp only [b7]
  | h :: l, c :: cs, hv => by
    simp only [b7, Rs h c (hv c List.mem_cons_self), zW l cs fun d hd => hv d (List.mem_cons_of_mem _ hd)]
end
end eqs
section mem
variable (hC : Closed F H)
include hC
mutual
theorem Q5 : ∀ (h : Sh) (v : AV), InA F v → ∀ i ∈ cN H h v, F i
  | .int _, _, _, _, hi => by simp [cN] at hi
  | .bool, _, _, _, hi => by simp [cN] at hi
  | .str, _, _, _, hi => by simp [cN] at hi
  | .sl _, _, _, _, hi => by simp [cN] at hi
  | .arr _, _, _, _, hi => by simp [cN] at hi
  | .same _, _, _, _, hi => by simp [cN] at hi
  | .fz k, _, _, _, hi => by simp [cN] at hi
  | .row e k, v, hv, i, hi => by
    cases v <;> simp [cN] at hi
    subst hi; exact hv
  | .rowz e k, v, hv, i, hi => by
    cases v <;> simp [cN] at hi
    subst hi; exact hv
  | .abx e k, v, hv, j, hi => by
    cases v with
    | ptr id z i o =>
      cases i <;> cases o <;> simp [cN] at hi
      subst hi; exact hv
    | _ => simp [cN] at hi
  | .agg l, v, hv, j, hi => by
    cases v with
    | agg cs => exact yM l cs (InA.of_In1_all hv) j (by simpa [cN] using hi)
    | _ => simp [cN] at hi
  | .box e l, v, hv, j, hi => by
    cases v with
    | ptr id z i o =>
      cases i <;> cases o <;> simp only [cN] at hi <;> first | (simp at hi; done) | skip
      cases ho : H id with
      | none => simp [ho] at hi
      | some ob =>
        cases ob with
        | box e' cs =>
          simp only [ho] at hi
          exact yM l cs (InA.of_In1_all (hC id _ hv ho)) j hi
        | _ => simp [ho] at hi
    | _ => simp [cN] at hi
theorem yM : ∀ (l : List Sh) (cs : List AV), (∀ c ∈ cs, InA F c) → ∀ i ∈ bC H l cs, F i
  | [], cs, _, i, hi => by simp [bC] at hi
  | _ :: _, [], _, i, hi => by simp [bC] at hi
  | h :: l, c :: cs, hv, i, hi => by
    simp only [bC, List.mem_append] at hi
    rcases hi with hi | hi
    · exact Q5 h c (hv c List.mem_cons_self) i hi
    · exact yM l cs (fun d hd => hv d (List.mem_cons_of_mem _ hd)) i hi
end
mutual
theorem Rt : ∀ (h : Sh) (v : AV), InA F v → ∀ i ∈ dQ H h v, F i
  | .int _, _, _, _, hi => by simp [dQ] at hi
  | .bool, _, _, _, hi => by simp [dQ] at hi
  | .str, _, _, _, hi => by simp [dQ] at hi
  | .sl _, _, _, _, hi => by simp [dQ] at hi
  | .arr _, _, _, _, hi => by simp [dQ] at hi
  | .same _, _, _, _, hi => by simp [dQ] at hi
  | .row e k, _, _, _, hi => by simp [dQ] at hi
  | .rowz e k, _, _, _, hi => by simp [dQ] at hi
  | .abx e k, _, _, _, hi => by simp [dQ] at hi
  | .fz k, v, hv, i, hi => by
    cases v <;> simp [dQ] at hi
    subst hi; exact hv
  | .agg l, v, hv, j, hi => by
    cases v with
    | agg cs => exact tO l cs (InA.of_In1_all hv) j (by simpa [dQ] using hi)
    | _ => simp [dQ] at hi
  | .box e l, v, hv, j, hi => by
    cases v with
    | ptr id z i o =>
      cases i <;> cases o <;> simp only [dQ] at hi <;> first | (simp at hi; done) | skip
      cases ho : H id with
      | none => simp [ho] at hi
      | some ob =>
        cases ob with
        | box e' cs =>
          simp only [ho] at hi
          exact tO l cs (InA.of_In1_all (hC id _ hv ho)) j hi
        | _ => simp [ho] at hi
    | _ => simp [dQ] at hi
theorem tO : ∀ (l : List Sh) (cs : List AV), (∀ c ∈ cs, InA F c) → ∀ i ∈ b7 H l cs, F i
  | [], cs, _, i, hi => by simp [b7] at hi
  | _ :: _, [], _, i, hi => by simp [b7] at hi
  | h :: l, c :: cs, hv, i, hi => by
    simp only [b7, List.mem_append] at hi
    rcases hi with hi | hi
    · exact Rt h c (hv c List.mem_cons_self) i hi
    · exact tO l cs (fun d hd => hv d (List.mem_cons_of_mem _ hd)) i hi
end
end mem
mutual
theorem be (E : Nat → AV) : ∀ (h : Sh) (H : Hp) (b : Nat) (x : LT h), b ≤ (aX E H b h x).2.2
  | .int _, _, b, _ => Nat.le_refl b
  | .bool, _, b, _ => Nat.le_refl b
  | .str, _, b, _ => Nat.le_refl b
  | .sl _, _, b, _ => Nat.le_refl b
  | .arr _, _, b, _ => Nat.le_refl b
  | .same _, _, b, _ => Nat.le_refl b
  | .fz _, _, b, _ => Nat.le_refl b
  | .row _ _, _, b, _ => Nat.le_succ b
  | .rowz _ _, _, b, _ => Nat.le_succ b
  | .abx _ _, _, b, _ => Nat.le_succ b
  | .agg l, H, b, x => by
    have := dj E l H b x
    show b ≤ ((match ah E H b l x with | (cs, H, b) => (AV.agg cs, H, b)) : AV × Hp × Nat).2.2
    generalize ah E H b l x = r at *
    obtain ⟨cs, H', b'⟩ := r
    exact this
  | .box e l, H, b, x => by
    have := dj E l H b x
    show b ≤ ((match ah E H b l x with | (cs, H, b) => (AV.ptr b cs.length 0 0, upd H b (some (.box e cs)), b + 1)) : AV × Hp × Nat).2.2
    generalize ah E H b l x = r at *
    obtain ⟨cs, H', b'⟩ := r
    exact Nat.le_succ_of_le this
theorem dj (E : Nat → AV) : ∀ (l : List Sh) (H : Hp) (b : Nat) (x : LTs l), b ≤ (ah E H b l x).2.2
  | [], _, b, _ => Nat.le_refl b
  | h :: l, H, b, x => by
    have h1 := be E h H b x.1
    show b ≤ ((match aX E H b h x.1 with | (c, H, b) => match ah E H b l x.2 with | (cs, H, b) => (c :: cs, H, b)) : List AV × Hp × Nat).2.2
    generalize aX E H b h x.1 = r at *
    obtain ⟨c, H', b'⟩ := r
    have h2 := dj E l H' b' x.2
    show b ≤ ((match ah E H' b' l x.2 with | (cs, H, b) => (c :: cs, H, b)) : List AV × Hp × Nat).2.2
    generalize ah E H' b' l x.2 = r at *
    obtain ⟨cs, H'', b''⟩ := r
    exact Nat.le_trans h1 h2
end
mutual
theorem FA (E : Nat → AV) (H H' : Hp) : ∀ (h : Sh) (b : Nat) (x : LT h), (aX E H b h x).1 = (aX E H' b h x).1 ∧ (aX E H b h x).2.2 = (aX E H' b h x).2.2
  | .int _, _, _ => ⟨rfl, rfl⟩
  | .bool, _, _ => ⟨rfl, rfl⟩
  | .str, _, _ => ⟨rfl, rfl⟩
  | .sl _, _, _ => ⟨rfl, rfl⟩
  | .arr _, _, _ => ⟨rfl, rfl⟩
  | .same _, _, _ => ⟨rfl, rfl⟩
  | .fz _, _, _ => ⟨rfl, rfl⟩
  | .row _ _, _, _ => ⟨rfl, rfl⟩
  | .rowz _ _, _, _ => ⟨rfl, rfl⟩
  | .abx _ _, _, _ => ⟨rfl, rfl⟩
  | .agg l, b, x => by
    have := lx E H H' l b x
    have un : ∀ H, aX E H b (.agg l) x = (match ah E H b l x with | (cs, H, b) => (AV.agg cs, H, b)) := fun _ => rfl
    rw [un, un]
    generalize ah E H b l x = r at *
    generalize ah E H' b l x = r' at *
    obtain ⟨cs, H1, b1⟩ := r
    obtain ⟨cs', H1', b1'⟩ := r'
    obtain ⟨rfl, rfl⟩ := this
    exact ⟨rfl, rfl⟩
  | .box e l, b, x => by
    have := lx E H H' l b x
    have un : ∀ H, aX E H b (.box e l) x = (match ah E H b l x with | (cs, H, b) => (AV.ptr b cs.length 0 0, upd H b (some (.box e cs)), b + 1)) := fun _ => rfl
    rw [un, un]
    generalize ah E H b l x = r at *
    generalize ah E H' b l x = r' at *
    obtain ⟨cs, H1, b1⟩ := r
    obtain ⟨cs', H1', b1'⟩ := r'
    obtain ⟨rfl, rfl⟩ := this
    exact ⟨rfl, rfl⟩
theorem lx (E : Nat → AV) (H H' : Hp) : ∀ (l : List Sh) (b : Nat) (x : LTs l), (ah E H b l x).1 = (ah E H' b l x).1 ∧ (ah E H b l x).2.2 = (ah E H' b l x).2.2
  | [], _, _ => ⟨rfl, rfl⟩
  | h :: l, b, x => by
    have h1 := FA E H H' h b x.1
    have un : ∀ H, ah E H b (h :: l) x = (match aX E H b h x.1 with | (c, H, b) => match ah E H b l x.2 with | (cs, H, b) => (c :: cs, H, b)) := fun _ => rfl
    rw [un, un]
    generalize aX E H b h x.1 = r at *
    generalize aX E H' b h x.1 = r' at *
    obtain ⟨c, H1, b1⟩ := r
    obtain ⟨c', H1', b1'⟩ := r'
    obtain ⟨rfl, rfl⟩ := h1
    have h2 := lx E H1 H1' l b1 x.2
    simp only
    generalize ah E H1 b1 l x.2 = r at *
    generalize ah E H1' b1 l x.2 = r' at *
    obtain ⟨cs, H2, b2⟩ := r
    obtain ⟨cs', H2', b2'⟩ := r'
    obtain ⟨rfl, rfl⟩ := h2
    exact ⟨rfl, rfl⟩
end
mutual
theorem yV (E : Nat → AV) : ∀ (h : Sh) (b : Nat) (x : LT h) (L : Nat), br h = true → (∀ j, b ≤ j → j < L → F j ∧ W j) → (∀ H, (aX E H b h x).2.2 ≤ L) →
    ∃ v es b', In1 F v ∧ (∀ p ∈ es, W p.1 ∧ u9 F p.2) ∧ ∀ H, aX E H b h x = (v, me es H, b')
  | .int k, b, x, _, _, _, _ => ⟨.lit (.int k x), [], b, trivial, by simp, fun _ => rfl⟩
  | .bool, b, x, _, _, _, _ => ⟨.b x, [], b, trivial, by simp, fun _ => rfl⟩
  | .str, b, x, _, _, _, _ => ⟨.s x, [], b, trivial, by simp, fun _ => rfl⟩
  | .sl k, b, x, _, _, _, _ => ⟨.sl k x, [], b, trivial, by simp, fun _ => rfl⟩
  | .arr _, _, _, _, h, _, _ => by simp [br] at h
  | .same _, _, _, _, h, _, _ => by simp [br] at h
  | .fz k, b, x, _, _, _, _ => ⟨.sl k x, [], b, trivial, by simp, fun _ => rfl⟩
  | .row e k, b, x, L, _, hF, hL => ⟨.own b, [(b, .row e false k x)], b + 1, (hF b (Nat.le_refl b) (hL fun _ => none)).1, fun p hp => by
      simp at hp; subst hp; exact ⟨(hF b (Nat.le_refl b) (hL fun _ => none)).2, trivial⟩, fun _ => rfl⟩
  | .rowz e k, b, x, L, _, hF, hL => ⟨.own b, [(b, .row e true k x)], b + 1, (hF b (Nat.le_refl b) (hL fun _ => none)).1, fun p hp => by
      simp at hp; subst hp; exact ⟨(hF b (Nat.le_refl b) (hL fun _ => none)).2, trivial⟩, fun _ => rfl⟩
  | .abx e k, b, x, L, _, hF, hL => ⟨.ptr b (ks k) 0 0, [(b, .arr e k x)], b + 1, (hF b (Nat.le_refl b) (hL fun _ => none)).1, fun p hp => by
      simp at hp; subst hp; exact ⟨(hF b (Nat.le_refl b) (hL fun _ => none)).2, trivial⟩, fun _ => rfl⟩
  | .agg _, _, _, _, h, _, _ => by simp [br] at h
  | .box e l, b, x, L, h, hF, hL => by
    have un : ∀ H, aX E H b (.box e l) x = (match ah E H b l x with | (cs, H, b) => (AV.ptr b cs.length 0 0, upd H b (some (.box e cs)), b + 1)) := fun _ => rfl
    have hL' : ∀ H, (ah E H b l x).2.2 + 1 ≤ L := fun H => by
      have := hL H
      rw [un] at this
      generalize ah E H b l x = r at *
      exact this
    obtain ⟨vs, es, b', h1, h2, h3⟩ := AU E l b x L (by simpa [br] using h) hF (fun H => Nat.le_of_succ_le (hL' H))
    have hb' : b' < L := by have := hL' fun _ => none; rw [h3] at this; exact this
    have hbb : b ≤ b' := by have := dj E l (fun _ => none) b x; rw [h3] at this; exact this
    refine ⟨.ptr b' vs.length 0 0, es ++ [(b', .box e vs)], b' + 1, (hF b' hbb hb').1, fun p hp => ?_, fun H => ?_⟩
    · rcases List.mem_append.1 hp with hp | hp
      · exact h2 p hp
      · simp at hp; subst hp; exact ⟨(hF b' hbb hb').2, h1⟩
    · rw [un, h3]
      simp [me, List.foldl_append]
theorem AU (E : Nat → AV) : ∀ (l : List Sh) (b : Nat) (x : LTs l) (L : Nat), dC l = true → (∀ j, b ≤ j → j < L → F j ∧ W j) → (∀ H, (ah E H b l x).2.2 ≤ L) →
    ∃ vs es b', (∀ v ∈ vs, In1 F v) ∧ (∀ p ∈ es, W p.1 ∧ u9 F p.2) ∧ ∀ H, ah E H b l x = (vs, me es H, b')
  | [], b, _, _, _, _, _ => ⟨[], [], b, by simp, by simp, fun _ => rfl⟩
  | h :: l, b, x, L, hl, hF, hL => by
    simp only [dC, Bool.and_eq_true] at hl
    have un : ∀ H, ah E H b (h :: l) x = (match aX E H b h x.1 with | (c, H, b) => match ah E H b l x.2 with | (cs, H, b) => (c :: cs, H, b)) := fun _ => rfl
    have hL1 : ∀ H, (aX E H b h x.1).2.2 ≤ L := fun H => by
      have := hL H
      rw [un] at this
      generalize aX E H b h x.1 = r at *
      obtain ⟨c, H', b'⟩ := r
      have h2 := dj E l H' b' x.2
      simp only at this
      generalize ah E H' b' l x.2 = r at *
      exact Nat.le_trans h2 this
    obtain ⟨v, es, b', h1, h2, h3⟩ := yV E h b x.1 L hl.1 hF hL1
    have hbb : b ≤ b' := by have := be E h (fun _ => none) b x.1; rw [h3] at this; exact this
    have hL2 : ∀ H, (ah E H b' l x.2).2.2 ≤ L := fun H => by
      have := hL H
      rw [un, h3] at this
      simp only at this
      rw [(lx E H (me es H) l b' x.2).2]
      generalize ah E (me es H) b' l x.2 = r at *
      exact this
    obtain ⟨vs, es', b'', h4, h5, h6⟩ := AU E l b' x.2 L hl.2 (fun j h1 h2 => hF j (Nat.le_trans hbb h1) h2) hL2
    refine ⟨v :: vs, es ++ es', b'', fun c hc => ?_, fun p hp => ?_, fun H => ?_⟩
    · rcases List.mem_cons.1 hc with rfl | hc
      · exact h1
      · exact h4 c hc
    · rcases List.mem_append.1 hp with hp | hp
      · exact h2 p hp
      · exact h5 p hp
    · rw [un, h3]
      simp only [h6, me, List.foldl_append]
end
theorem Bo {E : Nat → AV} {H : Hp} {b : Nat} {h : Sh} {v : AV} {x : LT h} (hl : br h = true) (hn : ∀ e l, h = .box e l → ∀ id z, v ≠ .ptr id z 0 0) : fO E H b h v x = aX E H b h x := by
  cases h <;> first | rfl | (simp [br] at hl; done) | skip
  rename_i e l
  cases v <;> first | rfl | skip
  rename_i id z i o
  cases i <;> cases o <;> first | rfl | exact absurd rfl (hn e l rfl id z)
mutual
theorem Nz (E : Nat → AV) : ∀ (h : Sh) (H : Hp) (b : Nat) (v : AV) (x : LT h), br h = true → b ≤ (fO E H b h v x).2.2
  | .box e l, H, b, v, x, hl => by
    by_cases hv : ∃ id z, v = .ptr id z 0 0
    · obtain ⟨id, z, rfl⟩ := hv
      have un : fO E H b (.box e l) (.ptr id z 0 0) x = (match H id with
        | some (.box _ cs) => (match aC E H b l cs x with | (ds, H, b) => (AV.ptr id z 0 0, upd H id (some (.box e ds)), b))
        | _ => (.un, H, b)) := rfl
      rw [un]
      cases H id with
      | none => exact Nat.le_refl b
      | some ob =>
        cases ob with
        | box e' cs =>
          have := zV E l H b cs x (by simpa [br] using hl)
          simp only
          generalize aC E H b l cs x = r at *
          obtain ⟨ds, H', b'⟩ := r
          exact this
        | _ => exact Nat.le_refl b
    · rw [Bo hl (fun _ _ _ id z e => hv ⟨id, z, e⟩)]
      exact be E _ H b x
  | .int _, H, b, v, x, hl => be E _ H b x
  | .bool, H, b, v, x, hl => be E _ H b x
  | .str, H, b, v, x, hl => be E _ H b x
  | .sl _, H, b, v, x, hl => be E _ H b x
  | .row _ _, H, b, v, x, hl => be E _ H b x
  | .fz _, H, b, v, x, hl => be E _ H b x
  | .rowz _ _, H, b, v, x, hl => be E _ H b x
  | .abx _ _, H, b, v, x, hl => be E _ H b x
  | .arr _, H, b, v, x, hl => be E _ H b x
  | .same _, _, _, _, _, hl => by simp [br] at hl
  | .agg _, _, _, _, _, hl => by simp [br] at hl
theorem zV (E : Nat → AV) : ∀ (l : List Sh) (H : Hp) (b : Nat) (cs : List AV) (x : LTs l), dC l = true → b ≤ (aC E H b l cs x).2.2
  | [], _, b, _, _, _ => Nat.le_refl b
  | h :: l, H, b, cs, x, hl => by
    simp only [dC, Bool.and_eq_true] at hl
    have h1 := Nz E h H b (cs.headD .un) x.1 hl.1
    have un : aC E H b (h :: l) cs x = (match fO E H b h (cs.headD .un) x.1 with | (d, H, b) => match aC E H b l cs.tail x.2 with | (ds, H, b) => (d :: ds, H, b)) := rfl
    rw [un]
    generalize fO E H b h (cs.headD .un) x.1 = r at *
    obtain ⟨c, H', b'⟩ := r
    have h2 := zV E l H' b' cs.tail x.2 hl.2
    simp only
    generalize aC E H' b' l cs.tail x.2 = r at *
    obtain ⟨cs, H'', b''⟩ := r
    exact Nat.le_trans h1 h2
end
theorem PF {es : List (Nat × Ob)} (h : Agr F H H') : Agr F (me es H) (me es H') := by
  induction es generalizing H H' with
  | nil => exact h
  | cons p es ih =>
    refine ih fun id hid => ?_
    by_cases e : id = p.1
    · subst e; simp only [ai]
    · simp only [al _ _ e]; exact h id hid
theorem K8 {es : List (Nat × Ob)} (h : Closed F H) (he : ∀ p ∈ es, u9 F p.2) : Closed F (me es H) := by
  induction es generalizing H with
  | nil => exact h
  | cons p es ih =>
    refine ih (fun id ob hid ho => ?_) (fun q hq => he q (List.mem_cons_of_mem _ hq))
    by_cases e : id = p.1
    · subst e; simp only [ai] at ho; cases ho; exact he p List.mem_cons_self
    · simp only [al _ _ e] at ho; exact h id ob hid ho
theorem B3 {E : Nat → AV} {H : Hp} {b : Nat} {h : Sh} {v : AV} {x : LT h} {L : Nat} (eq : ∀ H, fO E H b h v x = aX E H b h x) (hl : br h = true) (hF : ∀ j, b ≤ j → j < L → F j) (hL : (fO E H b h v x).2.2 ≤ L) :
    ∃ v' es b', In1 F v' ∧ (∀ p ∈ es, F p.1 ∧ u9 F p.2) ∧ ∀ H', Agr F H H' → fO E H' b h v x = (v', me es H', b') := by
  obtain ⟨v', es, b', h1, h2, h3⟩ := yV (F := F) (W := F) E h b x L hl (fun j h1 h2 => ⟨hF j h1 h2, hF j h1 h2⟩) (fun H0 => by rw [(FA E H0 H _ b x).2, ← eq H]; exact hL)
  exact ⟨v', es, b', h1, h2, fun H' _ => by rw [eq, h3]⟩
mutual
theorem Qb (E : Nat → AV) : ∀ (h : Sh) (H : Hp) (b : Nat) (v : AV) (x : LT h) (L : Nat), br h = true → (∀ j, b ≤ j → j < L → F j) → InA F v → Closed F H → (fO E H b h v x).2.2 ≤ L →
    ∃ v' es b', In1 F v' ∧ (∀ p ∈ es, F p.1 ∧ u9 F p.2) ∧ ∀ H', Agr F H H' → fO E H' b h v x = (v', me es H', b')
  | .box e l, H, b, v, x, L, hl, hF, hv, hC, hL => by
    by_cases hp : ∃ id z, v = .ptr id z 0 0
    · obtain ⟨id, z, rfl⟩ := hp
      have un : ∀ H, fO E H b (.box e l) (.ptr id z 0 0) x = (match H id with
        | some (.box _ cs) => (match aC E H b l cs x with | (ds, H, b) => (AV.ptr id z 0 0, upd H id (some (.box e ds)), b))
        | _ => (.un, H, b)) := fun _ => rfl
      have hid : F id := hv
      cases ho : H id with
      | none => exact ⟨.un, [], b, trivial, by simp, fun H' h => by rw [un, h id hid, ho]; rfl⟩
      | some ob =>
        cases ob with
        | box e' cs =>
          rw [un, ho] at hL
          have hL' : (aC E H b l cs x).2.2 ≤ L := by
            simp only at hL
            generalize aC E H b l cs x = r at *
            exact hL
          obtain ⟨vs, es, b', h1, h2, h3⟩ := Bn E l H b cs x L (by simpa [br] using hl) hF (InA.of_In1_all (hC id _ hid ho)) hC hL'
          refine ⟨.ptr id z 0 0, es ++ [(id, .box e vs)], b', hid, fun p hp => ?_, fun H' h => ?_⟩
          · rcases List.mem_append.1 hp with hp | hp
            · exact h2 p hp
            · simp at hp; subst hp; exact ⟨hid, h1⟩
          · rw [un, h id hid, ho]
            simp only [h3 H' h, me, List.foldl_append, List.foldl_cons, List.foldl_nil]
        | row => exact ⟨.un, [], b, trivial, by simp, fun H' h => by rw [un, h id hid, ho]; rfl⟩
        | arr => exact ⟨.un, [], b, trivial, by simp, fun H' h => by rw [un, h id hid, ho]; rfl⟩
    · have eq : ∀ H, fO E H b (.box e l) v x = aX E H b (.box e l) x := fun H => Bo hl (fun _ _ _ id z e => hp ⟨id, z, e⟩)
      obtain ⟨v', es, b', h1, h2, h3⟩ := yV (F := F) (W := F) E (.box e l) b x L hl (fun j h1 h2 => ⟨hF j h1 h2, hF j h1 h2⟩) (fun H0 => by rw [(FA E H0 H _ b x).2, ← eq H]; exact hL)
      exact ⟨v', es, b', h1, h2, fun H' _ => by rw [eq, h3]⟩
  | .int k, H, b, v, x, L, hl, hF, hv, hC, hL => B3 (fun H => rfl) hl hF hL
  | .bool, H, b, v, x, L, hl, hF, hv, hC, hL => B3 (fun H => rfl) hl hF hL
  | .str, H, b, v, x, L, hl, hF, hv, hC, hL => B3 (fun H => rfl) hl hF hL
  | .sl _, H, b, v, x, L, hl, hF, hv, hC, hL => B3 (fun H => rfl) hl hF hL
  | .row _ _, H, b, v, x, L, hl, hF, hv, hC, hL => B3 (fun H => rfl) hl hF hL
  | .fz _, H, b, v, x, L, hl, hF, hv, hC, hL => B3 (fun H => rfl) hl hF hL
  | .rowz _ _, H, b, v, x, L, hl, hF, hv, hC, hL => B3 (fun H => rfl) hl hF hL
  | .abx _ _, H, b, v, x, L, hl, hF, hv, hC, hL => B3 (fun H => rfl) hl hF hL
  | .arr _, _, _, _, _, _, hl, _, _, _, _ => by simp [br] at hl
  | .same _, _, _, _, _, _, hl, _, _, _, _ => by simp [br] at hl
  | .agg _, _, _, _, _, _, hl, _, _, _, _ => by simp [br] at hl
theorem Bn (E : Nat → AV) : ∀ (l : List Sh) (H : Hp) (b : Nat) (cs : List AV) (x : LTs l) (L : Nat), dC l = true → (∀ j, b ≤ j → j < L → F j) → (∀ c ∈ cs, InA F c) → Closed F H → (aC E H b l cs x).2.2 ≤ L →
    ∃ vs es b', (∀ v ∈ vs, In1 F v) ∧ (∀ p ∈ es, F p.1 ∧ u9 F p.2) ∧ ∀ H', Agr F H H' → aC E H' b l cs x = (vs, me es H', b')
  | [], _, b, _, _, _, _, _, _, _, _ => ⟨[], [], b, by simp, by simp, fun _ _ => rfl⟩
  | h :: l, H, b, cs, x, L, hl, hF, hv, hC, hL => by
    simp only [dC, Bool.and_eq_true] at hl
    have un : ∀ H, aC E H b (h :: l) cs x = (match fO E H b h (cs.headD .un) x.1 with | (d, H, b) => match aC E H b l cs.tail x.2 with | (ds, H, b) => (d :: ds, H, b)) := fun _ => rfl
    have hh : InA F (cs.headD .un) := by
      cases cs with
      | nil => exact .of1 trivial
      | cons c cs => exact hv c List.mem_cons_self
    have ht : ∀ c ∈ cs.tail, InA F c := fun c hc => hv c (List.mem_of_mem_tail hc)
    have hL1 : (fO E H b h (cs.headD .un) x.1).2.2 ≤ L := by
      rw [un] at hL
      generalize fO E H b h (cs.headD .un) x.1 = r at *
      obtain ⟨c, H', b'⟩ := r
      have h2 := zV E l H' b' cs.tail x.2 hl.2
      simp only at hL
      generalize aC E H' b' l cs.tail x.2 = r at *
      exact Nat.le_trans h2 hL
    obtain ⟨v, es, b', h1, h2, h3⟩ := Qb E h H b (cs.headD .un) x.1 L hl.1 hF hh hC hL1
    have e0 := h3 H (Agr.refl F H)
    have hbb : b ≤ b' := by have := Nz E h H b (cs.headD .un) x.1 hl.1; rw [e0] at this; exact this
    have hL2 : (aC E (me es H) b' l cs.tail x.2).2.2 ≤ L := by
      rw [un, e0] at hL
      simp only at hL
      generalize aC E (me es H) b' l cs.tail x.2 = r at *
      exact hL
    obtain ⟨vs, es', b'', h4, h5, h6⟩ := Bn E l (me es H) b' cs.tail x.2 L hl.2 (fun j h1 h2 => hF j (Nat.le_trans hbb h1) h2) ht (K8 hC fun p hp => (h2 p hp).2) hL2
    refine ⟨v :: vs, es ++ es', b'', fun c hc => ?_, fun p hp => ?_, fun H' h => ?_⟩
    · rcases List.mem_cons.1 hc with rfl | hc
      · exact h1
      · exact h4 c hc
    · rcases List.mem_append.1 hp with hp | hp
      · exact h2 p hp
      · exact h5 p hp
    · rw [un, h3 H' h]
      simp only [h6 _ (PF h), me, List.foldl_append]
end
end
end Go.VS
namespace Go.VS
open Go
section
variable {F W : Nat → Prop} {H H' : Hp} {P : Program} {s s' s2 : S} {b : Nat} {E : Nat → AV} {C : Cx}
theorem Ox (E : Nat → AV) (h : Sh) (b : Nat) (x : LT h) (L : Nat) (hl : RJ h = true) (hF : ∀ j, b ≤ j → j < L → F j ∧ W j) (hL : ∀ H, (aX E H b h x).2.2 ≤ L) :
    ∃ v es b', In2 F v ∧ (∀ p ∈ es, W p.1 ∧ u9 F p.2) ∧ ∀ H, aX E H b h x = (v, me es H, b') := by
  by_cases hh : br h = true
  · obtain ⟨v, es, b', h1, h2, h3⟩ := yV (F := F) (W := W) E h b x L hh hF hL
    exact ⟨v, es, b', .of1 h1, h2, h3⟩
  · cases h <;> first | (exact absurd hl hh; done) | exact ⟨.arr _ x, [], b, trivial, by simp, fun _ => rfl⟩ | skip
    rename_i l
    have un : ∀ H, aX E H b (.agg l) x = (match ah E H b l x with | (cs, H, b) => (AV.agg cs, H, b)) := fun _ => rfl
    obtain ⟨vs, es, b', h1, h2, h3⟩ := AU (F := F) (W := W) E l b x L hl hF (fun H => by
      have := hL H
      rw [un] at this
      generalize ah E H b l x = r at *
      exact this)
    exact ⟨.agg vs, es, b', h1, h2, fun H => by rw [un, h3]⟩
theorem xF (E : Nat → AV) : ∀ (l : List Sh) (b : Nat) (x : LTs l) (L : Nat), JJ l = true → (∀ j, b ≤ j → j < L → F j ∧ W j) → (∀ H, (ah E H b l x).2.2 ≤ L) →
    ∃ vs es b', (∀ v ∈ vs, In2 F v) ∧ (∀ p ∈ es, W p.1 ∧ u9 F p.2) ∧ ∀ H, ah E H b l x = (vs, me es H, b')
  | [], b, _, _, _, _, _ => ⟨[], [], b, by simp, by simp, fun _ => rfl⟩
  | h :: l, b, x, L, hl, hF, hL => by
    simp only [JJ, Bool.and_eq_true] at hl
    have un : ∀ H, ah E H b (h :: l) x = (match aX E H b h x.1 with | (c, H, b) => match ah E H b l x.2 with | (cs, H, b) => (c :: cs, H, b)) := fun _ => rfl
    have hL1 : ∀ H, (aX E H b h x.1).2.2 ≤ L := fun H => by
      have := hL H
      rw [un] at this
      generalize aX E H b h x.1 = r at *
      obtain ⟨c, H', b'⟩ := r
      have h2 := dj E l H' b' x.2
      simp only at this
      generalize ah E H' b' l x.2 = r at *
      exact Nat.le_trans h2 this
    obtain ⟨v, es, b', h1, h2, h3⟩ := Ox E h b x.1 L hl.1 hF hL1
    have hbb : b ≤ b' := by have := be E h (fun _ => none) b x.1; rw [h3] at this; exact this
    have hL2 : ∀ H, (ah E H b' l x.2).2.2 ≤ L := fun H => by
      have := hL H
      rw [un, h3] at this
      simp only at this
      rw [(lx E H (me es H) l b' x.2).2]
      generalize ah E (me es H) b' l x.2 = r at *
      exact this
    obtain ⟨vs, es', b'', h4, h5, h6⟩ := xF E l b' x.2 L hl.2 (fun j h1 h2 => hF j (Nat.le_trans hbb h1) h2) hL2
    refine ⟨v :: vs, es ++ es', b'', fun c hc => ?_, fun p hp => ?_, fun H => ?_⟩
    · rcases List.mem_cons.1 hc with rfl | hc
      · exact h1
      · exact h4 c hc
    · rcases List.mem_append.1 hp with hp | hp
      · exact h2 p hp
      · exact h5 p hp
    · rw [un, h3]
      simp only [h6, me, List.foldl_append]
abbrev stp (p : Nat × Ob) : Step := ⟨p.1, .no, some p.2⟩
theorem BU : ∀ (es : List (Nat × Ob)) (s : S), (es.map stp).foldl S.app s = { s with H := me es s.H }
  | [], _ => rfl
  | p :: es, s => by
    rw [List.map_cons, List.foldl_cons, gA, BU es]
    rfl
theorem uV : ∀ (ps : List Sh) (vs : List AV), ∀ v ∈ b9 ps vs, v ∈ vs
  | [], vs, v, h => by cases vs <;> simp [b9] at h
  | p :: ps, [], v, h => by cases p <;> simp [b9] at h
  | p :: ps, x :: vs, v, h => by
    cases p <;> simp only [b9, List.mem_cons] at h ⊢ <;> first
      | exact .inr (uV ps vs v h)
      | exact h.imp id (uV ps vs v)
theorem KQ {vs : List AV} (h : ∀ v ∈ vs, In2 F v) : InA F (Ev vs) := by
  unfold Ev
  split
  · exact .of2 (h _ (by simp))
  · exact .of3 h
def RS (H : Hp) (m : Summ) (as : List AV) (b : Nat) (W : Nat → Prop) : Prop :=
  (∀ i ∈ bC H m.ps as, W i) ∧ ((bD m.rs || bD (aq m.ps)) = true → ∀ i ∈ b7 H m.ps as, W i) ∧ (∀ j, b ≤ j → j < b + 16 → W j)
theorem O7 {m : Summ} {d : Option Nat} {as : List AV} (hm : okS m = true) (has : ∀ v ∈ as, InA F v) (hC : Closed F s.H) (hF : ∀ j, b ≤ j → j < b + 16 → F j)
    (hW : RS s.H m as b W) (hB : (aq m.ps).isEmpty = true ∨ ∀ i, F i → W i) (h : oA m s b d as some = some s') :
    ∃ (v : AV) (es : List Step), InA F v ∧ (∀ e ∈ es, W e.id ∧ StOK F e) ∧ s' = (es.foldl S.app s).put d v ∧ ∀ s2 : S, Agr F s.H s2.H → oA m s2 b d as some = some ((es.foldl S.app s2).put d v) := by
  simp only [okS, Bool.and_eq_true] at hm
  obtain ⟨hW1, hW2, hW3⟩ := hW
  unfold oA at h
  simp only at h
  split at h
  · rename_i x hx hn
    obtain ⟨r, hr, h⟩ := Option.bind_eq_some_iff.1 h
    obtain ⟨es1, k1, k2, k3⟩ := I8 (bC s.H m.ps as) s
    have k4 : ∃ es2 : List Step, (∀ e ∈ es2, W e.id ∧ e.ob = none) ∧
        sE (bD m.rs || bD (aq m.ps)) (b7 s.H m.ps as) ((bC s.H m.ps as).foldl S.kill s) = es2.foldl S.app s ∧
        ∀ s2 : S, Agr F s.H s2.H → sE (bD m.rs || bD (aq m.ps)) (b7 s.H m.ps as) ((bC s.H m.ps as).foldl S.kill s2) = es2.foldl S.app s2 := by
      cases hq : (bD m.rs || bD (aq m.ps)) with
      | false => exact ⟨es1, fun e he => ⟨hW1 _ (k1 e he).1, (k1 e he).2⟩, k2, fun s2 _ => k3 s2⟩
      | true =>
        obtain ⟨es2, j1, j2, j3⟩ := o3 (F := F) (b7 s.H m.ps as) (es1.foldl S.app s) (tO hC m.ps as has)
        refine ⟨es1 ++ es2, fun e he => ?_, ?_, fun s2 h2 => ?_⟩
        · rcases List.mem_append.1 he with he | he
          · exact ⟨hW1 _ (k1 e he).1, (k1 e he).2⟩
          · exact ⟨hW2 hq _ (j1 e he).1, (j1 e he).2⟩
        · simp only [sE, k2, j2, List.foldl_append]
        · simp only [sE, k3, List.foldl_append]
          exact j3 _ h2.apps
    obtain ⟨es2, j1, j2, j3⟩ := k4
    rw [j2] at h
    have hC2 : Closed F (es2.foldl S.app s).H := by
      have : ∀ (es : List Step) (s : S), Closed F s.H → (∀ e ∈ es, e.ob = none) → Closed F (es.foldl S.app s).H := by
        intro es
        induction es with
        | nil => intro s h _; exact h
        | cons e es ih => exact fun s h he => ih _ (h.app fun ob eo => by rw [he e List.mem_cons_self] at eo; cases eo) (fun e' h' => he e' (List.mem_cons_of_mem _ h'))
      exact this es2 s hC fun e he => (j1 e he).2
    have hL1 : (aC (fun i => (as[i]?).getD .un) (es2.foldl S.app s).H b (aq m.ps) (b9 m.ps as) r.2).2.2 ≤ b + 16 := by
      generalize aC (fun i => (as[i]?).getD .un) (es2.foldl S.app s).H b (aq m.ps) (b9 m.ps as) r.2 = q at *
      obtain ⟨_, H1, b1⟩ := q
      have := dj (fun i => (as[i]?).getD .un) m.rs H1 b1 r.1
      simp only at h
      generalize ah (fun i => (as[i]?).getD .un) H1 b1 m.rs r.1 = q at *
      obtain ⟨vs, H2, b2⟩ := q
      simp only at h
      split at h
      · rename_i hb
        exact Nat.le_trans this (Nat.le_of_ble_eq_true hb)
      · cases h
    have hg : ∃ ds es3 b1, b ≤ b1 ∧ (∀ p ∈ es3, W p.1 ∧ u9 F p.2) ∧ ∀ H', Agr F (es2.foldl S.app s).H H' → aC (fun i => (as[i]?).getD .un) H' b (aq m.ps) (b9 m.ps as) r.2 = (ds, me es3 H', b1) := by
      rcases hB with hB | hB
      · exact ⟨[], [], b, Nat.le_refl b, by simp, fun H' _ => Jh _ _ _ _ _ _ hB⟩
      · obtain ⟨ds, es3, b1, i1, i2, i3⟩ := Bn (F := F) (fun i => (as[i]?).getD .un) (aq m.ps) (es2.foldl S.app s).H b (b9 m.ps as) r.2 (b + 16) hm.2 hF (fun v hv => has v (uV _ _ v hv)) hC2 hL1
        have := zV (fun i => (as[i]?).getD .un) (aq m.ps) (es2.foldl S.app s).H b (b9 m.ps as) r.2 hm.2
        rw [i3 _ (Agr.refl _ _)] at this
        exact ⟨ds, es3, b1, this, fun p hp => ⟨hB _ (i2 p hp).1, (i2 p hp).2⟩, i3⟩
    obtain ⟨ds, es3, b1, hb1, i2, i3⟩ := hg
    rw [i3 _ (Agr.refl _ _)] at h
    simp only at h
    have hL2 : ∀ H, (ah (fun i => (as[i]?).getD .un) H b1 m.rs r.1).2.2 ≤ b + 16 := fun H => by
      rw [(lx _ H (me es3 (es2.foldl S.app s).H) m.rs b1 r.1).2]
      generalize ah (fun i => (as[i]?).getD .un) (me es3 (es2.foldl S.app s).H) b1 m.rs r.1 = q at *
      obtain ⟨vs, H2, b2⟩ := q
      simp only at h
      split at h
      · rename_i hb
        exact Nat.le_of_ble_eq_true hb
      · cases h
    obtain ⟨vs, es4, b2, l1, l2, l3⟩ := xF (F := F) (W := W) (fun i => (as[i]?).getD .un) m.rs b1 r.1 (b + 16) hm.1
      (fun j h1 h2 => ⟨hF j (Nat.le_trans hb1 h1) h2, hW3 j (Nat.le_trans hb1 h1) h2⟩) hL2
    rw [l3] at h
    simp only at h
    split at h
    · rename_i hb
      cases h
      refine ⟨Ev vs, es2 ++ es3.map stp ++ es4.map stp, KQ l1, fun e he => ?_, ?_, fun s2 h2 => ?_⟩
      · rcases List.mem_append.1 he with he | he
        · rcases List.mem_append.1 he with he | he
          · exact ⟨(j1 e he).1, fun ob eo => by rw [(j1 e he).2] at eo; cases eo⟩
          · obtain ⟨p, hp, rfl⟩ := List.mem_map.1 he
            exact ⟨(i2 p hp).1, fun ob eo => by cases eo; exact (i2 p hp).2⟩
        · obtain ⟨p, hp, rfl⟩ := List.mem_map.1 he
          exact ⟨(l2 p hp).1, fun ob eo => by cases eo; exact (l2 p hp).2⟩
      · simp only [List.foldl_append, BU]
      · unfold oA
        simp only [s6 h2 hC m.ps as has, tM h2 hC m.ps as has, s4 h2 hC m.ps as has, zW h2 hC m.ps as has, hx, hn, hr, Option.bind_some, j3 s2 h2]
        rw [i3 _ h2.apps]
        simp only [l3, hb, List.foldl_append, BU]
    · cases h
  · cases h
end
end Go.VS
namespace Go.VS
open Go
section
variable {F W : Nat → Prop} {H H' : Hp} {P : Program} {s s' s2 : S} {b : Nat} {C : Cx}
theorem Lw {f : AV → AV} (hf : ∀ c, In1 F c → In1 F (f c)) {v : AV} (h : In2 F v) : In2 F (ju f v) := by
  cases v <;> first | exact .of1 (hf _ h) | skip
  rename_i cs
  intro c hc
  obtain ⟨c0, h0, rfl⟩ := List.mem_map.1 hc
  exact hf _ (h c0 h0)
theorem Lu {f : AV → AV} (hf : ∀ c, In1 F c → In1 F (f c)) {v : AV} (h : In3 F v) : In3 F (j8 f v) := by
  have gen : In2 F v → In3 F (ju f v) := fun h => .of2 (Lw hf h)
  cases v with
  | tup cs =>
    intro c hc
    obtain ⟨c0, h0, rfl⟩ := List.mem_map.1 hc
    exact Lw hf (h c0 h0)
  | _ => exact gen h
theorem Nr {f : AV → AV} (hf : ∀ c, In1 F c → In1 F (f c)) {v : AV} (h : InA F v) : InA F (nJ f v) := by
  have gen : In3 F v → InA F (j8 f v) := fun h => .of3 (Lu hf h)
  cases v with
  | gd g w v => exact Lu hf h
  | _ => exact gen h
theorem Pf {x : Operand} {e : Step} (h : InA F (s.ev x)) : InA F ((s.app e).ev x) := by
  cases x with
  | tmp t => exact Nr (fun c hc => Fk.f_In _ _ hc) h
  | _ => exact h
theorem Hv {x : Operand} : ∀ (es : List Step) (s : S), InA F (s.ev x) → InA F ((es.foldl S.app s).ev x)
  | [], _, h => h
  | e :: es, s, h => Hv es _ (Pf h)
theorem Pe {x : Operand} {e : Step} (h : s2.ev x = s.ev x) : (s2.app e).ev x = (s.app e).ev x := by
  cases x with
  | tmp t => exact congrArg (nJ (e.fk.f e.id)) h
  | _ => exact h
theorem Hu {x : Operand} : ∀ (es : List Step) (s s2 : S), s2.ev x = s.ev x → (es.foldl S.app s2).ev x = (es.foldl S.app s).ev x
  | [], _, _, h => h
  | e :: es, s, s2, h => Hu es _ _ (Pe h)
theorem uX : ∀ (es : List Step) (s : S), Closed F s.H → (∀ e ∈ es, StOK F e) → Closed F (es.foldl S.app s).H
  | [], _, h, _ => h
  | e :: es, s, h, he => uX es _ (h.app (he e List.mem_cons_self)) fun e' h' => he e' (List.mem_cons_of_mem _ h')
theorem Ov {ρ : Operand → AV} : ∀ (ps : List (Nat × Operand)), (∀ p ∈ ps, InA F (ρ p.2)) → ∀ i ∈ pf ρ ps, F i := by
  intro ps hp i hi
  obtain ⟨p, h1, h2⟩ := List.mem_flatMap.1 hi
  have := hp p h1
  split at h2
  · rename_i cs e
    rw [e] at this
    exact PK this i h2
  · rename_i v hn
    cases hv : ρ p.2 <;> rw [hv] at h2 this <;> first | (simp [mM] at h2; done) | skip
    simp [mM] at h2
    subst h2
    exact this
def RU (C : Cx) (F W : Nat → Prop) (b : Nat) (o : Oper) (s s' : S) : Prop :=
  ∃ (v : AV) (es : List Step), InA F v ∧ (∀ e ∈ es, W e.id ∧ StOK F e) ∧ s' = (es.foldl S.app s).put o.dst v ∧
    ∀ s2 : S, (∀ x ∈ o.op.operands, s2.ev x = s.ev x) → s2.has o.dst = s.has o.dst → Agr F s.H s2.H → dF C (ae S) o b s2 some = some ((es.foldl S.app s2).put o.dst v)
theorem Ll {op : Op} {kd : TypeId → Option K} {d : Option Nat} (hF : ∀ x ∈ op.operands, InA F (s.ev x)) (hC : Closed F s.H) (hb : F b) (hW : W b)
    (he : (match aM P kd s.ev s.H b op with
      | some (q, v, os) => if q then some ({ s with H := cd s.H b os }.put d v) else none
      | none => none) = some s') :
    ∃ (v : AV) (es : List Step), InA F v ∧ (∀ e ∈ es, W e.id ∧ StOK F e) ∧ s' = (es.foldl S.app s).put d v ∧
      ∀ s2 : S, (∀ x ∈ op.operands, s2.ev x = s.ev x) → Agr F s.H s2.H → (match aM P kd s2.ev s2.H b op with
        | some (q, v, os) => if q then some ({ s2 with H := cd s2.H b os }.put d v) else none
        | none => none) = some ((es.foldl S.app s2).put d v) := by
  split at he
  · rename_i q v os hp
    split at he
    · rename_i hq
      cases he
      obtain ⟨h1, h2, h3⟩ := I0 hF hC hb q v os hp
      match os, h2, h3, hp with
      | [], _, _, hp =>
        refine ⟨v, [], h1, by simp, rfl, fun s2 e1 e2 => ?_⟩
        rw [vi e1 hF e2, hp]
        simp only [hq, if_true]
        rfl
      | [ob], _, h3, hp =>
        refine ⟨v, [⟨b, .no, some ob⟩], h1, fun e he => ?_, ?_, fun s2 e1 e2 => ?_⟩
        · simp at he
          subst he
          exact ⟨hW, fun ob' e => by cases e; exact h3 _ (by simp)⟩
        · show _ = S.put (s.app _) d v
          rw [gA]
          rfl
        · rw [vi e1 hF e2, hp]
          simp only [hq, if_true, List.foldl_cons, List.foldl_nil, gA]
          rfl
      | _ :: _ :: _, h2, _, _ => simp at h2
    · cases he
  · cases he
theorem Ql {o : Oper} (hok : okO C o = true) (hop : ∀ x ∈ o.op.operands, InA F (s.ev x)) (hC : Closed F s.H) (hF : ∀ j, b ≤ j → j < b + 16 → F j)
    (hN : ∀ j, b ≤ j → j < b + 16 → W j) (hW : (m7 C s o = none → ∀ i, F i → W i) ∧ ∀ l, m7 C s o = some l → ∀ i ∈ l, W i) (he : dF C (ae S) o b s some = some s') : RU C F W b o s s' := by
  have hFb : F b := hF b (Nat.le_refl b) (by omega)
  have hWb : W b := hN b (Nat.le_refl b) (by omega)
  unfold dF at he
  split at he
  · cases he
  rename_i hd
  unfold RU
  have un : ∀ s2 : S, s2.has o.dst = s.has o.dst → s2.has o.dst = true := fun s2 h => h.trans hd
  generalize ho : o.op = op at he
  rw [ho] at hop
  have pu : (match aM C.P C.kd s.ev s.H b op with
      | some (q, v, os) => if q then some ({ s with H := cd s.H b os }.put o.dst v) else none
      | none => none) = some s' → (∀ s2 : S, s2.has o.dst = true → (∀ x ∈ op.operands, s2.ev x = s.ev x) → Agr F s.H s2.H → dF C (ae S) o b s2 some = (match aM C.P C.kd s2.ev s2.H b op with
      | some (q, v, os) => if q then some ({ s2 with H := cd s2.H b os }.put o.dst v) else none
      | none => none)) → ∃ (v : AV) (es : List Step), InA F v ∧ (∀ e ∈ es, W e.id ∧ StOK F e) ∧ s' = (es.foldl S.app s).put o.dst v ∧
    ∀ s2 : S, (∀ x ∈ op.operands, s2.ev x = s.ev x) → s2.has o.dst = s.has o.dst → Agr F s.H s2.H → dF C (ae S) o b s2 some = some ((es.foldl S.app s2).put o.dst v) := by
    intro he hu
    obtain ⟨v, es, h1, h2, h3, h4⟩ := Ll (W := W) hop hC hFb hWb he
    exact ⟨v, es, h1, h2, h3, fun s2 e1 e2 e3 => by rw [hu s2 (un s2 e2) e1 e3]; exact h4 s2 e1 e3⟩
  cases op <;> try (exact pu he fun s2 e1 e2 e3 => by unfold dF; simp only [e1, ho]; rfl)
  case store t p x =>
    have hWF : ∀ i ∈ xp s.H (s.ev p) (s.ev x), W i := hW.2 _ (by simp only [m7, ho])
    simp only at he
    split at he
    · rename_i s1 hs
      cases he
      obtain ⟨es, h1, h2, h3⟩ := N7 (hop p (by simp [Op.operands])) (hop x (by simp [Op.operands])) hC hs
      refine ⟨qF, es, .of1 trivial, fun e he => ⟨hWF _ (h1 e he).1, (h1 e he).2⟩, by rw [h2], fun s2 e1 e2 e3 => ?_⟩
      have := h3 s2 e3
      simp only [Option.map_eq_some_iff, Prod.mk.injEq, true_and] at this
      obtain ⟨s1', hs', rfl⟩ := this
      unfold dF
      simp only [un s2 e2, ho, e1 p (by simp [Op.operands]), e1 x (by simp [Op.operands]), hs']
    · cases he
  case call c =>
    obtain ⟨cal, ⟨args⟩, ⟨tys⟩⟩ := c
    have hargs : ∀ x ∈ args, InA F (s.ev x) := fun x hx => hop x (by
      simp only [Op.operands, Call.operands, Array.mem_append]
      exact .inr (by simpa using hx))
    have eargs : ∀ s2 : S, (∀ x ∈ (Op.call ⟨cal, ⟨args⟩, ⟨tys⟩⟩).operands, s2.ev x = s.ev x) → args.map s2.ev = args.map s.ev := fun s2 h => List.map_congr_left fun x hx => h x (by
      simp only [Op.operands, Call.operands, Array.mem_append]
      exact .inr (by simpa using hx))
    simp only at he
    split at he
    · rename_i f
      split at he
      · rename_i m hm
        have hokm : okS m = true := by simpa only [okO, ho, hm] using hok
        have has : ∀ v ∈ args.map s.ev, InA F v := fun v hv => by
          obtain ⟨x, hx, rfl⟩ := List.mem_map.1 hv
          exact hargs x hx
        have hcw : RS s.H m (args.map s.ev) b W ∧ ((aq m.ps).isEmpty = true ∨ ∀ i, F i → W i) := by
          cases hbe : (aq m.ps).isEmpty with
          | false =>
            have heff : m7 C s o = none := by simp only [m7, ho, hm, hbe]
            exact ⟨⟨fun i hi => hW.1 heff i (yM hC _ _ has i hi), fun _ i hi => hW.1 heff i (tO hC _ _ has i hi), hN⟩, .inr (hW.1 heff)⟩
          | true =>
            have hl : m7 C s o = some (bC s.H m.ps (args.map s.ev) ++ fzl (bD m.rs || bD (aq m.ps)) (b7 s.H m.ps (args.map s.ev))) := by simp only [m7, ho, hm, hbe]
            refine ⟨⟨fun i hi => ?_, fun hq i hi => ?_, hN⟩, .inl rfl⟩
            · exact hW.2 _ hl i (List.mem_append_left _ hi)
            · exact hW.2 _ hl i (List.mem_append_right _ (by rw [hq]; exact hi))
        obtain ⟨v, es, h1, h2, h3, h4⟩ := O7 hokm has hC hF hcw.1 hcw.2 he
        refine ⟨v, es, h1, h2, h3, fun s2 e1 e2 e3 => ?_⟩
        have := h4 s2 e3
        unfold dF
        simp only [un s2 e2, ho, hm, eargs s2 e1]
        exact this
      · cases he
    · rename_i x y t u
      have hWF : ∀ i, (i = b ∨ i ∈ EX (s.ev x)) → W i := fun i hi => hi.elim (fun e => e ▸ hWb) (hW.2 _ (by simp only [m7, ho]) i)
      split at he
      · rename_i q v s1 hs
        split at he
        · rename_i hq
          subst hq
          cases he
          obtain ⟨⟨es, h1, h2, h3⟩, h5⟩ := Nd (hargs x (by simp)) (hargs y (by simp)) hFb hs
          refine ⟨v, es, h5, fun e he => ⟨hWF _ (h1 e he).1, (h1 e he).2⟩, by rw [h2], fun s2 e1 e2 e3 => ?_⟩
          have := h3 s2 e3
          obtain ⟨⟨q', v', s1'⟩, hs', e'⟩ := Option.map_eq_some_iff.1 this
          cases e'
          unfold dF
          have ea := eargs s2 e1
          simp only [List.map_cons, List.map_nil, List.cons.injEq, and_true] at ea
          simp only [un s2 e2, ho, ea.1, ea.2, hs', if_true]
        · cases he
      · cases he
    · rename_i x y t u
      have hWF : ∀ i ∈ EX (s.ev x), W i := hW.2 _ (by simp only [m7, ho])
      split at he
      · rename_i v s1 hs
        cases he
        obtain ⟨⟨es, h1, h2, h3⟩, h5⟩ := QC (hargs x (by simp)) (hargs y (by simp)) hs
        refine ⟨v, es, h5, fun e he => ⟨hWF _ (h1 e he).1, (h1 e he).2⟩, by rw [h2], fun s2 e1 e2 e3 => ?_⟩
        have hs' := h3 s2 e3
        unfold dF
        have ea := eargs s2 e1
        simp only [List.map_cons, List.map_nil, List.cons.injEq, and_true] at ea
        simp only [un s2 e2, ho, ea.1, ea.2, hs']
      · cases he
    · rename_i n1 n2 n3
      refine pu he fun s2 e1 e2 e3 => ?_
      unfold dF
      simp only [e1, ho]
      split <;> first | exact (n1 _ rfl).elim | exact (n2 _ _ _ _ rfl rfl rfl).elim | exact (n3 _ _ _ _ rfl rfl rfl).elim | (rename_i h; simp only [h]; done) | rfl
  case slice t x lo hi mx =>
    cases mx with
    | some m => exact pu he fun s2 e1 e2 e3 => by unfold dF; simp only [e1, ho]; rfl
    | none =>
      have hx := hop x (by simp [Op.operands])
      have elo : ∀ s2 : S, (∀ x_1 ∈ (Op.slice t x lo hi none).operands, s2.ev x_1 = s.ev x_1) → lo.map s2.ev = lo.map s.ev := fun s2 h => by
        cases lo with
        | none => rfl
        | some l => exact congrArg some (h l (by simp [Op.operands]))
      have ehi : ∀ s2 : S, (∀ x_1 ∈ (Op.slice t x lo hi none).operands, s2.ev x_1 = s.ev x_1) → hi.map s2.ev = hi.map s.ev := fun s2 h => by
        cases hi with
        | none => rfl
        | some l => exact congrArg some (h l (by simp [Op.operands]))
      simp only at he
      split at he
      · rename_i id hid
        split at he
        · cases he
        rename_i hf
        have hWF : ∀ i, i = id → W i := fun i e => hW.2 (EX (s.ev x)) (by simp only [m7, ho]) i (by rw [hid, e]; simp [EX, mM])
        rw [hid] at hx
        split at he
        · rename_i q v s1 hs
          split at he
          · rename_i hq
            subst hq
            cases he
            obtain ⟨⟨es, h1, h2, h3⟩, h5⟩ := JT (F := F) hx hs
            refine ⟨v, es, h5, fun e he => ⟨hWF _ (h1 e he).1, (h1 e he).2⟩, by rw [h2], fun s2 e1 e2 e3 => ?_⟩
            have := h3 s2 e3
            obtain ⟨⟨q', v', s1'⟩, hs', e'⟩ := Option.map_eq_some_iff.1 this
            cases e'
            unfold dF
            have ex : s2.ev x = .own id := (e1 x (by simp [Op.operands])).trans hid
            have hf2 : cm C.P s2.H t (.own id) = true := by rw [yI (F := F) hx e3]; exact hf
            simp only [un s2 e2, ho, ex, hf2, elo s2 e1, ehi s2 e1, hs', if_true]
          · cases he
        · cases he
      · rename_i hn
        refine pu he fun s2 e1 e2 e3 => ?_
        unfold dF
        simp only [e1, ho]
        have ex : s2.ev x = s.ev x := e2 x (by simp [Op.operands])
        rw [ex]
        split
        · rename_i id hid; exact absurd hid (hn id)
        · rfl
  case buildSlice t n ps =>
    simp only at he
    have hps : ∀ p ∈ ps.toList, InA F (s.ev p.2) := fun p hp => hop p.2 (by
      simp only [Op.operands, List.mem_toArray, List.mem_map]
      exact ⟨p, hp, rfl⟩)
    have hids := Ov ps.toList hps
    obtain ⟨es1, j1, j2, j3⟩ := o3 (F := F) (pf s.ev ps.toList) s hids
    rw [j2] at he
    obtain ⟨v, es, h1, h2, h3, h4⟩ := Ll (W := W) (s := es1.foldl S.app s) (op := .buildSlice t n ps) (fun x hx => Hv es1 s (hop x hx)) (uX es1 s hC fun e he ob eo => by rw [(j1 e he).2] at eo; cases eo) hFb hWb he
    refine ⟨v, es1 ++ es, h1, fun e he => ?_, by rw [h3, List.foldl_append], fun s2 e1 e2 e3 => ?_⟩
    · rcases List.mem_append.1 he with he | he
      · refine ⟨?_, fun ob eo => by rw [(j1 e he).2] at eo; cases eo⟩
        have hi := (j1 e he).1
        exact hW.2 _ (by simp only [m7, ho]) _ hi
      · exact h2 e he
    · unfold dF
      have eo : pf s2.ev ps.toList = pf s.ev ps.toList := Ou _ fun p hp => e1 p.2 (by
        simp only [Op.operands, List.mem_toArray, List.mem_map]
        exact ⟨p, hp, rfl⟩)
      simp only [un s2 e2, ho, eo]
      rw [j3 s2 e3, List.foldl_append]
      exact h4 _ (fun x hx => Hu es1 s s2 (e1 x hx)) e3.apps
end
end Go.VS
namespace Go.VS
open Go
abbrev ev1 (C : Cx) (ops : Array Oper) (o : Oper) (b : Nat) (s : S) : Option S := evG C (ae S) ops o b s some
def S.fin (s : S) (g : Option Nat) (d : Option Nat) (v : AV) : S := { s.put d v with gs := match g with
  | some g => upd s.gs g true
  | none => s.gs }
def HasEq (s s2 : S) (d : Option Nat) : Prop := s2.n = s.n ∧ s2.pins = s.pins ∧ ∀ t, d = some t → s2.gs t = s.gs t
section
variable {F W : Nat → Prop} {H H' : Hp} {P : Program} {s s' s2 : S} {b : Nat} {C : Cx} {ρ ρ' : Operand → AV}
theorem HasEq.has {d : Option Nat} (h : HasEq s s2 d) : s2.has d = s.has d := by
  cases d with
  | none => rfl
  | some t => simp only [S.has, h.1, h.2.1, h.2.2 t rfl]
theorem HasEq.more {d : Option Nat} (h : HasEq s s2 d) (g : Nat) : ({ s2 with gs := upd s2.gs g true } : S).has d = ({ s with gs := upd s.gs g true } : S).has d := by
  cases d with
  | none => rfl
  | some t =>
    have : upd s2.gs g true t = upd s.gs g true t := by
      by_cases e : t = g
      · subst e; rw [ai, ai]
      · rw [al _ _ e, al _ _ e]; exact h.2.2 t rfl
    simp only [S.has, h.1, h.2.1, this]
theorem Px {g : Nat} {want : Bool} {v : AV} (h : InA F v) : InA F (lm g want v) := by
  unfold lm
  split
  · split
    · exact .of3 h
    · exact h
  · exact h
theorem PN (v : Value) : InA F (ofV v) := by
  unfold ofV
  split
  · split
    · refine .of2 fun c hc => ?_
      obtain ⟨x, _, rfl⟩ := List.mem_map.1 hc
      trivial
    · exact .of1 trivial
  · exact .of1 trivial
theorem R8 {d : Option Nat} {op : Op} (hρ : ∀ x ∈ op.operands, ρ' x = ρ x) (hF : ∀ x ∈ op.operands, InA F (ρ x)) (hC : Closed F H) (hH : Agr F H H') : spA C b d ρ' H' op = spA C b d ρ H op := by
  unfold spA
  split
  · rename_i c
    obtain ⟨cal, ⟨args⟩, ⟨tys⟩⟩ := c
    have ea : args.map ρ' = args.map ρ := List.map_congr_left fun x hx => hρ x (by
      simp only [Op.operands, Call.operands, Array.mem_append]
      exact .inr (by simpa using hx))
    have has : ∀ v ∈ args.map ρ, InA F v := fun v hv => by
      obtain ⟨x, hx, rfl⟩ := List.mem_map.1 hv
      exact hF x (by
        simp only [Op.operands, Call.operands, Array.mem_append]
        exact .inr (by simpa using hx))
    have hc : sq C.P ρ' H' ⟨cal, ⟨args⟩, ⟨tys⟩⟩ = sq C.P ρ H ⟨cal, ⟨args⟩, ⟨tys⟩⟩ := L5 (F := F) (fun x hx => hρ x (by
      simp only [Op.operands, Call.operands, Array.mem_append]
      exact .inr (by simpa using hx))) (fun x hx => hF x (by
      simp only [Op.operands, Call.operands, Array.mem_append]
      exact .inr (by simpa using hx))) hH
    split
    · rename_i f as _
      simp only at *
      congr 1
      funext m
      simp only [ea, s4 hH hC m.ps _ has, tM hH hC m.ps _ has, s6 hH hC m.ps _ has]
      split
      · congr 1
        funext x
        rw [(lx _ H' H m.rs b ((m.g x).getD (q7 m.rs, q7 (aq m.ps))).1).1]
      · rfl
    · rfl
    · rfl
    · rw [hc]
  · rfl
  · rfl
  · rename_i t x lo hi
    rw [hρ x (by simp [Op.operands]), vi hρ hF hH]
  · rw [vi hρ hF hH]
theorem R9 {o : Oper} {q : Bool} {v : AV} (hok : okO C o = true) (hF : ∀ x ∈ o.op.operands, InA F (ρ x)) (hC : Closed F H) (hb : ∀ j, b ≤ j → j < b + 16 → F j) (h : spA C b o.dst ρ H o.op = some (q, v)) : InA F v := by
  have hFb : F b := hb b (Nat.le_refl b) (by omega)
  unfold spA at h
  unfold okO at hok
  generalize ho : o.op = op at h hok hF
  have pu : (match aM C.P C.kd ρ H b op with
    | some (q, v, []) => some (q, v)
    | _ => none) = some (q, v) → InA F v := by
    intro h
    split at h
    · rename_i hp; cases h; exact (I0 hF hC hFb _ _ _ hp).1
    · cases h
  split at h
  · rename_i c
    obtain ⟨cal, ⟨args⟩, ⟨tys⟩⟩ := c
    simp only at h hok
    split at h
    · rename_i f
      obtain ⟨m, hm, h⟩ := Option.bind_eq_some_iff.1 h
      split at h
      · rename_i hc
        obtain ⟨x, hx, h⟩ := Option.bind_eq_some_iff.1 h
        simp only [Option.some.injEq, Prod.mk.injEq] at h
        obtain ⟨_, h⟩ := h
        generalize (m.g x).getD (q7 m.rs, q7 (aq m.ps)) = r at h
        rw [← h]
        simp only [hm, okS, Bool.and_eq_true] at hok
        simp only [Bool.and_eq_true] at hc
        have hbn : ∀ H0, (ah (fun i => ((args.map ρ)[i]?).getD .un) H0 b m.rs r.1).2.2 ≤ b + 16 := fun H0 => by
          have := vk (fun i => ((args.map ρ)[i]?).getD .un) H0 b m.rs r.1 hc.1.1.1
          rw [this]
          exact Nat.le_add_right b 16
        obtain ⟨vs, es, b', h1, h2, h3⟩ := xF (F := F) (W := F) (fun i => ((args.map ρ)[i]?).getD .un) m.rs b r.1 (b + 16) hok.1 (fun j h1 h2 => ⟨hb j h1 h2, hb j h1 h2⟩) hbn
        rw [h3]
        exact KQ h1
      · cases h
    · cases h
    · cases h
    · split at h
      · rename_i hp
        cases h
        exact (L6 _ _ _ _ hp).1
      · cases h
  · cases h
  · cases h
  · split at h
    · cases h
    · exact pu h
  · exact pu h
def RY (C : Cx) (ops : Array Oper) (F W : Nat → Prop) (b : Nat) (o : Oper) (s s' : S) : Prop :=
  ∃ (g : Option Nat) (v : AV) (es : List Step), InA F v ∧ (∀ e ∈ es, W e.id ∧ StOK F e) ∧ (∀ x, g = some x → x ∈ bd ops o) ∧ s' = (es.foldl S.app s).fin g o.dst v ∧
    ∀ s2 : S, (∀ t ∈ bd ops o, s2.T t = s.T t) → HasEq s s2 o.dst → Agr F s.H s2.H → ev1 C ops o b s2 = some ((es.foldl S.app s2).fin g o.dst v)
theorem KG : ∀ (es : List Step) (s : S), (es.foldl S.app s).gs = s.gs ∧ (es.foldl S.app s).n = s.n ∧ (es.foldl S.app s).pins = s.pins ∧ (es.foldl S.app s).nid = s.nid
  | [], _ => ⟨rfl, rfl, rfl, rfl⟩
  | e :: es, s => KG es (s.app e)
theorem mp (s : S) (d : Option Nat) (v : AV) : s.fin none d v = s.put d v := by
  cases d <;> rfl
theorem Ni {α : Type} (f : Nat → α) (i : Nat) (v : α) (h : f i = v) : upd f i v = f := by
  funext j
  by_cases e : j = i
  · subst e; rw [ai, h]
  · rw [al _ _ e]
theorem vm {ops : Array Oper} {o : Oper} {t : Nat} (h : Operand.tmp t ∈ o.op.operands) : t ∈ o.looksAt ops :=
  List.mem_append_left _ (List.mem_filterMap.2 ⟨.tmp t, by simpa using h, rfl⟩)
theorem B5 {ops : Array Oper} {o : Oper} {j g : Nat} {want : Bool} (hg : o.guard = some (j, want)) (h : (ops[j]?).bind (·.dst) = some g) : g ∈ o.looksAt ops := by
  refine List.mem_append_right _ ?_
  rw [hg]
  simp [h]
theorem L4 {ops : Array Oper} : ∀ (n : Nat) (o : Oper), (∀ t ∈ Kn ops n o, s2.T t = s.T t) → Aw ops s2 n o = Aw ops s n o
  | 0, _, _ => rfl
  | n + 1, o, h => by
    unfold Aw
    unfold Kn at h
    cases hg : o.guard with
    | none => rfl
    | some jw =>
      obtain ⟨j, want⟩ := jw
      rw [hg] at h
      simp only at h ⊢
      cases hj : ops[j]? with
      | none => rfl
      | some oj =>
        rw [hj] at h
        simp only at h
        simp only [Option.bind_some]
        cases hd : oj.dst with
        | none => rfl
        | some g =>
          rw [hd] at h
          simp only [Option.bind_some, h g (by simp), L4 n oj (fun t ht => h t (List.mem_append_right _ ht))]
theorem Rw {ops : Array Oper} {o : Oper} (hok : okO C o = true) (hrd : ∀ t ∈ bd ops o, InA F (s.T t)) (hC : Closed F s.H) (hF : ∀ j, b ≤ j → j < b + 16 → F j)
    (hN : ∀ j, b ≤ j → j < b + 16 → W j) (hW : (m7 C s o = none → ∀ i, F i → W i) ∧ ∀ l, m7 C s o = some l → ∀ i ∈ l, W i) (he : ev1 C ops o b s = some s') : RY C ops F W b o s s' := by
  have hop : ∀ x ∈ o.op.operands, InA F (s.ev x) := fun x hx => by
    cases x with
    | tmp t => exact hrd t (List.mem_append_left _ (vm hx))
    | const v => exact PN v
    | _ => exact .of1 trivial
  have eop : ∀ s2 : S, (∀ t ∈ bd ops o, s2.T t = s.T t) → ∀ x ∈ o.op.operands, s2.ev x = s.ev x := fun s2 h x hx => by
    cases x with
    | tmp t => exact h t (List.mem_append_left _ (vm hx))
    | _ => rfl
  have mL : dF C (ae S) o b s some = some s' → ∃ (v : AV) (es : List Step), InA F v ∧ (∀ e ∈ es, W e.id ∧ StOK F e) ∧ s' = (es.foldl S.app s).put o.dst v ∧
    ∀ s2 : S, (∀ x ∈ o.op.operands, s2.ev x = s.ev x) → s2.has o.dst = s.has o.dst → Agr F s.H s2.H → dF C (ae S) o b s2 some = some ((es.foldl S.app s2).put o.dst v) :=
    fun h => Ql hok hop hC hF hN hW h
  unfold ev1 evG at he
  unfold RY ev1
  split at he
  · rename_i hg
    obtain ⟨v, es, h1, h2, h3, h4⟩ := mL he
    refine ⟨none, v, es, h1, h2, nofun, by rw [mp]; exact h3, fun s2 e1 e2 e3 => ?_⟩
    unfold evG
    rw [hg, mp]
    exact h4 s2 (eop s2 e1) e2.has e3
  · rename_i j want hg
    split at he
    · cases he
    · rename_i g hgd hsp
      have hgl : g ∈ bd ops o := List.mem_append_left _ (B5 hg hgd)
      split at he
      · rename_i qq v hhas hv
        split at he
        · rename_i hn
          split at he
          case isFalse => cases he
          rename_i hchk
          cases he
          have opn : ∀ x ∈ o.op.operands, InA F ((s.narrow g want).ev x) := fun x hx => by
            cases x with
            | tmp t =>
              show InA F (upd (fun t => lm g want (s.T t)) g (.b want) t)
              by_cases e : t = g
              · subst e; rw [ai]; exact .of1 trivial
              · rw [al _ _ e]; exact Px (hrd t (List.mem_append_left _ (vm hx)))
            | const v => exact PN v
            | _ => exact .of1 trivial
          have hvF : InA F v := R9 hok opn hC hF hv
          have gdIn : InA F (.gd g want v) := by
            show In3 F v
            cases v <;> first | (cases hn; done) | exact hvF
          refine ⟨some g, .gd g want v, [], gdIn, by simp, fun x hx => by cases hx; exact hgl, rfl, fun s2 e1 e2 e3 => ?_⟩
          unfold evG
          rw [hg]
          simp only [hgd, hsp]
          have e4 : ({ s2 with gs := upd s2.gs g true } : S).has o.dst = true := by rw [e2.more g]; exact hhas
          have e5 : spA C b o.dst (s2.narrow g want).ev s2.H o.op = some (qq, v) := by
            rw [R8 (ρ := (s.narrow g want).ev) (H := s.H) (F := F) (fun x hx => ?_) opn hC e3]
            · exact hv
            · cases x with
              | tmp t =>
                show upd (fun t => lm g want (s2.T t)) g (.b want) t = upd (fun t => lm g want (s.T t)) g (.b want) t
                by_cases e : t = g
                · subst e; rw [ai, ai]
                · rw [al _ _ e, al _ _ e, e1 t (List.mem_append_left _ (vm hx))]
              | _ => rfl
          have e6 : Aw ops s2 4 o = Aw ops s 4 o := L4 4 o fun t ht => e1 t (List.mem_append_right _ ht)
          rw [e4, e5]
          simp only [hn, e6, hchk, if_true]
          rfl
        · cases he
      · cases he
    · rename_i g hgd hsp
      have hgl : g ∈ bd ops o := List.mem_append_left _ (B5 hg hgd)
      split at he
      · rename_i c hT
        have same : ∀ (s0 : S) (w : Bool), s0.T g = .lit (.bool c) → c = w → ({ s0 with T := upd s0.T g (.b w) } : S) = s0 := fun s0 w h e => by
          subst e
          rw [Ni _ _ _ h]
        have yes : dF C (ae S) o b { s with T := upd s.T g (.b want) } some = some s' → c = want →
            ∃ (gg : Option Nat) (v : AV) (es : List Step), InA F v ∧ (∀ e ∈ es, W e.id ∧ StOK F e) ∧ (∀ x, gg = some x → x ∈ bd ops o) ∧ s' = (es.foldl S.app s).fin gg o.dst v ∧
              ∀ s2 : S, (∀ t ∈ bd ops o, s2.T t = s.T t) → HasEq s s2 o.dst → Agr F s.H s2.H → evG C (ae S) ops o b s2 some = some ((es.foldl S.app s2).fin gg o.dst v) := by
          intro he e
          rw [same s want hT e] at he
          obtain ⟨v, es, h1, h2, h3, h4⟩ := mL he
          refine ⟨none, v, es, h1, h2, nofun, by rw [mp]; exact h3, fun s2 e1 e2 e3 => ?_⟩
          have hT2 : s2.T g = .lit (.bool c) := (e1 g hgl).trans hT
          have := h4 s2 (eop s2 e1) e2.has e3
          unfold evG
          rw [hg, mp]
          simp only [hgd, hsp, hT2]
          have e5 := same s2 want hT2 e
          subst e
          cases c <;> simp only [if_true, if_false, Bool.false_eq_true] <;> rw [e5] <;> exact this
        have no : (match s.has o.dst with
            | true => some (({ s with T := upd s.T g (.b (!want)) } : S).put o.dst qF)
            | false => none) = some s' → c = !want →
            ∃ (gg : Option Nat) (v : AV) (es : List Step), InA F v ∧ (∀ e ∈ es, W e.id ∧ StOK F e) ∧ (∀ x, gg = some x → x ∈ bd ops o) ∧ s' = (es.foldl S.app s).fin gg o.dst v ∧
              ∀ s2 : S, (∀ t ∈ bd ops o, s2.T t = s.T t) → HasEq s s2 o.dst → Agr F s.H s2.H → evG C (ae S) ops o b s2 some = some ((es.foldl S.app s2).fin gg o.dst v) := by
          intro he e
          rw [same s _ hT e] at he
          split at he
          · rename_i hhas
            cases he
            refine ⟨none, qF, [], .of1 trivial, by simp, nofun, by rw [mp]; rfl, fun s2 e1 e2 e3 => ?_⟩
            have hT2 : s2.T g = .lit (.bool c) := (e1 g hgl).trans hT
            have hh2 := e2.has.trans hhas
            unfold evG
            rw [hg, mp]
            simp only [hgd, hsp, hT2]
            have e5 := same s2 _ hT2 e
            subst e
            cases want <;> simp only [Bool.not_true, Bool.not_false] at e5 <;> simp only [Bool.not_true, Bool.not_false, if_true, if_false, Bool.false_eq_true, hh2] <;> rw [e5] <;> rfl
          · cases he
        cases want <;> cases c <;> simp only [if_true, if_false, Bool.false_eq_true] at he
        · exact yes he rfl
        · exact no he rfl
        · exact no he rfl
        · exact yes he rfl
      · rename_i vs hT
        split at he
        · rename_i hhas
          cases he
          refine ⟨none, qF, [], .of1 trivial, by simp, nofun, by rw [mp]; rfl, fun s2 e1 e2 e3 => ?_⟩
          have hT2 : s2.T g = .lit (.tuple vs) := (e1 g hgl).trans hT
          have hh2 := e2.has.trans hhas
          unfold evG
          rw [hg, mp]
          simp only [hgd, hsp, hT2, hh2]
          rfl
        · cases he
      · cases he
end
end Go.VS
namespace Go.VS
open Go
section
variable {F G W : Nat → Prop} {H H' : Hp} {P : Program} {s s' s2 : S} {b : Nat} {C : Cx}
theorem In1.mono (h : ∀ id, F id → G id) {v : AV} (hv : In1 F v) : In1 G v := by
  cases v <;> first | exact h _ hv | exact hv
theorem In2.mono (h : ∀ id, F id → G id) {v : AV} (hv : In2 F v) : In2 G v := by
  have gen : In1 F v → In2 G v := fun hv => .of1 (hv.mono h)
  cases v <;> first | exact fun c hc => (hv c hc).mono h | exact gen hv
theorem In3.mono (h : ∀ id, F id → G id) {v : AV} (hv : In3 F v) : In3 G v := by
  have gen : In2 F v → In3 G v := fun hv => .of2 (hv.mono h)
  cases v <;> first | exact fun c hc => In2.mono h (hv c hc) | exact gen hv
theorem InA.mono (h : ∀ id, F id → G id) {v : AV} (hv : InA F v) : InA G v := by
  have gen : In3 F v → InA G v := fun hv => .of3 (hv.mono h)
  cases v with
  | gd g w v => exact In3.mono h hv
  | _ => exact gen hv
theorem StOK.mono (h : ∀ id, F id → G id) {e : Step} (he : StOK F e) : StOK G e := fun ob eo => by
  have := he ob eo
  cases ob <;> first | trivial | exact fun c hc => (this c hc).mono h
theorem Fk.f_same (id : Nat) (fk : Fk) {c : AV} (h : In1 F c) (hn : ¬ F id) : fk.f id c = c := by
  have ne : ∀ j, F j → Nat.beq j id = false := fun j hj => by
    cases e : Nat.beq j id with
    | false => rfl
    | true => exact absurd (ak e ▸ hj) hn
  cases fk with
  | no => rfl
  | kl =>
    cases c <;> first | rfl | (simp only [Fk.f, kl1, ne _ h]; done)
  | fz k xs =>
    cases c <;> first | rfl | (simp only [Fk.f, fz1, ne _ h]; done)
theorem FE {f : AV → AV} (hf : ∀ c, In1 F c → f c = c) {v : AV} (h : In2 F v) : ju f v = v := by
  cases v <;> first | exact hf _ h | skip
  rename_i cs
  exact congrArg AV.agg ((List.map_congr_left fun c hc => hf c (h c hc)).trans (List.map_id' cs))
theorem FC {f : AV → AV} (hf : ∀ c, In1 F c → f c = c) {v : AV} (h : In3 F v) : j8 f v = v := by
  have gen : In2 F v → ju f v = v := fun h => FE hf h
  cases v <;> first | exact gen h | skip
  rename_i cs
  exact congrArg AV.tup ((List.map_congr_left fun c hc => FE hf (h c hc)).trans (List.map_id' cs))
theorem AY {f : AV → AV} (hf : ∀ c, In1 F c → f c = c) {v : AV} (h : InA F v) : nJ f v = v := by
  have gen : In3 F v → j8 f v = v := fun h => FC hf h
  cases v with
  | gd g w v => exact congrArg (AV.gd g w) (FC hf h)
  | _ => exact gen h
theorem AX {f : AV → AV} (hf : ∀ c, In1 F c → f c = c) {o : Option Ob} (h : ∀ ob, o = some ob → u9 F ob) : cY f o = o := by
  cases o with
  | none => rfl
  | some ob =>
    have := h ob rfl
    cases ob <;> first | rfl | skip
    rename_i e cs
    exact congrArg (fun l => some (Ob.box e l)) ((List.map_congr_left fun c hc => hf c (this c hc)).trans (List.map_id' cs))
theorem uY {t : Nat} : ∀ (es : List Step) (s : S), (∀ e ∈ es, ¬ F e.id) → InA F (s.T t) → (es.foldl S.app s).T t = s.T t
  | [], _, _, _ => rfl
  | e :: es, s, h, ht => by
    have h1 : (s.app e).T t = s.T t := AY (fun c hc => Fk.f_same _ _ hc (h e List.mem_cons_self)) ht
    show (es.foldl S.app (s.app e)).T t = s.T t
    rw [uY es _ (fun e' he => h e' (List.mem_cons_of_mem _ he)) (by rw [h1]; exact ht), h1]
theorem o9 : ∀ (es : List Step) (s : S), (∀ e ∈ es, ¬ F e.id) → Closed F s.H → Agr F s.H (es.foldl S.app s).H
  | [], _, _, _ => Agr.refl _ _
  | e :: es, s, h, hC => by
    have h1 : Agr F s.H (s.app e).H := fun id hid => by
      rw [KH, if_neg (fun (e' : id = e.id) => h e List.mem_cons_self (e' ▸ hid))]
      exact AX (fun c hc => Fk.f_same _ _ hc (h e List.mem_cons_self)) (fun ob ho => hC id ob hid ho)
    have hC1 : Closed F (s.app e).H := fun id ob hid ho => hC id ob hid (by rw [← h1 id hid]; exact ho)
    intro id hid
    show (es.foldl S.app (s.app e)).H id = s.H id
    rw [o9 es _ (fun e' he => h e' (List.mem_cons_of_mem _ he)) hC1 id hid, h1 id hid]
theorem Ce {id : Nat} : ∀ (es : List Step) (s : S), (∀ e ∈ es, e.id ≠ id) → s.H id = none → (es.foldl S.app s).H id = none
  | [], _, _, h => h
  | e :: es, s, hn, h => by
    refine Ce es _ (fun e' he => hn e' (List.mem_cons_of_mem _ he)) ?_
    rw [KH, if_neg (fun e' => hn e List.mem_cons_self e'.symm), h]
    rfl
theorem JA {t : Nat} : ∀ (es : List Step) (s : S), InA F (s.T t) → InA F ((es.foldl S.app s).T t)
  | [], _, h => h
  | e :: es, s, h => JA es (s.app e) (Nr (fun c hc => Fk.f_In _ _ hc) h)
theorem Fk.f_comm {i j : Nat} (h : i ≠ j) (f g : Fk) (c : AV) : f.f i (g.f j c) = g.f j (f.f i c) := by
  have h1 : Nat.beq i j = false := by rw [← Bool.not_eq_true, Nat.beq_eq]; exact h
  have h2 : Nat.beq j i = false := by rw [← Bool.not_eq_true, Nat.beq_eq]; exact Ne.symm h
  have key : ∀ id, (Nat.beq id i = true → Nat.beq id j = false) := fun id e => by rw [ak e]; exact h1
  cases c with
  | own id =>
    cases f <;> cases g <;> simp only [Fk.f, kl1, fz1] <;> cases e1 : Nat.beq id i <;> cases e2 : Nat.beq id j <;> simp only [e1, e2] <;>
      first | rfl | (rw [key id e1] at e2; cases e2)
  | ptr id z a o =>
    cases f <;> cases g <;> simp only [Fk.f, kl1, fz1] <;> cases e1 : Nat.beq id i <;> cases e2 : Nat.beq id j <;> simp only [e1, e2] <;>
      first | rfl | (rw [key id e1] at e2; cases e2)
  | _ => cases f <;> cases g <;> rfl
def plA : AV → Bool
  | .agg _ => false
  | .tup _ => false
  | .gd _ _ _ => false
  | _ => true
theorem I1 (id : Nat) (fk : Fk) {c : AV} (h : plA c = true) : plA (fk.f id c) = true := by
  cases fk with
  | no => exact h
  | kl =>
    cases c <;> first | exact h | skip
    · simp only [Fk.f, kl1]; split <;> rfl
    · simp only [Fk.f, kl1]; split <;> rfl
  | fz k xs =>
    cases c <;> first | exact h | skip
    · simp only [Fk.f, fz1]; split <;> rfl
    · simp only [Fk.f, fz1]; split <;> rfl
theorem yX {f : AV → AV} {c : AV} (h : plA c = true) : ju f c = f c := by cases c <;> first | rfl | cases h
theorem yW {f : AV → AV} {c : AV} (h : plA c = true) : j8 f c = f c := by cases c <;> first | rfl | cases h
theorem Ek {f : AV → AV} {c : AV} (h : plA c = true) : nJ f c = f c := by cases c <;> first | rfl | cases h
section comm
variable {i j : Nat} (hij : i ≠ j) (f g : Fk)
include hij
theorem xG (v : AV) : ju (f.f i) (ju (g.f j) v) = ju (g.f j) (ju (f.f i) v) := by
  by_cases hp : plA v = true
  · rw [yX hp, yX hp, yX (I1 _ _ hp), yX (I1 _ _ hp), Fk.f_comm hij]
  · cases v with
    | agg cs => simp only [ju, List.map_map]; exact congrArg AV.agg (List.map_congr_left fun c _ => Fk.f_comm hij f g c)
    | tup cs => cases f <;> cases g <;> rfl
    | gd a b c => cases f <;> cases g <;> rfl
    | _ => exact absurd rfl hp
theorem FD (v : AV) : j8 (f.f i) (j8 (g.f j) v) = j8 (g.f j) (j8 (f.f i) v) := by
  by_cases hp : plA v = true
  · rw [yW hp, yW hp, yW (I1 _ _ hp), yW (I1 _ _ hp), Fk.f_comm hij]
  · cases v with
    | agg cs => exact xG hij f g (.agg cs)
    | tup cs => simp only [j8, List.map_map]; exact congrArg AV.tup (List.map_congr_left fun c _ => xG hij f g c)
    | gd a b c => cases f <;> cases g <;> rfl
    | _ => exact absurd rfl hp
theorem I5 (v : AV) : nJ (f.f i) (nJ (g.f j) v) = nJ (g.f j) (nJ (f.f i) v) := by
  by_cases hp : plA v = true
  · rw [Ek hp, Ek hp, Ek (I1 _ _ hp), Ek (I1 _ _ hp), Fk.f_comm hij]
  · cases v with
    | agg cs => exact xG hij f g (.agg cs)
    | tup cs => exact FD hij f g (.tup cs)
    | gd a b c => exact congrArg (AV.gd a b) (FD hij f g c)
    | _ => exact absurd rfl hp
theorem OA (o : Option Ob) : cY (f.f i) (cY (g.f j) o) = cY (g.f j) (cY (f.f i) o) := by
  cases o with
  | none => rfl
  | some o =>
    cases o with
    | box e cs => simp only [cY, List.map_map]; exact congrArg (fun l => some (Ob.box e l)) (List.map_congr_left fun c _ => Fk.f_comm hij f g c)
    | _ => rfl
end comm
theorem S.ext' {s s' : S} (h1 : s.n = s'.n) (h2 : s.T = s'.T) (h3 : s.H = s'.H) (h4 : s.nid = s'.nid) (h5 : s.st = s'.st) (h6 : s.pins = s'.pins) (h7 : s.gs = s'.gs) : s = s' := by
  cases s; cases s'; simp_all
theorem QN {e e' : Step} (hn : e.id ≠ e'.id) (h1 : cY (e'.fk.f e'.id) e.ob = e.ob) (h2 : cY (e.fk.f e.id) e'.ob = e'.ob) : (s.app e).app e' = (s.app e').app e := by
  refine S.ext' rfl (funext fun t => I5 hn.symm e'.fk e.fk (s.T t)) (funext fun id => ?_) rfl ?_ rfl rfl
  · rw [KH, KH, KH, KH]
    by_cases a1 : id = e'.id
    · subst a1
      rw [if_pos rfl, if_neg hn.symm, if_pos rfl, h2]
    · rw [if_neg a1, if_neg a1]
      by_cases a2 : id = e.id
      · rw [if_pos a2, if_pos a2, h1]
      · rw [if_neg a2, if_neg a2, OA hn.symm e'.fk e.fk]
  · show (s.st.map _).map _ = (s.st.map _).map _
    rw [List.map_map, List.map_map]
    exact List.map_congr_left fun T _ => funext fun t => I5 hn.symm e'.fk e.fk (T t)
def Wk (F W : Nat → Prop) (es : List Step) : Prop := ∀ e ∈ es, W e.id ∧ StOK F e
theorem xk {F F' W W' : Nat → Prop} (hW : ∀ id, W id → F id) (h1 : ∀ id, W id → ¬ F' id) (h2 : ∀ id, W' id → ¬ F id) {e : Step} (he : W e.id ∧ StOK F e) : ∀ (es : List Step) (s : S), Wk F' W' es → (es.foldl S.app s).app e = es.foldl S.app (s.app e)
  | [], _, _ => rfl
  | e' :: es, s, h => by
    have he' := h e' List.mem_cons_self
    have hn : e.id ≠ e'.id := fun x => h2 _ he'.1 (x ▸ hW _ he.1)
    have c := QN (s := s) hn (AX (F := F) (fun c hc => Fk.f_same _ _ hc (h2 _ he'.1)) he.2) (AX (F := F') (fun c hc => Fk.f_same _ _ hc (h1 _ he.1)) he'.2)
    show (es.foldl S.app (s.app e')).app e = es.foldl S.app ((s.app e).app e')
    rw [xk hW h1 h2 he es _ (fun e0 h0 => h e0 (List.mem_cons_of_mem _ h0)), c]
theorem Jz {F F' W W' : Nat → Prop} (hW : ∀ id, W id → F id) (h1 : ∀ id, W id → ¬ F' id) (h2 : ∀ id, W' id → ¬ F id) : ∀ (es es' : List Step) (s : S), Wk F W es → Wk F' W' es' → es.foldl S.app (es'.foldl S.app s) = es'.foldl S.app (es.foldl S.app s)
  | [], _, _, _, _ => rfl
  | e :: es, es', s, h, h' => by
    show es.foldl S.app ((es'.foldl S.app s).app e) = es'.foldl S.app (es.foldl S.app (s.app e))
    rw [xk hW h1 h2 (h e List.mem_cons_self) es' s h', Jz hW h1 h2 es es' _ (fun e0 h0 => h e0 (List.mem_cons_of_mem _ h0)) h']
theorem RI {e : Step} {g d : Option Nat} {v : AV} (hv : nJ (e.fk.f e.id) v = v) : (s.fin g d v).app e = (s.app e).fin g d v := by
  cases d with
  | none => exact S.ext' rfl rfl rfl rfl rfl rfl rfl
  | some d =>
    refine S.ext' rfl (funext fun t => ?_) rfl rfl rfl rfl rfl
    show nJ _ (upd s.T d v t) = upd (fun t => nJ _ (s.T t)) d v t
    by_cases e : t = d
    · subst e; rw [ai, ai, hv]
    · rw [al _ _ e, al _ _ e]
theorem Ht {g d : Option Nat} {v : AV} : ∀ (es : List Step) (s : S), (∀ e ∈ es, nJ (e.fk.f e.id) v = v) → es.foldl S.app (s.fin g d v) = (es.foldl S.app s).fin g d v
  | [], _, _ => rfl
  | e :: es, s, h => by
    show es.foldl S.app ((s.fin g d v).app e) = (es.foldl S.app (s.app e)).fin g d v
    rw [RI (h e List.mem_cons_self), Ht es _ fun e' h' => h e' (List.mem_cons_of_mem _ h')]
theorem Qk {g g' d d' : Option Nat} {v v' : AV} (hd : ∀ t, d = some t → d' ≠ some t) : (s.fin g d v).fin g' d' v' = (s.fin g' d' v').fin g d v := by
  have hT : ∀ (d d' : Nat) (v v' : AV) (T : Nat → AV), d ≠ d' → upd (upd T d v) d' v' = upd (upd T d' v') d v := fun d d' v v' T hn => by
    funext t
    by_cases e : t = d'
    · subst e; rw [ai, al _ _ hn.symm, ai]
    · rw [al _ _ e]
      by_cases e2 : t = d
      · subst e2; rw [ai, ai]
      · rw [al _ _ e2, al _ _ e2, al _ _ e]
  have hG : ∀ (g g' : Nat) (T : Nat → Bool), upd (upd T g true) g' true = upd (upd T g' true) g true := fun g g' T => by
    funext t
    by_cases e : t = g'
    · subst e; rw [ai]
      by_cases e2 : t = g
      · subst e2; rw [ai]
      · rw [al _ _ e2, ai]
    · rw [al _ _ e]
      by_cases e2 : t = g
      · subst e2; rw [ai, ai]
      · rw [al _ _ e2, al _ _ e2, al _ _ e]
  refine S.ext' ?_ ?_ ?_ ?_ ?_ ?_ ?_
  · cases d <;> cases d' <;> rfl
  · cases d with
    | none => cases d' <;> rfl
    | some d => cases d' with
      | none => rfl
      | some d' => exact hT _ _ _ _ s.T (fun e => hd d rfl (by rw [e]))
  · cases d <;> cases d' <;> rfl
  · cases d <;> cases d' <;> rfl
  · cases d <;> cases d' <;> rfl
  · cases d <;> cases d' <;> rfl
  · cases d <;> cases d' <;> cases g <;> cases g' <;> first | rfl | exact hG _ _ s.gs
end
end Go.VS
namespace Go.VS
open Go
structure Lb where
  b : Nat → Nat
  F : Nat → Nat → Prop
  W : Nat → Nat → Prop
  V : Nat → Nat → Prop
  R : Nat → Nat → Prop
def Stp (C : Cx) (ops : Array Oper) (o : Oper) (b : Nat) (F W V : Nat → Prop) (s s' : S) : Prop :=
  ∃ (g : Option Nat) (v : AV) (es : List Step), InA F v ∧ (∀ t, o.dst = some t → InA V v) ∧ Wk F W es ∧ (∀ x, g = some x → x ∈ bd ops o) ∧ s' = (es.foldl S.app s).fin g o.dst v ∧
    ∀ s2 : S, (∀ t ∈ bd ops o, s2.T t = s.T t) → HasEq s s2 o.dst → Agr F s.H s2.H → ev1 C ops o b s2 = some ((es.foldl S.app s2).fin g o.dst v)
section
variable {C : Cx} {ops : Array Oper} {s s' s0 s1 s2 : S}
theorem Stp.ev {o : Oper} {b : Nat} {F W V : Nat → Prop} (h : Stp C ops o b F W V s s') : ev1 C ops o b s = some s' := by
  obtain ⟨g, v, es, _, _, _, _, rfl, h⟩ := h
  exact h s (fun _ _ => rfl) ⟨rfl, rfl, fun _ _ => rfl⟩ (Agr.refl _ _)
theorem NC {g d : Option Nat} {v : AV} {t : Nat} : (s.fin g d v).T t = if d = some t then v else s.T t := by
  cases d with
  | none => simp [S.fin, S.put]
  | some d =>
    show upd s.T d v t = _
    by_cases e : t = d
    · subst e; rw [ai]; simp
    · rw [al _ _ e, if_neg (fun e' => e (by simpa using e'.symm))]
theorem ND {g d : Option Nat} {v : AV} : (s.fin g d v).H = s.H := by cases d <;> rfl
theorem Qj {g d : Option Nat} {v : AV} {t : Nat} (h : g ≠ some t) : (s.fin g d v).gs t = s.gs t := by
  cases g with
  | none => cases d <;> rfl
  | some g =>
    have : t ≠ g := fun e => h (by rw [e])
    cases d <;> exact al _ _ this
theorem Stp.swap {x i : Oper} {bx bi : Nat} {Fx Wx Vx Fi Wi Vi : Nat → Prop} (h1 : Stp C ops x bx Fx Wx Vx s0 s1) (h2 : Stp C ops i bi Fi Wi Vi s1 s2)
    (hWx : ∀ id, Wx id → Fx id) (hxi : ∀ id, Wx id → ¬ Fi id) (hix : ∀ id, Wi id → ¬ Fx id) (dxi : ∀ t, x.dst = some t → t ∉ bd ops i) (dix : ∀ t, i.dst = some t → t ∉ bd ops x) (hd : ∀ t, x.dst = some t → i.dst ≠ some t)
    (rx : ∀ t ∈ bd ops x, InA Fx (s0.T t)) (cx : Closed Fx s0.H) (ri : ∀ t ∈ bd ops i, InA Fi (s0.T t)) (ci : Closed Fi s0.H) :
    ∃ s0', Stp C ops i bi Fi Wi Vi s0 s0' ∧ Stp C ops x bx Fx Wx Vx s0' s2 := by
  obtain ⟨g1, v1, es1, a1, a2, a3, a4, a5, a6⟩ := h1
  obtain ⟨g2, v2, es2, b1, b2, b3, b4, b5, b6⟩ := h2
  have n1 : ∀ e ∈ es1, ¬ Fi e.id := fun e he => hxi _ (a3 e he).1
  have n2 : ∀ e ∈ es2, ¬ Fx e.id := fun e he => hix _ (b3 e he).1
  have T1 : ∀ t ∈ bd ops i, s1.T t = s0.T t := fun t ht => by
    rw [a5, NC, if_neg (fun e => dxi t e ht)]
    exact uY es1 s0 n1 (ri t ht)
  have H1 : Agr Fi s0.H s1.H := by
    rw [a5, ND]
    exact o9 es1 s0 n1 ci
  have E1 : HasEq s0 s1 i.dst := by
    obtain ⟨p1, p2, p3, _⟩ := KG es1 s0
    rw [a5]
    refine ⟨?_, ?_, fun t ht => ?_⟩
    · rw [← p2]; cases x.dst <;> rfl
    · rw [← p3]; cases x.dst <;> rfl
    · rw [Qj (fun e => dix t ht (a4 t e)), p1]
  have step : ∀ s3 : S, (∀ t ∈ bd ops i, s3.T t = s0.T t) → HasEq s0 s3 i.dst → Agr Fi s0.H s3.H → ev1 C ops i bi s3 = some ((es2.foldl S.app s3).fin g2 i.dst v2) := fun s3 e1 e2 e3 =>
    b6 s3 (fun t ht => by rw [e1 t ht, T1 t ht]) ⟨e2.1.trans E1.1.symm, e2.2.1.trans E1.2.1.symm, fun t ht => by rw [e2.2.2 t ht, E1.2.2 t ht]⟩ (fun id hid => by rw [e3 id hid, H1 id hid])
  have T2 : ∀ t ∈ bd ops x, ((es2.foldl S.app s0).fin g2 i.dst v2).T t = s0.T t := fun t ht => by
    rw [NC, if_neg (fun e => dix t e ht)]
    exact uY es2 s0 n2 (rx t ht)
  have H2 : Agr Fx s0.H ((es2.foldl S.app s0).fin g2 i.dst v2).H := by
    rw [ND]
    exact o9 es2 s0 n2 cx
  have E2 : HasEq s0 ((es2.foldl S.app s0).fin g2 i.dst v2) x.dst := by
    obtain ⟨p1, p2, p3, _⟩ := KG es2 s0
    refine ⟨?_, ?_, fun t ht => ?_⟩
    · rw [← p2]; cases i.dst <;> rfl
    · rw [← p3]; cases i.dst <;> rfl
    · rw [Qj (fun e => dxi t ht (b4 t e)), p1]
  have eq : s2 = (es1.foldl S.app ((es2.foldl S.app s0).fin g2 i.dst v2)).fin g1 x.dst v1 := by
    have m1 : ∀ e ∈ es1, nJ (e.fk.f e.id) v2 = v2 := fun e he => AY (fun c hc => Fk.f_same _ _ hc (n1 e he)) b1
    have m2 : ∀ e ∈ es2, nJ (e.fk.f e.id) v1 = v1 := fun e he => AY (fun c hc => Fk.f_same _ _ hc (n2 e he)) a1
    rw [b5, a5, Ht es2 _ m2, Ht es1 _ m1, Jz hWx hxi hix es1 es2 s0 a3 b3, Qk hd]
  refine ⟨(es2.foldl S.app s0).fin g2 i.dst v2, ⟨g2, v2, es2, b1, b2, b3, b4, rfl, step⟩, ⟨g1, v1, es1, a1, a2, a3, a4, eq, fun s3 e1 e2 e3 => ?_⟩⟩
  exact a6 s3 (fun t ht => by rw [e1 t ht, T2 t ht]) ⟨e2.1.trans E2.1, e2.2.1.trans E2.2.1, fun t ht => by rw [e2.2.2 t ht, E2.2.2 t ht]⟩ (fun id hid => by rw [e3 id hid, H2 id hid])
inductive Run (C : Cx) (ops : Array Oper) (L : Lb) : List Nat → S → S → Prop
  | nil {s : S} : Run C ops L [] s s
  | cons {i : Nat} {o : Oper} {l : List Nat} {s s1 s' : S} (ho : ops[i]? = some o) (h : Stp C ops o (L.b i) (L.F i) (L.W i) (L.V i) s s1) (t : Run C ops L l s1 s') : Run C ops L (i :: l) s s'
def Fit (ops : Array Oper) (L : Lb) (U : List Nat) (s : S) (i : Nat) : Prop := ∀ o, ops[i]? = some o →
  (∀ t ∈ bd ops o, (∀ j ∈ U, ∀ oj, ops[j]? = some oj → oj.dst ≠ some t) → InA (L.F i) (s.T t)) ∧ Closed (L.F i) s.H ∧ (∀ id, L.b i ≤ id → id < L.b i + 16 → s.H id = none)
def Ind (ops : Array Oper) (L : Lb) (x i : Nat) : Prop := ∀ ox oi, ops[x]? = some ox → ops[i]? = some oi →
  (∀ id, L.W x id → ¬ L.F i id) ∧ (∀ id, L.W i id → ¬ L.F x id) ∧ (∀ t, ox.dst = some t → t ∉ bd ops oi) ∧ (∀ t, oi.dst = some t → t ∉ bd ops ox)
def Bef (ops : Array Oper) (L : Lb) (x i : Nat) : Prop := ∀ ox oi, ops[x]? = some ox → ops[i]? = some oi →
  ((∀ id, L.W x id → ¬ L.F i id) ∨ (∀ id, L.F x id → L.F i id)) ∧ (∀ t, ox.dst = some t → t ∈ bd ops oi → ∀ id, L.V x id → L.F i id) ∧ (∀ id, L.b i ≤ id → id < L.b i + 16 → ¬ L.F x id)
structure Nice (ops : Array Oper) (L : Lb) : Prop where
  WF : ∀ i id, L.W i id → L.F i id
  NW : ∀ i id, L.b i ≤ id → id < L.b i + 16 → L.W i id
  lt : ∀ x i, L.R x i → x < i
  dst : ∀ (x i : Nat) (ox oi : Oper) (t : Nat), x ≠ i → ops[x]? = some ox → ops[i]? = some oi → ox.dst = some t → oi.dst ≠ some t
  rd : ∀ (x i : Nat) (ox oi : Oper) (t : Nat), ops[x]? = some ox → ops[i]? = some oi → ox.dst = some t → t ∈ bd ops oi → L.R x i
  anc : ∀ (x i : Nat) (oi : Oper), ops[i]? = some oi → L.R x i → ∃ e ∈ oi.after, Region.binds .any e = true ∧ (e.on = x ∨ L.R x e.on)
  dir : ∀ (i : Nat) (oi : Oper) (e : Edge), ops[i]? = some oi → e ∈ oi.after → Region.binds .any e = true → e.on < i
  bef : ∀ x i, L.R x i → Bef ops L x i
  ind : ∀ x i, x < i → ¬ L.R x i → Ind ops L x i
variable {L : Lb}
theorem Ind.symm {x i : Nat} (h : Ind ops L x i) : Ind ops L i x := fun oi ox hi hx => by
  obtain ⟨a, b, c, d⟩ := h ox oi hx hi
  exact ⟨b, a, d, c⟩
theorem Fit.step (hn : Nice ops L) {U : List Nat} {x i : Nat} {ox : Oper} (hox : ops[x]? = some ox) (hxi : x ≠ i) (hRi : ¬ L.R i x) (h : Stp C ops ox (L.b x) (L.F x) (L.W x) (L.V x) s s') (hf : Fit ops L U s i) {U' : List Nat} (hU : ∀ j ∈ U, j = x ∨ j ∈ U') :
    Fit ops L U' s' i := by
  intro oi hoi
  obtain ⟨f1, f2, f3⟩ := hf oi hoi
  obtain ⟨g, v, es, a1, a2, a3, a4, rfl, a6⟩ := h
  have pc : (((∀ id, L.W x id → ¬ L.F i id) ∨ (∀ id, L.F x id → L.F i id)) ∧ (∀ t, ox.dst = some t → t ∈ bd ops oi → ∀ id, L.V x id → L.F i id) ∧ (∀ id, L.b i ≤ id → id < L.b i + 16 → ¬ L.F x id)) := by
    by_cases hR : L.R x i
    · exact hn.bef x i hR ox oi hox hoi
    · have hI : Ind ops L x i := by
        rcases Nat.lt_or_gt_of_ne hxi with h | h
        · exact hn.ind x i h hR
        · exact (hn.ind i x h hRi).symm
      obtain ⟨b1, b2, b3, b4⟩ := hI ox oi hox hoi
      exact ⟨.inl b1, fun t h1 h2 => absurd h2 (b3 t h1), fun id h1 h2 => b2 id (hn.NW i id h1 h2)⟩
  obtain ⟨p1, p2, p3⟩ := pc
  refine ⟨fun t ht hdst => ?_, ?_, fun id h1 h2 => ?_⟩
  · rw [NC]
    split
    · rename_i hd
      exact (a2 t hd).mono (p2 t hd ht)
    · rename_i hd
      refine JA es s (f1 t ht fun j hj oj hoj e => ?_)
      rcases hU j hj with rfl | hj
      · rw [hox] at hoj; cases hoj; exact hd e
      · exact hdst j hj oj hoj e
  · rw [ND]
    rcases p1 with p1 | p1
    · have := o9 es s (fun e he => p1 _ (a3 e he).1) f2
      exact fun id ob hid ho => f2 id ob hid (by rw [← this id hid]; exact ho)
    · exact uX es s f2 fun e he => (a3 e he).2.mono p1
  · rw [ND]
    exact Ce es s (fun e he e' => p3 id h1 h2 (e' ▸ hn.WF x _ (a3 e he).1)) (f3 id h1 h2)
theorem Run.first (hn : Nice ops L) {i : Nat} {l2 : List Nat} : ∀ (l1 : List Nat) (s : S), Run C ops L (l1 ++ i :: l2) s s' → (l1 ++ i :: l2).Pairwise (· < ·) → (∀ j ∈ l1 ++ i :: l2, ¬ L.R j i) →
    (∀ j ∈ l1 ++ i :: l2, Fit ops L (l1 ++ i :: l2) s j) → Run C ops L (i :: (l1 ++ l2)) s s'
  | [], s, h, _, _, _ => h
  | x :: l1, s, h, hp, hr, hf => by
    cases h with
    | cons hox hx t =>
      rename_i ox s1
      have hp' := List.pairwise_cons.1 hp
      have hxi : x < i := hp'.1 i (List.mem_append_right _ List.mem_cons_self)
      have ih := Run.first hn l1 s1 t hp'.2 (fun j hj => hr j (List.mem_cons_of_mem _ hj)) (fun j hj => by
        refine (hf j (List.mem_cons_of_mem _ hj)).step hn hox (Nat.ne_of_lt (hp'.1 j hj)) (fun hR => Nat.lt_asymm (hn.lt _ _ hR) (hp'.1 j hj)) hx fun k hk => ?_
        rcases List.mem_cons.1 hk with h | h
        · exact .inl h
        · exact .inr h)
      cases ih with
      | cons hoi hi t2 =>
        rename_i oi s2
        obtain ⟨c1, c2, c3, c4⟩ := hn.ind x i hxi (hr x List.mem_cons_self) ox oi hox hoi
        obtain ⟨fx1, fx2, _⟩ := hf x List.mem_cons_self ox hox
        obtain ⟨fi1, fi2, _⟩ := hf i (List.mem_cons_of_mem _ (List.mem_append_right _ List.mem_cons_self)) oi hoi
        obtain ⟨s0', k1, k2⟩ := Stp.swap hx hi (hn.WF x) c1 c2 c3 c4 (fun t ht => hn.dst x i ox oi t (Nat.ne_of_lt hxi) hox hoi ht)
          (fun t ht => fx1 t ht fun j hj oj hoj e => by
            have hR := hn.rd j x oj ox t hoj hox e ht
            rcases List.mem_cons.1 hj with rfl | hj
            · exact absurd (hn.lt _ _ hR) (Nat.lt_irrefl _)
            · exact Nat.lt_asymm (hn.lt _ _ hR) (hp'.1 j hj)) fx2
          (fun t ht => fi1 t ht fun j hj oj hoj e => hr j hj (hn.rd j i oj oi t hoj hoi e ht)) fi2
        exact .cons hoi k1 (.cons hox k2 t2)
end
end Go.VS
