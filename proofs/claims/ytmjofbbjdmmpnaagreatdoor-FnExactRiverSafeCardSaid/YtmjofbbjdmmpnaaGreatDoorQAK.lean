/- An evaluator of the program's own code with its soundness, the printed texts of the functions, and plain laws of them (part 11). -/
import Derived.Below
import Derived.Test.YtmjofbbjdmmpnaaGreatDoorQAJ
set_option linter.unusedVariables false
set_option linter.unusedSimpArgs false
namespace Go.VS
open Go
def PE : Sh → Option CT
  | .int k => some (.int k)
  | .bool => some .bool
  | .str => some .str
  | .fz k => some (.sl k)
  | _ => none
def Ss : (h : Sh) → LT h → Prop
  | .int k, n => (Lit.int k n).wf = true
  | .bool, _ => True
  | .str, s => wfS s
  | .fz k, xs => wfL (wfK k) xs
  | _, _ => False
def IP : (l : List Sh) → LTs l → Prop
  | [], _ => True
  | h :: l, x => Ss h x.1 ∧ IP l x.2
section
variable {P : Program} {w : World}
theorem OC {h : Sh} {t : CT} {v : Value} (hs : PE h = some t) (hf : Sr w t v) : ∃ x : LT h, Ss h x ∧ ∀ (M : Nat → Prop) (e : Nat → Value), (∀ b, ¬ M b) → Rel P w M e h x v [] := by
  cases h <;> simp only [PE] at hs <;> first | (cases hs; done) | skip
  case int k =>
    cases hs
    obtain ⟨n, rfl, hw⟩ := hf
    exact ⟨n, hw, fun M e _ => ⟨rfl, rfl⟩⟩
  case bool =>
    cases hs
    obtain ⟨n, rfl⟩ := hf
    exact ⟨n, trivial, fun M e _ => ⟨rfl, rfl⟩⟩
  case str =>
    cases hs
    obtain ⟨n, rfl, hw⟩ := hf
    exact ⟨n, hw, fun M e _ => ⟨rfl, rfl⟩⟩
  case fz k =>
    cases hs
    obtain ⟨xs, hw, hr⟩ := hf
    exact ⟨xs, hw, fun M e hM => ⟨fun β hβ => hr β fun b hb => hM b (hβ b hb), rfl⟩⟩
theorem B4 : ∀ {l : List Sh} {ts : List CT} {us : List Value}, l.map PE = ts.map some → Facts w ts us → ∃ x : LTs l, IP l x ∧ ∀ (M : Nat → Prop) (e : Nat → Value), (∀ b, ¬ M b) → Rels P w M e l x us []
  | [], [], us, _, h => by
    cases h
    exact ⟨(), trivial, fun M e _ => ⟨rfl, rfl⟩⟩
  | h :: l, t :: ts, us, hs, hf => by
    simp only [List.map_cons, List.cons.injEq] at hs
    cases hf with
    | cons hc hcs =>
      rename_i c cs
      obtain ⟨x, h1, h2⟩ := OC (P := P) hs.1 hc
      obtain ⟨xs, h3, h4⟩ := B4 hs.2 hcs
      exact ⟨(x, xs), ⟨h1, h3⟩, fun M e hM => ⟨c, cs, [], [], rfl, rfl, h2 M e hM, h4 M e hM⟩⟩
  | [], _ :: _, _, hs, _ => by simp at hs
  | _ :: _, [], _, hs, _ => by simp at hs
section
variable {H : Type} {enc0 : TypeId × Value → H} {base : Nat} {spare : Nat → Bool} {held : Bool}
theorem KY {t : TypeId} {l : List Sh} {ts : List TypeId} {cts : List CT} {v : Value} {d : DataW H} {ps : List MemPlace} (hsh : l.map PE = cts.map some) (hl : Nat.ble 2 cts.length = true) (hflat : Bq P 16 t = some ts) (hok : mV P 60 ts cts = true)
    (hd : DataW.Trod enc0 P w base spare held t v d ps) : ∃ x : LTs l, IP l x ∧ ∀ (M : Nat → Prop) (e : Nat → Value), (∀ b, ¬ M b) → Rel P w M e (.agg l) x v [] := by
  obtain ⟨bI, hf⟩ := hd
  have hc := tP 16 t hflat hf
  have hfacts := uE 60 ts cts hok hc
  obtain ⟨x, h1, h2⟩ := B4 (P := P) hsh hfacts
  refine ⟨x, h1, fun M e hM => ⟨v.cells.toList, ?_, h2 M e hM⟩⟩
  have hlen : ∀ {ts : List CT} {us : List Value}, Facts w ts us → us.length = ts.length := by
    intro ts us h
    induction h with
    | nil => rfl
    | cons _ _ ih => simp [ih]
  have h3 := hlen hfacts
  have h4 := Nat.le_of_ble_eq_true hl
  cases v <;> first | (simp [Value.cells] at h3; omega) | skip
  rfl
end
theorem OE {f : FuncId} {ps : List Sh} {g : LTs ps → Option (LTs [.bool] × LTs (aq ps))} (hS : oF P f ⟨ps, [.bool], g⟩) {x : LTs ps} {q : LTs (aq ps)} (hx : g x = some ((true, ()), q)) {args : List Value}
    (hrel : ∀ (M : Nat → Prop) (e : Nat → Value), (∀ b, ¬ M b) → Rels P w M e ps x args []) (hgl : Mf P w (fun _ => False)) : Calls P f args.toArray w fun e w' => e = .returned (.bool true) ∧ Go.RowKit.Below w.heap.size w w' := by
  refine Calls.mono (hS.2 x _ hx w (fun _ => False) args [] (hrel _ _ (fun b h => by simp [aL] at h)) (by simp [aL]) (fun b h => by simp [aL] at h) (fun b h => h.elim) (by simpa [aL] using hgl)) ?_
  rintro en w' ⟨v, rfl, hr⟩
  obtain ⟨vs, os1, os2, rfl, h1, _⟩ := hr.ex
  obtain ⟨u, us, o1, o2, rfl, _, h2, h3⟩ := h1
  obtain ⟨rfl, _⟩ := h3
  obtain ⟨rfl, _⟩ := h2
  exact ⟨rfl, hr.wos, hr.tape, hr.output, hr.size, fun b hb => hr.block b hb (by simp [aL])⟩
end
end Go.VS
