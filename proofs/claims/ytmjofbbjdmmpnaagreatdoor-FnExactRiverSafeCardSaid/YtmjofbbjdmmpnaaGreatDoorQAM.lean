/- An evaluator of the program's own code with its soundness, the printed texts of the functions, and plain laws of them (part 13). -/
import Derived.HandedShaped
import Derived.LaidSub
import Derived.MakeChecks
import Derived.Carry
import Derived.Test.YtmjofbbjdmmpnaaGreatDoorQAL
set_option linter.unusedVariables false
set_option linter.unusedSimpArgs false
namespace Go.VS
open Go
section
variable {P : Program} {w : World} {H : Type} {enc0 : TypeId × Value → H} {base : Nat} {spare : Nat → Bool} {held : Bool}
theorem JK {t : TypeId} {l : List Sh} {cts : List CT} {v : Value} {d : DataW H} {ps : List MemPlace} (hsh : l.map PE = cts.map some) (hl : Nat.ble 2 cts.length = true) (hok : (Bq P 16 t).map (fun ts => mV P 60 ts cts) = some true)
    (hd : DataW.Trod enc0 P w base spare held t v d ps) : ∃ x : LTs l, IP l x ∧ ∀ (M : Nat → Prop) (e : Nat → Value), (∀ b, ¬ M b) → Rel P w M e (.agg l) x v [] := by
  obtain ⟨ts, h1, h2⟩ := Option.map_eq_some_iff.1 hok
  exact KY hsh hl h1 h2 hd
end
section
variable {P : Program} {W : World}
def R7 (P : Program) (name : String) (k : IntKind) : Bool :=
  match P.globalNamed name with
  | some g => match (P.globals[g]?).map (·.type) with
    | some t => match P.underlying t with
      | some (.array n e) => (match P.underlying e with | some (.int k') => decide (k' = k) | _ => false) && decide (P.cellsOf e = 1) && decide (P.cellsOf t = n)
      | _ => false
    | _ => false
  | _ => false
theorem KV {name : String} {k : IntKind} {zs : List Int} (h : R7 P name k = true) (hl : laidMet P [(name, Lib.tabData k zs)] W) : Lib.TabIs P W name k zs := by
  unfold R7 at h
  split at h
  case h_2 => cases h
  rename_i g hg
  split at h
  case h_2 => cases h
  rename_i t ht
  split at h
  case h_2 => cases h
  rename_i n e hu
  simp only [Bool.and_eq_true, decide_eq_true_eq] at h
  obtain ⟨⟨h1, h2⟩, h3⟩ := h
  split at h1
  case h_2 => cases h1
  rename_i k' hk
  have h1 := of_decide_eq_true h1
  subst h1
  exact Lib.tabIs_of_head hg ht hu hk h2 h3 hl
def Pu : String := "internal/strconv.uint64pow10"
theorem MS {laid : List (String × DataW Unit)} (hsh : W.ShapedOpen P) (hlow : Nat.blt P.globals.size (begin P (fun _ _ => 0) default).world.heap.size = true) (hlaid : laidMetH P laid W)
    (hplain : (laid.all fun x => x.2.handleName?.isNone) = true)
    (htab : P.globalNamed Pu ≠ none → (laid.filter fun x => x.1 == Pu) = [(Pu, Lib.tabData .u64 Lib.pow10Tab)] ∧ R7 P Pu .u64 = true) : Mf P W (fun _ => False) := by
  have hlt : P.globals.size < W.heap.size := by
    obtain ⟨o, o0, h1, _⟩ := hsh.2 P.globals.size (Nat.le_refl _) (by simpa [Nat.blt_eq] using hlow)
    exact (Array.getElem?_eq_some_iff.1 h1).1
  refine ⟨W, ⟨hsh, fun hn => ?_⟩, fun b hb => ⟨id, by omega, rfl⟩⟩
  obtain ⟨h1, h2⟩ := htab hn
  rw [MakeChecks.laidMetH_plain _ _ _ hplain] at hlaid
  have h3 := laidMet.filter (fun x => x.1 == Pu) hlaid
  rw [h1] at h3
  exact KV h2 h3
end
theorem MR {H : Type} {enc : TypeId × Value → H} {a : Assume} {C : Checked} {os : Os} {f : FuncId} {fn : Func} {s : ChangeSpec} {conds : List PathCond} {apart fresh handsOn again : Bool} {X : World → Array Value → Prop}
    (hX : ∀ (w w' : World) (args : Array Value), w.heap = w'.heap → X w args → X w' args)
    (own : ownKnob C.prog.godebug = none) (started : os.Started) (noInit : C.prog.inits.idxOf? f = none) (hfn : C.prog.funcs[f]? = some fn)
    (witness : ∃ (w : World) (tape : Tape) (i : Input), w.os = os ∧ (w.forCall tape i).Shaped C.prog ∧ i.vars = [] ∧ Input.okWide C.prog (w.forCall tape i) .any w.heap.size f i ∧
      ((s.pre enc C.prog fn conds apart (w.forCall tape i).memory i.args ∧ X (w.forCall tape i).memory i.args) ∧ sizedMet enc C.prog fn (OpenSpec.ofChange s) apart (w.forCall tape i).memory i.args) ∧ a.holds C.prog (lone (Frame.enter C.prog f i.args .normal) [] (w.forCall tape i)))
    (contract : ∀ (W : World) (args : Array Value) (ds gs : List (DataW H)) (before : List MemPlace), W.ShapedOpen C.prog →
      DataW.Whole enc C.prog fn.params.toList s.vars apart W args.toList ds gs before → X W args →
      Calls C.prog f args W fun e W' => ∃ v, e = .returned v ∧ s.post enc C.prog fn apart fresh handsOn again W args v W') :
    ReturnsInHanded a C os f .any (fun w args => (s.pre enc C.prog fn conds apart w args ∧ X w args) ∧ sizedMet enc C.prog fn (OpenSpec.ofChange s) apart w args) (s.post enc C.prog fn apart fresh handsOn again) := by
  refine returnsInHanded_of_calls own started noInit witness ?_
  intro w tape i _ hsh _ hok hpre _
  obtain ⟨_, _, _, fn', hfn', _⟩ := hok
  have e : fn' = fn := Option.some.inj (hfn'.symm.trans hfn)
  subst e
  obtain ⟨⟨⟨ds, gs, before, hw, _⟩, hx⟩, _⟩ := hpre
  refine (contract (w.forCall tape i) i.args ds gs before hsh (DataW.Whole.of_heap (w' := w.forCall tape i) (by rfl) hw) (hX _ _ _ (by rfl) hx)).mono fun e W' ⟨v, he, hp⟩ => ?_
  subst he
  exact ChangeSpec.post_blind hp
end Go.VS
