/- The program's RiverSafe answers as the reference's RiverSafe at every world, and leaves its argument as it was; no condition beyond the given statement's own. -/
import Derived.Test.YtmjofbbjdmmpnaaGreatDoorCards
import Derived.Test.YtmjofbbjdmmpnaaGreatDoorTie
import Derived.ProofKit
import Derived.OpenShut
import Derived.LaidMore
import Derived.Lay
import Derived.SevenTiedAt
import Derived.Stop.Joined
import Derived.ChangeOld
import Derived.SizedLaws
import Derived.Carry
import Derived.Test.YtmjofbbjdmmpnaaGreatDoorQAP
set_option linter.unusedVariables false
set_option linter.unusedSimpArgs false
namespace Go.Proofs.YtmjofbbjdmmpnaaGreatDoor.fnExactRiverSafe
open Go.ChangeShapes Go.WideShapes Go.ChangeAt Go.RowKit Go.VS
set_option linter.unusedVariables false
theorem own : ownKnob Tryz.prog.godebug = none := by kernel_rfl
theorem Rj : laidOutB Tryz.prog = true := by kernel_rfl
abbrev laid := Rows.fnExactRiverSafeRow.laid
theorem mL (x : LTs [.int .i64, .fz .keeper, .fz .bool, .fz .parcel, .fz .note, .fz .note]) (hw : IP _ x) : bg (x, ()) = some ((true, ()), ()) := MC x hw
set_option maxRecDepth 100000 in
theorem Si (os : Os) (started : os.Started) (H : Type) (enc : TypeId × Value → H) :
    ReturnsInHanded {} Tryz.checked os 3 .any (fun w args => (Rows.fnExactRiverSafeSpec.pre enc Tryz.prog Tryz.f3 Rows.fnExactRiverSafeRow.domain false w args ∧ laidMetH Tryz.prog laid w) ∧ sizedMet enc Tryz.prog Tryz.f3 (OpenSpec.ofChange Rows.fnExactRiverSafeSpec) false w args)
      (Rows.fnExactRiverSafeSpec.post enc Tryz.prog Tryz.f3 false true false false) := by
  refine MR (C := Tryz.checked) (X := fun w _ => laidMetH Tryz.prog laid w) (fun _ _ _ hh h => h.of_heap hh) own started (by kernel_rfl) Tryz.func3
    (ChangeSpec.witness_shaped (enc := enc) (C := Tryz.checked) (os := os) (X := fun w _ => laidMetH Tryz.prog laid w) false (World.laidAll Tryz.prog os laid) #[.agg #[.int .i64 0, .slice none 0 0, .slice none 0 0, .slice none 0 0, .slice none 0 0, .slice none 0 0]] 8 (World.laidAll_os _ _ _)
      (World.shaped_of_ZipB (by kernel_rfl) (by kernel_rfl)) (by kernel_rfl) (by kernel_rfl) (by kernel_rfl)
      (by rw [MakeChecks.laidMetH_plain _ _ _ (by kernel_rfl)]; exact laidMet_laidAll _ (by kernel_rfl) (by kernel_rfl))) ?_
  intro W args ds gs before hsh hW hL
  have hW' := hW
  obtain ⟨p, q, hA0, hV, rfl, _, _⟩ := hW
  have hA : DataW.TrodAll enc Tryz.prog W 0 (fun _ => true) true Tryz.f3.params.toList args.toList ds p := hA0
  rw [Tryz.params3] at hA
  obtain ⟨v0, vs0, d0, ds0, p0, q0, hargs, rfl, rfl, h0, r0⟩ := trodAll_cons hA
  obtain ⟨rfl, rfl, rfl⟩ := trodAll_nil r0
  obtain rfl : args = #[v0] := by cases args; simp_all
  obtain ⟨rfl, rfl⟩ := trodVars_none hV
  have lt0 : ∀ x ∈ p0, x.block < W.heap.size := by obtain ⟨m, hm⟩ := h0; exact DataW.trod_lt m _ _ _ hm
  obtain ⟨x, hx, hrel⟩ := JK (l := [.int .i64, .fz .keeper, .fz .bool, .fz .parcel, .fz .note, .fz .note]) (cts := [.int .i64, .sl .keeper, .sl .bool, .sl .parcel, .sl .note, .sl .note]) rfl rfl (by kernel_rfl) h0
  have hcall := OE (f := 3) (ps := [.agg [.int .i64, .fz .keeper, .fz .bool, .fz .parcel, .fz .note, .fz .note]]) (g := bg) mX.1 (q := ()) (mL x hx) (w := W) (args := [v0]) (fun M e hM => ⟨v0, [], [], [], rfl, rfl, hrel M e hM, rfl, rfl⟩) (MS hsh (by kernel_rfl) hL (by kernel_rfl) (fun _ => ⟨by kernel_rfl, by kernel_rfl⟩))
  refine hcall.mono fun e W' ⟨he, bel⟩ => ?_
  subst he
  exact ⟨_, rfl, _, _, _, [], _, [], hW', trodAll_mk1 (shut_bool Tryz.underlying4 _), (trodAll_cons_mk (Below.trod Rj (by kernel_rfl) (of_decide_eq_true (by kernel_rfl)) h0 bel lt0) trodAll_mk0), rfl, bel.frame _, fun h => by cases h⟩
theorem SL : Rows.FnExactRiverSafeSaid :=
  OpenClaim.holds_of_wide 3 Tryz.f3 rfl rfl rfl rfl rfl rfl rfl ⟨rfl, rfl, rfl, rfl, rfl⟩ rfl rfl rfl rfl rfl (by kernel_rfl) Tryz.func3 (by kernel_rfl)
    (of_decide_eq_true (by kernel_rfl)) (by unfold Func.isWrapper; first | (rw [if_pos (by decide +kernel)]; kernel_rfl) | (rw [if_neg (by decide +kernel)]; exact ⟨rfl, rfl⟩))
    (fun os started H enc _ => Si os started H enc)
theorem card_holds : Rows.FnExactRiverSafeCardSaid :=
  Claim7.holds_tied_plain_at .later [] [.data, .data, .data, .data, .pinned] true (true, "1cf9f44b05e916fd9857ab31fe041738f36762fd005fb9e0bf5e66ad7edcd613") false SL (fun _ h => by cases h) (by kernel_rfl) (fun _ h => by cases h) fnExactRiverSafe_row_tie rfl ⟨rfl, rfl⟩ (by kernel_rfl) rfl
    (fun f fn hf hfn => by
      obtain rfl : f = 3 := Option.some.inj ((show Tryz.prog.funcNamed "loop.example/bargeman/laws.FnExactRiverSafe" = some 3 by kernel_rfl).symm.trans hf) |>.symm
      obtain rfl : fn = Tryz.f3 := (Option.some.inj (Tryz.func3.symm.trans hfn)).symm
      exact ⟨by kernel_rfl, fun j t ht => by
        rw [Tryz.params3] at ht
        have hm := Array.mem_of_getElem? ht
        have hm' : t ∈ [27] := by simpa using hm
        have hall : ([27].all fun u => !Tryz.pinned.checked.prog.wantsStandIn u) = true := by kernel_rfl
        simpa using List.all_eq_true.1 hall t hm'⟩)
    (by kernel_rfl)
#print axioms card_holds
end Go.Proofs.YtmjofbbjdmmpnaaGreatDoor.fnExactRiverSafe
