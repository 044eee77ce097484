/- An evaluator of the program's own code with its soundness, the printed texts of the functions, and plain laws of them (part 15). -/
import Derived.Test.YtmjofbbjdmmpnaaGreatDoorQAN
set_option linter.unusedVariables false
set_option linter.unusedSimpArgs false
namespace Go.VS
open Go
structure SmKeep (held : List Note) (marks : List Mark) (inbox : List Note) : Prop where
  hl : held.length ≤ 1048576
  h : ∀ x ∈ held, cW x
  ml : marks.length ≤ 1048576
  il : inbox.length ≤ 1048576
  i : ∀ x ∈ inbox, cW x
def ou (id ti nx : Int) (held : List Note) (marks : List Mark) (i : Nat) : Bool := !(decide ((nA held i).fr = id) && decide (nx ≤ (nA held i).nu)) && (decide (ti < (nA held i).un) && (EZ id (nA held i).fr (nA held i).to && decide (li marks (nA held i).fr (nA held i).nu < 0)))
def gN (id ti nx : Int) (marks : List Mark) (i : Nat) : Bool := decide (ti < (mA marks i).mu) && !(decide ((mA marks i).mf = id) && decide (nx ≤ (mA marks i).mn))
def lW (id ti nx : Int) (marks : List Mark) (inbox : List Note) (i : Nat) : Bool := decide ((nA inbox i).to = id) && (!(decide ((nA inbox i).fr = id) && decide (nx ≤ (nA inbox i).nu)) && (!decide (ti < (nA inbox i).un) || decide (0 ≤ li marks (nA inbox i).fr (nA inbox i).nu)))
def aV (k : Keep) : Bool := isN k.id && (inB k.ti 0 999 && (inB k.nx 1 100 && ((decide ((k.held.length : Int) ≤ 6) && bM k.held) && ((decide ((k.marks.length : Int) ≤ 12) && ir k.marks) && ((decide ((k.inbox.length : Int) ≤ 6) && bM k.inbox) &&
  (ao k.held.length (ou k.id k.ti k.nx k.held k.marks) && (ao k.marks.length (gN k.id k.ti k.nx k.marks) && ao k.inbox.length (lW k.id k.ti k.nx k.marks k.inbox))))))))
theorem tfp (p : Prop) : (p = True) ∨ (p = False) := by
  by_cases h : p
  · exact .inl (eq_true h)
  · exact .inr (eq_false h)
theorem sgn (n : Int) : ((n < 0) = True ∧ (0 ≤ n) = False) ∨ ((n < 0) = False ∧ (0 ≤ n) = True) := by
  by_cases h : n < 0
  · exact .inl ⟨eq_true h, eq_false (by omega)⟩
  · exact .inr ⟨eq_false h, eq_true (by omega)⟩
theorem dM (a b : Int) : ((a ≤ b) = True ∧ (b < a) = False) ∨ ((a ≤ b) = False ∧ (b < a) = True) := by
  by_cases h : a ≤ b
  · exact .inl ⟨eq_true h, eq_false (by omega)⟩
  · exact .inr ⟨eq_false h, eq_true (by omega)⟩
theorem Fv (l : List Note) (f n : Int) : aD l f n = -1 ∨ 0 ≤ aD l f n := by
  rcases bE l.length (fun i => decide ((nA l i).fr = f) && decide ((nA l i).nu = n)) with ⟨h, _⟩ | ⟨i, h, _⟩
  · exact .inl h
  · exact .inr (by unfold aD; omega)
theorem Gd {id ti nx : Int} {held : List Note} {marks : List Mark} {inbox : List Note} (sm : SmKeep held marks inbox) :
    kW ((id, ti, nx, held, marks, inbox, ()), held, (held.length : Int), 0, ()) = some (if ao held.length (ou id ti nx held marks) then .inr ((id, ti, nx, held, marks, inbox, ()), ()) else .inl (false, ())) :=
  am (fun i => ((id, ti, nx, held, marks, inbox, ()), held, (held.length : Int), (i : Int), ())) held.length (ou id ti nx held marks) (false, ()) ((id, ti, nx, held, marks, inbox, ()), ()) (fun i hi => by
    unfold kZ ou
    have hl : held.length ≤ 9223372036854775807 := by have := sm.hl; omega
    simp only [ac hi, af hi, aG, bX, gP sm.ml, qV, Option.bind_some, ab hi hl]
    have h4 := sgn (li marks (nA held i).fr (nA held i).nu)
    rcases tfp ((nA held i).fr = id) with h1 | h1 <;> rcases tfp (nx ≤ (nA held i).nu) with h2 | h2 <;> rcases dM (nA held i).un ti with h3 | h3 <;> rcases h4 with h4 | h4 <;> rcases tf (EZ id (nA held i).fr (nA held i).to) with h5 | h5 <;> simp [h1, h2, h5, h4, h3]) (by simp [kZ])
theorem tL {id ti nx : Int} {held : List Note} {marks : List Mark} {inbox : List Note} (sm : SmKeep held marks inbox) :
    kV ((id, ti, nx, held, marks, inbox, ()), marks, (marks.length : Int), 0, ()) = some (if ao marks.length (gN id ti nx marks) then .inr ((id, ti, nx, held, marks, inbox, ()), ()) else .inl (false, ())) :=
  am (fun i => ((id, ti, nx, held, marks, inbox, ()), marks, (marks.length : Int), (i : Int), ())) marks.length (gN id ti nx marks) (false, ()) ((id, ti, nx, held, marks, inbox, ()), ()) (fun i hi => by
    unfold kY gN
    have hl : marks.length ≤ 9223372036854775807 := by have := sm.ml; omega
    simp only [ac hi, af hi, aG, bX, gP sm.ml, qV, Option.bind_some, ab hi hl]
    rcases tfp ((mA marks i).mf = id) with h1 | h1 <;> rcases tfp (nx ≤ (mA marks i).mn) with h2 | h2 <;> rcases dM (mA marks i).mu ti with h3 | h3 <;> simp [h1, h2, h3]) (by simp [kY])
theorem tJ {id ti nx : Int} {held : List Note} {marks : List Mark} {inbox : List Note} (sm : SmKeep held marks inbox) :
    kU ((id, ti, nx, held, marks, inbox, ()), inbox, (inbox.length : Int), 0, ()) = some (if ao inbox.length (lW id ti nx marks inbox) then .inr () else .inl (false, ())) :=
  am (fun i => ((id, ti, nx, held, marks, inbox, ()), inbox, (inbox.length : Int), (i : Int), ())) inbox.length (lW id ti nx marks inbox) (false, ()) () (fun i hi => by
    unfold kX lW
    have hl : inbox.length ≤ 9223372036854775807 := by have := sm.il; omega
    simp only [ac hi, af hi, aG, bX, gP sm.ml, qV, Option.bind_some, ab hi hl]
    have h4 := sgn (li marks (nA inbox i).fr (nA inbox i).nu)
    rcases tfp ((nA inbox i).fr = id) with h1 | h1 <;> rcases tfp (nx ≤ (nA inbox i).nu) with h2 | h2 <;> rcases dM (nA inbox i).un ti with h3 | h3 <;> rcases tfp ((nA inbox i).to = id) with h0 | h0 <;> rcases h4 with h4 | h4 <;> simp [h1, h2, h0, h4, h3]) (by simp [kX])
theorem EI {id ti nx : Int} {held : List Note} {marks : List Mark} {inbox : List Note} (sm : SmKeep held marks inbox) :
    jQ ((id, ti, nx, held, marks, inbox, ()), 0, ()) = some (if ao held.length (ou id ti nx held marks) then .inr ((id, ti, nx, held, marks, inbox, ()), ()) else .inl (false, ())) :=
  am (fun i => ((id, ti, nx, held, marks, inbox, ()), (i : Int), ())) held.length (ou id ti nx held marks) (false, ()) ((id, ti, nx, held, marks, inbox, ()), ()) (fun i hi => by
    unfold jT ou
    have hl : held.length ≤ 9223372036854775807 := by have := sm.hl; omega
    simp only [ac hi, af hi, aG, bX, fb sm.ml, pb, Option.bind_some, ab hi hl]
    have h4 := sgn (li marks (nA held i).fr (nA held i).nu)
    rcases tfp ((nA held i).fr = id) with h1 | h1 <;> rcases tfp (nx ≤ (nA held i).nu) with h2 | h2 <;> rcases dM (nA held i).un ti with h3 | h3 <;> rcases h4 with h4 | h4 <;> rcases tf (EZ id (nA held i).fr (nA held i).to) with h5 | h5 <;> simp [h1, h2, h5, h4, h3]) (by simp [jT])
theorem sV {id ti nx : Int} {held : List Note} {marks : List Mark} {inbox : List Note} (sm : SmKeep held marks inbox) :
    jP ((id, ti, nx, held, marks, inbox, ()), 0, ()) = some (if ao marks.length (gN id ti nx marks) then .inr ((id, ti, nx, held, marks, inbox, ()), ()) else .inl (false, ())) :=
  am (fun i => ((id, ti, nx, held, marks, inbox, ()), (i : Int), ())) marks.length (gN id ti nx marks) (false, ()) ((id, ti, nx, held, marks, inbox, ()), ()) (fun i hi => by
    unfold jS gN
    have hl : marks.length ≤ 9223372036854775807 := by have := sm.ml; omega
    simp only [ac hi, af hi, aG, bX, fb sm.ml, pb, Option.bind_some, ab hi hl]
    rcases tfp ((mA marks i).mf = id) with h1 | h1 <;> rcases tfp (nx ≤ (mA marks i).mn) with h2 | h2 <;> rcases dM (mA marks i).mu ti with h3 | h3 <;> simp [h1, h2, h3]) (by simp [jS])
theorem sU {id ti nx : Int} {held : List Note} {marks : List Mark} {inbox : List Note} (sm : SmKeep held marks inbox) :
    jO ((id, ti, nx, held, marks, inbox, ()), 0, ()) = some (if ao inbox.length (lW id ti nx marks inbox) then .inr () else .inl (false, ())) :=
  am (fun i => ((id, ti, nx, held, marks, inbox, ()), (i : Int), ())) inbox.length (lW id ti nx marks inbox) (false, ()) () (fun i hi => by
    unfold jR lW
    have hl : inbox.length ≤ 9223372036854775807 := by have := sm.il; omega
    simp only [ac hi, af hi, aG, bX, fb sm.ml, pb, Option.bind_some, ab hi hl]
    have h4 := sgn (li marks (nA inbox i).fr (nA inbox i).nu)
    rcases tfp ((nA inbox i).fr = id) with h1 | h1 <;> rcases tfp (nx ≤ (nA inbox i).nu) with h2 | h2 <;> rcases dM (nA inbox i).un ti with h3 | h3 <;> rcases tfp ((nA inbox i).to = id) with h0 | h0 <;> rcases h4 with h4 | h4 <;> simp [h1, h2, h0, h4, h3]) (by simp [jR])
theorem wB {id ti nx : Int} {held : List Note} {marks : List Mark} {inbox : List Note} (sm : SmKeep held marks inbox) : dV ((id, ti, nx, held, marks, inbox, ()), ()) = some ((aV ⟨id, ti, nx, held, marks, inbox⟩, ()), ()) := by
  unfold dV aV
  simp only [co, bO, tB sm.hl sm.h, tB sm.il sm.i, F9 sm.ml, Gd sm, tL sm, tJ sm, Option.bind_some]
  rcases tf (isN id) with h1 | h1 <;> simp only [h1, Bool.not_true, Bool.not_false, if_true, Bool.false_and, Bool.true_and, if_neg Bool.false_ne_true]
  rcases tf (inB ti 0 999) with h2 | h2 <;> simp only [h2, Bool.not_true, Bool.not_false, if_true, Bool.false_and, Bool.true_and, if_neg Bool.false_ne_true]
  rcases tf (inB nx 1 100) with h3 | h3 <;> simp only [h3, Bool.not_true, Bool.not_false, if_true, Bool.false_and, Bool.true_and, if_neg Bool.false_ne_true]
  rcases dM (held.length : Int) 6 with h4 | h4 <;> rcases dM (marks.length : Int) 12 with h5 | h5 <;> rcases dM (inbox.length : Int) 6 with h6 | h6 <;> simp only [h4, h5, h6, decide_true, decide_false, if_true, Bool.false_and, Bool.and_false, Bool.true_and, if_neg Bool.false_ne_true]
  rcases tf (bM held) with h7 | h7 <;> rcases tf (ir marks) with h8 | h8 <;> rcases tf (bM inbox) with h9 | h9 <;> simp only [h7, h8, h9, Bool.not_true, Bool.not_false, if_true, Bool.false_and, Bool.and_false, Bool.true_and, if_neg Bool.false_ne_true]
  rcases tf (ao held.length (ou id ti nx held marks)) with h10 | h10 <;> rcases tf (ao marks.length (gN id ti nx marks)) with h11 | h11 <;> rcases tf (ao inbox.length (lW id ti nx marks inbox)) with h12 | h12 <;> simp only [h10, h11, h12, if_true, av, aS, if_neg Bool.false_ne_true, tL sm, tJ sm] <;> rfl
theorem vX {id ti nx : Int} {held : List Note} {marks : List Mark} {inbox : List Note} (sm : SmKeep held marks inbox) : dS ((id, ti, nx, held, marks, inbox, ()), ()) = some ((aV ⟨id, ti, nx, held, marks, inbox⟩, ()), ()) := by
  unfold dS aV
  simp only [lv, bK, rj sm.hl sm.h, rj sm.il sm.i, Cj sm.ml, EI sm, sV sm, sU sm, Option.bind_some]
  rcases tf (isN id) with h1 | h1 <;> simp only [h1, Bool.not_true, Bool.not_false, if_true, Bool.false_and, Bool.true_and, if_neg Bool.false_ne_true]
  rcases tf (inB ti 0 999) with h2 | h2 <;> simp only [h2, Bool.not_true, Bool.not_false, if_true, Bool.false_and, Bool.true_and, if_neg Bool.false_ne_true]
  rcases tf (inB nx 1 100) with h3 | h3 <;> simp only [h3, Bool.not_true, Bool.not_false, if_true, Bool.false_and, Bool.true_and, if_neg Bool.false_ne_true]
  rcases tf (decide ((held.length : Int) ≤ 6) && bM held) with h7 | h7 <;> rcases tf (decide ((marks.length : Int) ≤ 12) && ir marks) with h8 | h8 <;> rcases tf (decide ((inbox.length : Int) ≤ 6) && bM inbox) with h9 | h9 <;> simp only [h7, h8, h9, Bool.not_true, Bool.not_false, if_true, Bool.false_and, Bool.and_false, Bool.true_and, if_neg Bool.false_ne_true]
  rcases tf (ao held.length (ou id ti nx held marks)) with h10 | h10 <;> rcases tf (ao marks.length (gN id ti nx marks)) with h11 | h11 <;> rcases tf (ao inbox.length (lW id ti nx marks inbox)) with h12 | h12 <;> simp only [h10, h11, h12, if_true, av, aS, if_neg Bool.false_ne_true, sV sm, sU sm] <;> rfl
theorem Ky {α : Type} {l : List α} {d : α} (hl : l.length ≤ 1048576) :
    (if decide ((l.length : Int) = 0) then some ((([] : List α), ()), ()) else if decide (0 ≤ (l.length : Int)) && decide ((l.length : Int) ≤ 4294967296) then some (((List.take (List.replicate (Int.toNat (l.length : Int)) d).length l ++ List.drop l.length (List.replicate (Int.toNat (l.length : Int)) d)), ()), ()) else none) = some ((l, ()), ()) := by
  by_cases h : (l.length : Int) = 0
  · have : l = [] := List.eq_nil_of_length_eq_zero (by omega)
    subst this
    rfl
  · have h1 : (l.length : Int) ≤ 4294967296 := by omega
    have h2 : 0 ≤ (l.length : Int) := by omega
    simp [h1]
theorem n9 {l : List Note} (hl : l.length ≤ 1048576) : dE (l, ()) = some ((l, ()), ()) := Ky hl
theorem x8 {l : List Mark} (hl : l.length ≤ 1048576) : jn (l, ()) = some ((l, ()), ()) := Ky hl
theorem tD {l : List ByteArray} (hl : l.length ≤ 1048576) : fE (l, ()) = some ((l, ()), ()) := Ky hl
theorem rE {id ti nx : Int} {held : List Note} {marks : List Mark} {inbox : List Note} (sm : SmKeep held marks inbox) : cH ((id, ti, nx, held, marks, inbox, ()), ()) = some (((id, ti, nx, held, marks, inbox, ()), ()), ()) := by
  unfold cH
  simp only [n9 sm.hl, x8 sm.ml, n9 sm.il, Option.bind_some]
theorem aJ {n : Nat} (h : n ≤ 4294967296) : de n = true := by simpa [de] using h
theorem sP {id ti nx : Int} {held : List Note} {marks : List Mark} {inbox : List Note} (sm : SmKeep held marks inbox) : c9 ((id, ti, nx, held, marks, inbox, ()), ()) = some (((id, ti, nx, held, marks, inbox, ()), ()), ()) := by
  unfold c9
  have h1 := sm.hl
  have h2 := sm.ml
  have h3 := sm.il
  simp only [List.length_nil, Nat.zero_add, List.nil_append, aJ (show held.length ≤ 4294967296 by omega), aJ (show marks.length ≤ 4294967296 by omega), aJ (show inbox.length ≤ 4294967296 by omega), if_true]
theorem Bk {id : Int} : gw (id, ()) = some ((if isN id then (id, 0, 1, [], [], [], ()) else (0, 0, 0, [], [], [], ()), ()), ()) := by
  unfold gw
  simp only [bO, Option.bind_some]
  cases isN id <;> rfl
theorem AK {id : Int} : ga (id, ()) = some ((if isN id then (id, 0, 1, [], [], [], ()) else (0, 0, 0, [], [], [], ()), ()), ()) := by
  unfold ga
  simp only [bK, Option.bind_some]
  cases isN id <;> rfl
end Go.VS
