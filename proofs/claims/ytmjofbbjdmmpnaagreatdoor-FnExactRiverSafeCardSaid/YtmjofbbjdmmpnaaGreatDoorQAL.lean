/- An evaluator of the program's own code with its soundness, the printed texts of the functions, and plain laws of them (part 12). -/
import Derived.Lib.Split
import Derived.Lib.SplitLaws
import Derived.Lib.IndexMore
import Derived.Deep.Draws
import Derived.Sort.Grow
import Derived.Test.YtmjofbbjdmmpnaaGreatDoorQAK
set_option linter.unusedVariables false
set_option linter.unusedSimpArgs false
namespace Go.VS
open Go
variable {P : Program} {f : FuncId}
theorem BP {w : World} {O : Nat → Prop} {gm : Nat} (hgl : Mf P w O) (hg : gm < P.globals.size) (hsh : ∀ w : World, w.ShapedOpen P → ∃ m, w.cell? ⟨gm, 0, none⟩ = some (.int .i64 m)) : ∃ m, w.cell? ⟨gm, 0, none⟩ = some (.int .i64 m) := by
  obtain ⟨w0, h1, h2⟩ := hgl
  obtain ⟨m, hm⟩ := hsh w0 h1.1
  refine ⟨m, ?_⟩
  rw [← hm]
  unfold World.cell?
  rw [(h2 gm hg).2.2]
theorem Pt {w : World} {O : Nat → Prop} (hgl : Mf P w O) {gt : Nat} (hn : P.globalNamed "internal/strconv.uint64pow10" = some gt) (hg : gt < P.globals.size) : Lib.TabIs P w "internal/strconv.uint64pow10" .u64 Lib.pow10Tab := by
  obtain ⟨w0, h1, h2⟩ := hgl
  have h := h1.2 (by rw [hn]; simp)
  unfold Lib.TabIs World.var? at h ⊢
  rw [hn] at h ⊢
  simp only [Option.bind_some] at h ⊢
  rw [(h2 gt hg).2.2]
  exact h
noncomputable def Lz (x : Int × Unit) : Option ((ByteArray × Unit) × Unit) := if -9223372036854775808 ≤ x.1 ∧ x.1 ≤ 9223372036854775807 then some ((⟨(Lib.itoa x.1).toArray⟩, ()), ()) else none
noncomputable def M7 (x : ByteArray × ByteArray × Unit) : Option ((ByteArray × ByteArray × Bool × Unit) × Unit) :=
  if x.1.size < 4294967281 then some ((⟨(Lib.cut x.1.data.toList x.2.1.data.toList).1.toArray⟩, ⟨(Lib.cut x.1.data.toList x.2.1.data.toList).2.1.toArray⟩, (Lib.cut x.1.data.toList x.2.1.data.toList).2.2, ()), ()) else none
noncomputable def EB (x : ByteArray × ByteArray × Unit) : Option ((List ByteArray × Unit) × Unit) :=
  if x.1.size < 4294967281 ∧ 1 ≤ x.2.1.size then some ((Lib.splitB x.2.1 0 (Lib.countB x.1 x.2.1) x.1, ()), ()) else none
noncomputable def yy (x : ByteArray × ByteArray × Int × Unit) : Option ((List ByteArray × Unit) × Unit) :=
  if x.1.size < 4294967281 ∧ 1 ≤ x.2.1.size ∧ 1 ≤ x.2.2.1 ∧ x.2.2.1 ≤ 9223372036854775807 then some ((Lib.splitB x.2.1 0 (min x.2.2.1.toNat (x.1.size + 1) - 1) x.1, ()), ()) else none
theorem MM (he : rf P f) (hn : (P.globalNamed "internal/strconv.uint64pow10").map (fun g => decide (g < P.globals.size)) = some true)
    (hc : ∀ (n : Int) (h0 : -9223372036854775808 ≤ n) (h1 : n ≤ 9223372036854775807) (w : World) (htab : Lib.TabIs P w "internal/strconv.uint64pow10" .u64 Lib.pow10Tab),
      Calls P f #[.int .i64 n] w fun e w' => e = .returned (.string ⟨(Lib.itoa n).toArray⟩) ∧ ∃ k os, w' = Go.Sort.grow (w.drewN k) os) : oF P f ⟨[.int .i64], [.str], Lz⟩ := by
  obtain ⟨gt, hn, hg⟩ := Option.map_eq_some_iff.1 hn
  have hg := of_decide_eq_true hg
  refine ⟨he, fun x r hx w Z args os hr hnd hbl hZ hgl => ?_⟩
  simp only [Lz] at hx
  split at hx
  case isFalse => cases hx
  rename_i hb
  cases hx
  obtain ⟨u, us, o1, o2, rfl, rfl, ⟨rfl, rfl⟩, rfl, rfl⟩ := hr
  refine Calls.mono (hc x.1 hb.1 hb.2 w (Pt hgl hn hg)) ?_
  rintro e w' ⟨rfl, k, os, rfl⟩
  exact ⟨_, rfl, ⟨⟨[.string _], [], [], rfl, ⟨_, _, [], [], rfl, rfl, ⟨rfl, rfl⟩, rfl, rfl⟩, ⟨rfl, rfl⟩, by simp [aL], by simp [aL]⟩, rfl, rfl, rfl, by simp [Go.Sort.grow, World.drewN], fun b hb _ => by simp [Go.Sort.grow, World.drewN, Array.getElem?_append_left hb], Pk.old fun b hb => by simp [Go.Sort.grow, World.drewN, Array.getElem?_append_left hb]⟩⟩
theorem OZ (he : rf P f) {gm : Nat} (hg : gm < P.globals.size) (hsh : ∀ w : World, w.ShapedOpen P → ∃ m, w.cell? ⟨gm, 0, none⟩ = some (.int .i64 m))
    (hc : ∀ (s sep : ByteArray) (m : Int) (w : World) (hs : s.size < 4294967281) (hm : w.cell? ⟨gm, 0, none⟩ = some (.int .i64 m)),
      Calls P f #[.string s, .string sep] w fun e w' => e = .returned (.tuple #[.string ⟨(Lib.cut s.data.toList sep.data.toList).1.toArray⟩, .string ⟨(Lib.cut s.data.toList sep.data.toList).2.1.toArray⟩, .bool (Lib.cut s.data.toList sep.data.toList).2.2]) ∧ ∃ n, w' = w.drewN n) :
    oF P f ⟨[.str, .str], [.str, .str, .bool], M7⟩ := by
  refine ⟨he, fun x r hx w Z args os hr hnd hbl hZ hgl => ?_⟩
  simp only [M7] at hx
  split at hx
  case isFalse => cases hx
  rename_i hb
  cases hx
  obtain ⟨u, us, o1, o2, rfl, rfl, ⟨rfl, rfl⟩, v, vs, p1, p2, rfl, rfl, ⟨rfl, rfl⟩, rfl, rfl⟩ := hr
  obtain ⟨m, hm⟩ := BP hgl hg hsh
  refine Calls.mono (hc x.1 x.2.1 m w hb hm) ?_
  rintro e w' ⟨rfl, k, rfl⟩
  exact ⟨_, rfl, ⟨⟨[_, _, _], [], [], rfl, ⟨_, _, [], [], rfl, rfl, ⟨rfl, rfl⟩, _, _, [], [], rfl, rfl, ⟨rfl, rfl⟩, _, _, [], [], rfl, rfl, ⟨rfl, rfl⟩, rfl, rfl⟩, ⟨rfl, rfl⟩, by simp [aL], by simp [aL]⟩, rfl, rfl, rfl, Nat.le_refl _, fun b hb _ => rfl, Pk.old fun b hb => rfl⟩⟩
theorem Nk {w : World} {Z : Nat → Prop} {args : List Value} {e : TypeId} {xs : List ByteArray} {cap : Nat} {cs : Array Value} (hcap : xs.length ≤ cap) (hm : cap ≤ maxLen) (hsz : cs.size = cap) (hcs : ∀ (i : Nat) (s : ByteArray), xs[i]? = some s → cs[i]? = some (Value.string s)) {ps : List Sh}
    {r2 : LTs (aq ps)} {g : LTs ps → Option (LTs [.row e .str] × LTs (aq ps))} (hb : ∀ w' M, Rels P w' M (ar args) (aq ps) r2 (iQ ps args) []) :
    Ret P ⟨ps, [.row e .str], g⟩ Z args [] w ((xs, ()), r2) (.slice (some ⟨w.heap.size, 0, none⟩) xs.length cap) (w.alloc (.cells cs e)) := by
  have hat : (w.alloc (.cells cs e)).heap[w.heap.size]? = some (.cells cs e (0, 0)) := heap_alloc_new w _
  have hsz' : (w.alloc (.cells cs e)).heap.size = w.heap.size + 1 := World.size_alloc _ _
  refine ⟨⟨[_], [(.slice (some ⟨w.heap.size, 0, none⟩) xs.length cap, xs.length)], [], rfl, ⟨_, _, [_], [], rfl, rfl, ⟨rfl, rfl, fun β _ => .inr ⟨w.heap.size, 0, cap, cs, (0, 0), rfl, hat, rfl, hcap, hm, by simp [ks, hsz], ?_⟩⟩, rfl, rfl⟩, hb _ _, by simp [aL, mR, adr], ?_⟩, rfl, rfl, rfl, by omega, fun b hb _ => heap_alloc_old w _ hb, Pk.old fun b hb => heap_alloc_old w _ hb⟩
  · intro i x j c u h1 h2 h3
    cases j with
    | zero =>
      simp [enc] at h2
      subst h2
      rw [show (0 : Nat) + (i * ks .str + 0) = i by simp [ks], hcs i x h1] at h3
      cases h3
      exact RC.lit rfl
    | succ j => simp [enc] at h2
  · intro b hb
    simp [aL, mR, adr] at hb
    subst hb
    exact ⟨.inr (Nat.le_refl _), by omega⟩
theorem K2 (he : rf P f) {gm : Nat} {e : TypeId} (hg : gm < P.globals.size) (hsh : ∀ w : World, w.ShapedOpen P → ∃ m, w.cell? ⟨gm, 0, none⟩ = some (.int .i64 m))
    (hc : ∀ (s sep : ByteArray) (m : Int) (w : World) (hs : s.size < 4294967281) (hm : w.cell? ⟨gm, 0, none⟩ = some (.int .i64 m)) (h1 : 1 ≤ sep.size),
      Calls P f #[.string s, .string sep] w fun en w' => en = .returned (.slice (some ⟨w.heap.size, 0, none⟩) (Lib.countB s sep + 1) (Lib.countB s sep + 1)) ∧ w' = w.alloc (.cells ((Lib.splitB sep 0 (Lib.countB s sep) s).map Value.string).toArray e)) :
    oF P f ⟨[.str, .str], [.row e .str], EB⟩ := by
  refine ⟨he, fun x r hx w Z args os hr hnd hbl hZ hgl => ?_⟩
  simp only [EB] at hx
  split at hx
  case isFalse => cases hx
  rename_i hb
  cases hx
  obtain ⟨u, us, o1, o2, rfl, rfl, ⟨rfl, rfl⟩, v, vs, p1, p2, rfl, rfl, ⟨rfl, rfl⟩, rfl, rfl⟩ := hr
  obtain ⟨m, hm⟩ := BP hgl hg hsh
  have hl := Lib.splitB_all x.2.1 hb.2 0 _ x.1 rfl
  have hle := Lib.countB_le x.2.1 hb.2 x.1.size x.1 (Nat.le_refl _)
  refine Calls.mono (hc x.1 x.2.1 m w hb.1 hm hb.2) ?_
  rintro en w' ⟨rfl, rfl⟩
  refine ⟨_, rfl, ?_⟩
  rw [← hl]
  exact Nk (Nat.le_refl _) (by rw [hl]; simp [maxLen]; omega) (by simp) (fun i s h => by simp [h]) (fun _ _ => ⟨rfl, rfl⟩)
theorem JN (he : rf P f) {gm : Nat} {e : TypeId} (hg : gm < P.globals.size) (hsh : ∀ w : World, w.ShapedOpen P → ∃ m, w.cell? ⟨gm, 0, none⟩ = some (.int .i64 m))
    (hc : ∀ (s sep : ByteArray) (n : Nat) (m : Int) (w : World) (hs : s.size < 4294967281) (hm : w.cell? ⟨gm, 0, none⟩ = some (.int .i64 m)) (h1 : 1 ≤ sep.size) (hn : 1 ≤ n) (hn63 : n ≤ 9223372036854775807),
      Calls P f #[.string s, .string sep, .int .i64 n] w fun en w' => en = .returned (.slice (some ⟨w.heap.size, 0, none⟩) (Lib.splitB sep 0 (min n (s.size + 1) - 1) s).length (min n (s.size + 1))) ∧ w' = w.alloc (.cells (Lib.cellsOf (Lib.splitB sep 0 (min n (s.size + 1) - 1) s) (min n (s.size + 1))) e)) :
    oF P f ⟨[.str, .str, .int .i64], [.row e .str], yy⟩ := by
  refine ⟨he, fun x r hx w Z args os hr hnd hbl hZ hgl => ?_⟩
  simp only [yy] at hx
  split at hx
  case isFalse => cases hx
  rename_i hb
  cases hx
  obtain ⟨u, us, o1, o2, rfl, rfl, ⟨rfl, rfl⟩, v, vs, p1, p2, rfl, rfl, ⟨rfl, rfl⟩, y, ys, q1, q2, rfl, rfl, ⟨rfl, rfl⟩, rfl, rfl⟩ := hr
  obtain ⟨m, hm⟩ := BP hgl hg hsh
  have hl := Lib.splitB_length_le x.2.1 0 (min x.2.2.1.toNat (x.1.size + 1) - 1) x.1
  have hn : ((x.2.2.1.toNat : Nat) : Int) = x.2.2.1 := Int.toNat_of_nonneg (by omega)
  have hc' := hc x.1 x.2.1 x.2.2.1.toNat m w hb.1 hm hb.2.1 (by omega) (by omega)
  rw [hn] at hc'
  refine Calls.mono hc' ?_
  rintro en w' ⟨rfl, rfl⟩
  refine ⟨_, rfl, ?_⟩
  exact Nk (by omega) (by simp [maxLen]; omega) (Lib.cellsOf_size (by omega)) (fun i s h => by
    have hi := (List.getElem?_eq_some_iff.1 h).1
    rw [Lib.cellsOf, List.getElem?_toArray, List.getElem?_append_left (by simpa using hi), List.getElem?_map, h]
    rfl) (fun _ _ => ⟨rfl, rfl⟩)
end Go.VS
