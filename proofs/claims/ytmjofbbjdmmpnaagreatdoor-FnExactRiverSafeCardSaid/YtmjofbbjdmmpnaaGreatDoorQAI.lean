/- An evaluator of the program's own code with its soundness, the printed texts of the functions, and plain laws of them (part 9). -/
import Derived.Tactics
import Derived.Test.YtmjofbbjdmmpnaaGreatDoorQAH
set_option linter.unusedVariables false
set_option linter.unusedSimpArgs false
namespace Go.VS
open Go
section
variable {C : Cx} {B : Base} {ops : Array Oper} {stk : List (Array Value)} {s s' s0 : S} {b b0 : Nat} {Ω : Type} {q : Ω}
theorem M8 {m : Summ} {d : Option Nat} {as : List AV} {k : S → Option Ω} : oA m s b d as k = (oA m s b d as some).bind k := by
  unfold oA
  simp only
  split
  · rename_i x hx hn
    cases m.g x with
    | none => rfl
    | some r =>
      simp only [Option.bind_some]
      split
      · rfl
      · rfl
  · rfl
theorem nG {r : PR} {f : AV → List Ob → S} {k : S → Option Ω} : (match r with
      | some (q, v, os) => if q then k (f v os) else none
      | none => none) = (match r with
      | some (q, v, os) => if q then some (f v os) else none
      | none => none).bind k := by
  cases r with
  | none => rfl
  | some r => obtain ⟨q, v, os⟩ := r; cases q <;> rfl
theorem Jr {o : Oper} {k : S → Option Ω} (inl : Inl Ω) (hi : ∀ f c, o.op = .call c → c.callee = .value (.func f) → C.Γ f o.dst = none → ∀ d as s k, inl f d as s k = none) :
    dF C inl o b s k = (dF C (ae S) o b s some).bind k := by
  unfold dF
  split
  · rfl
  generalize ho : o.op = op at *
  cases op
  case store t p x =>
    simp only
    split <;> rfl
  case call c =>
    simp only
    split
    · rename_i f hf
      split
      · exact M8
      · rename_i hm
        rw [hi f c rfl hf hm]
        rfl
    · split
      · split <;> rfl
      · rfl
    · split <;> rfl
    · first | rfl | exact nG (k := k) (f := fun v os => ({ s with H := cd s.H b os } : S).put o.dst v)
  case slice t x lo hi mx =>
    cases mx with
    | some m =>
      simp only
      first | rfl | exact nG (k := k) (f := fun v os => ({ s with H := cd s.H b os } : S).put o.dst v)
    | none =>
      simp only
      split
      · split
        · rfl
        · split
          · split <;> rfl
          · rfl
      · first | rfl | exact nG (k := k) (f := fun v os => ({ s with H := cd s.H b os } : S).put o.dst v)
  case buildSlice t n ps =>
    simp only
    generalize (pf s.ev ps.toList).foldl S.freeze s = s3
    exact nG (k := k) (f := fun v os => ({ s3 with H := cd s3.H b os } : S).put o.dst v)
  all_goals (simp only; first | rfl | exact nG (k := k) (f := fun v os => ({ s with H := cd s.H b os } : S).put o.dst v))
theorem Qn {o : Oper} {k : S → Option Ω} : evG C (J1 Ω) ops o b s k = (ev1 C ops o b s).bind k := by
  have h : ∀ b s, ∀ k : S → Option Ω, dF C (J1 Ω) o b s k = (dF C (ae S) o b s some).bind k := fun b s k => Jr _ fun _ _ _ _ _ _ _ _ _ => rfl
  unfold ev1 evG
  split
  · exact h _ _ _
  · split
    · rfl
    · split
      · split
        · split <;> rfl
        · rfl
      · rfl
    · split
      · rename_i c _
        simp only [h]
        cases hh : s.has o.dst <;> (split <;> split <;> rfl)
      · split <;> rfl
      · rfl
def NR (C : Cx) (ops : Array Oper) : List Rec → S → S → Prop
  | [], s, s' => s = s'
  | r :: l, s, s' => ∃ s1, ev1 C ops r.o r.b s = some s1 ∧ ((m7 C s r.o = none → r.W = r.F) ∧ ∀ l, m7 C s r.o = some l → ∀ i ∈ l, Mm r.W i) ∧ vOf s1 r.o.dst = some r.V ∧ NR C ops l s1 s'
theorem Js {k : S → Option Ω} : ∀ (l : List Oper) (i b : Nat) (acc : List Rec) (s : S), evD C ops s0 l i b acc s k = some q → GoodL C ops s0 b0 acc → i = acc.length → b = b0 + 16 * i → (∀ j, l[j]? = ops[i + j]?) →
    ∃ rs s', NR C ops rs s s' ∧ GoodL C ops s0 b0 (rs.reverse ++ acc) ∧ rs.length = l.length ∧ k { s' with nid := b0 + 16 * (i + l.length) } = some q
  | [], i, b, acc, s, h, hg, hi, hb, hl => ⟨[], s, rfl, hg, rfl, by
      have h : k { s with nid := b } = some q := h
      rw [hb] at h; exact h⟩
  | o :: l, i, b, acc, s, h, hg, hi, hb, hl => by
    unfold evD at h
    split at h
    · cases h
    rename_i r hr
    split at h
    · rename_i hc
      rw [Qn] at h
      obtain ⟨s1, h1, h⟩ := Option.bind_eq_some_iff.1 h
      obtain ⟨V, hV, h⟩ := Option.bind_eq_some_iff.1 h
      simp only [Bool.and_eq_true, List.all_eq_true] at hc
      unfold RQ at hr
      obtain ⟨anc, ha, hr⟩ := Option.bind_eq_some_iff.1 hr
      obtain ⟨ids, hids, hr⟩ := Option.bind_eq_some_iff.1 hr
      obtain ⟨c, hcl, hr⟩ := Option.bind_eq_some_iff.1 hr
      simp only at hr
      split at hr
      case h_2 => cases hr
      rename_i hsbs
      have hr := (Option.some.inj hr).symm
      have ho : ops[i]? = some o := by simpa using (hl 0).symm
      have hg' : GoodL C ops s0 b0 ({ r with V := V } :: acc) := by
        refine ⟨hg, ?_, ?_, ?_, ?_, ⟨ids, c, ?_, hcl, ?_⟩, ?_, fun x hx => hc.1.1 x hx, ?_, ?_⟩ <;> rw [hr]
        · exact hi
        · show b = _; rw [hb, hi]
        · exact ho
        · exact ha
        · exact hids
        · refine ⟨hsbs, fun id hid => ?_⟩
          show Mm (match m7 C s o with
            | none => _
            | some l => Nat.lor (msk l) (nm b)) id
          cases m7 C s o with
          | none =>
            refine re _ _ id ?_
            show (Nat.lor _ _).testBit id = true
            rw [i8, show (nm b).testBit id = true from hid]
            simp
          | some l =>
            show (Nat.lor _ _).testBit id = true
            rw [i8, show (nm b).testBit id = true from hid]
            simp
        · exact hc.1.2
        · exact hc.2
      obtain ⟨rs, s', k1, k2, k3, k4⟩ := Js l (i + 1) (b + 16) _ s1 h hg' (by simp [hi]) (by omega) (fun j => by
        have := hl (j + 1)
        simpa [Nat.add_assoc, Nat.add_comm 1 j] using this)
      refine ⟨{ r with V := V } :: rs, s', ⟨s1, ?_, ?_, ?_, k1⟩, ?_, by simp [k3], ?_⟩
      · rw [hr]; exact h1
      · rw [hr]
        refine ⟨fun he => ?_, fun l he j hj => ?_⟩
        · have he : m7 C s o = none := he
          show (match m7 C s o with
            | none => _
            | some l => Nat.lor (msk l) (nm b)) = _
          rw [he]
        · have he : m7 C s o = some l := he
          show Mm (match m7 C s o with
            | none => _
            | some l => Nat.lor (msk l) (nm b)) j
          rw [he]
          show (Nat.lor _ _).testBit j = true
          rw [i8, Ej.2 hj]
          rfl
      · rw [hr]; exact hV
      · simpa using k2
      · rw [show i + (o :: l).length = i + 1 + l.length by simp; omega]
        exact k4
    · cases h
theorem Ge {acc : List Rec} : ∀ {ts l : List Nat}, Ns s0 acc ts = some l → ∀ t ∈ ts, ∃ a, (match Jm t acc with
    | some r => some r.V
    | none => P6 (s0.T t)) = some a ∧ ∀ i ∈ a, i ∈ l
  | [], _, _, t, ht => by cases ht
  | t0 :: ts, l, h, t, ht => by
    obtain ⟨a, h1, h⟩ := Option.bind_eq_some_iff.1 h
    obtain ⟨b, h2, h⟩ := Option.bind_eq_some_iff.1 h
    cases h
    rcases List.mem_cons.1 ht with rfl | ht
    · exact ⟨a, h1, fun i hi => List.mem_append_left _ hi⟩
    · obtain ⟨a', h3, h4⟩ := Ge h2 t ht
      exact ⟨a', h3, fun i hi => List.mem_append_right _ (h4 i hi)⟩
theorem GoodL.fit {acc : List Rec} (h : GoodL C ops s0 b0 acc) (hn : acc.length = ops.size) (hfr : ∀ j, b0 ≤ j → s0.H j = none) {i : Nat} : Fit ops (lj acc b0) (List.range ops.size) s0 i := by
  intro o ho
  obtain ⟨r, hr, hi, rfl, fi⟩ := h.op hn ho
  have e1 : (lj acc b0).F i = Mm r.F := by funext id; simp only [lj, fi]
  rw [e1]
  refine ⟨fun t ht hd => ?_, h.closed hfr r hr, fun id h1 _ => hfr id (by simp only [lj] at h1; omega)⟩
  obtain ⟨acc', hg, hsub, _⟩ := h.mem r hr
  obtain ⟨_, _, _, _, _, ⟨l, c, h1, h2, h3⟩, _⟩ := hg
  obtain ⟨a, h4, h5⟩ := Ge h1 t ht
  cases hf : Jm t acc' with
  | some r' =>
    obtain ⟨hm, hdst⟩ := Jl hf
    have hm' := hsub r' hm
    obtain ⟨acc2, hg2, _⟩ := h.mem r' hm'
    have ho' := hg2.2.2.2.1
    exact absurd hdst (hd r'.i (List.mem_range.2 (Array.getElem?_eq_some_iff.1 ho').1) r'.o ho')
  | none =>
    rw [hf] at h4
    refine Nu h4 fun j hj => ?_
    rw [h3]
    refine re _ _ j ?_
    show (Nat.lor _ _).testBit j = true
    rw [i8, (G2 4 l h2).1 j (h5 j hj)]
    rfl
theorem yL {acc : List Rec} (h : GoodL C ops s0 b0 acc) (hn : acc.length = ops.size) : ∀ (rs : List Rec) (s s' : S), NR C ops rs s s' → (∀ r ∈ rs, r ∈ acc) → (rs.map (·.i)).Pairwise (· < ·) →
    (∀ r ∈ rs, Fit ops (lj acc b0) (rs.map (·.i)) s r.i) → Run C ops (lj acc b0) (rs.map (·.i)) s s'
  | [], s, s', hc, _, _, _ => by
    cases hc
    exact .nil
  | r :: rs, s, s', ⟨s1, h1, h2, h3, h4⟩, hm, hp, hf => by
    have hr := hm r List.mem_cons_self
    obtain ⟨acc', hg, _⟩ := h.mem r hr
    have ho := hg.2.2.2.1
    have hok := hg.2.2.2.2.2.2.2.2.1
    have hb := (h.F_nm hr).1
    have hrb : r.i < acc.length := h.lt r hr
    have fi := h.find r hr
    have nice := h.nice hn
    obtain ⟨f1, f2, f3⟩ := hf r List.mem_cons_self r.o ho
    have eb : (lj acc b0).b r.i = r.b := hb.symm
    have hp' := List.pairwise_cons.1 hp
    have hrd : ∀ t ∈ bd ops r.o, InA ((lj acc b0).F r.i) (s.T t) := fun t ht => f1 t ht fun j hj oj hoj e => by
      have hR := nice.rd j r.i oj r.o t hoj ho e ht
      have hlt := nice.lt _ _ hR
      rcases List.mem_cons.1 hj with e' | hj
      · have e' : j = r.i := e'
        omega
      · have h9 : r.i < j := hp'.1 j hj
        omega
    have hW : (m7 C s r.o = none → ∀ id, (lj acc b0).F r.i id → (lj acc b0).W r.i id) ∧ ∀ l, m7 C s r.o = some l → ∀ i ∈ l, (lj acc b0).W r.i i := by
      simp only [lj, fi]
      exact ⟨fun he id hF => by rw [h2.1 he]; exact hF, fun l he i hi => h2.2 l he i hi⟩
    obtain ⟨g, v, es, a1, a2, a3, a4, a5⟩ := Rw (F := (lj acc b0).F r.i) (W := (lj acc b0).W r.i) hok hrd f2
      (fun j k1 k2 => nice.WF _ _ (nice.NW r.i j (by rw [eb]; exact k1) (by rw [eb]; exact k2))) (fun j k1 k2 => nice.NW r.i j (by rw [eb]; exact k1) (by rw [eb]; exact k2)) hW h1
    have hst : Stp C ops r.o ((lj acc b0).b r.i) ((lj acc b0).F r.i) ((lj acc b0).W r.i) ((lj acc b0).V r.i) s s1 := by
      rw [eb]
      refine ⟨g, v, es, a1, fun t ht => ?_, a2, a3, a4, a5⟩
      rw [ht] at h3
      have : s1.T t = v := by rw [a4, NC, if_pos ht]
      rw [← this]
      refine Nu (show P6 (s1.T t) = some r.V from h3) fun j hj => ?_
      simp only [lj, fi]
      exact hj
    refine .cons ho hst (yL h hn rs s1 s' h4 (fun x hx => hm x (List.mem_cons_of_mem _ hx)) hp'.2 fun x hx => ?_)
    have hxi : r.i < x.i := hp'.1 x.i (List.mem_map.2 ⟨x, hx, rfl⟩)
    exact (hf x (List.mem_cons_of_mem _ hx)).step nice ho (Nat.ne_of_lt hxi) (fun hR => by have := nice.lt _ _ hR; omega) hst fun j hj => by
      rcases List.mem_cons.1 hj with e | hj
      · exact .inl e
      · exact .inr hj
theorem Ca : ∀ (rs : List Rec) (s s' : S) (m : Nat), NR C ops rs s s' → (∀ r ∈ rs, r.b + 16 ≤ m) → Keeps (fun j => j < m) s s'
  | [], s, s', m, hc, _ => by cases hc; exact Keeps.refl _ _
  | r :: rs, s, s', m, ⟨s1, h1, _, _, h4⟩, hb => by
    have k1 := Jt h1
    have hb1 := hb r List.mem_cons_self
    have k1' : Keeps (fun j => j < m) s s1 := ⟨k1.nid, k1.n, k1.pins, fun j hj e => k1.nn j (fun hh => hj (by omega)) e⟩
    exact k1'.trans (Ca rs s1 s' m h4 fun x hx => hb x (List.mem_cons_of_mem _ hx))
theorem GoodL.places : ∀ {acc : List Rec}, GoodL C ops s0 b0 acc → acc.reverse.map (·.i) = List.range acc.length
  | [], _ => rfl
  | r :: acc, h => by
    rw [List.reverse_cons, List.map_append, GoodL.places h.1, List.length_cons, List.range_succ]
    simp [h.2.1]
theorem OS (hP : C.P = B.P) (hm : B.P.follows .mixedOrders = true) (hC : lI C B) {k : S → Option Ω} (he : evD C ops s ops.toList 0 s.nid [] s k = some q) (hfr : Fr s) {β : Beta} {a : Act} {w : World} (hst : St B β stk s a w)
    {id : Nat} {Q : Exit → Act → World → Prop} (hQ : ∀ β a w s', St B β stk s' a w → Fr s' → s'.n = s.n → s'.pins = s.pins → k s' = some q → Q .normal a w) : (Code.region id ops true).wp B.P Q a w := by
  obtain ⟨rs, s', h1, h2, h3, h4⟩ := Js (b0 := s.nid) ops.toList 0 s.nid [] s he trivial rfl rfl (by simp)
  simp only [List.append_nil, Nat.zero_add] at h2 h4
  have hn : rs.reverse.length = ops.size := by simpa using h3
  have hpl := h2.places
  rw [List.reverse_reverse, hn] at hpl
  have hfit : ∀ j, Fit ops (lj rs.reverse s.nid) (List.range ops.size) s j := fun j => h2.fit hn hfr
  have hrun := yL h2 hn rs s s' h1 (fun r hr => by simpa using hr) (by rw [hpl]; exact List.pairwise_lt_range) (fun r hr => by rw [hpl]; exact hfit _)
  rw [hpl] at hrun
  have hkeep : Keeps (fun j => j < s.nid + 16 * ops.toList.length) s s' := Ca rs s s' _ h1 fun r hr => by
    have hr' : r ∈ rs.reverse := by simpa using hr
    have e1 := (h2.F_nm hr').1
    have e2 := h2.lt r hr'
    rw [hn] at e2
    have : ops.toList.length = ops.size := by simp
    omega
  refine MD hP hm hC (h2.nice hn) hrun (fun j _ => hfit j) hst fun β a w h => ?_
  refine hQ β a w { s' with nid := s.nid + 16 * ops.toList.length } ⟨h.T, h.stack, h.n, h.defers, h.pins, h.gs, h.hs⟩ (fun j hj => ?_) hkeep.n hkeep.pins h4
  have hj : s.nid + 16 * ops.toList.length ≤ j := hj
  exact hkeep.nn j (by omega) (hfr j (by omega))
end
end Go.VS
namespace Go.VS
open Go
def AE (C : Cx) (B : Base) (inl : (Ω : Type) → Inl Ω) : Prop := ∀ (Ω : Type) (f : FuncId) (d : Option Nat) (as : List AV) (s : S) (k : S → Option Ω) (q : Ω), inl Ω f d as s k = some q →
  ∀ (β : Beta) (stk : List (Array Value)) (a : Act) (w : World) (o : Oper) (args : List Operand) (ts : Array TypeId) (K : Act → World → Prop) (Q : Exit → Act → World → Prop),
  St B β stk s a w → Fr s → s.has d = true → o.dst = d → as = args.map s.ev → o.op = .call { callee := .value (.func f), args := args.toArray, argTypes := ts } →
  (∀ β' u w' s', St B β' stk s' (a.put d u) w' → Fr s' → s'.n = s.n → s'.pins = s.pins → k s' = some q → K (a.put d u) w') → o.wp B.P a w K Q
theorem PT (C : Cx) (B : Base) : AE C B ae := by
  intro Ω f d as s k q h
  cases h
section
variable {C : Cx} {B : Base} {ops : Array Oper} {stk : List (Array Value)} {s s' : S} {Ω : Type} {q : Ω} {β : Beta} {a : Act} {w : World} {inl : (Ω : Type) → Inl Ω}
def QS (C : Cx) (o : Oper) : Prop := ∃ f c, o.op = .call c ∧ c.callee = .value (.func f) ∧ C.Γ f o.dst = none
theorem OR {o : Oper} {b : Nat} {k : S → Option Ω} (hn : ¬ QS C o) : evG C (inl Ω) ops o b s k = (ev1 C ops o b s).bind k := by
  have h : ∀ b s, ∀ k : S → Option Ω, dF C (inl Ω) o b s k = (dF C (ae S) o b s some).bind k := fun b s k => Jr _ fun f c h1 h2 h3 => absurd ⟨f, c, h1, h2, h3⟩ hn
  unfold ev1 evG
  split
  · exact h _ _ _
  · split
    · rfl
    · split
      · split
        · split <;> rfl
        · rfl
      · rfl
    · split
      · rename_i c _
        simp only [h]
        cases hh : s.has o.dst <;> (split <;> split <;> rfl)
      · split <;> rfl
      · rfl
theorem LB (hI : AE C B inl) {o : Oper} {b : Nat} {k : S → Option Ω} (hin : QS C o) (he : dF C (inl Ω) o b s k = some q) (hst : St B β stk s a w) (hfr : Fr s) {K : Act → World → Prop} {Q : Exit → Act → World → Prop}
    (hK : ∀ β' u w' s', St B β' stk s' (a.put o.dst u) w' → Fr s' → s'.n = s.n → s'.pins = s.pins → k s' = some q → K (a.put o.dst u) w') : o.wp B.P a w K Q := by
  obtain ⟨f, c, h1, h2, h3⟩ := hin
  obtain ⟨cal, ⟨args⟩, ⟨tys⟩⟩ := c
  simp only at h2
  subst h2
  unfold dF at he
  split at he
  · cases he
  rename_i hd
  simp only [h1, h3] at he
  exact hI Ω f o.dst _ s k q he β stk a w o args ⟨tys⟩ K Q hst hfr hd rfl rfl h1 hK
theorem Qm (hP : C.P = B.P) (hC : lI C B) (hI : AE C B inl) {i : Nat} {o : Oper} (hi : ops[i]? = some o) {k : S → Option Ω} (he : evG C (inl Ω) ops o s.nid s k = some q) (hst : St B β stk s a w) (hfr : Fr s) {K : Act → World → Prop} {Q : Exit → Act → World → Prop}
    (hK : ∀ β' u w' s', St B β' stk s' (a.put o.dst u) w' → (∀ j, s'.nid + 16 ≤ j → s'.H j = none) → s'.n = s.n → s'.pins = s.pins → k s' = some q → K (a.put o.dst u) w') : wpOp B.P ops Q i K a w := by
  by_cases hin : QS C o
  · have hK' : ∀ s1 : S, s1.n = s.n → s1.pins = s.pins → ∀ β' u w' s', St B β' stk s' (a.put o.dst u) w' → Fr s' → s'.n = s1.n → s'.pins = s1.pins → k s' = some q → K (a.put o.dst u) w' :=
      fun s1 e1 e2 β' u w' s' k1 k2 k3 k4 k5 => hK β' u w' s' k1 (fun j hj => k2 j (by omega)) (k3.trans e1) (k4.trans e2) k5
    unfold wpOp
    simp only [hi]
    unfold evG at he
    split at he
    · rename_i hg
      have hw : Region.wanted o (yielded ops a.tmps) = true := by simp [Region.wanted, hg]
      rw [if_pos hw]
      exact .inl (LB hI hin he hst hfr (hK' s rfl rfl))
    · rename_i j want hg
      have hwd : Region.wanted o (yielded ops a.tmps) = (yielded ops a.tmps j == some want) := by simp [Region.wanted, hg]
      rw [hwd]
      split at he
      · cases he
      · rename_i g hgd hsp
        split at he
        · rename_i qq v hhas hv
          obtain ⟨f, c, h1, h2, h3⟩ := hin
          obtain ⟨cal, ⟨args⟩, ⟨tys⟩⟩ := c
          simp only at h2
          subst h2
          simp only [h1, spA, h3] at hv
          cases hv
        · cases he
      · rename_i g hgd hsp
        split at he
        · rename_i c hT
          have htg : bA a g = .bool c := by have := hst.T g; rw [hT] at this; exact this
          have hy : yielded ops a.tmps j = some c := mT hgd htg
          rw [hy]
          have hn : ∀ w0 : Bool, c = w0 → St B β stk { s with T := upd s.T g (.b w0) } a w := by
            intro w0 e
            subst e
            rw [show ({ s with T := upd s.T g (.b c) } : S) = s by rw [Ni _ _ _ hT]]
            exact hst
          have yes : dF C (inl Ω) o s.nid { s with T := upd s.T g (.b want) } k = some q → c = want →
              (if (some c == some want) = true then o.wp B.P a w K Q ∨ (o.asks B.P a w ∧ LetsOut Q) else K (a.put o.dst undef) w) := by
            intro he e
            rw [if_pos (by simp [e])]
            exact .inl (LB hI hin he (hn want e) hfr (hK' _ rfl rfl))
          have no : (match s.has o.dst with
              | true => k (({ s with T := upd s.T g (.b (!want)) } : S).put o.dst qF)
              | false => none) = some q → c = !want →
              (if (some c == some want) = true then o.wp B.P a w K Q ∨ (o.asks B.P a w ∧ LetsOut Q) else K (a.put o.dst undef) w) := by
            intro he e
            rw [if_neg (by subst e; cases want <;> simp)]
            split at he
            · rename_i hhas
              refine hK β undef w _ ((hn (!want) e).put (by exact hhas) (v := qF) (u := undef) rfl (fun g' w1 x e => by cases e)) (fun j hj => ?_) ?_ ?_ he
              · have := hfr j (by cases hod : o.dst <;> rw [hod] at hj <;> exact Nat.le_trans (Nat.le_add_right _ 16) hj)
                cases o.dst <;> exact this
              · cases o.dst <;> rfl
              · cases o.dst <;> rfl
            · cases he
          cases want <;> cases c <;> simp only [if_true, if_false, Bool.false_eq_true] at he
          · exact yes he rfl
          · exact no he rfl
          · exact no he rfl
          · exact yes he rfl
        · rename_i vs hT
          have htg : bA a g = .tuple vs := by have := hst.T g; rw [hT] at this; exact this
          have hy : ¬ (yielded ops a.tmps j == some want) = true := by
            intro e
            have := mS hgd (show yielded ops a.tmps j = some want by simpa using e)
            rw [htg] at this; cases this
          rw [if_neg hy]
          split at he
          · rename_i hhas
            refine hK β undef w _ (hst.put hhas (v := qF) (u := undef) rfl (fun g' w1 x e => by cases e)) (fun j hj => ?_) ?_ ?_ he
            · have := hfr j (by cases hod : o.dst <;> rw [hod] at hj <;> exact Nat.le_trans (Nat.le_add_right _ 16) hj)
              cases o.dst <;> exact this
            · cases o.dst <;> rfl
            · cases o.dst <;> rfl
          · cases he
        · cases he
  · rw [OR hin] at he
    obtain ⟨s1, h1, h2⟩ := Option.bind_eq_some_iff.1 he
    have hk := Jt h1
    refine LQ hP hC hi hst (fun j hj _ => hfr j hj) h1 fun β' u w' h => hK β' u w' s1 h (fun j hj => hk.nn j (fun hh => ?_) (hfr j ?_)) hk.n hk.pins h2
    · rw [hk.nid] at hj; omega
    · rw [hk.nid] at hj; omega
theorem Jp (hP : C.P = B.P) (hC : lI C B) (hI : AE C B inl) {k : S → Option Ω} {Q : Exit → Act → World → Prop} {n : Nat} {p : List Nat}
    (hQ : ∀ β a w s', St B β stk s' a w → Fr s' → s'.n = n → s'.pins = p → k s' = some q → Q .normal a w) : ∀ (l : List Oper) (i : Nat) (s : S) (β : Beta) (a : Act) (w : World), (∀ j, l[j]? = ops[i + j]?) →
    Jq C (inl Ω) ops l s k = some q → St B β stk s a w → Fr s → s.n = n → s.pins = p → wpOps B.P ops Q (List.range' i l.length) a w
  | [], i, s, β, a, w, _, he, hst, hfr, hn, hp => hQ β a w s hst hfr hn hp he
  | o :: l, i, s, β, a, w, hl, he, hst, hfr, hn, hp => by
    rw [List.length_cons, List.range'_succ, wpOps_cons]
    have ho : ops[i]? = some o := by simpa using (hl 0).symm
    refine Qm hP hC hI ho (show evG C (inl Ω) ops o s.nid s (fun s => Jq C (inl Ω) ops l { s with nid := s.nid + 16 } k) = some q from he) hst hfr ?_
    intro β' u w' s' h1 h2 h3 h4 h5
    exact Jp hP hC hI hQ l (i + 1) { s' with nid := s'.nid + 16 } β' _ w' (fun j => by
      have := hl (j + 1)
      simpa [Nat.add_assoc, Nat.add_comm 1 j] using this) h5 ⟨h1.T, h1.stack, h1.n, h1.defers, h1.pins, h1.gs, h1.hs⟩ h2 (h3.trans hn) (h4.trans hp)
theorem LP (hP : C.P = B.P) (hC : lI C B) (hI : AE C B inl) {k : S → Option Ω} (he : Jq C (inl Ω) ops ops.toList s k = some q) (hfr : Fr s) (hst : St B β stk s a w)
    {id : Nat} {Q : Exit → Act → World → Prop} (hQ : ∀ β a w s', St B β stk s' a w → Fr s' → s'.n = s.n → s'.pins = s.pins → k s' = some q → Q .normal a w) : (Code.region id ops false).wp B.P Q a w := by
  refine wp_region ?_
  have := Jp hP hC hI hQ ops.toList 0 s β a w (by simp) he hst hfr rfl rfl
  rw [List.range_eq_range', ← Array.length_toList]
  exact this
end
end Go.VS
namespace Go.VS
open Go
def Imm (w : World) (M : Nat → Prop) (c : AV) (v : Value) : Prop := ∀ β : Beta, (∀ b, MZ β b → M b) → RC w β c v
mutual
def Rel (P : Program) (w : World) (M : Nat → Prop) (e : Nat → Value) : (h : Sh) → LT h → Value → List (Value × Nat) → Prop
  | .int k, n, v, os => v = .int k n ∧ os = []
  | .bool, x, v, os => v = .bool x ∧ os = []
  | .str, s, v, os => v = .string s ∧ os = []
  | .sl k, xs, v, os => Imm w M (.sl k xs) v ∧ os = []
  | .fz k, xs, v, os => Imm w M (.sl k xs) v ∧ os = []
  | .row t k, xs, v, os => os = [(v, xs.length)] ∧ OJ v = true ∧ ∀ β : Beta, (∀ b, MZ β b → M b) → RowOK w β t false k xs v
  | .rowz t k, xs, v, os => os = [(v, xs.length)] ∧ OJ v = true ∧ ∀ β : Beta, (∀ b, MZ β b → M b) → RowOK w β t true k xs v
  | .abx t k, xs, v, os => os = [(v, xs.length)] ∧ 1 ≤ xs.length ∧ ∃ b us, v = .pointer (some ⟨b, 0, none⟩) ∧ w.heap[b]? = some (.cells us t (0, 0)) ∧ us.size = xs.length * ks k ∧ us.size = P.cellsOf t ∧
      (∀ β : Beta, (∀ b, MZ β b → M b) → ∀ i x j c u, xs[i]? = some x → (enc k x)[j]? = some c → us[i * ks k + j]? = some u → RC w β c u)
  | .arr k, xs, v, os => os = [] ∧ ∀ β : Beta, (∀ b, MZ β b → M b) → R1 w β (.arr k xs) v
  | .same t, _, v, os => os = [] ∧ v = e t ∧ v.oneCell' = true
  | .agg l, x, v, os => ∃ us : List Value, v = .agg us.toArray ∧ Rels P w M e l x us os
  | .box t l, x, v, os => ∃ b us os', v = .pointer (some ⟨b, 0, none⟩) ∧ w.heap[b]? = some (.cells us t (0, 0)) ∧ Rels P w M e l x us.toList os' ∧ os = os' ++ [(v, 1)]
def Rels (P : Program) (w : World) (M : Nat → Prop) (e : Nat → Value) : (l : List Sh) → LTs l → List Value → List (Value × Nat) → Prop
  | [], _, us, os => us = [] ∧ os = []
  | h :: l, x, us, os => ∃ u us' o1 o2, us = u :: us' ∧ os = o1 ++ o2 ∧ Rel P w M e h x.1 u o1 ∧ Rels P w M e l x.2 us' o2
end
def mR (p : Value × Nat) : Option Nat := (adr p.1).map (·.block)
abbrev aL (os : List (Value × Nat)) : List Nat := os.filterMap mR
mutual
def yK : Sh → List Nat
  | .same t => [t]
  | .agg l => jZ l
  | .box _ l => jZ l
  | _ => []
def jZ : List Sh → List Nat
  | [] => []
  | h :: l => yK h ++ jZ l
end
section
variable {B : Base} {β β' : Beta} {H : Hp} {w w' : World} {M : Nat → Prop} {E : Nat → AV} {e : Nat → Value}
theorem RC.imm' {c : AV} {v : Value} (h : RC w β c v) (hc : noRef c = true) (hM : ∀ b, M b → MZ β b) : Imm w M c v := fun β' hβ' =>
  RC.imm (fun _ _ _ _ h => h) (fun b hb _ hm => hb (hM b (hβ' b hm))) h hc
theorem RowOK.imm {t : TypeId} {fz : Bool} {k : K} {xs : List (Tof k)} {v : Value} (h : RowOK w β t fz k xs v) (hM : ∀ b, M b → MZ β b) : ∀ β' : Beta, (∀ b, MZ β' b → M b) → RowOK w β' t fz k xs v := by
  intro β' hβ'
  rcases h with h | ⟨b, f, cap, us, fr, h1, h2, h3, h4, h5, h6, h7⟩
  · exact .inl h
  · exact .inr ⟨b, f, cap, us, fr, h1, h2, h3, h4, h5, h6, fun i x j c u a1 a2 a3 => (h7 i x j c u a1 a2 a3).imm' (b8 k x a2) hM β' hβ'⟩
theorem RowOK.toSl {t : TypeId} {fz : Bool} {k : K} {xs : List (Tof k)} {v : Value} (h : RowOK w β t fz k xs v) (hM : ∀ b, M b → MZ β b) (hn : ∀ a, adr v = some a → ¬ M a.block) : Imm w M (.sl k xs) v := by
  intro β' hβ'
  rcases h with ⟨rfl, rfl⟩ | ⟨b, f, cap, us, fr, rfl, hh, hfr, hn', hc, hs, hr⟩
  · exact .nil
  · have hcell : ∀ i j, i < xs.length → j < ks k → f + (i * ks k + j) < us.size := by
      intro i j hi hj
      have h1 : (i + 1) * ks k ≤ cap * ks k := Nat.mul_le_mul_right _ (by omega)
      rw [Nat.add_mul] at h1
      omega
    refine .sl (fun i j => us.getD (f + (i * ks k + j)) undef) ⟨rfl, hn'⟩ (fun hm => hn _ rfl (hβ' _ hm)) (fun i j hi hj => ?_) (fun i x j c h2 h3 => ?_)
    · rw [cell_of_row w b _ us t fr hh]
      have := hcell i j hi hj
      simp [this]
    · have hi : i < xs.length := (List.getElem?_eq_some_iff.1 h2).1
      have hj : j < ks k := by rw [← az k x]; exact (List.getElem?_eq_some_iff.1 h3).1
      have := hcell i j hi hj
      exact (hr i x j c (us.getD (f + (i * ks k + j)) undef) h2 h3 (by simp [this])).imm' (b8 k x h3) hM β' hβ'
theorem R1.lits {v' v : Value} (h : R1 w β (.lit v') v) : v = v' := h
theorem R1.sls {k : K} {xs : List (Tof k)} {v : Value} (h : R1 w β (.sl k xs) v) : RC w β (.sl k xs) v := h
theorem R1.owns {id : Nat} {v : Value} (h : R1 w β (.own id) v) : RC w β (.own id) v := h
theorem R1.ptrs {id z i o : Nat} {v : Value} (h : R1 w β (.ptr id z i o) v) : RC w β (.ptr id z i o) v := h
structure RdOK (B : Base) (β : Beta) (H : Hp) (w : World) (M : Nat → Prop) (E : Nat → AV) (e : Nat → Value) : Prop where
  hs : Hs B β H w
  hM : ∀ b, M b → MZ β b
  hE : ∀ t id z, E t = .ptr id z 0 0 → R1 w β (E t) (e t)
def JC (β : Beta) (M : Nat → Prop) (ids : List Nat) : Prop := ∀ i ∈ ids, ∀ p a, β i = some p → adr p.1 = some a → ¬ M a.block
theorem JV (R : RdOK B β H w M E e) {id : Nat} {t : TypeId} {fz : Bool} {k : K} {xs : List (Tof k)} {v : Value} (hv : RC w β (.own id) v) (hid : H id = some (.row t fz k xs)) :
    OJ v = true ∧ β id = some (v, xs.length) ∧ RowOK w β t fz k xs v := by
  cases hv with
  | own h hs =>
    obtain ⟨hd, h1, h2⟩ := R.hs.objs id _ hid
    rw [h] at h1
    cases h1
    exact ⟨hs, h, h2⟩
mutual
theorem ER (R : RdOK B β H w M E e) : ∀ (h : Sh) (c : AV) (v : Value) (x : LT h), R1 w β c v → bL E H h c = some x → JC β M (dQ H h c) →
    ∃ os, Rel B.P w M e h x v os ∧ aL os = aL ((dt H h c).filterMap β)
  | .int k, c, v, x, hv, hx, _ => by
    cases c with
    | lit v' =>
      cases v' <;> first | (simp [bL] at hx; done) | skip
      simp only [bL] at hx
      split at hx
      · rename_i e1
        simp at e1
        subst e1
        cases hx
        exact ⟨[], ⟨hv.lits, rfl⟩, rfl⟩
      · cases hx
    | _ => simp [bL] at hx
  | .bool, c, v, x, hv, hx, _ => by
    cases c with
    | lit v' =>
      cases v' <;> first | (simp [bL] at hx; done) | skip
      simp only [bL] at hx
      cases hx
      exact ⟨[], ⟨hv.lits, rfl⟩, rfl⟩
    | _ => simp [bL] at hx
  | .str, c, v, x, hv, hx, _ => by
    cases c with
    | lit v' =>
      cases v' <;> first | (simp [bL] at hx; done) | skip
      simp only [bL] at hx
      cases hx
      exact ⟨[], ⟨hv.lits, rfl⟩, rfl⟩
    | _ => simp [bL] at hx
  | .sl k, c, v, x, hv, hx, _ => by
    cases c with
    | sl k' xs =>
      obtain ⟨e1, rfl⟩ := cC (show qr k' k xs = some x from hx)
      subst e1
      exact ⟨[], ⟨hv.sls.imm' rfl R.hM, rfl⟩, rfl⟩
    | lit v' =>
      cases v' with
      | slice a n cap =>
        cases a <;> cases n <;> cases cap <;> simp [bL] at hx
        subst hx
        have := hv.lits
        subst this
        exact ⟨[], ⟨fun _ _ => .nil, rfl⟩, rfl⟩
      | _ => simp [bL] at hx
    | _ => simp [bL] at hx
  | .fz k, c, v, x, hv, hx, hf => by
    cases c with
    | sl k' xs =>
      obtain ⟨e1, rfl⟩ := cC (show qr k' k xs = some x from hx)
      subst e1
      exact ⟨[], ⟨hv.sls.imm' rfl R.hM, rfl⟩, rfl⟩
    | lit v' =>
      cases v' with
      | slice a n cap =>
        cases a <;> cases n <;> cases cap <;> simp [bL, cT] at hx
        subst hx
        have := hv.lits
        subst this
        exact ⟨[], ⟨fun _ _ => .nil, rfl⟩, rfl⟩
      | _ => simp [bL, cT] at hx
    | own id =>
      simp only [bL, cT] at hx
      split at hx
      · rename_i t fz k' ys hid
        obtain ⟨e1, rfl⟩ := cC hx
        subst e1
        obtain ⟨h1, h2, h3⟩ := JV R hv.owns hid
        exact ⟨[], ⟨h3.toSl R.hM fun a ha => hf id (by simp [dQ]) _ a h2 ha, rfl⟩, rfl⟩
      · cases hx
    | _ => simp [bL, cT] at hx
  | .row t k, c, v, x, hv, hx, _ => by
    cases c with
    | lit v' =>
      cases v' with
      | slice a n cap =>
        cases a <;> cases n <;> cases cap <;> simp [bL] at hx
        subst hx
        have := hv.lits
        subst this
        exact ⟨[(.slice none 0 0, 0)], ⟨rfl, rfl, fun _ _ => .inl ⟨rfl, rfl⟩⟩, rfl⟩
      | _ => simp [bL] at hx
    | own id =>
      simp only [bL] at hx
      split at hx
      · rename_i t' k' ys hid
        split at hx
        · rename_i ht
          obtain rfl := ak ht
          obtain ⟨e1, rfl⟩ := cC hx
          subst e1
          obtain ⟨h1, h2, h3⟩ := JV R hv.owns hid
          exact ⟨[(v, ys.length)], ⟨rfl, h1, h3.imm R.hM⟩, by simp [dt, h2]⟩
        · cases hx
      · cases hx
    | _ => simp [bL] at hx
  | .rowz t k, c, v, x, hv, hx, _ => by
    cases c with
    | own id =>
      simp only [bL] at hx
      split at hx
      · rename_i t' k' ys hid
        split at hx
        · rename_i ht
          obtain rfl := ak ht
          obtain ⟨e1, rfl⟩ := cC hx
          subst e1
          obtain ⟨h1, h2, h3⟩ := JV R hv.owns hid
          exact ⟨[(v, ys.length)], ⟨rfl, h1, h3.imm R.hM⟩, by simp [dt, h2]⟩
        · cases hx
      · cases hx
    | _ => simp [bL] at hx
  | .abx t k, c, v, x, hv, hx, _ => by
    cases c with
    | ptr id z i o =>
      cases i <;> cases o <;> simp only [bL] at hx <;> first | (cases hx; done) | skip
      split at hx
      · rename_i t' k' ys hid
        split at hx
        · rename_i ht
          simp only [Bool.and_eq_true] at ht
          obtain rfl := ak ht.1
          obtain ⟨e1, rfl⟩ := cC hx
          subst e1
          have hv := hv.ptrs
          cases hv with
          | @ptr _ _ _ _ hd n b f h1 ha hi =>
            obtain ⟨b', us, k1, k2, k3, k4, k5⟩ := R.hs.objs id _ hid
            rw [h1] at k1
            cases k1
            cases ha
            have e0 : 0 * z = 0 := Nat.zero_mul z
            refine ⟨[(.pointer (some ⟨b, 0, none⟩), ys.length)], ⟨?_, hi, b, us, ?_, k2, k3, k4, fun β' hβ' i x j c u a1 a2 a3 => (k5 i x j c u a1 a2 a3).imm' (b8 k' x a2) R.hM β' hβ'⟩, by simp [dt, h1]⟩
            · simp
            · simp
        · cases hx
      · cases hx
    | _ => simp [bL] at hx
  | .arr k, c, v, x, hv, hx, _ => by
    cases c with
    | arr k' xs =>
      obtain ⟨e1, rfl⟩ := cC (show qr k' k xs = some x from hx)
      subst e1
      obtain ⟨us, k1, k2, k3⟩ := hv
      exact ⟨[], ⟨rfl, fun β' hβ' => ⟨us, k1, k2, fun i x j c u a1 a2 a3 => (k3 i x j c u a1 a2 a3).imm' (b8 k' x a2) R.hM β' hβ'⟩⟩, rfl⟩
    | _ => simp [bL] at hx
  | .same t, c, v, x, hv, hx, _ => by
    cases c with
    | ptr id z i o =>
      cases i <;> cases o <;> simp only [bL] at hx <;> first | (cases hx; done) | skip
      split at hx
      · rename_i id' z' hE
        split at hx
        · rename_i hid
          obtain rfl := ak hid
          have h2 := R.hE t _ _ hE
          rw [hE] at h2
          have h2 := h2.ptrs
          have h1 := hv.ptrs
          refine ⟨[], ⟨rfl, ?_, h1.one⟩, rfl⟩
          generalize e t = v2 at h2
          cases h1 with
          | ptr a1 a2 a3 =>
            cases h2 with
            | ptr b1 b2 b3 =>
              rw [a1] at b1
              cases b1
              rw [a2] at b2
              cases b2
              simp
        · cases hx
      · cases hx
    | _ => simp [bL] at hx
  | .agg l, c, v, x, hv, hx, hf => by
    cases c with
    | agg cs =>
      obtain ⟨us, rfl, hr⟩ := hv
      obtain ⟨os, h1, h2⟩ := AP R l cs us x hr hx hf
      exact ⟨os, ⟨us, rfl, h1⟩, h2⟩
    | _ => simp [bL] at hx
  | .box t l, c, v, x, hv, hx, hf => by
    cases c with
    | ptr id z i o =>
      cases i <;> cases o <;> simp only [bL] at hx <;> first | (cases hx; done) | skip
      split at hx
      · rename_i t' cs hid
        split at hx
        · rename_i ht
          obtain rfl := ak ht
          have hv := hv.ptrs
          cases hv with
          | @ptr _ _ _ _ hd n b f h1 ha hi =>
            obtain ⟨b', us, k1, k2, k3⟩ := R.hs.objs id _ hid
            rw [h1] at k1
            cases k1
            cases ha
            obtain ⟨os, j1, j2⟩ := AP R l cs us.toList x k3 hx (by simpa only [dQ, hid] using hf)
            refine ⟨os ++ [(.pointer (some ⟨b, 0, none⟩), 1)], ⟨b, us, os, by simp, k2, j1, by simp⟩, ?_⟩
            have : dt H (.box t l) (.ptr id z 0 0) = aQ H l cs ++ [id] := by simp only [dt, hid]
            rw [this]
            simp only [aL, List.filterMap_append] at j2 ⊢
            rw [j2]
            simp [h1]
        · cases hx
      · cases hx
    | _ => simp [bL] at hx
theorem AP (R : RdOK B β H w M E e) : ∀ (l : List Sh) (cs : List AV) (us : List Value) (x : LTs l), RL (RC w β) cs us → j0 E H l cs = some x → JC β M (b7 H l cs) →
    ∃ os, Rels B.P w M e l x us os ∧ aL os = aL ((aQ H l cs).filterMap β)
  | [], [], us, x, hr, hx, _ => ⟨[], ⟨hr.of_nil, rfl⟩, rfl⟩
  | [], _ :: _, us, x, hr, hx, _ => by cases hx
  | _ :: _, [], us, x, hr, hx, _ => by cases hx
  | h :: l, c :: cs, us, x, hr, hx, hf => by
    obtain ⟨u, us', rfl, h1, h2⟩ := hr.uncons
    obtain ⟨x1, e1, hx⟩ := Option.bind_eq_some_iff.1 hx
    obtain ⟨x2, e2, hx⟩ := Option.bind_eq_some_iff.1 hx
    cases hx
    obtain ⟨o1, j1, j2⟩ := ER R h c u x1 (R1.of_RC h1) e1 (fun i hi => hf i (List.mem_append_left _ hi))
    obtain ⟨o2, j3, j4⟩ := AP R l cs us' x2 h2 e2 (fun i hi => hf i (List.mem_append_right _ hi))
    refine ⟨o1 ++ o2, ⟨u, us', o1, o2, rfl, rfl, j1, j3⟩, ?_⟩
    simp only [aL, List.filterMap_append, aQ] at j2 j4 ⊢
    rw [j2, j4]
end
theorem qN (R : RdOK B β H w M E e) : ∀ (l : List Sh) (cs : List AV) (us : List Value) (x : LTs l), RL (R1 w β) cs us → j0 E H l cs = some x → JC β M (b7 H l cs) →
    ∃ os, Rels B.P w M e l x us os ∧ aL os = aL ((aQ H l cs).filterMap β)
  | [], [], us, x, hr, hx, _ => ⟨[], ⟨hr.of_nil, rfl⟩, rfl⟩
  | [], _ :: _, us, x, hr, hx, _ => by cases hx
  | _ :: _, [], us, x, hr, hx, _ => by cases hx
  | h :: l, c :: cs, us, x, hr, hx, hf => by
    obtain ⟨u, us', rfl, h1, h2⟩ := hr.uncons
    obtain ⟨x1, e1, hx⟩ := Option.bind_eq_some_iff.1 hx
    obtain ⟨x2, e2, hx⟩ := Option.bind_eq_some_iff.1 hx
    cases hx
    obtain ⟨o1, j1, j2⟩ := ER R h c u x1 h1 e1 (fun i hi => hf i (List.mem_append_left _ hi))
    obtain ⟨o2, j3, j4⟩ := qN R l cs us' x2 h2 e2 (fun i hi => hf i (List.mem_append_right _ hi))
    refine ⟨o1 ++ o2, ⟨u, us', o1, o2, rfl, rfl, j1, j3⟩, ?_⟩
    simp only [aL, List.filterMap_append, aQ] at j2 j4 ⊢
    rw [j2, j4]
end
end Go.VS
namespace Go.VS
open Go
section
variable {P : Program} {β : Beta} {H : Hp} {w : World} {M : Nat → Prop} {E : Nat → AV} {e : Nat → Value} {b : Nat}
def MkOK (P : Program) (w : World) (β : Beta) (H H' : Hp) (b n : Nat) : Prop :=
  (∀ j, j < b ∨ b + n ≤ j → H' j = H j) ∧ (∀ j, b ≤ j → j < b + n → ∃ ob, H' j = some ob ∧ ObOK P w β j ob)
theorem MkOK.nil : MkOK P w β H H b 0 := ⟨fun _ _ => rfl, fun j h1 h2 => by omega⟩
theorem MkOK.one {ob : Ob} (h : ObOK P w β b ob) : MkOK P w β H (upd H b (some ob)) b 1 := by
  refine ⟨fun j hj => al _ _ (by omega), fun j h1 h2 => ?_⟩
  have : j = b := by omega
  subst this
  exact ⟨ob, ai _ _ _, h⟩
theorem MkOK.trans {H' H'' : Hp} {n m : Nat} (h : MkOK P w β H H' b n) (k : MkOK P w β H' H'' (b + n) m) : MkOK P w β H H'' b (n + m) := by
  refine ⟨fun j hj => ?_, fun j h1 h2 => ?_⟩
  · rw [k.1 j (by omega), h.1 j (by omega)]
  · by_cases e : j < b + n
    · obtain ⟨ob, k1, k2⟩ := h.2 j h1 e
      exact ⟨ob, by rw [k.1 j (.inl e)]; exact k1, k2⟩
    · exact k.2 j (by omega) (by omega)
def Num (β : Beta) (b : Nat) (os : List (Value × Nat)) : Prop := ∀ i p, os[i]? = some p → β (b + i) = some p
theorem Num.left {o1 o2 : List (Value × Nat)} (h : Num β b (o1 ++ o2)) : Num β b o1 := fun i p hp => h i p (by
  rw [List.getElem?_append_left (List.getElem?_eq_some_iff.1 hp).1]; exact hp)
theorem Num.right {o1 o2 : List (Value × Nat)} (h : Num β b (o1 ++ o2)) : Num β (b + o1.length) o2 := fun i p hp => by
  have := h (o1.length + i) p (by rw [List.getElem?_append_right (by omega)]; simpa using hp)
  rw [Nat.add_assoc]; exact this
theorem Num.one {p : Value × Nat} {os : List (Value × Nat)} (h : Num β b (os ++ [p])) : β (b + os.length) = some p := by
  have := h.right 0 p rfl
  simpa using this
def Hx (w : World) (β : Beta) (E : Nat → AV) (e : Nat → Value) (ts : List Nat) : Prop := ∀ t ∈ ts, R1 w β (E t) (e t)
theorem R1.toRC {c : AV} {v : Value} (h : R1 w β c v) (h1 : v.oneCell' = true) : RC w β c v := by
  cases c with
  | un => exact .un h1
  | lit v' => have := h.lits; subst this; exact .lit h1
  | sl k xs => exact h
  | own id => exact h
  | ptr a b c d => exact h
  | ipt a b c => exact h
  | arr k xs => obtain ⟨us, rfl, _⟩ := h; cases h1
  | agg cs => obtain ⟨us, rfl, _⟩ := h; cases h1
  | tup vs => exact h.elim
  | gd a b c => exact h.elim
mutual
theorem Np (hM : ∀ b, MZ β b → M b) : ∀ (h : Sh) (H : Hp) (b : Nat) (x : LT h) (v : Value) (os : List (Value × Nat)), lb h = true → Rel P w M e h x v os → Num β b os → Hx w β E e (yK h) →
    RC w β (aX E H b h x).1 v ∧ (aX E H b h x).2.2 = b + os.length ∧ MkOK P w β H (aX E H b h x).2.1 b os.length
  | .int k, H, b, x, v, os, _, hr, _, _ => by obtain ⟨rfl, rfl⟩ := hr; exact ⟨.lit rfl, rfl, .nil⟩
  | .bool, H, b, x, v, os, _, hr, _, _ => by obtain ⟨rfl, rfl⟩ := hr; exact ⟨.lit rfl, rfl, .nil⟩
  | .str, H, b, x, v, os, _, hr, _, _ => by obtain ⟨rfl, rfl⟩ := hr; exact ⟨.lit rfl, rfl, .nil⟩
  | .sl k, H, b, x, v, os, _, hr, _, _ => by obtain ⟨h1, rfl⟩ := hr; exact ⟨h1 β hM, rfl, .nil⟩
  | .fz k, H, b, x, v, os, _, hr, _, _ => by obtain ⟨h1, rfl⟩ := hr; exact ⟨h1 β hM, rfl, .nil⟩
  | .row t k, H, b, x, v, os, _, hr, hn, _ => by
    obtain ⟨rfl, h1, h2⟩ := hr
    have hb : β b = some (v, x.length) := hn.one (os := [])
    exact ⟨.own hb h1, rfl, .one ⟨v, hb, h2 β hM⟩⟩
  | .rowz t k, H, b, x, v, os, _, hr, hn, _ => by
    obtain ⟨rfl, h1, h2⟩ := hr
    have hb : β b = some (v, x.length) := hn.one (os := [])
    exact ⟨.own hb h1, rfl, .one ⟨v, hb, h2 β hM⟩⟩
  | .abx t k, H, b, x, v, os, _, hr, hn, _ => by
    obtain ⟨rfl, h1, bb, us, rfl, h3, h4, h5, h6⟩ := hr
    have hb : β b = some (.pointer (some ⟨bb, 0, none⟩), x.length) := hn.one (os := [])
    refine ⟨?_, rfl, .one ⟨bb, us, hb, h3, h4, h5, h6 β hM⟩⟩
    have := RC.ptr (w := w) (sz := ks k) (o := 0) hb (rfl : adr (.pointer (some ⟨bb, 0, none⟩)) = some ⟨bb, 0, none⟩) (i := 0) (by omega)
    show RC w β (.ptr b (ks k) 0 0) _
    simpa using this
  | .arr _, _, _, _, _, _, h, _, _, _ => by simp [lb] at h
  | .agg _, _, _, _, _, _, h, _, _, _ => by simp [lb] at h
  | .same t, H, b, x, v, os, _, hr, _, hs => by
    obtain ⟨rfl, rfl, h1⟩ := hr
    refine ⟨?_, rfl, .nil⟩
    exact (hs t (by simp [yK])).toRC h1
  | .box t l, H, b, x, v, os, hl, hr, hn, hs => by
    obtain ⟨bb, us, os', rfl, h2, h3, rfl⟩ := hr
    have un : aX E H b (.box t l) x = (match ah E H b l x with | (cs, H, b) => (AV.ptr b cs.length 0 0, upd H b (some (.box t cs)), b + 1)) := rfl
    obtain ⟨k1, k2, k3⟩ := yU hM l H b x us.toList os' (by simpa [lb] using hl) h3 hn.left (by simpa [yK] using hs)
    rw [un]
    generalize ah E H b l x = r at *
    obtain ⟨cs, H', b'⟩ := r
    simp only at k1 k2 k3
    subst k2
    have hb := hn.one
    refine ⟨?_, by simp [Nat.add_assoc], ?_⟩
    · have := RC.ptr (w := w) (sz := cs.length) (o := 0) hb (rfl : adr (.pointer (some ⟨bb, 0, none⟩)) = some ⟨bb, 0, none⟩) (i := 0) (by omega)
      simpa using this
    · rw [List.length_append]
      exact k3.trans (.one ⟨bb, us, hb, h2, k1⟩)
theorem yU (hM : ∀ b, MZ β b → M b) : ∀ (l : List Sh) (H : Hp) (b : Nat) (x : LTs l) (us : List Value) (os : List (Value × Nat)), nd l = true → Rels P w M e l x us os → Num β b os → Hx w β E e (jZ l) →
    RL (RC w β) (ah E H b l x).1 us ∧ (ah E H b l x).2.2 = b + os.length ∧ MkOK P w β H (ah E H b l x).2.1 b os.length
  | [], H, b, x, us, os, _, hr, _, _ => by obtain ⟨rfl, rfl⟩ := hr; exact ⟨.nil, rfl, .nil⟩
  | h :: l, H, b, x, us, os, hl, hr, hn, hs => by
    obtain ⟨u, us', o1, o2, rfl, rfl, h1, h2⟩ := hr
    simp only [nd, Bool.and_eq_true] at hl
    have un : ah E H b (h :: l) x = (match aX E H b h x.1 with | (c, H, b) => match ah E H b l x.2 with | (cs, H, b) => (c :: cs, H, b)) := rfl
    obtain ⟨k1, k2, k3⟩ := Np hM h H b x.1 u o1 hl.1 h1 hn.left (fun t ht => hs t (List.mem_append_left _ ht))
    rw [un]
    generalize aX E H b h x.1 = r at *
    obtain ⟨c, H', b'⟩ := r
    simp only at k1 k2 k3 ⊢
    subst k2
    obtain ⟨j1, j2, j3⟩ := yU hM l H' (b + o1.length) x.2 us' o2 hl.2 h2 hn.right (fun t ht => hs t (List.mem_append_right _ ht))
    generalize ah E H' (b + o1.length) l x.2 = r at *
    obtain ⟨cs, H'', b''⟩ := r
    simp only at j1 j2 j3 ⊢
    subst j2
    refine ⟨.cons k1 j1, by simp [Nat.add_assoc], ?_⟩
    rw [List.length_append]
    exact k3.trans j3
end
theorem No (hM : ∀ b, MZ β b → M b) (h : Sh) (H : Hp) (b : Nat) (x : LT h) (v : Value) (os : List (Value × Nat)) (ht : R5 h = true) (hr : Rel P w M e h x v os) (hn : Num β b os) (hs : Hx w β E e (yK h)) :
    R1 w β (aX E H b h x).1 v ∧ (aX E H b h x).2.2 = b + os.length ∧ MkOK P w β H (aX E H b h x).2.1 b os.length := by
  by_cases hh : lb h = true
  · obtain ⟨h1, h2, h3⟩ := Np hM h H b x v os hh hr hn hs
    exact ⟨.of_RC h1, h2, h3⟩
  · cases h <;> first | (exact absurd ht hh; done) | skip
    case agg l =>
      obtain ⟨us, rfl, h1⟩ := hr
      have un : aX E H b (.agg l) x = (match ah E H b l x with | (cs, H, b) => (AV.agg cs, H, b)) := rfl
      obtain ⟨k1, k2, k3⟩ := yU hM l H b x us os ht h1 hn hs
      rw [un]
      generalize ah E H b l x = r at *
      obtain ⟨cs, H', b'⟩ := r
      exact ⟨⟨us, rfl, k1⟩, k2, k3⟩
    case arr k =>
      obtain ⟨rfl, h1⟩ := hr
      exact ⟨h1 β hM, rfl, .nil⟩
theorem Fw (hM : ∀ b, MZ β b → M b) : ∀ (l : List Sh) (H : Hp) (b : Nat) (x : LTs l) (us : List Value) (os : List (Value × Nat)), sG l = true → Rels P w M e l x us os → Num β b os → Hx w β E e (jZ l) →
    RL (R1 w β) (ah E H b l x).1 us ∧ (ah E H b l x).2.2 = b + os.length ∧ MkOK P w β H (ah E H b l x).2.1 b os.length
  | [], H, b, x, us, os, _, hr, _, _ => by obtain ⟨rfl, rfl⟩ := hr; exact ⟨.nil, rfl, .nil⟩
  | h :: l, H, b, x, us, os, hl, hr, hn, hs => by
    obtain ⟨u, us', o1, o2, rfl, rfl, h1, h2⟩ := hr
    simp only [sG, Bool.and_eq_true] at hl
    have un : ah E H b (h :: l) x = (match aX E H b h x.1 with | (c, H, b) => match ah E H b l x.2 with | (cs, H, b) => (c :: cs, H, b)) := rfl
    obtain ⟨k1, k2, k3⟩ := No hM h H b x.1 u o1 hl.1 h1 hn.left (fun t ht => hs t (List.mem_append_left _ ht))
    rw [un]
    generalize aX E H b h x.1 = r at *
    obtain ⟨c, H', b'⟩ := r
    simp only at k1 k2 k3 ⊢
    subst k2
    obtain ⟨j1, j2, j3⟩ := Fw hM l H' (b + o1.length) x.2 us' o2 hl.2 h2 hn.right (fun t ht => hs t (List.mem_append_right _ ht))
    generalize ah E H' (b + o1.length) l x.2 = r at *
    obtain ⟨cs, H'', b''⟩ := r
    simp only at j1 j2 j3 ⊢
    subst j2
    refine ⟨.cons k1 j1, by simp [Nat.add_assoc], ?_⟩
    rw [List.length_append]
    exact k3.trans j3
end
end Go.VS
namespace Go.VS
open Go
theorem qO : ∀ {l : List Nat}, B2 l = true → l.Nodup
  | [], _ => List.nodup_nil
  | a :: l, h => by
    simp only [B2, Bool.and_eq_true, Bool.not_eq_true'] at h
    refine List.nodup_cons.2 ⟨fun hm => ?_, qO h.2⟩
    have : (l.any fun b => Nat.beq a b) = true := List.any_eq_true.2 ⟨a, hm, by simp⟩
    rw [this] at h
    cases h.1
theorem Ln {l m : List Nat} (h : off l m = true) : ∀ a ∈ l, a ∉ m := fun a ha hm => by
  have h1 := List.all_eq_true.1 h a ha
  have : (m.any fun b => Nat.beq a b) = true := List.any_eq_true.2 ⟨a, hm, by simp⟩
  rw [this] at h1
  cases h1
section
variable {B : Base} {β β' : Beta} {H H' : Hp} {w w' : World} {M : Nat → Prop} {E : Nat → AV} {e : Nat → Value} {stk : List (Array Value)} {s s' : S} {a : Act}
theorem lc {ids : List Nat} {b : Nat} (h : b ∈ aL (ids.filterMap β)) : ∃ i ∈ ids, ∃ p a, β i = some p ∧ adr p.1 = some a ∧ a.block = b := by
  obtain ⟨p, hp, hb⟩ := List.mem_filterMap.1 h
  obtain ⟨i, hi, hβ⟩ := List.mem_filterMap.1 hp
  obtain ⟨a, ha, e⟩ := Option.map_eq_some_iff.1 hb
  exact ⟨i, hi, p, a, hβ, ha, e⟩
theorem rb (hH : Hs B β H w) : ∀ {ids : List Nat}, ids.Nodup → (aL (ids.filterMap β)).Nodup
  | [], _ => List.nodup_nil
  | i :: ids, h => by
    obtain ⟨h1, h2⟩ := List.nodup_cons.1 h
    have ih := rb hH h2
    cases hβ : β i with
    | none => simpa [hβ] using ih
    | some p =>
      cases hb : mR p with
      | none => simpa [hβ, hb] using ih
      | some b =>
        simp only [aL, List.filterMap_cons, hβ, hb]
        refine List.nodup_cons.2 ⟨fun hm => ?_, ih⟩
        obtain ⟨j, hj, q, a', hq, ha', e'⟩ := lc hm
        obtain ⟨a, ha, e⟩ := Option.map_eq_some_iff.1 hb
        have := hH.inj i j p q a a' hβ hq ha ha' (by rw [e, e'])
        subst this
        exact h1 hj
theorem AC {ids : List Nat} {b : Nat} (h : b ∈ aL (ids.filterMap β)) : MB β b := by
  obtain ⟨i, _, p, a, h1, h2, h3⟩ := lc h
  exact ⟨i, p.1, p.2, a, h1, h2, h3⟩
abbrev MO (B : Base) (l : List Nat) (b : Nat) : Prop := b ∈ l ∨ B.Z b
theorem RW (hH : Hs B β H w) {ids : List Nat} {b : Nat} (h : MO B (aL (ids.filterMap β)) b) : MZ β b := by
  rcases h with h | h
  · exact .inl (AC h)
  · exact .inr (by rw [hH.z]; exact h)
theorem Gf (hH : Hs B β H w) {fz ids : List Nat} (h : off fz ids = true) : JC β (MO B (aL (ids.filterMap β))) fz := by
  intro i hi p a hp ha hm
  rcases hm with hm | hm
  case inr => rw [← hH.z] at hm; exact hH.zn i p a hp ha hm
  obtain ⟨j, hj, q, a', hq, ha', e⟩ := lc hm
  have := hH.inj i j p q a a' hp hq ha ha' e.symm
  subst this
  exact Ln h i hi hj
def E0 (Z : Nat → Prop) (os : List (Value × Nat)) : Beta := ⟨fun i => os[i]?, Z⟩
theorem Lo (Z : Nat → Prop) (os : List (Value × Nat)) : Num (E0 Z os) 0 os := fun i p h => by rw [Nat.zero_add]; exact h
theorem yP {Z : Nat → Prop} {os : List (Value × Nat)} {b : Nat} (h : MB (E0 Z os) b) : b ∈ aL os := by
  obtain ⟨i, hd, n, a, h1, h2, h3⟩ := h
  exact List.mem_filterMap.2 ⟨(hd, n), List.mem_of_getElem? h1, by simp [mR, h2, h3]⟩
theorem Nm {os : List (Value × Nat)} {b : Nat} (h : MZ (E0 B.Z os) b) : MO B (aL os) b := h.imp yP fun h => h
theorem E3 {os : List (Value × Nat)} (h : (aL os).Nodup) : ∀ (i j : Nat) (p q : Value × Nat) (a a' : Addr), os[i]? = some p → os[j]? = some q → adr p.1 = some a → adr q.1 = some a' → a.block = a'.block → i = j := by
  induction os with
  | nil => intro i j p q a a' hi; simp at hi
  | cons x os ih =>
    have hx : ∀ {p : Value × Nat} {a : Addr}, adr p.1 = some a → mR p = some a.block := fun h => by simp [mR, h]
    have ih' : (aL os).Nodup := by
      cases hb : mR x with
      | none => simpa [hb] using h
      | some b => simp only [aL, List.filterMap_cons, hb] at h; exact (List.nodup_cons.1 h).2
    have cross : ∀ (j : Nat) (q : Value × Nat) (a a' : Addr), os[j]? = some q → adr x.1 = some a → adr q.1 = some a' → a.block = a'.block → False := by
      intro j q a a' hj ha ha' e
      simp only [aL, List.filterMap_cons, hx ha] at h
      refine (List.nodup_cons.1 h).1 (List.mem_filterMap.2 ⟨q, List.mem_of_getElem? hj, ?_⟩)
      rw [hx ha', e]
    intro i j p q a a' hi hj ha ha' e
    cases i with
    | zero =>
      simp at hi; subst hi
      cases j with
      | zero => rfl
      | succ j => simp at hj; exact (cross j q a a' hj ha ha' e).elim
    | succ i =>
      simp at hi
      cases j with
      | zero => simp at hj; subst hj; exact (cross i p a' a hi ha' ha e.symm).elim
      | succ j => simp at hj; rw [ih ih' i j p q a a' hi hj ha ha' e]
theorem Hs.renum (hH : Hs B β H w) {os : List (Value × Nat)} (hn : (aL os).Nodup) (hb : ∀ b ∈ aL os, MB β b) (hm : MkOK B.P w (E0 B.Z os) (fun _ => none) H' 0 os.length) : Hs B (E0 B.Z os) H' w where
  objs id ob ho := by
    by_cases h : id < os.length
    · obtain ⟨ob', h1, h2⟩ := hm.2 id (Nat.zero_le _) (by omega)
      rw [h1] at ho
      cases ho
      exact h2
    · rw [hm.1 id (by omega)] at ho
      cases ho
  dom id p hp := by
    have h : id < os.length := (List.getElem?_eq_some_iff.1 (show os[id]? = some p from hp)).1
    obtain ⟨ob', h1, _⟩ := hm.2 id (Nat.zero_le _) (by omega)
    exact ⟨ob', h1⟩
  inj i j p q a a' hi hj := E3 hn i j p q a a' hi hj
  old b h := hH.old b (hb b (yP h))
  os := hH.os
  tape := hH.tape
  output := hH.output
  size := hH.size
  block := hH.block
  z := rfl
  zn id p a hp ha hz := by
    have hb := hb a.block (List.mem_filterMap.2 ⟨p, List.mem_of_getElem? hp, by simp [mR, ha]⟩)
    obtain ⟨j, hd, n, a', h1, h2, h3⟩ := hb
    refine hH.zn j _ a' h1 h2 ?_
    rw [h3, hH.z]
    exact hz
  zl b h := hH.zl b (by rw [hH.z]; exact h)
  pk := hH.pk
theorem ES {E : Nat → AV} {h : Sh} {c : AV} {x : LT h} (hx : bL E H h c = some x) : (∀ g w v, c ≠ .gd g w v) ∧ ∀ vs, c ≠ .tup vs := by
  constructor
  · rintro g w v rfl
    cases h <;> simp [bL, cT] at hx
  · rintro vs rfl
    cases h <;> simp [bL, cT] at hx
theorem RT.toR1 {tm : Nat → Value} {c : AV} {v : Value} (h : RT w β tm c v) (h1 : ∀ g w v, c ≠ .gd g w v) (h2 : ∀ vs, c ≠ .tup vs) : R1 w β c v := by
  cases c <;> first | exact h | exact absurd rfl (h1 _ _ _) | exact absurd rfl (h2 _)
theorem B0 {tm : Nat → Value} {T : Nat → AV} (R : RdOK B β H w M T tm) (hT : ∀ t, RT w β tm (T t) (tm t)) : ∀ (c : Sch) (x : Lv c), JX H T c = some x → JC β M (Ko H T c) →
    ∃ os, Rels B.P w M tm (c.map (·.2)) x (c.map fun p => tm p.1) os ∧ aL os = aL ((qY H T c).filterMap β)
  | [], x, hx, _ => ⟨[], ⟨rfl, rfl⟩, rfl⟩
  | (t, h) :: c, x, hx, hf => by
    obtain ⟨x1, e1, hx⟩ := Option.bind_eq_some_iff.1 hx
    obtain ⟨x2, e2, hx⟩ := Option.bind_eq_some_iff.1 hx
    cases hx
    obtain ⟨p1, p2⟩ := ES e1
    obtain ⟨o1, j1, j2⟩ := ER R h (T t) (tm t) x1 ((hT t).toR1 p1 p2) e1 (fun i hi => hf i (List.mem_append_left _ hi))
    obtain ⟨o2, j3, j4⟩ := B0 R hT c x2 e2 (fun i hi => hf i (List.mem_append_right _ hi))
    refine ⟨o1 ++ o2, ⟨tm t, c.map fun p => tm p.1, o1, o2, rfl, rfl, j1, j3⟩, ?_⟩
    simp only [aL, List.filterMap_append, qY] at j2 j4 ⊢
    rw [j2, j4]
theorem Fy {P : Program} {tm : Nat → Value} (hM : ∀ b, MZ β b → M b) : ∀ (c : Sch) (T : Nat → AV) (H : Hp) (b : Nat) (x : Lv c) (os : List (Value × Nat)), sG (c.map (·.2)) = true → Rels P w M tm (c.map (·.2)) x (c.map fun p => tm p.1) os → Num β b os → (∀ t, R1 w β (T t) (tm t)) →
    (∀ t, R1 w β ((mW T H b c x).1 t) (tm t)) ∧ (mW T H b c x).2.2 = b + os.length ∧ MkOK P w β H (mW T H b c x).2.1 b os.length
  | [], T, H, b, x, os, _, hr, _, hT => by obtain ⟨_, rfl⟩ := hr; exact ⟨hT, rfl, .nil⟩
  | (t, h) :: c, T, H, b, x, os, hl, hr, hn, hT => by
    obtain ⟨u, us', o1, o2, e1, rfl, h1, h2⟩ := hr
    simp only [List.map_cons, List.cons.injEq] at e1
    obtain ⟨rfl, rfl⟩ := e1
    simp only [List.map_cons, sG, Bool.and_eq_true] at hl
    have un : mW T H b ((t, h) :: c) x = (match aX T H b h x.1 with | (v, H, b) => mW (upd T t v) H b c x.2) := rfl
    obtain ⟨k1, k2, k3⟩ := No (E := T) hM h H b x.1 (tm t) o1 hl.1 h1 hn.left (fun t' _ => hT t')
    rw [un]
    generalize aX T H b h x.1 = r at *
    obtain ⟨v, H', b'⟩ := r
    simp only at k1 k2 k3 ⊢
    subst k2
    obtain ⟨j1, j2, j3⟩ := Fy hM c (upd T t v) H' (b + o1.length) x.2 o2 hl.2 h2 hn.right (fun t' => by
      by_cases e : t' = t
      · subst e; rw [ai]; exact k1
      · rw [al _ _ e]; exact hT t')
    refine ⟨j1, by rw [j2]; simp [Nat.add_assoc], ?_⟩
    rw [List.length_append]
    exact k3.trans j3
theorem R1.toRT {tm : Nat → Value} {c : AV} {v : Value} (h : R1 w β c v) : RT w β tm c v := .ofR2 (.ofR1 h)
theorem St.join (hst : St B β stk s a w) {c : Sch} {x : Lv c} (hx : rdS c s = some x) : stk = [] ∧ ∃ β', St B β' [] (mkS s.n s.pins c x) a w ∧ Fr (mkS s.n s.pins c x) ∧ (mkS s.n s.pins c x).n = s.n ∧ (mkS s.n s.pins c x).pins = s.pins := by
  unfold rdS at hx
  split at hx
  · rename_i hs hnd hok
    have hstk : stk = [] := by
      have := hst.stack.1
      rw [hs] at this
      exact List.eq_nil_of_length_eq_zero this
    refine ⟨hstk, ?_⟩
    simp only [Bool.and_eq_true] at hnd
    simp only [RO, Bool.and_eq_true] at hok
    have R : RdOK B β s.H w (MO B (aL ((qY s.H s.T c).filterMap β))) s.T (bA a) := {
      hs := hst.hs
      hM := fun b hb => RW hst.hs hb
      hE := fun t id z e => (hst.T t).toR1 (by rw [e]; simp) (by rw [e]; simp) }
    obtain ⟨os, h1, h2⟩ := B0 R hst.T c x hx (Gf hst.hs hnd.2)
    have hnod : (aL os).Nodup := by rw [h2]; exact rb hst.hs (qO hnd.1)
    have hMB : ∀ b ∈ aL os, MB β b := fun b hb => by rw [h2] at hb; exact AC hb
    obtain ⟨k1, k2, k3⟩ := Fy (β := E0 B.Z os) (P := B.P) (w := w) (M := MO B (aL ((qY s.H s.T c).filterMap β))) (tm := bA a) (fun b hb => by have := Nm hb; rw [h2] at this; exact this) c (fun _ => .un) (fun _ => none) 0 x os hok.1.2 h1 (Lo B.Z os) (fun _ => trivial)
    have un : mkS s.n s.pins c x = (match mW (fun _ => .un) (fun _ => none) 0 c x with
      | (T, H, b) => { n := s.n, T := T, H := H, nid := b, st := [], pins := s.pins, gs := fun _ => false }) := rfl
    rw [un]
    generalize mW (fun _ => .un) (fun _ => none) 0 c x = r at *
    obtain ⟨T, H', b⟩ := r
    simp only at k1 k2 k3
    have hH := hst.hs.renum hnod hMB k3
    refine ⟨E0 B.Z os, ⟨fun t => (k1 t).toRT, ⟨rfl, fun i T' tm h => by simp at h⟩, hst.n, hst.defers, hst.pins, fun t g want y hy => ?_, hH⟩, fun j hj => ?_, rfl, rfl⟩
    · have := k1 t
      have hy : T t = .gd g want y := hy
      rw [hy] at this
      exact this.elim
    · exact k3.1 j (.inr (by have hj : b ≤ j := hj; omega))
  · cases hx
end
end Go.VS
namespace Go.VS
open Go
structure KOK {Ω : Type} (B : Base) (stk : List (Array Value)) (n : Nat) (pins : List Nat) (k : Kt Ω) (q : Ω) (Q : Exit → Act → World → Prop) : Prop where
  nrm : ∀ β a w s, St B β stk s a w → Fr s → s.n = n → s.pins = pins → k.nrm s = some q → Q .normal a w
  ret : ∀ β a w s, St B β stk s a w → Fr s → s.n = n → s.pins = pins → k.ret s = some q → Q .ret a w
  ext : ∀ id β a w s, St B β stk s a w → Fr s → s.n = n → s.pins = pins → k.ext id s = some q → Q (.exit id) a w
def uZ (B : Base) (n : Nat) (pins : List Nat) (body : Code) (l : Loop) : Prop := ∀ (x : Lv l.sch) (r : Lv l.rsch ⊕ Lv l.osch), l.run x = some r → ∀ (β : Beta) (a : Act) (w : World) (Q : Exit → Act → World → Prop),
  St B β [] (mkS n pins l.sch x) a w → Fr (mkS n pins l.sch x) →
  (∀ y, r = .inl y → ∀ β a w, St B β [] (mkS n pins l.rsch y) a w → Fr (mkS n pins l.rsch y) → Q .ret a w) →
  (∀ y, r = .inr y → ∀ β a w, St B β [] (mkS n pins l.osch y) a w → Fr (mkS n pins l.osch y) → Q (.exit l.xid) a w) → (Code.loop body).wp B.P Q a w
def oG (L : Code → Loop → Prop) : Code → Adv → Prop
  | .seq a b, .join _ u v => oG L a u ∧ oG L b v
  | .seq a b, v => oG L a v.a ∧ oG L b v.z
  | .cond _ x y, v => oG L x v.a ∧ oG L y v.z
  | .block _ c, v => oG L c v.a
  | .loop c, .loop l => L c l
  | _, _ => True
theorem bj (L : Code → Loop → Prop) : ∀ c : Code, oG L c .nil
  | .seq a b => ⟨bj L a, bj L b⟩
  | .cond _ x y => ⟨bj L x, bj L y⟩
  | .block _ c => bj L c
  | .skip => trivial
  | .region _ _ _ => trivial
  | .loop _ => trivial
  | .exit _ => trivial
  | .ret => trivial
  | .rangeFunc _ _ _ _ => trivial
  | .scope _ => trivial
  | .label _ => trivial
  | .goto _ => trivial
  | .refuse _ => trivial
section
variable {C : Cx} {B : Base} {inl : (Ω : Type) → Inl Ω}
theorem Jo (hP : C.P = B.P) (hm : B.P.follows .mixedOrders = true) (hC : lI C B) (hI : AE C B inl) : ∀ (c : Code) {Ω : Type} (v : Adv) (k : Kt Ω) (s : S) (q : Ω) {β : Beta} {stk : List (Array Value)} {a : Act} {w : World} {Q : Exit → Act → World → Prop},
    evk C inl c Ω v k s = some q → St B β stk s a w → Fr s → oG (uZ B s.n s.pins) c v → KOK B stk s.n s.pins k q Q → c.wp B.P Q a w := by
  intro c
  induction c with
  | skip => exact fun v k s q β stk a w Q he hst hfr _ hk => wp_skip (hk.nrm _ _ _ _ hst hfr rfl rfl he)
  | region id ops draw =>
    intro Ω v k s q β stk a w Q he hst hfr _ hk
    cases draw with
    | false => exact LP hP hC hI (show Jq C (inl Ω) ops ops.toList s k.nrm = some q from he) hfr hst fun β a w s' h1 h2 h3 h4 h5 => hk.nrm β a w s' h1 h2 h3 h4 h5
    | true => exact OS hP hm hC (show evD C ops s ops.toList 0 s.nid [] s k.nrm = some q from he) hfr hst fun β a w s' h1 h2 h3 h4 h5 => hk.nrm β a w s' h1 h2 h3 h4 h5
  | seq x y ihx ihy =>
    intro Ω v k s q β stk a w Q he hst hfr hadv hk
    refine wp_seq ?_
    by_cases hj : ∃ c u v', v = .join c u v'
    · obtain ⟨c, u, v', rfl⟩ := hj
      obtain ⟨ha1, ha2⟩ := hadv
      have he : gB (fun x => evk C inl y Ω v' k (mkS s.n s.pins c x)) (evk C inl x (Ω ⊕ Lv c) u { nrm := fun s => (rdS c s).bind fun x => some (.inr x), ret := fun s => (k.ret s).bind fun o => some (.inl o), ext := fun j s => (k.ext j s).bind fun o => some (.inl o) } s) = some q := he
      obtain ⟨r, h1, h2⟩ := Option.bind_eq_some_iff.1 he
      refine ihx u _ s r h1 hst hfr ha1 ⟨?_, ?_, ?_⟩
      · intro β' a' w' s' k1 k2 k3 k4 k5
        obtain ⟨z, j1, j2⟩ := Option.bind_eq_some_iff.1 k5
        cases j2
        obtain ⟨rfl, β2, m1, m2, m3, m4⟩ := k1.join j1
        rw [k3, k4] at m1 m2 m3 m4
        exact ihy v' k _ q h2 m1 m2 (by rw [m3, m4]; exact ha2) (by rw [m3, m4]; exact hk)
      · intro β' a' w' s' k1 k2 k3 k4 k5
        obtain ⟨o, j1, j2⟩ := Option.bind_eq_some_iff.1 k5
        cases j2
        have h2 : some o = some q := h2
        cases h2
        exact hk.ret _ _ _ _ k1 k2 k3 k4 j1
      · intro id β' a' w' s' k1 k2 k3 k4 k5
        obtain ⟨o, j1, j2⟩ := Option.bind_eq_some_iff.1 k5
        cases j2
        have h2 : some o = some q := h2
        cases h2
        exact hk.ext id _ _ _ _ k1 k2 k3 k4 j1
    · have he : evk C inl x Ω v.a { k with nrm := evk C inl y Ω v.z k } s = some q := by
        cases v <;> first | exact he | exact absurd ⟨_, _, _, rfl⟩ hj
      have hadv : oG (uZ B s.n s.pins) x v.a ∧ oG (uZ B s.n s.pins) y v.z := by
        cases v <;> first | exact hadv | exact absurd ⟨_, _, _, rfl⟩ hj
      refine ihx v.a _ s q he hst hfr hadv.1 ⟨?_, hk.ret, hk.ext⟩
      intro β' a' w' s' k1 k2 k3 k4 k5
      exact ihy v.z k s' q k5 k1 k2 (by rw [k3, k4]; exact hadv.2) (by rw [k3, k4]; exact hk)
  | cond o x y ihx ihy =>
    intro Ω v k s q β stk a w Q he hst hfr hadv hk
    have he : (match s.ev o with
      | .lit (.bool b) => if b then evk C inl x Ω v.a k s else evk C inl y Ω v.z k s
      | _ => none) = some q := he
    split at he
    · rename_i b hb
      have h1 := hst.eval o
      rw [hb] at h1
      have h2 : a.eval o = .bool b := h1
      refine wp_cond h2 ?_
      cases b with
      | true => exact ihx v.a k s q he hst hfr hadv.1 hk
      | false => exact ihy v.z k s q he hst hfr hadv.2 hk
    · cases he
  | block id x ihx =>
    intro Ω v k s q β stk a w Q he hst hfr hadv hk
    refine wp_block ?_
    have he : evk C inl x Ω v.a { k with ext := fun j s => match Nat.beq j id with
      | true => k.nrm s
      | false => k.ext j s } s = some q := he
    refine ihx v.a _ s q he hst hfr hadv ⟨hk.nrm, hk.ret, ?_⟩
    intro j β' a' w' s' k1 k2 k3 k4 k5
    show if j = id then Q .normal a' w' else Q (.exit j) a' w'
    simp only at k5
    split at k5
    · rename_i e
      rw [if_pos (ak e)]
      exact hk.nrm _ _ _ _ k1 k2 k3 k4 k5
    · rename_i e
      rw [if_neg (qB e)]
      exact hk.ext _ _ _ _ _ k1 k2 k3 k4 k5
  | loop body _ =>
    intro Ω v k s q β stk a w Q he hst hfr hadv hk
    cases v <;> first | (cases he; done) | skip
    rename_i l
    have he : ((rdS l.sch s).bind fun x => au (l.run x) (fun y => k.ret (mkS s.n s.pins l.rsch y)) (fun y => k.ext l.xid (mkS s.n s.pins l.osch y))) = some q := he
    obtain ⟨x, h1, h2⟩ := Option.bind_eq_some_iff.1 he
    obtain ⟨r, h3, h4⟩ := Option.bind_eq_some_iff.1 h2
    obtain ⟨rfl, β', m1, m2, _, _⟩ := hst.join h1
    have hadv : uZ B s.n s.pins body l := hadv
    refine hadv x r h3 β' a w Q m1 m2 ?_ ?_
    · rintro y rfl β a w k1 k2
      exact hk.ret _ _ _ _ k1 k2 (by unfold mkS; rfl) (by unfold mkS; rfl) h4
    · rintro y rfl β a w k1 k2
      exact hk.ext _ _ _ _ _ k1 k2 (by unfold mkS; rfl) (by unfold mkS; rfl) h4
  | exit id => exact fun v k s q β stk a w Q he hst hfr _ hk => wp_exit (hk.ext _ _ _ _ _ hst hfr rfl rfl he)
  | ret => exact fun v k s q β stk a w Q he hst hfr _ hk => wp_ret (hk.ret _ _ _ _ hst hfr rfl rfl he)
  | _ =>
    intro Ω v k s q β stk a w Q he
    cases he
theorem Gj (p : Nat → Prop) (h : ∃ n, p n) : ∃ n, p n ∧ ∀ m, p m → n ≤ m := by
  obtain ⟨n, hn⟩ := h
  induction n using Nat.strongRecOn with
  | _ n ih =>
    by_cases hm : ∃ m, m < n ∧ p m
    · obtain ⟨m, h1, h2⟩ := hm
      exact ih m h1 h2
    · exact ⟨n, hn, fun m h => Nat.le_of_not_lt fun hlt => hm ⟨m, hlt, h⟩⟩
theorem Jd {X Y : Type} {b : X → Option (X ⊕ Y)} {x : X} {y : Y} (h : ax b x = some y) : ∃ n, n6 b n x = some y := by
  unfold ax at h
  split at h
  · rename_i hn
    have := Classical.choose_spec (Classical.choose_spec hn)
    cases h
    exact ⟨_, this⟩
  · cases h
theorem x4 {X Y : Type} {b : X → Option (X ⊕ Y)} : ∀ (n : Nat) (x : X) {y : Y}, n6 b n x = some y → ∀ m, n ≤ m → n6 b m x = some y
  | 0, x, y, h => by cases h
  | n + 1, x, y, h => by
    intro m hm
    obtain ⟨m, rfl⟩ : ∃ k, m = k + 1 := ⟨m - 1, by omega⟩
    obtain ⟨r, h1, h2⟩ := Option.bind_eq_some_iff.1 (show ((b x).bind fun r => match r with
      | .inl y => n6 b n y
      | .inr z => some z) = some y from h)
    show ((b x).bind fun r => match r with
      | .inl y => n6 b m y
      | .inr z => some z) = some y
    rw [h1, Option.bind_some]
    cases r with
    | inl z => exact x4 n z h2 m (by omega)
    | inr z => exact h2
theorem F3 {X Y : Type} {b : X → Option (X ⊕ Y)} {x : X} {y : Y} {n : Nat} (h : n6 b n x = some y) : ax b x = some y := by
  have hn : ∃ n y, n6 b n x = some y := ⟨n, y, h⟩
  unfold ax
  rw [dif_pos hn]
  have h1 := Classical.choose_spec (Classical.choose_spec hn)
  have h2 := x4 _ _ h (n + Classical.choose hn) (by omega)
  have h3 := x4 _ _ h1 (n + Classical.choose hn) (by omega)
  rw [h2] at h3
  exact h3.symm
theorem MP {X Y : Type} {b : X → Option (X ⊕ Y)} {n : Nat} {x : X} {y : Y} (h : n6 b (n + 1) x = some y) : ∃ r, b x = some r ∧ (∀ x', r = .inl x' → n6 b n x' = some y) ∧ (∀ z, r = .inr z → z = y) := by
  obtain ⟨r, h1, h2⟩ := Option.bind_eq_some_iff.1 (show ((b x).bind fun r => match r with
      | .inl y => n6 b n y
      | .inr z => some z) = some y from h)
  refine ⟨r, h1, ?_, ?_⟩
  · rintro x' rfl; exact h2
  · rintro z rfl; exact Option.some.inj h2
theorem Rg (hP : C.P = B.P) (hm : B.P.follows .mixedOrders = true) (hC : lI C B) (hI : AE C B inl) {n : Nat} {pins : List Nat} {body : Code} {v : Adv} {l : Loop} {b : Lv l.sch → Option (Lv l.sch ⊕ (Lv l.rsch ⊕ Lv l.osch))}
    (hb : ∀ x, evL C inl n pins body v l x = b x) (hr : l.run = ax b) (hadv : oG (uZ B n pins) body v) : uZ B n pins body l := by
  intro x r hrun β a w Q hst hfr hret hext
  rw [hr] at hrun
  obtain ⟨N, hN⟩ := Jd hrun
  let J : Nat → Act → World → Prop := fun m a w => ∃ (x : Lv l.sch) (β : Beta), n6 b m x = some r ∧ St B β [] (mkS n pins l.sch x) a w ∧ Fr (mkS n pins l.sch x)
  classical
  let μ : Act → World → Nat := fun a w => if h : ∃ m, J m a w then Classical.choose (Gj _ h) else 0
  have hμ : ∀ a w, (h : ∃ m, J m a w) → J (μ a w) a w ∧ ∀ m, J m a w → μ a w ≤ m := fun a w h => by
    have := Classical.choose_spec (Gj _ h)
    simp only [μ, dif_pos h]
    exact this
  refine wp_loop (fun a w => ∃ m, J m a w) μ ⟨N, x, β, hN, hst, hfr⟩ ?_
  intro a w hJ
  obtain ⟨⟨x, β, h1, h2, h3⟩, _⟩ := hμ a w hJ
  generalize hm' : μ a w = m at h1
  cases m with
  | zero => cases h1
  | succ m =>
    obtain ⟨r1, k1, k2, k2'⟩ := MP h1
    have he := hb x
    rw [k1] at he
    unfold evL at he
    have en : (mkS n pins l.sch x).n = n := by unfold mkS; rfl
    have ep : (mkS n pins l.sch x).pins = pins := by unfold mkS; rfl
    refine Jo hP hm hC hI body v _ _ r1 he h2 h3 (by rw [en, ep]; exact hadv) ?_
    rw [en, ep]
    refine ⟨?_, ?_, ?_⟩
    · intro β' a' w' s' j1 j2 j3 j4 j5
      obtain ⟨y, i1, i2⟩ := Option.bind_eq_some_iff.1 j5
      cases i2
      obtain ⟨_, β2, m1, m2, _, _⟩ := j1.join i1
      rw [j3, j4] at m1 m2
      have hJ' : J m a' w' := ⟨y, β2, k2 y rfl, m1, m2⟩
      refine ⟨⟨m, hJ'⟩, ?_⟩
      have := (hμ a' w' ⟨m, hJ'⟩).2 m hJ'
      omega
    · intro β' a' w' s' j1 j2 j3 j4 j5
      obtain ⟨y, i1, i2⟩ := Option.bind_eq_some_iff.1 j5
      cases i2
      obtain ⟨_, β2, m1, m2, _, _⟩ := j1.join i1
      rw [j3, j4] at m1 m2
      have k2 := k2' _ rfl
      subst k2
      exact hret y rfl _ _ _ m1 m2
    · intro id β' a' w' s' j1 j2 j3 j4 j5
      simp only at j5
      split at j5
      · rename_i hid
        obtain rfl := ak hid
        obtain ⟨y, i1, i2⟩ := Option.bind_eq_some_iff.1 j5
        cases i2
        obtain ⟨_, β2, m1, m2, _, _⟩ := j1.join i1
        rw [j3, j4] at m1 m2
        have k2 := k2' _ rfl
        subst k2
        exact hext y rfl _ _ _ m1 m2
      · cases j5
end
end Go.VS
namespace Go.VS
open Go
def NV : List Value → Value
  | [v] => v
  | vs => .tuple vs.toArray
def iQ : List Sh → List Value → List Value
  | .box _ _ :: ps, v :: vs => v :: iQ ps vs
  | _ :: ps, _ :: vs => iQ ps vs
  | _, _ => []
def rf (P : Program) (f : FuncId) : Prop := ∀ (args : Array Value) (w : World), (callFunc f args).run P w = .ok (.enter f args) w
theorem nj {P : Program} {f : FuncId} {fn : Func} {c : Code} (hf : P.funcs[f]? = some fn) (hname : (fn.name == "runtime.NumGoroutine") = false) (hb : fn.body = some c) : rf P f := by
  intro args w
  have hname' : ¬ fn.name = "runtime.NumGoroutine" := by simpa using hname
  simp [callFunc, hf, hname', hb]
abbrev ar (args : List Value) : Nat → Value := fun i => args.getD i undef
structure Ret (P : Program) (m : Summ) (Z : Nat → Prop) (args : List Value) (os : List (Value × Nat)) (w : World) (r : LTs m.rs × LTs (aq m.ps)) (v : Value) (w' : World) : Prop where
  ex : ∃ vs os1 os2, v = NV vs ∧ Rels P w' (fun b => b ∈ aL (os1 ++ os2) ∨ Z b) (ar args) m.rs r.1 vs os1 ∧ Rels P w' (fun b => b ∈ aL (os1 ++ os2) ∨ Z b) (ar args) (aq m.ps) r.2 (iQ m.ps args) os2 ∧
    (aL (os1 ++ os2)).Nodup ∧ (∀ b ∈ aL (os1 ++ os2), (b ∈ aL os ∨ w.heap.size ≤ b) ∧ b < w'.heap.size)
  wos : w'.os = w.os
  tape : w'.tape = w.tape
  output : w'.output = w.output
  size : w.heap.size ≤ w'.heap.size
  block : ∀ b, b < w.heap.size → b ∉ aL os → w'.heap[b]? = w.heap[b]?
  pk : Pk P w w'
def oF (P : Program) (f : FuncId) (m : Summ) : Prop := rf P f ∧ ∀ (x : LTs m.ps) (r : LTs m.rs × LTs (aq m.ps)), m.g x = some r → ∀ (w : World) (Z : Nat → Prop) (args : List Value) (os : List (Value × Nat)),
  Rels P w (fun b => b ∈ aL os ∨ Z b) (ar args) m.ps x args os → (aL os).Nodup → (∀ b ∈ aL os, b < w.heap.size ∧ ¬ Z b) → (∀ b, Z b → b < w.heap.size) → Mf P w (fun b => b ∈ aL os) →
  Calls P f args.toArray w fun en w' => ∃ v, en = .returned v ∧ Ret P m Z args os w r v w'
section
variable {C : Cx} {B : Base} {β : Beta} {H : Hp} {w w' : World} {M : Nat → Prop} {stk : List (Array Value)} {s s' : S} {a : Act} {P : Program} {e e' : Nat → Value}
mutual
theorem Rel.congr : ∀ (h : Sh) (x : LT h) (v : Value) (os : List (Value × Nat)), (∀ t ∈ yK h, e t = e' t) → Rel P w M e h x v os → Rel P w M e' h x v os
  | .int _, _, _, _, _, h => h
  | .bool, _, _, _, _, h => h
  | .str, _, _, _, _, h => h
  | .sl _, _, _, _, _, h => h
  | .fz _, _, _, _, _, h => h
  | .row _ _, _, _, _, _, h => h
  | .rowz _ _, _, _, _, _, h => h
  | .abx _ _, _, _, _, _, h => h
  | .arr _, _, _, _, _, h => h
  | .same t, _, _, _, he, h => ⟨h.1, h.2.1.trans (he t (by simp [yK])), h.2.2⟩
  | .agg l, x, v, os, he, h => by
    obtain ⟨us, h1, h2⟩ := h
    exact ⟨us, h1, Rels.congr l x us os he h2⟩
  | .box t l, x, v, os, he, h => by
    obtain ⟨b, us, os', h1, h2, h3, h4⟩ := h
    exact ⟨b, us, os', h1, h2, Rels.congr l x us.toList os' he h3, h4⟩
theorem Rels.congr : ∀ (l : List Sh) (x : LTs l) (us : List Value) (os : List (Value × Nat)), (∀ t ∈ jZ l, e t = e' t) → Rels P w M e l x us os → Rels P w M e' l x us os
  | [], _, _, _, _, h => h
  | h :: l, x, us, os, he, hr => by
    obtain ⟨u, us', o1, o2, h1, h2, h3, h4⟩ := hr
    exact ⟨u, us', o1, o2, h1, h2, Rel.congr h x.1 u o1 (fun t ht => he t (List.mem_append_left _ ht)) h3, Rels.congr l x.2 us' o2 (fun t ht => he t (List.mem_append_right _ ht)) h4⟩
end
theorem Rels.length : ∀ {l : List Sh} {x : LTs l} {us : List Value} {os : List (Value × Nat)}, Rels P w M e l x us os → us.length = l.length
  | [], _, _, _, h => by rw [h.1]; rfl
  | h :: l, x, us, os, hr => by
    obtain ⟨u, us', o1, o2, rfl, _, _, h4⟩ := hr
    simp [Rels.length h4]
theorem yO {E : Nat → AV} : ∀ {l : List Sh} {cs : List AV} {x : LTs l}, j0 E H l cs = some x → cs.length = l.length
  | [], [], _, _ => rfl
  | [], _ :: _, _, h => by cases h
  | _ :: _, [], _, h => by cases h
  | h :: l, c :: cs, x, hx => by
    obtain ⟨x1, e1, hx⟩ := Option.bind_eq_some_iff.1 hx
    obtain ⟨x2, e2, hx⟩ := Option.bind_eq_some_iff.1 hx
    simp [yO e2]
theorem zT : ∀ {l l' : List Sh} {cs cs' : List AV}, cs.length = l.length → aQ H (l ++ l') (cs ++ cs') = aQ H l cs ++ aQ H l' cs'
  | [], l', [], cs', _ => rfl
  | h :: l, l', c :: cs, cs', hl => by
    simp only [List.cons_append, aQ, zT (l := l) (cs := cs) (by simpa using hl), List.append_assoc]
  | [], _, _ :: _, _, hl => by simp at hl
  | _ :: _, _, [], _, hl => by simp at hl
theorem zX : ∀ {l l' : List Sh} {cs cs' : List AV}, cs.length = l.length → b7 H (l ++ l') (cs ++ cs') = b7 H l cs ++ b7 H l' cs'
  | [], l', [], cs', _ => rfl
  | h :: l, l', c :: cs, cs', hl => by
    simp only [List.cons_append, b7, zX (l := l) (cs := cs) (by simpa using hl), List.append_assoc]
  | [], _, _ :: _, _, hl => by simp at hl
  | _ :: _, _, [], _, hl => by simp at hl
def EP (tmps : Array Value) : ResultVar → Sem Value
  | .tmp t => pure (tmps.getD t undef)
  | .cell a t => do loadVar t (← asAddr (tmps.getD a undef))
theorem EO (hP : P = B.P) (hst : St B β stk s a w) : ∀ (l : List ResultVar) {vs : List AV}, Ee P s l = some vs →
    ∃ us : List Value, (l.mapM (EP a.tmps)).run P w = Result.ok us w ∧ us.length = vs.length ∧ ∀ (i : Nat) (c : AV) (u : Value), vs[i]? = some c → us[i]? = some u → RX w β (bA a) c u
  | [], vs, h => by
    cases h
    exact ⟨[], rfl, rfl, fun i c u h => by simp at h⟩
  | .tmp t :: l, vs, h => by
    obtain ⟨vs', h1, h⟩ := Option.bind_eq_some_iff.1 h
    cases h
    obtain ⟨us, k1, k2, k3⟩ := EO hP hst l h1
    refine ⟨bA a t :: us, ?_, by simp [k2], fun i c u h1 h2 => ?_⟩
    · simp only [List.mapM_cons, EP, Sem.run_bind, Sem.run_pure, Result.andThen_ok, k1]
      rfl
    · cases i with
      | zero =>
        simp at h1 h2
        subst h1
        subst h2
        exact (hst.T t).toRX
      | succ i => exact k3 i c u (by simpa using h1) (by simpa using h2)
  | .cell x t :: l, vs, h => by
    obtain ⟨v, h0, h⟩ := Option.bind_eq_some_iff.1 h
    obtain ⟨vs', h1, h⟩ := Option.bind_eq_some_iff.1 h
    cases h
    obtain ⟨us, k1, k2, k3⟩ := EO hP hst l h1
    have hx : R2 w β (s.T x) (bA a x) := (hst.T x).toR2 (by
      cases hT : s.T x <;> first | rfl | (rw [hT] at h0; cases h0))
    obtain ⟨u, j1, j2⟩ := I7 hP hst.hs hx h0
    have hptr : ∃ ad, bA a x = .pointer (some ad) := by
      cases hT : s.T x <;> rw [hT] at h0 hx <;> first | (cases h0; done) | skip
      · rename_i id z i o
        have hx : RC w β (.ptr id z i o) (bA a x) := hx
        generalize bA a x = y at hx
        cases hx
        exact ⟨_, rfl⟩
      · rename_i k xx o
        have hx : RC w β (.ipt k xx o) (bA a x) := hx
        generalize bA a x = y at hx
        cases hx
        exact ⟨_, rfl⟩
    obtain ⟨ad, had⟩ := hptr
    have had' : a.tmps.getD x undef = .pointer (some ad) := had
    rw [had] at j1
    refine ⟨u :: us, ?_, by simp [k2], fun i c u' h1 h2 => ?_⟩
    · have j1' : (loadVar t ad).run P w = .ok u w := by simpa [Instr.loadAt, Instr.sureAddr] using j1
      simp only [List.mapM_cons, EP, had', asAddr, Sem.run_bind, Sem.run_pure, Result.andThen_ok, j1', k1]
    · cases i with
      | zero =>
        simp at h1 h2
        subst h1
        subst h2
        exact (RT.ofR2 (R2.ofR1 j2)).toRX
      | succ i => exact k3 i c u' (by simpa using h1) (by simpa using h2)
theorem Lf {fn : Func} {us : List Value} (h : (fn.results.toList.mapM (EP a.tmps)).run P w = Result.ok us w) : (results fn a.tmps).run P w = .ok (NV us) w := by
  have e1 : results fn a.tmps = (do
      let vs ← fn.results.mapM (EP a.tmps)
      pure (if h : vs.size = 1 then vs[0] else .tuple vs)) := rfl
  rw [e1, Array.mapM_eq_mapM_toList, map_eq_pure_bind]
  simp only [bind_assoc, pure_bind, Sem.run_bind, h, Result.andThen_ok, Sem.run_pure]
  match us with
  | [] => rfl
  | [u] => rfl
  | u :: v :: l => simp [NV]
end
end Go.VS
namespace Go.VS
open Go
def okM (m : Summ) (n : Nat) : Bool := sG m.ps && sG m.rs && Nat.ble m.ps.length n && (jZ m.rs ++ jZ (aq m.ps)).all fun t => (cc 0 m.ps).any fun p => Nat.beq p t
section
variable {C : Cx} {B : Base} {β : Beta} {H : Hp} {w w' : World} {M : Nat → Prop} {stk : List (Array Value)} {s s' : S} {a : Act} {P : Program} {e e' : Nat → Value} {inl : (Ω : Type) → Inl Ω}
theorem mg {E : Nat → AV} : ∀ {l : List Sh} {cs : List AV} {x : LTs l}, j0 E H l cs = some x → ∀ c ∈ cs, (∀ g w v, c ≠ .gd g w v) ∧ ∀ vs, c ≠ .tup vs
  | [], [], _, _, c, hc => by cases hc
  | [], _ :: _, _, h, _, _ => by cases h
  | _ :: _, [], _, h, _, _ => by cases h
  | h :: l, d :: cs, x, hx, c, hc => by
    obtain ⟨x1, e1, hx⟩ := Option.bind_eq_some_iff.1 hx
    obtain ⟨x2, e2, hx⟩ := Option.bind_eq_some_iff.1 hx
    rcases List.mem_cons.1 hc with rfl | hc
    · exact ES e1
    · exact mg e2 c hc
theorem RX.toR1 {tm : Nat → Value} {c : AV} {v : Value} (h : RX w β tm c v) (h1 : ∀ g w v, c ≠ .gd g w v) (h2 : ∀ vs, c ≠ .tup vs) : R1 w β c v := by
  have := h.of h1
  cases c <;> first | exact this | exact absurd rfl (h2 _)
theorem AB (args : List Value) : ∀ (ps : List Sh) (k : Nat), args.length = k + ps.length → iQ ps (args.drop k) = (cc k ps).map (ar args)
  | [], k, h => by
    have : args.drop k = [] := List.drop_eq_nil_of_le (by simp at h; omega)
    rw [this]
    rfl
  | p :: ps, k, h => by
    have hk : k < args.length := by simp at h; omega
    rw [List.drop_eq_getElem_cons hk]
    have ih := AB args ps (k + 1) (by simp at h ⊢; omega)
    have hget : ar args k = args[k] := by simp [ar, hk]
    cases p <;> simp only [iQ, cc, LA, List.map_cons, ih, hget]
theorem Ew (args : List Value) (n t : Nat) : bA { tmps := args.toArray ++ Array.replicate (n - args.toArray.size) undef, defers := [] } t = ar args t := by
  simp only [bA, ar, Array.getD_eq_getD_getElem?, List.getD_eq_getElem?_getD]
  by_cases h : t < args.length
  · rw [Array.getElem?_append_left (by simpa using h)]
    simp
  · rw [Array.getElem?_append_right (by simpa using h), List.getElem?_eq_none (by omega)]
    cases hr : (Array.replicate (n - args.toArray.size) undef)[t - args.toArray.size]? with
    | none => rfl
    | some v =>
      rw [Array.getElem?_replicate] at hr
      split at hr
      · cases hr; rfl
      · cases hr
theorem NB {fn : Func} {m : Summ} {r : LTs m.rs × LTs (aq m.ps)} {args : List Value} {os : List (Value × Nat)} (hst : St B β stk s a w) (hO : B.O = fun b => b ∈ aL os) (htm : B.tm0 = ar args) (hlen : args.length = m.ps.length) (hp : s.pins = cc 0 m.ps)
    {n : Nat} (hok : okM m n = true) (hf : fin B.P fn m s = some r) : ∃ v, (results fn a.tmps).run B.P w = .ok v w ∧ Ret B.P m B.Z args os B.w0 r v w := by
  unfold fin at hf
  obtain ⟨vs, h1, hf⟩ := Option.bind_eq_some_iff.1 hf
  split at hf
  · rename_i hnd
    simp only [Bool.and_eq_true] at hnd
    obtain ⟨r1, h2, hf⟩ := Option.bind_eq_some_iff.1 hf
    obtain ⟨q, h3, hf⟩ := Option.bind_eq_some_iff.1 hf
    cases hf
    obtain ⟨us, k1, k2, k3⟩ := EO rfl hst fn.results.toList h1
    have hl1 := yO h2
    rw [zT hl1, zX hl1] at hnd
    generalize hids1 : aQ s.H m.rs vs = LH at hnd
    generalize hids2 : aQ s.H (aq m.ps) ((cc 0 m.ps).map s.T) = LG at hnd
    have R : RdOK B β s.H w (MO B (aL ((LH ++ LG).filterMap β))) s.T (bA a) := {
      hs := hst.hs
      hM := fun b hb => RW hst.hs hb
      hE := fun t id z e => (hst.T t).toR1 (by rw [e]; simp) (by rw [e]; simp) }
    have hfz := Gf hst.hs hnd.2
    have rl1 : RL (R1 w β) vs us := ⟨k2, fun j c u e1 e2 => (k3 j c u e1 e2).toR1 (mg h2 c (List.mem_of_getElem? e1)).1 (mg h2 c (List.mem_of_getElem? e1)).2⟩
    have rl2 : RL (R1 w β) ((cc 0 m.ps).map s.T) ((cc 0 m.ps).map (bA a)) := ⟨by simp, fun j c u e1 e2 => by
      obtain ⟨h5, h6⟩ := mg h3 c (List.mem_of_getElem? e1)
      rw [List.getElem?_map] at e1 e2
      obtain ⟨t, ht, rfl⟩ := Option.map_eq_some_iff.1 e1
      obtain ⟨t', ht', rfl⟩ := Option.map_eq_some_iff.1 e2
      rw [ht] at ht'
      cases ht'
      exact (hst.T t).toR1 h5 h6⟩
    obtain ⟨os1, j1, j2⟩ := qN R m.rs vs us r1 rl1 h2 (fun i hi => hfz i (List.mem_append_left _ hi))
    obtain ⟨os2, j3, j4⟩ := qN R (aq m.ps) _ _ q rl2 h3 (fun i hi => hfz i (List.mem_append_right _ hi))
    rw [hids1] at j2
    rw [hids2] at j4
    have hblk : aL (os1 ++ os2) = aL ((LH ++ LG).filterMap β) := by
      simp only [aL, List.filterMap_append] at j2 j4 ⊢
      rw [j2, j4]
    have hMeq : MO B (aL ((LH ++ LG).filterMap β)) = fun b => b ∈ aL (os1 ++ os2) ∨ B.Z b := by rw [hblk]
    rw [hMeq] at j1 j3
    have hpin : ∀ t ∈ cc 0 m.ps, bA a t = ar args t := fun t ht => by rw [hst.pins t (by rw [hp]; exact ht), htm]
    simp only [okM, Bool.and_eq_true, List.all_eq_true, List.any_eq_true] at hok
    have hsame : ∀ t ∈ jZ m.rs ++ jZ (aq m.ps), bA a t = ar args t := fun t ht => by
      obtain ⟨p, hp1, hp2⟩ := hok.2 t ht
      rw [← ak hp2]
      exact hpin p hp1
    refine ⟨NV us, Lf k1, ⟨us, os1, os2, rfl, Rels.congr _ _ _ _ (fun t ht => hsame t (List.mem_append_left _ ht)) j1, ?_, ?_, ?_⟩, hst.hs.os, hst.hs.tape, hst.hs.output, hst.hs.size, ?_, hst.hs.pk⟩
    · have e1 : iQ m.ps args = (cc 0 m.ps).map (bA a) := by
        have := AB args m.ps 0 (by omega)
        rw [List.drop_zero] at this
        rw [this]
        exact List.map_congr_left fun t ht => (hpin t ht).symm
      rw [e1]
      exact Rels.congr _ _ _ _ (fun t ht => hsame t (List.mem_append_right _ ht)) j3
    · rw [hblk]
      exact rb hst.hs (qO hnd.1)
    · intro b hb
      rw [hblk] at hb
      have := hst.hs.old b (AC hb)
      rw [hO] at this
      exact this
    · intro b hb hn
      have := hst.hs.block b hb
      rw [hO] at this
      exact this hn
  · cases hf
theorem PD {P : Program} (hP : C.P = P) (hm : P.follows .mixedOrders = true) (hC : ∀ B : Base, B.P = P → lI C B) (hI : ∀ B : Base, B.P = P → AE C B inl) {f : FuncId} {fn : Func} {body : Code} (hf : P.funcs[f]? = some fn) (hname : (fn.name == "runtime.NumGoroutine") = false)
    (hb : fn.body = some body) {v : Adv} {m : Summ} (hok : okM m fn.ntmps = true) (hadv : ∀ B : Base, B.P = P → oG (uZ B fn.ntmps (cc 0 m.ps)) body v) (hg : ∀ x, Sl C inl fn v m x = m.g x) : oF P f m := by
  refine ⟨nj hf hname hb, fun x r hx w Z args os hr hnd hbl hZ hgl => ?_⟩
  rw [← hg] at hx
  unfold Sl at hx
  rw [hb] at hx
  simp only [evF] at hx
  have hok' := hok
  simp only [okM, Bool.and_eq_true] at hok'
  obtain ⟨⟨⟨hps, hrs⟩, hn⟩, _⟩ := hok'
  have hn := Nat.le_of_ble_eq_true hn
  have hlen := hr.length
  let B : Base := { P := P, w0 := w, O := fun b => b ∈ aL os, tm0 := ar args, Z := Z, gl := hgl }
  have hnum : Num (E0 Z os) 0 os := Lo Z os
  obtain ⟨k1, k2, k3⟩ := Fw (β := E0 Z os) (E := fun _ => .un) (M := fun b => b ∈ aL os ∨ Z b) (P := P) (w := w) (e := ar args) (fun b hb => Nm (B := B) hb) m.ps (fun _ => none) 0 x args os hps hr hnum (fun t _ => trivial)
  have hi : SA fn.ntmps m.ps x = (match ah (fun _ => .un) (fun _ => none) 0 m.ps x with
    | (vs, H, b) => { n := fn.ntmps, T := fun t => (vs[t]?).getD qF, H := H, nid := b, st := [], pins := cc 0 m.ps, gs := fun _ => false }) := rfl
  rw [hi] at hx
  generalize ah (fun _ => .un) (fun _ => none) 0 m.ps x = q at *
  obtain ⟨vs, H, b⟩ := q
  simp only at hx k1 k2 k3
  have hH : Hs B (E0 Z os) H w := {
    objs := fun id ob ho => by
      by_cases h : id < os.length
      · obtain ⟨ob', h1, h2⟩ := k3.2 id (Nat.zero_le _) (by omega)
        rw [h1] at ho
        cases ho
        exact h2
      · rw [k3.1 id (by omega)] at ho
        cases ho
    dom := fun id p hp => by
      have h : id < os.length := (List.getElem?_eq_some_iff.1 (show os[id]? = some p from hp)).1
      obtain ⟨ob', h1, _⟩ := k3.2 id (Nat.zero_le _) (by omega)
      exact ⟨ob', h1⟩
    inj := fun i j p q a a' hi hj => E3 hnd i j p q a a' hi hj
    old := fun b hb => ⟨.inl (yP hb), (hbl b (yP hb)).1⟩
    os := rfl
    tape := rfl
    output := rfl
    size := Nat.le_refl _
    block := fun _ _ _ => rfl
    z := rfl
    zn := fun id p a hp ha => (hbl _ (yP (Z := Z) ⟨id, p.1, p.2, a, hp, ha, rfl⟩)).2
    zl := hZ
    pk := Pk.refl _ _ }
  refine calls_of_wp hf hb ?_
  have hst : St B (E0 Z os) [] { n := fn.ntmps, T := fun t => (vs[t]?).getD qF, H := H, nid := b, st := [], pins := cc 0 m.ps, gs := fun _ => false } { tmps := args.toArray ++ Array.replicate (fn.ntmps - args.toArray.size) undef, defers := [] } w := by
    refine ⟨fun t => ?_, ⟨rfl, fun i T' tm h => by simp at h⟩, ?_, rfl, fun t _ => Ew args _ t, fun t g want y hy => ?_, hH⟩
    · rw [Ew]
      show RT w _ _ ((vs[t]?).getD qF) _
      cases hv : vs[t]? with
      | none =>
        have : args.length ≤ t := by
          rw [k1.1]
          exact List.getElem?_eq_none_iff.1 hv
        show RT w _ _ qF (ar args t)
        have e0 : ar args t = undef := by simp [ar, List.getElem?_eq_none this]
        rw [e0]
        rfl
      | some c =>
        have hlt : t < args.length := by rw [k1.1]; exact (List.getElem?_eq_some_iff.1 hv).1
        have hu : args[t]? = some (ar args t) := by simp [ar, hlt]
        exact (k1.2 t c _ hv hu).toRT
    · simp
      omega
    · have hy : (vs[t]?).getD qF = .gd g want y := hy
      cases hv : vs[t]? with
      | none => rw [hv] at hy; cases hy
      | some c =>
        rw [hv] at hy
        have hy : c = .gd g want y := hy
        have hlt : t < args.length := by rw [k1.1]; exact (List.getElem?_eq_some_iff.1 hv).1
        have hu : args[t]? = some (ar args t) := by simp [ar, hlt]
        have := k1.2 t c _ hv hu
        rw [hy] at this
        exact this.elim
  refine Jo (B := B) hP hm (hC B rfl) (hI B rfl) body v _ _ r hx hst (fun j hj => k3.1 j (.inr (by have hj : b ≤ j := hj; omega))) (hadv B rfl) ⟨?_, ?_, ?_⟩
  · intro β' a' w' s' h1 h2 h3 h4 h5
    obtain ⟨v', i1, i2⟩ := NB (B := B) h1 rfl rfl hlen h4 hok (show fin P fn m s' = some r by rw [← hP]; exact h5)
    exact ⟨h1.defers, v', i1, v', rfl, i2⟩
  · intro β' a' w' s' h1 h2 h3 h4 h5
    obtain ⟨v', i1, i2⟩ := NB (B := B) h1 rfl rfl hlen h4 hok (show fin P fn m s' = some r by rw [← hP]; exact h5)
    exact ⟨h1.defers, v', i1, v', rfl, i2⟩
  · intro id β' a' w' s' h1 h2 h3 h4 h5
    cases h5
end
end Go.VS
namespace Go.VS
open Go
def mQ (l : List Sh) : Bool := dC l && l.all fun h => !LA h
section
variable {B : Base} {β β' : Beta} {H : Hp} {w w' : World} {M : Nat → Prop} {stk : List (Array Value)} {s s' : S} {a : Act} {P : Program} {E : Nat → AV} {e : Nat → Value} {b : Nat}
mutual
theorem OD : ∀ h : Sh, br h = true → lb h = true ∧ yK h = []
  | .int _, _ => ⟨rfl, rfl⟩
  | .bool, _ => ⟨rfl, rfl⟩
  | .str, _ => ⟨rfl, rfl⟩
  | .sl _, _ => ⟨rfl, rfl⟩
  | .row _ _, _ => ⟨rfl, rfl⟩
  | .fz _, _ => ⟨rfl, rfl⟩
  | .rowz _ _, _ => ⟨rfl, rfl⟩
  | .abx _ _, _ => ⟨rfl, rfl⟩
  | .arr _, h => by simp [br] at h
  | .agg _, h => by simp [br] at h
  | .same _, h => by simp [br] at h
  | .box _ l, h => by
    have := tl l (by simpa [br] using h)
    exact ⟨by simpa [lb] using this.1, by simpa [yK] using this.2⟩
theorem tl : ∀ l : List Sh, dC l = true → nd l = true ∧ jZ l = []
  | [], _ => ⟨rfl, rfl⟩
  | h :: l, hl => by
    simp only [dC, Bool.and_eq_true] at hl
    have h1 := OD h hl.1
    have h2 := tl l hl.2
    exact ⟨by simp [nd, h1.1, h2.1], by simp [jZ, h1.2, h2.2]⟩
end
theorem qZ : ∀ (l : List Sh) (H : Hp) (b : Nat) (cs : List AV) (x : LTs l), mQ l = true → aC E H b l cs x = ah E H b l x
  | [], _, _, _, _, _ => rfl
  | h :: l, H, b, cs, x, hl => by
    simp only [mQ, dC, List.all_cons, Bool.and_eq_true] at hl
    obtain ⟨⟨h1, h2⟩, h3, h4⟩ := hl
    have un : aC E H b (h :: l) cs x = (match fO E H b h (cs.headD .un) x.1 with | (d, H, b) => match aC E H b l cs.tail x.2 with | (ds, H, b) => (d :: ds, H, b)) := rfl
    have un2 : ah E H b (h :: l) x = (match aX E H b h x.1 with | (c, H, b) => match ah E H b l x.2 with | (cs, H, b) => (c :: cs, H, b)) := rfl
    have e1 : fO E H b h (cs.headD .un) x.1 = aX E H b h x.1 := Bo h1 (fun t l' e' => by rw [e'] at h3; simp [LA] at h3)
    rw [un, un2, e1]
    generalize aX E H b h x.1 = r
    obtain ⟨c, H', b'⟩ := r
    simp only
    rw [qZ l H' b' cs.tail x.2 (by simp only [mQ, Bool.and_eq_true]; exact ⟨h2, h4⟩)]
mutual
theorem Lr : ∀ (h : Sh) (H : Hp) (b : Nat) (x : LT h) (v : Value) (os : List (Value × Nat)), lb h = true → Rel P w M e h x v os → (aX E H b h x).2.2 = b + os.length
  | .int k, H, b, x, v, os, _, hr => by obtain ⟨_, rfl⟩ := hr; rfl
  | .bool, H, b, x, v, os, _, hr => by obtain ⟨_, rfl⟩ := hr; rfl
  | .str, H, b, x, v, os, _, hr => by obtain ⟨_, rfl⟩ := hr; rfl
  | .sl k, H, b, x, v, os, _, hr => by obtain ⟨_, rfl⟩ := hr; rfl
  | .fz k, H, b, x, v, os, _, hr => by obtain ⟨_, rfl⟩ := hr; rfl
  | .row t k, H, b, x, v, os, _, hr => by obtain ⟨rfl, _⟩ := hr; rfl
  | .rowz t k, H, b, x, v, os, _, hr => by obtain ⟨rfl, _⟩ := hr; rfl
  | .abx t k, H, b, x, v, os, _, hr => by obtain ⟨rfl, _⟩ := hr; rfl
  | .arr _, _, _, _, _, _, h, _ => by simp [lb] at h
  | .agg _, _, _, _, _, _, h, _ => by simp [lb] at h
  | .same t, H, b, x, v, os, _, hr => by obtain ⟨rfl, _⟩ := hr; rfl
  | .box t l, H, b, x, v, os, hl, hr => by
    obtain ⟨bb, us, os', rfl, h2, h3, rfl⟩ := hr
    have un : aX E H b (.box t l) x = (match ah E H b l x with | (cs, H, b) => (AV.ptr b cs.length 0 0, upd H b (some (.box t cs)), b + 1)) := rfl
    have k := vl l H b x us.toList os' (by simpa [lb] using hl) h3
    rw [un]
    generalize ah E H b l x = r at *
    obtain ⟨cs, H', b'⟩ := r
    have k : b' = b + os'.length := k
    simp [k, Nat.add_assoc]
theorem vl : ∀ (l : List Sh) (H : Hp) (b : Nat) (x : LTs l) (us : List Value) (os : List (Value × Nat)), nd l = true → Rels P w M e l x us os → (ah E H b l x).2.2 = b + os.length
  | [], H, b, x, us, os, _, hr => by obtain ⟨_, rfl⟩ := hr; rfl
  | h :: l, H, b, x, us, os, hl, hr => by
    obtain ⟨u, us', o1, o2, rfl, rfl, h1, h2⟩ := hr
    simp only [nd, Bool.and_eq_true] at hl
    have un : ah E H b (h :: l) x = (match aX E H b h x.1 with | (c, H, b) => match ah E H b l x.2 with | (cs, H, b) => (c :: cs, H, b)) := rfl
    have k := Lr h H b x.1 u o1 hl.1 h1
    rw [un]
    generalize aX E H b h x.1 = r at *
    obtain ⟨c, H', b'⟩ := r
    have k : b' = b + o1.length := k
    subst k
    have k2 := vl l H' (b + o1.length) x.2 us' o2 hl.2 h2
    simp only
    generalize ah E H' (b + o1.length) l x.2 = r at *
    obtain ⟨cs, H'', b''⟩ := r
    have k2 : b'' = _ := k2
    simp [k2, Nat.add_assoc]
end
mutual
theorem PW : ∀ (h : Sh) (H : Hp) (b : Nat) (x : LT h) (j : Nat), ¬ (b ≤ j ∧ j < (aX E H b h x).2.2) → (aX E H b h x).2.1 j = H j
  | .int _, H, _, _, _, _ => rfl
  | .bool, H, _, _, _, _ => rfl
  | .str, H, _, _, _, _ => rfl
  | .sl _, H, _, _, _, _ => rfl
  | .arr _, H, _, _, _, _ => rfl
  | .same _, H, _, _, _, _ => rfl
  | .fz _, H, _, _, _, _ => rfl
  | .row _ _, H, b, _, j, hj => al _ _ (fun e => hj ⟨by omega, by show j < b + 1; omega⟩)
  | .rowz _ _, H, b, _, j, hj => al _ _ (fun e => hj ⟨by omega, by show j < b + 1; omega⟩)
  | .abx _ _, H, b, _, j, hj => al _ _ (fun e => hj ⟨by omega, by show j < b + 1; omega⟩)
  | .agg l, H, b, x, j, hj => by
    have un : aX E H b (.agg l) x = (match ah E H b l x with | (cs, H, b) => (AV.agg cs, H, b)) := rfl
    have ih := vj l H b x j
    rw [un] at hj ⊢
    generalize ah E H b l x = r at *
    exact ih hj
  | .box e l, H, b, x, j, hj => by
    have un : aX E H b (.box e l) x = (match ah E H b l x with | (cs, H, b) => (AV.ptr b cs.length 0 0, upd H b (some (.box e cs)), b + 1)) := rfl
    have ih := vj l H b x j
    have hle := dj E l H b x
    rw [un] at hj ⊢
    generalize ah E H b l x = r at *
    obtain ⟨cs, H', b'⟩ := r
    simp only at hj ih hle ⊢
    rw [al _ _ (fun e => hj ⟨by omega, by omega⟩)]
    exact ih fun h => hj ⟨h.1, by omega⟩
theorem vj : ∀ (l : List Sh) (H : Hp) (b : Nat) (x : LTs l) (j : Nat), ¬ (b ≤ j ∧ j < (ah E H b l x).2.2) → (ah E H b l x).2.1 j = H j
  | [], H, _, _, _, _ => rfl
  | h :: l, H, b, x, j, hj => by
    have un : ah E H b (h :: l) x = (match aX E H b h x.1 with | (c, H, b) => match ah E H b l x.2 with | (cs, H, b) => (c :: cs, H, b)) := rfl
    have ih := PW h H b x.1 j
    have hle := be E h H b x.1
    rw [un] at hj ⊢
    generalize aX E H b h x.1 = r at *
    obtain ⟨c, H', b'⟩ := r
    have ih2 := vj l H' b' x.2 j
    have hle2 := dj E l H' b' x.2
    simp only at hj ⊢
    generalize ah E H' b' l x.2 = r at *
    obtain ⟨cs, H'', b''⟩ := r
    simp only at hj ih ih2 hle hle2 ⊢
    rw [ih2 fun h => hj ⟨by omega, h.2⟩]
    exact ih fun h => hj ⟨h.1, by omega⟩
end
end
end Go.VS
namespace Go.VS
open Go
section
variable {B B' : Base} {β β' : Beta} {H : Hp} {w w' : World} {M M' : Nat → Prop} {stk : List (Array Value)} {s s' : S} {a : Act} {P : Program} {E : Nat → AV} {e : Nat → Value} {b : Nat}
theorem St.mapB {f : AV → AV} (h : St B β stk s a w) (ht : B'.tm0 = B.tm0) (hf : ∀ c, noRef c = true → f c = c) (hg : ∀ c g want x, f c = .gd g want x → ∃ y, c = .gd g want y) (hk : Kf f w β w' β') {H' : Hp} (hH : Hs B' β' H' w') : St B' β' stk { s.map f with H := H' } a w' := by
  have g1 : ∀ c g want x, ju f c = .gd g want x → ∃ y, c = .gd g want y := by
    intro c g want x e
    cases c <;> first | (cases e; done) | exact hg _ _ _ _ e
  have g2 : ∀ c g want x, j8 f c = .gd g want x → ∃ y, c = .gd g want y := by
    intro c g want x e
    cases c <;> first | (cases e; done) | exact g1 _ _ _ _ e
  have g3 : ∀ c g want x, nJ f c = .gd g want x → ∃ y, c = .gd g want y := by
    intro c g want x e
    cases c with
    | gd g' w' y => cases e; exact ⟨_, rfl⟩
    | _ => exact g2 _ _ _ _ e
  refine ⟨fun t => RT.map hf hk (h.T t), ⟨by simpa [S.map] using h.stack.1, fun i T tm h1 h2 t => ?_⟩, h.n, h.defers, fun t ht' => by rw [ht]; exact h.pins t ht', fun t g want x hx => ?_, hH⟩
  · simp only [S.map, List.getElem?_map, Option.map_eq_some_iff] at h1
    obtain ⟨T0, h3, rfl⟩ := h1
    exact RT.map hf hk (h.stack.2 i T0 tm h3 h2 t)
  · obtain ⟨y, hy⟩ := g3 _ _ _ _ hx
    exact h.gs _ _ _ _ hy
def Beta.kz (β : Beta) (id : Nat) : Beta := ⟨upd β.f id none, fun b => β.Z b ∨ ∃ p a, β id = some p ∧ adr p.1 = some a ∧ a.block = b⟩
theorem Beta.kz_at (β : Beta) (id j : Nat) : (β.kz id) j = if j = id then none else β j := by
  show upd β.f id none j = _
  by_cases e : j = id
  · subst e; rw [ai, if_pos rfl]
  · rw [al _ _ e, if_neg e]
theorem St.killZ (h : St B β stk s a w) (id : Nat) : St { B with Z := (β.kz id).Z } (β.kz id) stk (s.kill id) a w := by
  have hM : ∀ b, ¬ MZ β b → b < w.heap.size → ¬ MZ (β.kz id) b := fun b hb _ hm => by
    rcases hm with ⟨j, hd, n, a, hj, ha, hab⟩ | hz | ⟨p, a, hp, ha, hab⟩
    · rw [Beta.kz_at] at hj
      split at hj
      · cases hj
      · exact hb (.inl ⟨j, hd, n, a, hj, ha, hab⟩)
    · exact hb (.inr hz)
    · exact hb (.inl ⟨id, p.1, p.2, a, hp, ha, hab⟩)
  have hk : Kf (kl1 id) w β w (β.kz id) := Kf.kill (fun j e => al _ _ e) (fun _ _ _ _ h => h) hM
  have hH := h.hs.turnZ (bh id) hk (fun j e => al _ _ e) (.inl ⟨ai _ _ _, rfl⟩) (fun _ _ _ _ _ _ => rfl) rfl rfl rfl (Nat.le_refl _) (fun _ _ _ => rfl) (fun b hb => hb.imp (fun h => h) fun h => ⟨ai _ _ _, h⟩) (Pk.refl _ _)
  exact h.mapB (B' := { B with Z := (β.kz id).Z }) rfl (bh id) (tz id) hk hH
theorem St.killsZ : ∀ (ids : List Nat) {B : Base} {β : Beta} {s : S}, ids.Nodup → St B β stk s a w → ∃ β2 : Beta, St { B with Z := β2.Z } β2 stk (ids.foldl S.kill s) a w ∧ (∀ j, β2 j = if j ∈ ids then none else β j) ∧
    (∀ b, β2.Z b ↔ β.Z b ∨ ∃ i ∈ ids, ∃ p a, β i = some p ∧ adr p.1 = some a ∧ a.block = b)
  | [], B, β, s, _, h => by
    have e : { B with Z := β.Z } = B := by rw [h.hs.z]
    exact ⟨β, by rw [e]; exact h, fun j => by simp, fun b => by simp⟩
  | i :: ids, B, β, s, hn, h => by
    obtain ⟨hn1, hn2⟩ := List.nodup_cons.1 hn
    obtain ⟨β2, h1, h2, h3⟩ := St.killsZ ids hn2 (h.killZ i)
    refine ⟨β2, h1, fun j => ?_, fun b => ?_⟩
    · rw [h2, Beta.kz_at]
      by_cases e1 : j ∈ ids
      · rw [if_pos e1, if_pos (List.mem_cons_of_mem _ e1)]
      · by_cases e2 : j = i
        · rw [if_neg e1, if_pos e2, if_pos (by rw [e2]; exact List.mem_cons_self)]
        · rw [if_neg e1, if_neg e2, if_neg (by simp [e1, e2])]
    · rw [h3]
      constructor
      · rintro ((h | ⟨p, a, h⟩) | ⟨j, hj, p, a, hp, h⟩)
        · exact .inl h
        · exact .inr ⟨i, List.mem_cons_self, p, a, h⟩
        · rw [Beta.kz_at] at hp
          split at hp
          · cases hp
          · exact .inr ⟨j, List.mem_cons_of_mem _ hj, p, a, hp, h⟩
      · rintro (h | ⟨j, hj, p, a, hp, h⟩)
        · exact .inl (.inl h)
        · rcases List.mem_cons.1 hj with rfl | hj
          · exact .inl (.inr ⟨p, a, hp, h⟩)
          · refine .inr ⟨j, hj, p, a, ?_, h⟩
            rw [Beta.kz_at, if_neg (fun (e : j = i) => hn1 (e ▸ hj))]
            exact hp
theorem St.freezeE (h : St B β stk s a w) (id : Nat) : St B (β.up id none) stk (s.freeze id) a w := by
  unfold S.freeze
  split
  · rename_i e fz k xs hid
    obtain ⟨h1, h2⟩ := h.hs.freezeE hid
    exact h.map (p6 id k xs) (MU id k xs) h2 h1
  · obtain ⟨h1, h2⟩ := h.hs.killE id
    exact h.map (bh id) (tz id) h2 h1
theorem St.freezesE : ∀ (ids : List Nat) {β : Beta} {s : S}, St B β stk s a w → ∃ β2 : Beta, St B β2 stk (ids.foldl S.freeze s) a w ∧ (∀ j, β2 j = if j ∈ ids then none else β j) ∧ β2.Z = β.Z
  | [], β, s, h => ⟨β, h, fun j => by simp, rfl⟩
  | i :: ids, β, s, h => by
    obtain ⟨β2, h1, h2, h3⟩ := St.freezesE ids (h.freezeE i)
    refine ⟨β2, h1, fun j => ?_, h3⟩
    rw [h2]
    by_cases e1 : j ∈ ids
    · rw [if_pos e1, if_pos (List.mem_cons_of_mem _ e1)]
    · by_cases e2 : j = i
      · subst e2
        rw [if_neg e1, if_pos List.mem_cons_self, Beta.up_same]
      · rw [if_neg e1, Beta.up_ne _ _ e2, if_neg (by simp [e1, e2])]
theorem St.fzIfE (q : Bool) (ids : List Nat) (h : St B β stk s a w) : ∃ β2 : Beta, St B β2 stk (sE q ids s) a w ∧ (∀ j, β2 j = if q = true ∧ j ∈ ids then none else β j) ∧ β2.Z = β.Z := by
  cases q with
  | false => exact ⟨β, h, fun j => by simp, rfl⟩
  | true =>
    obtain ⟨β2, h1, h2, h3⟩ := St.freezesE ids h
    exact ⟨β2, h1, fun j => by simp [h2], h3⟩
theorem I9 {t : TypeId} {j : Nat} : ∀ (ids : List Nat) (s : S) {cs : List AV}, j ∉ ids → s.H j = some (.box t cs) → ∃ cs', (ids.foldl S.kill s).H j = some (.box t cs')
  | [], s, cs, _, h => ⟨cs, h⟩
  | i :: ids, s, cs, hj, h => by
    have hne : j ≠ i := fun e => hj (e ▸ List.mem_cons_self)
    refine I9 ids (s.kill i) (cs := cs.map (kl1 i)) (fun hm => hj (List.mem_cons_of_mem _ hm)) ?_
    show upd (fun j => cY (kl1 i) (s.H j)) i none j = _
    rw [al _ _ hne, h]
    rfl
theorem B6 {t : TypeId} {j : Nat} : ∀ (ids : List Nat) (s : S) {cs : List AV}, j ∉ ids → s.H j = some (.box t cs) → ∃ cs', (ids.foldl S.freeze s).H j = some (.box t cs')
  | [], s, cs, _, h => ⟨cs, h⟩
  | i :: ids, s, cs, hj, h => by
    have hne : j ≠ i := fun e => hj (e ▸ List.mem_cons_self)
    have : ∃ cs', (s.freeze i).H j = some (.box t cs') := by
      unfold S.freeze
      split
      · rename_i k xs _
        refine ⟨cs.map (fz1 i k xs), ?_⟩
        show upd (fun j => cY (fz1 i k xs) (s.H j)) i none j = _
        rw [al _ _ hne, h]
        rfl
      · refine ⟨cs.map (kl1 i), ?_⟩
        show upd (fun j => cY (kl1 i) (s.H j)) i none j = _
        rw [al _ _ hne, h]
        rfl
    obtain ⟨cs', h'⟩ := this
    exact B6 ids (s.freeze i) (fun hm => hj (List.mem_cons_of_mem _ hm)) h'
theorem Qe {t : TypeId} {j : Nat} (q : Bool) (ids : List Nat) (s : S) {cs : List AV} (hj : ¬ (q = true ∧ j ∈ ids)) (h : s.H j = some (.box t cs)) : ∃ cs', (sE q ids s).H j = some (.box t cs') := by
  cases q with
  | false => exact ⟨cs, h⟩
  | true => exact B6 ids s (fun hm => hj ⟨rfl, hm⟩) h
mutual
theorem PH : ∀ (h : Sh) (c : AV), (cN H h c).Sublist (dt H h c)
  | .int _, _ => List.Sublist.refl _
  | .bool, _ => List.Sublist.refl _
  | .str, _ => List.Sublist.refl _
  | .sl _, _ => List.Sublist.refl _
  | .arr _, _ => List.Sublist.refl _
  | .same _, _ => List.Sublist.refl _
  | .fz _, _ => List.Sublist.refl _
  | .row _ _, c => by cases c <;> exact List.Sublist.refl _
  | .rowz _ _, c => by cases c <;> exact List.Sublist.refl _
  | .abx _ _, c => by
    cases c with
    | ptr id z i o => cases i <;> cases o <;> exact List.Sublist.refl _
    | _ => exact List.Sublist.refl _
  | .agg l, c => by
    cases c with
    | agg cs => exact vf l cs
    | _ => exact List.Sublist.refl _
  | .box t l, c => by
    cases c with
    | ptr id z i o =>
      cases i <;> cases o <;> simp only [cN, dt] <;> first | exact List.Sublist.refl _ | skip
      split
      · exact (vf l _).trans (List.sublist_append_left _ _)
      · exact List.Sublist.refl _
    | _ => exact List.Sublist.refl _
theorem vf : ∀ (l : List Sh) (cs : List AV), (bC H l cs).Sublist (aQ H l cs)
  | [], _ => by simp only [bC, aQ]; exact List.Sublist.refl _
  | _ :: _, [] => by simp only [bC, aQ]; exact List.Sublist.refl _
  | h :: l, c :: cs => by
    simp only [bC, aQ]
    exact (PH h c).append (vf l cs)
end
def AR (H : Hp) (i : Nat) : Prop := ∀ t cs, H i ≠ some (.box t cs)
mutual
theorem Om : ∀ (h : Sh) (c : AV) (x : LT h), bL E H h c = some x → ∀ i ∈ cN H h c, AR H i
  | .int _, _, _, _, i, hi => by simp [cN] at hi
  | .bool, _, _, _, i, hi => by simp [cN] at hi
  | .str, _, _, _, i, hi => by simp [cN] at hi
  | .sl _, _, _, _, i, hi => by simp [cN] at hi
  | .arr _, _, _, _, i, hi => by simp [cN] at hi
  | .same _, _, _, _, i, hi => by simp [cN] at hi
  | .fz _, _, _, _, i, hi => by simp [cN] at hi
  | .row t k, c, x, hx, i, hi => by
    cases c <;> simp [cN] at hi
    subst hi
    intro t' cs hb
    simp [bL, hb] at hx
  | .rowz t k, c, x, hx, i, hi => by
    cases c <;> simp [cN] at hi
    subst hi
    intro t' cs hb
    simp [bL, hb] at hx
  | .abx t k, c, x, hx, i, hi => by
    cases c with
    | ptr id z i' o =>
      cases i' <;> cases o <;> simp [cN] at hi
      subst hi
      intro t' cs hb
      simp [bL, hb] at hx
    | _ => simp [cN] at hi
  | .agg l, c, x, hx, i, hi => by
    cases c with
    | agg cs => exact qL l cs x hx i (by simpa [cN] using hi)
    | _ => simp [cN] at hi
  | .box t l, c, x, hx, j, hi => by
    cases c with
    | ptr id z i o =>
      cases i <;> cases o <;> simp only [cN] at hi <;> first | (simp at hi; done) | skip
      cases ho : H id with
      | none => simp [ho] at hi
      | some ob =>
        cases ob with
        | box e' cs =>
          simp only [ho] at hi
          simp only [bL, ho] at hx
          split at hx
          · exact qL l cs x hx j hi
          · cases hx
        | _ => simp [ho] at hi
    | _ => simp [cN] at hi
theorem qL : ∀ (l : List Sh) (cs : List AV) (x : LTs l), j0 E H l cs = some x → ∀ i ∈ bC H l cs, AR H i
  | [], cs, _, _, i, hi => by simp [bC] at hi
  | _ :: _, [], _, _, i, hi => by simp [bC] at hi
  | h :: l, c :: cs, x, hx, i, hi => by
    obtain ⟨x1, e1, hx⟩ := Option.bind_eq_some_iff.1 hx
    obtain ⟨x2, e2, hx⟩ := Option.bind_eq_some_iff.1 hx
    simp only [bC, List.mem_append] at hi
    rcases hi with hi | hi
    · exact Om h c x1 e1 i hi
    · exact qL l cs x2 e2 i hi
end
mutual
theorem OO : ∀ (h : Sh) (c : AV) (x : LT h), bL E H h c = some x → ∀ i ∈ dQ H h c, AR H i
  | .int _, _, _, _, i, hi => by simp [dQ] at hi
  | .bool, _, _, _, i, hi => by simp [dQ] at hi
  | .str, _, _, _, i, hi => by simp [dQ] at hi
  | .sl _, _, _, _, i, hi => by simp [dQ] at hi
  | .arr _, _, _, _, i, hi => by simp [dQ] at hi
  | .same _, _, _, _, i, hi => by simp [dQ] at hi
  | .row _ _, _, _, _, i, hi => by simp [dQ] at hi
  | .rowz _ _, _, _, _, i, hi => by simp [dQ] at hi
  | .abx _ _, _, _, _, i, hi => by simp [dQ] at hi
  | .fz k, c, x, hx, i, hi => by
    cases c <;> simp [dQ] at hi
    subst hi
    intro t' cs hb
    simp [bL, cT, hb] at hx
  | .agg l, c, x, hx, i, hi => by
    cases c with
    | agg cs => exact q4 l cs x hx i (by simpa [dQ] using hi)
    | _ => simp [dQ] at hi
  | .box t l, c, x, hx, j, hi => by
    cases c with
    | ptr id z i o =>
      cases i <;> cases o <;> simp only [dQ] at hi <;> first | (simp at hi; done) | skip
      cases ho : H id with
      | none => simp [ho] at hi
      | some ob =>
        cases ob with
        | box e' cs =>
          simp only [ho] at hi
          simp only [bL, ho] at hx
          split at hx
          · exact q4 l cs x hx j hi
          · cases hx
        | _ => simp [ho] at hi
    | _ => simp [dQ] at hi
theorem q4 : ∀ (l : List Sh) (cs : List AV) (x : LTs l), j0 E H l cs = some x → ∀ i ∈ b7 H l cs, AR H i
  | [], cs, _, _, i, hi => by simp [b7] at hi
  | _ :: _, [], _, _, i, hi => by simp [b7] at hi
  | h :: l, c :: cs, x, hx, i, hi => by
    obtain ⟨x1, e1, hx⟩ := Option.bind_eq_some_iff.1 hx
    obtain ⟨x2, e2, hx⟩ := Option.bind_eq_some_iff.1 hx
    simp only [b7, List.mem_append] at hi
    rcases hi with hi | hi
    · exact OO h c x1 e1 i hi
    · exact q4 l cs x2 e2 i hi
end
theorem tj {k : K} (h : Jj k = true) (x : Tof k) : ∀ c ∈ enc k x, ∃ v, c = .lit v := by
  have key : (enc k x).all (fun c => match c with
      | .lit _ => true
      | _ => false) = true := by cases k <;> first | (cases h; done) | rfl
  intro c hc
  have := List.all_eq_true.1 key c hc
  cases c <;> first | exact ⟨_, rfl⟩ | cases this
def Gm : Beta := ⟨fun _ => none, fun _ => False⟩
theorem vu {b : Nat} : ¬ MZ Gm b := by
  rintro (⟨_, _, _, _, h, _⟩ | h)
  · cases h
  · exact h
theorem RowOK.anyM {t : TypeId} {fz : Bool} {k : K} {xs : List (Tof k)} {v : Value} (hk : Jj k = true) (h : RowOK w β t fz k xs v) : RowOK w β' t fz k xs v := by
  rcases h with h | ⟨b, f, cap, us, fr, h1, h2, h3, h4, h5, h6, h7⟩
  · exact .inl h
  · refine .inr ⟨b, f, cap, us, fr, h1, h2, h3, h4, h5, h6, fun i x j c u a1 a2 a3 => ?_⟩
    have h8 := h7 i x j c u a1 a2 a3
    obtain ⟨v, rfl⟩ := tj hk x c (List.mem_of_getElem? a2)
    cases h8 with
    | lit h => exact .lit h
mutual
theorem Rel.anyM : ∀ (h : Sh) (x : LT h) (v : Value) (os : List (Value × Nat)), J7 h = false → Rel P w M e h x v os → Rel P w M' e h x v os
  | .int _, _, _, _, _, h => h
  | .bool, _, _, _, _, h => h
  | .str, _, _, _, _, h => h
  | .sl _, _, _, _, h, _ => by cases h
  | .fz _, _, _, _, h, _ => by cases h
  | .row t k, _, _, _, hm, h => ⟨h.1, h.2.1, fun β _ => (h.2.2 Gm (fun b hb => absurd hb vu)).anyM (by simpa [J7] using hm)⟩
  | .rowz t k, _, _, _, hm, h => ⟨h.1, h.2.1, fun β _ => (h.2.2 Gm (fun b hb => absurd hb vu)).anyM (by simpa [J7] using hm)⟩
  | .abx t k, _, _, _, hm, h => by
    obtain ⟨h1, h2, b, us, h3, h4, h5, h6, h7⟩ := h
    refine ⟨h1, h2, b, us, h3, h4, h5, h6, fun β _ i x j c u a1 a2 a3 => ?_⟩
    have h8 := h7 Gm (fun b hb => absurd hb vu) i x j c u a1 a2 a3
    obtain ⟨v, rfl⟩ := tj (by simpa [J7] using hm) x c (List.mem_of_getElem? a2)
    cases h8 with
    | lit h => exact .lit h
  | .arr k, _, _, _, hm, h => by
    obtain ⟨h1, h2⟩ := h
    refine ⟨h1, fun β _ => ?_⟩
    obtain ⟨us, k1, k2, k3⟩ := h2 Gm (fun b hb => absurd hb vu)
    refine ⟨us, k1, k2, fun i x j c u a1 a2 a3 => ?_⟩
    have h8 := k3 i x j c u a1 a2 a3
    obtain ⟨v, rfl⟩ := tj (by simpa [J7] using hm) x c (List.mem_of_getElem? a2)
    cases h8 with
    | lit h => exact .lit h
  | .same t, _, _, _, _, h => h
  | .agg l, x, v, os, hm, h => by
    obtain ⟨us, h1, h2⟩ := h
    exact ⟨us, h1, Rels.anyM l x us os (by simpa [J7] using hm) h2⟩
  | .box t l, x, v, os, hm, h => by
    obtain ⟨b, us, os', h1, h2, h3, h4⟩ := h
    exact ⟨b, us, os', h1, h2, Rels.anyM l x us.toList os' (by simpa [J7] using hm) h3, h4⟩
theorem Rels.anyM : ∀ (l : List Sh) (x : LTs l) (us : List Value) (os : List (Value × Nat)), bD l = false → Rels P w M e l x us os → Rels P w M' e l x us os
  | [], _, _, _, _, h => h
  | h :: l, x, us, os, hm, hr => by
    obtain ⟨u, us', o1, o2, h1, h2, h3, h4⟩ := hr
    simp only [bD, Bool.or_eq_false_iff] at hm
    exact ⟨u, us', o1, o2, h1, h2, Rel.anyM h x.1 u o1 hm.1 h3, Rels.anyM l x.2 us' o2 hm.2 h4⟩
end
end
end Go.VS
namespace Go.VS
open Go
def RP : List Sh → Bool
  | .box _ l2 :: l => mQ l2 && mQ l
  | l => mQ l
def Ny : List Sh → Bool
  | .box _ _ :: _ => true
  | _ => false
def Q7 (P : Program) : List Sh → Bool
  | [] => true
  | h :: ps => (match h with
    | .box t l => RP l && (!Ny l || E4 P t)
    | .agg l => mQ l
    | _ => true) && Q7 P ps
section
variable {B B' : Base} {β β' : Beta} {H : Hp} {w w' : World} {M M' : Nat → Prop} {stk : List (Array Value)} {s s' : S} {a : Act} {P : Program} {E : Nat → AV} {e : Nat → Value} {b : Nat} {C : Cx}
mutual
theorem vr : ∀ (h : Sh) (c : AV), br h = true → LA h = false → ∀ i ∈ dt H h c, i ∈ cN H h c
  | .int _, _, _, _, i, hi => by simp [dt] at hi
  | .bool, _, _, _, i, hi => by simp [dt] at hi
  | .str, _, _, _, i, hi => by simp [dt] at hi
  | .sl _, _, _, _, i, hi => by simp [dt] at hi
  | .fz _, _, _, _, i, hi => by simp [dt] at hi
  | .row _ _, c, _, _, i, hi => by cases c <;> first | exact hi | (simp [dt] at hi; done)
  | .rowz _ _, c, _, _, i, hi => by cases c <;> first | exact hi | (simp [dt] at hi; done)
  | .abx _ _, c, _, _, i, hi => by
    cases c with
    | ptr id z i' o => cases i' <;> cases o <;> first | exact hi | (simp [dt] at hi; done)
    | _ => simp [dt] at hi
  | .arr _, _, h, _, _, _ => by simp [br] at h
  | .same _, _, h, _, _, _ => by simp [br] at h
  | .agg _, _, h, _, _, _ => by simp [br] at h
  | .box _ _, _, _, h, _, _ => by cases h
end
theorem ot : ∀ (l : List Sh) (cs : List AV), mQ l = true → ∀ i ∈ aQ H l cs, i ∈ bC H l cs
  | [], cs, _, i, hi => by simp [aQ] at hi
  | _ :: _, [], _, i, hi => by simp [aQ] at hi
  | h :: l, c :: cs, hl, i, hi => by
    simp only [mQ, dC, List.all_cons, Bool.and_eq_true, Bool.not_eq_true'] at hl
    obtain ⟨⟨h1, h2⟩, h3, h4⟩ := hl
    simp only [aQ, List.mem_append] at hi
    rcases hi with hi | hi
    · exact List.mem_append_left _ (vr h c h1 h3 i hi)
    · refine List.mem_append_right _ (ot l cs ?_ i hi)
      simp only [mQ, Bool.and_eq_true]
      exact ⟨h2, h4⟩
def mr : List AV → List Nat
  | [] => []
  | .ptr id _ 0 0 :: l => id :: mr l
  | _ :: l => mr l
theorem NK {id : Nat} : ∀ {ds : List AV}, id ∈ mr ds → ∃ z, AV.ptr id z 0 0 ∈ ds
  | [], h => by cases h
  | c :: ds, h => by
    have rest : id ∈ mr ds → ∃ z, AV.ptr id z 0 0 ∈ c :: ds := fun h => by
      obtain ⟨z, hz⟩ := NK h
      exact ⟨z, List.mem_cons_of_mem _ hz⟩
    cases c <;> first | exact rest h | skip
    rename_i a b i o
    cases i <;> cases o <;> first | exact rest h | skip
    rcases List.mem_cons.1 h with h | h
    · subst h; exact ⟨b, List.mem_cons_self⟩
    · exact rest h
inductive Fb (P : Program) (w : World) (H : Hp) : List Sh → List AV → List Value → List AV → List Value → Prop
  | nil : Fb P w H [] [] [] [] []
  | flat {t : TypeId} {l bs : List Sh} {id z bb : Nat} {cs ds : List AV} {vs us : List Value} (hl : mQ l = true) (hb : ∃ t0 cs0, H id = some (.box t0 cs0)) (h : Fb P w H bs cs vs ds us) :
      Fb P w H (.box t l :: bs) (.ptr id z 0 0 :: cs) (.pointer (some ⟨bb, 0, none⟩) :: vs) (.ptr id z 0 0 :: ds) (.pointer (some ⟨bb, 0, none⟩) :: us)
  | nest {t t2 t0 : TypeId} {l2 l bs : List Sh} {id z id2 z2 bb bb2 : Nat} {cs1 cs ds : List AV} {vs us : List Value} (hl2 : mQ l2 = true) (hl : mQ l = true) (hid : H id = some (.box t0 (.ptr id2 z2 0 0 :: cs1)))
      (hb2 : ∃ t0 cs0, H id2 = some (.box t0 cs0)) (hn : E4 P t = true) (hc : ∃ us0 fr, w.heap[bb]? = some (.cells us0 t fr) ∧ us0[0]? = some (.pointer (some ⟨bb2, 0, none⟩))) (h : Fb P w H bs cs vs ds us) :
      Fb P w H (.box t (.box t2 l2 :: l) :: bs) (.ptr id z 0 0 :: cs) (.pointer (some ⟨bb, 0, none⟩) :: vs) (.ptr id2 z2 0 0 :: .ptr id z 0 0 :: ds) (.pointer (some ⟨bb2, 0, none⟩) :: .pointer (some ⟨bb, 0, none⟩) :: us)
theorem Fb.carry {bs : List Sh} {cs ds : List AV} {vs us : List Value} {H' : Hp} (h : Fb P w H bs cs vs ds us) (hpk : Pk P w w')
    (hH : ∀ id ∈ mr ds, ∀ t cs, H id = some (.box t cs) → ∃ cs', H' id = some (.box t cs') ∧ ∀ id2 z2 cs1, cs = .ptr id2 z2 0 0 :: cs1 → id2 ∈ mr ds → ∃ cs1', cs' = .ptr id2 z2 0 0 :: cs1') : Fb P w' H' bs cs vs ds us := by
  induction h with
  | nil => exact .nil
  | @flat t l bs id z bb cs ds vs us hl hb h ih =>
    refine .flat hl ?_ (ih fun i hi t0 c0 h0 => ?_)
    · obtain ⟨t0, c0, h0⟩ := hb
      obtain ⟨c1, h1, _⟩ := hH id List.mem_cons_self t0 c0 h0
      exact ⟨t0, c1, h1⟩
    · obtain ⟨c1, h1, h2⟩ := hH i (List.mem_cons_of_mem _ hi) t0 c0 h0
      exact ⟨c1, h1, fun a b c e hm => h2 a b c e (List.mem_cons_of_mem _ hm)⟩
  | @nest t t2 t0 l2 l bs id z id2 z2 bb bb2 cs1 cs ds vs us hl2 hl hid hb2 hn hc h ih =>
    obtain ⟨c1, h1, h2⟩ := hH id (List.mem_cons_of_mem _ List.mem_cons_self) t0 _ hid
    obtain ⟨c2, rfl⟩ := h2 id2 z2 cs1 rfl List.mem_cons_self
    refine .nest hl2 hl h1 ?_ hn ?_ (ih fun i hi t0 c0 h0 => ?_)
    · obtain ⟨t3, c3, h3⟩ := hb2
      obtain ⟨c4, h4, _⟩ := hH id2 List.mem_cons_self t3 c3 h3
      exact ⟨t3, c4, h4⟩
    · obtain ⟨us0, fr, h3, h4⟩ := hc
      obtain ⟨us1, fr1, h5, h6⟩ := hpk bb us0 t fr _ h3 h4 hn
      exact ⟨us1, fr1, h5, h6⟩
    · obtain ⟨c3, h3, h4⟩ := hH i (List.mem_cons_of_mem _ (List.mem_cons_of_mem _ hi)) t0 c0 h0
      exact ⟨c3, h3, fun a b c e hm => h4 a b c e (List.mem_cons_of_mem _ (List.mem_cons_of_mem _ hm))⟩
theorem Hr {l : List Sh} (hl : mQ l = true) (H : Hp) (b : Nat) (x : LTs l) {us1 : List Value} {ob : List (Value × Nat)} (hr : Rels P w M e l x us1 ob) :
    ∃ ds1 H1, ah E H b l x = (ds1, H1, b + ob.length) ∧ (∀ j, ¬ (b ≤ j ∧ j < b + ob.length) → H1 j = H j) ∧ ∀ β : Beta, (∀ b, MZ β b → M b) → Num β b ob → RL (RC w β) ds1 us1 ∧ ∀ j, b ≤ j → j < b + ob.length → ∃ o, H1 j = some o ∧ ObOK P w β j o := by
  have hl' := hl
  simp only [mQ, Bool.and_eq_true] at hl'
  obtain ⟨hcell, hsame⟩ := tl l hl'.1
  have hlen := vl (E := E) (P := P) (w := w) (M := M) (e := e) l H b x us1 ob hcell hr
  have hout := vj (E := E) l H b x
  have hrc := fun (β : Beta) (hM : ∀ b, MZ β b → M b) (hn : Num β b ob) => yU (E := E) (P := P) (w := w) (M := M) (e := e) hM l H b x us1 ob hcell hr hn (by rw [hsame]; intro t ht; simp at ht)
  generalize ah E H b l x = r at *
  obtain ⟨ds1, H1, b1⟩ := r
  have hlen : b1 = b + ob.length := hlen
  subst hlen
  exact ⟨ds1, H1, rfl, hout, fun β hM hn => ⟨(hrc β hM hn).1, (hrc β hM hn).2.2.2⟩⟩
theorem Oq {x y : Value × Nat} {oc ob nw us o2 : List (Value × Nat)} (h : o2.Perm (nw ++ us)) : (((oc ++ [x]) ++ ob) ++ [y] ++ o2).Perm (((oc ++ ob) ++ nw) ++ x :: y :: us) := by
  have h1 : (ob ++ y :: o2).Perm (ob ++ nw ++ y :: us) := by
    rw [List.append_assoc]
    exact List.Perm.append_left ob ((h.cons y).trans List.perm_middle.symm)
  have h2 : (oc ++ x :: (ob ++ y :: o2)).Perm (oc ++ (ob ++ nw ++ x :: y :: us)) := List.Perm.append_left oc ((h1.cons x).trans List.perm_middle.symm)
  simpa [List.append_assoc] using h2
theorem Bp : ∀ (bs : List Sh) (H : Hp) (b : Nat) (q : LTs bs) (cs ds : List AV) (vs us : List Value) (os : List (Value × Nat)) (L : Nat), Fb P w H bs cs vs ds us → (mr ds).Nodup → (∀ i ∈ mr ds, ¬ (b ≤ i ∧ i < L)) → Rels P w M e bs q vs os → (aC E H b bs cs q).2.2 ≤ L →
    ∃ nw : List (Value × Nat), os.Perm (nw ++ us.map fun v => (v, 1)) ∧ (aC E H b bs cs q).2.2 = b + nw.length ∧
      ∀ β : Beta, (∀ b, MZ β b → M b) → Num β b nw → (∀ (i : Nat) (c : AV) (v : Value), ds[i]? = some c → us[i]? = some v → ∀ id z, c = .ptr id z 0 0 → β id = some (v, 1)) →
        (∀ j, (aC E H b bs cs q).2.1 j = H j ∨ ∃ ob, (aC E H b bs cs q).2.1 j = some ob ∧ ObOK P w β j ob) ∧
        (∀ j, b ≤ j → j < b + nw.length → ∃ ob, (aC E H b bs cs q).2.1 j = some ob ∧ ObOK P w β j ob) ∧
        (∀ id z, AV.ptr id z 0 0 ∈ ds → ∃ ob, (aC E H b bs cs q).2.1 id = some ob ∧ ObOK P w β id ob) ∧
        (∀ j, ¬ (b ≤ j ∧ j < b + nw.length) → (∀ z, AV.ptr j z 0 0 ∉ ds) → (aC E H b bs cs q).2.1 j = H j)
  | [], H, b, q, cs, ds, vs, us, os, L, hF, _, _, hr, _ => by
    cases hF
    obtain ⟨_, rfl⟩ := hr
    exact ⟨[], .nil, rfl, fun β _ _ _ => ⟨fun j => .inl rfl, fun j h1 h2 => by simp at h2; omega, fun id z h => by simp at h, fun j _ _ => rfl⟩⟩
  | h :: bs, H, b, q, cs0, ds0, vs0, us0, os, L, hF, hnd, hout, hr, hL => by
    cases hF with
    | @flat t l _ id z bb cs ds vs us hl hb hF =>
      obtain ⟨u, us', o1, o2, e1, rfl, h1, h2⟩ := hr
      cases e1
      obtain ⟨bb', uc, os', e2, h3, h4, rfl⟩ := h1
      cases e2
      obtain ⟨t0, c0, hid⟩ := hb
      obtain ⟨da, H1, hmk, ho1, hrc⟩ := Hr (E := E) hl H b q.1 h4
      have hnd' : id ∉ mr ds ∧ (mr ds).Nodup := by simpa [mr] using hnd
      have un : aC E H b (.box t l :: bs) (.ptr id z 0 0 :: cs) q = (match aC E (upd H1 id (some (.box t da))) (b + os'.length) bs cs q.2 with | (es, H'', b'') => (AV.ptr id z 0 0 :: es, H'', b'')) := by
        have u1 : aC E H b (.box t l :: bs) (.ptr id z 0 0 :: cs) q = (match fO E H b (.box t l) (.ptr id z 0 0) q.1 with | (d, H, b) => match aC E H b bs cs q.2 with | (ds, H, b) => (d :: ds, H, b)) := rfl
        have u2 : fO E H b (.box t l) (.ptr id z 0 0) q.1 = (match H id with
          | some (.box _ cs) => (match aC E H b l cs q.1 with | (ds, H, b) => (AV.ptr id z 0 0, upd H id (some (.box t ds)), b))
          | _ => (.un, H, b)) := rfl
        rw [u1, u2, hid]
        simp only
        rw [qZ l H b c0 q.1 hl, hmk]
      rw [un] at hL ⊢
      have hle := ni E bs (upd H1 id (some (.box t da))) (b + os'.length) cs q.2
      have hL' : (aC E (upd H1 id (some (.box t da))) (b + os'.length) bs cs q.2).2.2 ≤ L := by
        generalize aC E (upd H1 id (some (.box t da))) (b + os'.length) bs cs q.2 = r at *
        exact hL
      have hsame : ∀ i ∈ mr ds, upd H1 id (some (.box t da)) i = H i := fun i hi => by
        rw [al _ _ (fun e => hnd'.1 (by rw [← e]; exact hi)), ho1 i (fun hh => hout i (List.mem_cons_of_mem _ hi) ⟨hh.1, by omega⟩)]
      obtain ⟨nw, n1, n4, n5⟩ := Bp bs (upd H1 id (some (.box t da))) (b + os'.length) q.2 cs ds vs us o2 L (hF.carry (Pk.refl _ _) fun i hi t c h0 => ⟨c, by rw [hsame i hi]; exact h0, fun _ _ c1 e _ => ⟨c1, e⟩⟩) hnd'.2
        (fun i hi hh => hout i (List.mem_cons_of_mem _ hi) ⟨by omega, hh.2⟩) h2 hL'
      generalize hg : aC E (upd H1 id (some (.box t da))) (b + os'.length) bs cs q.2 = r at *
      obtain ⟨es, H'', b''⟩ := r
      simp only at n4 n5 hle hL hL' ⊢
      refine ⟨os' ++ nw, ?_, ?_, ?_⟩
      · rw [List.append_assoc, List.append_assoc, List.map_cons]
        refine List.Perm.append_left os' ?_
        exact ((n1.cons (Value.pointer (some ⟨bb, 0, none⟩), 1)).trans List.perm_middle.symm)
      · rw [n4]; simp [Nat.add_assoc]
      · intro β hM hn hbx
        obtain ⟨r1, r3⟩ := hrc β hM hn.left
        have hβid : β id = some (.pointer (some ⟨bb, 0, none⟩), 1) := hbx 0 _ _ rfl rfl id z rfl
        have obid : ObOK P w β id (.box t da) := ⟨bb, uc, hβid, h3, r1⟩
        obtain ⟨m1, m2, m3, m4⟩ := n5 β hM hn.right (fun i c v k1 k2 => hbx (i + 1) c v (by simpa using k1) (by simpa using k2))
        have step : ∀ j, H'' j = H1 j ∨ ∃ ob, H'' j = some ob ∧ ObOK P w β j ob := fun j => by
          rcases m1 j with h | h
          · by_cases e4 : j = id
            · subst e4
              rw [ai] at h
              exact .inr ⟨_, h, obid⟩
            · rw [al _ _ e4] at h
              exact .inl h
          · exact .inr h
        refine ⟨fun j => ?_, fun j k1 k2 => ?_, fun id2 z2 hm => ?_, fun j k1 k2 => ?_⟩
        · rcases step j with h | h
          · by_cases hj : b ≤ j ∧ j < b + os'.length
            · obtain ⟨ob, q1, q2⟩ := r3 j hj.1 hj.2
              exact .inr ⟨ob, by rw [h]; exact q1, q2⟩
            · exact .inl (h.trans (ho1 j hj))
          · exact .inr h
        · by_cases hj : j < b + os'.length
          · rcases step j with h | h
            · obtain ⟨ob, q1, q2⟩ := r3 j k1 hj
              exact ⟨ob, by rw [h]; exact q1, q2⟩
            · exact h
          · exact m2 j (by omega) (by simp at k2; omega)
        · rcases List.mem_cons.1 hm with h | h
          · cases h
            rcases m1 id with h | h
            · rw [ai] at h
              exact ⟨_, h, obid⟩
            · exact h
          · exact m3 id2 z2 h
        · have hne : j ≠ id := fun e4 => k2 z (by rw [e4]; exact List.mem_cons_self)
          rw [m4 j (fun hh => k1 ⟨by omega, by simp; omega⟩) (fun z' hz' => k2 z' (List.mem_cons_of_mem _ hz')), al _ _ hne]
          exact ho1 j (fun hh => k1 ⟨hh.1, by simp; omega⟩)
    | @nest t t2 t0 l2 l _ id z id2 z2 bb bb2 cs1 cs ds vs us hl2 hl hid hb2 hn hc hF =>
      obtain ⟨u, us', o1, o2, e1, rfl, h1, h2⟩ := hr
      cases e1
      obtain ⟨bb', uc, os', e2, h3, h4, rfl⟩ := h1
      cases e2
      obtain ⟨u2, us1, oa, ob, huc, rfl, h5, h6⟩ := h4
      obtain ⟨bb2', uc2, oc, e3, h7, h8, rfl⟩ := h5
      have e4 : u2 = .pointer (some ⟨bb2, 0, none⟩) := by
        obtain ⟨us0, fr, k1, k2⟩ := hc
        rw [h3] at k1
        cases k1
        have : uc.toList[0]? = some u2 := by rw [huc]; rfl
        rw [Array.getElem?_toList, k2] at this
        exact (Option.some.inj this).symm
      rw [e4] at e3
      cases e3
      subst e4
      obtain ⟨t3, c3, hid2⟩ := hb2
      have hnd' : (id2 ≠ id ∧ id2 ∉ mr ds) ∧ id ∉ mr ds ∧ (mr ds).Nodup := by simpa [mr, not_or] using hnd
      obtain ⟨da, H1, hmk, ho1, hrc1⟩ := Hr (E := E) hl2 H b q.1.1 h8
      obtain ⟨dc, H3, hmk2, ho2, hrc2⟩ := Hr (E := E) hl (upd H1 id2 (some (.box t2 da))) (b + oc.length) q.1.2 h6
      have un : aC E H b (.box t (.box t2 l2 :: l) :: bs) (.ptr id z 0 0 :: cs) q =
          (match aC E (upd H3 id (some (.box t (.ptr id2 z2 0 0 :: dc)))) (b + oc.length + ob.length) bs cs q.2 with | (es, H'', b'') => (AV.ptr id z 0 0 :: es, H'', b'')) := by
        have u1 : aC E H b (.box t (.box t2 l2 :: l) :: bs) (.ptr id z 0 0 :: cs) q = (match fO E H b (.box t (.box t2 l2 :: l)) (.ptr id z 0 0) q.1 with | (d, H, b) => match aC E H b bs cs q.2 with | (ds, H, b) => (d :: ds, H, b)) := rfl
        have u2 : fO E H b (.box t (.box t2 l2 :: l)) (.ptr id z 0 0) q.1 = (match H id with
          | some (.box _ cs) => (match aC E H b (.box t2 l2 :: l) cs q.1 with | (ds, H, b) => (AV.ptr id z 0 0, upd H id (some (.box t ds)), b))
          | _ => (.un, H, b)) := rfl
        have u3 : aC E H b (.box t2 l2 :: l) (.ptr id2 z2 0 0 :: cs1) q.1 = (match fO E H b (.box t2 l2) (.ptr id2 z2 0 0) q.1.1 with | (d, H, b) => match aC E H b l cs1 q.1.2 with | (ds, H, b) => (d :: ds, H, b)) := rfl
        have u4 : fO E H b (.box t2 l2) (.ptr id2 z2 0 0) q.1.1 = (match H id2 with
          | some (.box _ cs) => (match aC E H b l2 cs q.1.1 with | (ds, H, b) => (AV.ptr id2 z2 0 0, upd H id2 (some (.box t2 ds)), b))
          | _ => (.un, H, b)) := rfl
        rw [u1, u2, hid]
        simp only
        rw [u3, u4, hid2]
        simp only
        rw [qZ l2 H b c3 q.1.1 hl2, hmk]
        simp only
        rw [qZ l _ _ cs1 q.1.2 hl, hmk2]
      rw [un] at hL ⊢
      have hle := ni E bs (upd H3 id (some (.box t (.ptr id2 z2 0 0 :: dc)))) (b + oc.length + ob.length) cs q.2
      have hL' : (aC E (upd H3 id (some (.box t (.ptr id2 z2 0 0 :: dc)))) (b + oc.length + ob.length) bs cs q.2).2.2 ≤ L := by
        generalize aC E (upd H3 id (some (.box t (.ptr id2 z2 0 0 :: dc)))) (b + oc.length + ob.length) bs cs q.2 = r at *
        exact hL
      have hi2 : ¬ (b ≤ id2 ∧ id2 < L) := hout id2 List.mem_cons_self
      have hi1 : ¬ (b ≤ id ∧ id < L) := hout id (List.mem_cons_of_mem _ List.mem_cons_self)
      have hold : ∀ j, ¬ (b ≤ j ∧ j < b + oc.length + ob.length) → j ≠ id → j ≠ id2 → upd H3 id (some (.box t (.ptr id2 z2 0 0 :: dc))) j = H j := fun j hj e1 e2 => by
        rw [al _ _ e1, ho2 j (fun hh => hj ⟨by omega, hh.2⟩), al _ _ e2, ho1 j (fun hh => hj ⟨hh.1, by omega⟩)]
      have hsame : ∀ i ∈ mr ds, upd H3 id (some (.box t (.ptr id2 z2 0 0 :: dc))) i = H i := fun i hi => by
        have := hout i (List.mem_cons_of_mem _ (List.mem_cons_of_mem _ hi))
        exact hold i (fun hh => this ⟨hh.1, by omega⟩) (fun e => hnd'.2.1 (by rw [← e]; exact hi)) (fun e => hnd'.1.2 (by rw [← e]; exact hi))
      obtain ⟨nw, n1, n4, n5⟩ := Bp bs (upd H3 id (some (.box t (.ptr id2 z2 0 0 :: dc)))) (b + oc.length + ob.length) q.2 cs ds vs us o2 L (hF.carry (Pk.refl _ _) fun i hi t c h0 => ⟨c, by rw [hsame i hi]; exact h0, fun _ _ c1 e _ => ⟨c1, e⟩⟩) hnd'.2.2
        (fun i hi hh => hout i (List.mem_cons_of_mem _ (List.mem_cons_of_mem _ hi)) ⟨by omega, hh.2⟩) h2 hL'
      generalize hg : aC E (upd H3 id (some (.box t (.ptr id2 z2 0 0 :: dc)))) (b + oc.length + ob.length) bs cs q.2 = r at *
      obtain ⟨es, H'', b''⟩ := r
      simp only at n4 n5 hle hL hL' ⊢
      refine ⟨oc ++ ob ++ nw, ?_, ?_, ?_⟩
      · exact Oq n1
      · rw [n4]; simp [Nat.add_assoc]
      · intro β hM hn hbx
        have hnum1 : Num β b oc := hn.left.left
        have hnum2 : Num β (b + oc.length) ob := hn.left.right
        have hnum3 : Num β (b + oc.length + ob.length) nw := by
          have := hn.right
          rwa [List.length_append, ← Nat.add_assoc] at this
        obtain ⟨r1, r3⟩ := hrc1 β hM hnum1
        obtain ⟨s1, s3⟩ := hrc2 β hM hnum2
        have hβ2 : β id2 = some (.pointer (some ⟨bb2, 0, none⟩), 1) := hbx 0 _ _ rfl rfl id2 z2 rfl
        have hβ1 : β id = some (.pointer (some ⟨bb, 0, none⟩), 1) := hbx 1 _ _ rfl rfl id z rfl
        have ob2 : ObOK P w β id2 (.box t2 da) := ⟨bb2, uc2, hβ2, h7, r1⟩
        have ob1 : ObOK P w β id (.box t (.ptr id2 z2 0 0 :: dc)) := by
          refine ⟨bb, uc, hβ1, h3, ?_⟩
          rw [huc]
          refine RL.cons ?_ s1
          have := RC.ptr (w := w) (β := β) (id := id2) (sz := z2) (i := 0) (o := 0) hβ2 (b := bb2) (f := 0) rfl (by omega)
          simpa using this
        obtain ⟨m1, m2, m3, m4⟩ := n5 β hM hnum3 (fun i c v k1 k2 => hbx (i + 2) c v (by simpa using k1) (by simpa using k2))
        have h4 : ∀ j, (upd H3 id (some (.box t (.ptr id2 z2 0 0 :: dc))) j = H j ∧ ¬ (b ≤ j ∧ j < b + oc.length + ob.length) ∧ j ≠ id ∧ j ≠ id2) ∨ ∃ o, upd H3 id (some (.box t (.ptr id2 z2 0 0 :: dc))) j = some o ∧ ObOK P w β j o := fun j => by
          by_cases e1 : j = id
          · subst e1; exact .inr ⟨_, ai _ _ _, ob1⟩
          by_cases e2 : j = id2
          · subst e2
            refine .inr ⟨_, ?_, ob2⟩
            rw [al _ _ e1, ho2 j (fun hh => hi2 ⟨by omega, by omega⟩), ai]
          by_cases k1 : b ≤ j ∧ j < b + oc.length + ob.length
          · by_cases k2 : j < b + oc.length
            · obtain ⟨o, q1, q2⟩ := r3 j k1.1 k2
              exact .inr ⟨o, by rw [al _ _ e1, ho2 j (by omega), al _ _ e2]; exact q1, q2⟩
            · obtain ⟨o, q1, q2⟩ := s3 j (by omega) k1.2
              exact .inr ⟨o, by rw [al _ _ e1]; exact q1, q2⟩
          · exact .inl ⟨hold j k1 e1 e2, k1, e1, e2⟩
        have step : ∀ j, (H'' j = H j ∧ ¬ (b ≤ j ∧ j < b + oc.length + ob.length) ∧ j ≠ id ∧ j ≠ id2) ∨ ∃ o, H'' j = some o ∧ ObOK P w β j o := fun j => by
          rcases m1 j with h | h
          · rcases h4 j with ⟨k1, k2⟩ | ⟨o, k1, k2⟩
            · exact .inl ⟨h.trans k1, k2⟩
            · exact .inr ⟨o, h.trans k1, k2⟩
          · exact .inr h
        refine ⟨fun j => ?_, fun j k1 k2 => ?_, fun id3 z3 hm => ?_, fun j k1 k2 => ?_⟩
        · rcases step j with h | h
          · exact .inl h.1
          · exact .inr h
        · by_cases hj : j < b + oc.length + ob.length
          · rcases step j with h | h
            · exact absurd ⟨k1, hj⟩ h.2.1
            · exact h
          · exact m2 j (by omega) (by simp at k2; omega)
        · rcases List.mem_cons.1 hm with h | h
          · cases h
            rcases step id2 with h | h
            · exact absurd rfl h.2.2.2
            · exact h
          rcases List.mem_cons.1 h with h | h
          · cases h
            rcases step id with h | h
            · exact absurd rfl h.2.2.1
            · exact h
          · exact m3 id3 z3 h
        · have hne : j ≠ id := fun e4 => k2 z (by rw [e4]; exact List.mem_cons_of_mem _ List.mem_cons_self)
          have hne2 : j ≠ id2 := fun e4 => k2 z2 (by rw [e4]; exact List.mem_cons_self)
          rw [m4 j (fun hh => k1 ⟨by omega, by simp; omega⟩) (fun z' hz' => k2 z' (List.mem_cons_of_mem _ (List.mem_cons_of_mem _ hz')))]
          exact hold j (fun hh => k1 ⟨hh.1, by simp; omega⟩) hne hne2
theorem Hq (hH : Hs B β H w) : ∀ (ps : List Sh) (cs : List AV) (vs : List Value) (x : LTs ps), Q7 B.P ps = true → RL (R1 w β) cs vs → j0 E H ps cs = some x →
    ∃ ds us, Fb B.P w H (aq ps) (b9 ps cs) (iQ ps vs) ds us ∧
      RL (fun c v => ∃ id z bb, c = AV.ptr id z 0 0 ∧ v = Value.pointer (some ⟨bb, 0, none⟩) ∧ (∃ t cs, H id = some (.box t cs)) ∧ β id = some (v, 1) ∧ id ∈ aQ H ps cs) ds us ∧
      (mr ds).Sublist (aQ H ps cs) ∧ ∀ i ∈ aQ H ps cs, i ∈ bC H ps cs ∨ ∃ z, AV.ptr i z 0 0 ∈ ds
  | [], [], vs, x, _, hr, hx => by
    have := hr.of_nil
    subst this
    exact ⟨[], [], .nil, .nil, List.Sublist.refl _, fun i hi => by simp [aQ] at hi⟩
  | [], _ :: _, _, _, _, _, hx => by cases hx
  | _ :: _, [], _, _, _, _, hx => by cases hx
  | h :: ps, c :: cs, vs, x, hp, hr, hx => by
    obtain ⟨v, vs, rfl, h1, h2⟩ := hr.uncons
    obtain ⟨x1, e1, hx⟩ := Option.bind_eq_some_iff.1 hx
    obtain ⟨x2, e2, hx⟩ := Option.bind_eq_some_iff.1 hx
    simp only [Q7, Bool.and_eq_true] at hp
    obtain ⟨ds, us, f1, f2, f3, f4⟩ := Hq hH ps cs vs x2 hp.2 h2 e2
    have f2' : RL (fun c' v' => ∃ id z bb, c' = AV.ptr id z 0 0 ∧ v' = Value.pointer (some ⟨bb, 0, none⟩) ∧ (∃ t cs, H id = some (.box t cs)) ∧ β id = some (v', 1) ∧ id ∈ aQ H (h :: ps) (c :: cs)) ds us :=
      f2.mono fun c' v' ⟨id, z, bb, k1, k2, k3, k4, k5⟩ => ⟨id, z, bb, k1, k2, k3, k4, List.mem_append_right _ k5⟩
    have mL : aq (h :: ps) = aq ps → b9 (h :: ps) (c :: cs) = b9 ps cs → iQ (h :: ps) (v :: vs) = iQ ps vs → (∀ i ∈ dt H h c, i ∈ cN H h c) →
        ∃ ds us, Fb B.P w H (aq (h :: ps)) (b9 (h :: ps) (c :: cs)) (iQ (h :: ps) (v :: vs)) ds us ∧
          RL (fun c' v' => ∃ id z bb, c' = AV.ptr id z 0 0 ∧ v' = Value.pointer (some ⟨bb, 0, none⟩) ∧ (∃ t cs, H id = some (.box t cs)) ∧ β id = some (v', 1) ∧ id ∈ aQ H (h :: ps) (c :: cs)) ds us ∧
          (mr ds).Sublist (aQ H (h :: ps) (c :: cs)) ∧ ∀ i ∈ aQ H (h :: ps) (c :: cs), i ∈ bC H (h :: ps) (c :: cs) ∨ ∃ z, AV.ptr i z 0 0 ∈ ds := fun g1 g2 g3 g4 => by
      rw [g1, g2, g3]
      refine ⟨ds, us, f1, f2', f3.trans (List.sublist_append_right _ _), fun i hi => ?_⟩
      rcases List.mem_append.1 hi with hi | hi
      · exact .inl (List.mem_append_left _ (g4 i hi))
      · exact (f4 i hi).imp (List.mem_append_right _) fun h => h
    cases h with
    | box t l =>
      have hp1 := hp.1
      simp only [Bool.and_eq_true, Bool.or_eq_true, Bool.not_eq_true'] at hp1
      cases c <;> first | (cases e1; done) | skip
      rename_i id z i o
      cases i <;> cases o <;> simp only [bL] at e1 <;> first | (cases e1; done) | skip
      split at e1
      case h_2 => cases e1
      rename_i t' cs' hid
      split at e1
      case h_2 => cases e1
      rename_i hbt
      obtain rfl := ak hbt
      have h1 := h1.ptrs
      cases h1 with
      | @ptr _ _ _ _ hd n bb f k1 ha hi =>
        obtain ⟨b', uc, j1, j2, j3⟩ := hH.objs id _ hid
        rw [k1] at j1
        cases j1
        cases ha
        have e0 : (Value.pointer (some ⟨bb, 0 + (0 * z + 0), none⟩)) = Value.pointer (some ⟨bb, 0, none⟩) := by simp
        by_cases hnest : Ny l = true
        ·
          cases l with
          | nil => cases hnest
          | cons h0 l =>
            cases h0 with
            | box t2 l2 =>
              obtain ⟨hl, hn⟩ := hp1
              have hn : E4 B.P t = true := hn.resolve_left (by rw [hnest]; simp)
              simp only [RP, Bool.and_eq_true] at hl
              cases cs' with
              | nil => cases e1
              | cons c2 cs1 =>
                obtain ⟨y1, g1, g2⟩ := Option.bind_eq_some_iff.1 e1
                obtain ⟨u2, us1, huc, q1, q2⟩ := j3.uncons
                cases c2 <;> first | (cases g1; done) | skip
                rename_i id2 z2 i2 o2
                cases i2 <;> cases o2 <;> simp only [bL] at g1 <;> first | (cases g1; done) | skip
                split at g1
                case h_2 => cases g1
                rename_i t2' cs2 hid2
                obtain ⟨b2, uc2, m1, m2, m3⟩ := hH.objs id2 _ hid2
                cases q1 with
                | @ptr _ _ _ _ hd2 n2 bb2 f2x k1' ha' hi' =>
                  rw [m1] at k1'
                  cases k1'
                  cases ha'
                  have e00 : (Value.pointer (some ⟨b2, 0 + (0 * z2 + 0), none⟩)) = Value.pointer (some ⟨b2, 0, none⟩) := by simp
                  rw [e00] at huc
                  refine ⟨.ptr id2 z2 0 0 :: .ptr id z 0 0 :: ds, .pointer (some ⟨b2, 0, none⟩) :: .pointer (some ⟨bb, 0, none⟩) :: us, ?_, ?_, ?_, fun i hi => ?_⟩
                  · rw [e0]
                    exact .nest hl.1 hl.2 hid ⟨_, _, hid2⟩ hn ⟨uc, _, j2, by rw [← Array.getElem?_toList, huc]; rfl⟩ f1
                  · refine RL.cons ⟨id2, z2, b2, rfl, rfl, ⟨_, _, hid2⟩, m1, ?_⟩ (RL.cons ⟨id, z, bb, rfl, rfl, ⟨_, _, hid⟩, k1, ?_⟩ f2')
                    · simp [aQ, dt, hid, hid2]
                    · simp [aQ, dt, hid]
                  · simp only [mr, aQ, dt, hid, hid2]
                    refine List.Sublist.trans ?_ (List.Sublist.append_left f3 _)
                    have : (((aQ H l2 cs2 ++ [id2]) ++ aQ H l cs1) ++ [id]) ++ mr ds = aQ H l2 cs2 ++ (id2 :: (aQ H l cs1 ++ (id :: mr ds))) := by simp
                    rw [this]
                    exact (((List.sublist_append_right _ _ : (id :: mr ds).Sublist (aQ H l cs1 ++ (id :: mr ds)))).cons_cons id2).trans (List.sublist_append_right _ _)
                  · simp only [aQ, dt, hid, hid2, List.mem_append, List.mem_singleton] at hi
                    rcases hi with (((hi | hi) | hi) | hi) | hi
                    · refine .inl (List.mem_append_left _ ?_)
                      simp only [cN, hid, bC, hid2]
                      exact List.mem_append_left _ (ot l2 cs2 hl.1 i hi)
                    · subst hi; exact .inr ⟨z2, List.mem_cons_self⟩
                    · refine .inl (List.mem_append_left _ ?_)
                      simp only [cN, hid, bC, hid2]
                      exact List.mem_append_right _ (ot l cs1 hl.2 i hi)
                    · subst hi; exact .inr ⟨z, List.mem_cons_of_mem _ List.mem_cons_self⟩
                    · rcases f4 i hi with h | ⟨z', h⟩
                      · exact .inl (List.mem_append_right _ h)
                      · exact .inr ⟨z', List.mem_cons_of_mem _ (List.mem_cons_of_mem _ h)⟩
            | _ => cases hnest
        ·
          have hl : mQ l = true := by
            have := hp1.1
            cases l with
            | nil => rfl
            | cons h0 l => cases h0 <;> first | exact this | exact absurd rfl hnest
          refine ⟨.ptr id z 0 0 :: ds, .pointer (some ⟨bb, 0, none⟩) :: us, ?_, ?_, ?_, fun i hi => ?_⟩
          · rw [e0]
            exact .flat hl ⟨_, _, hid⟩ f1
          · refine RL.cons ⟨id, z, bb, rfl, rfl, ⟨_, _, hid⟩, k1, ?_⟩ f2'
            simp [aQ, dt, hid]
          · simp only [mr, aQ, dt, hid]
            rw [List.append_assoc]
            exact ((f3.cons_cons id)).trans (List.sublist_append_right _ _)
          · simp only [aQ, dt, hid, List.mem_append, List.mem_singleton] at hi
            rcases hi with (hi | hi) | hi
            · refine .inl (List.mem_append_left _ ?_)
              simp only [cN, hid]
              exact ot l cs' hl i hi
            · subst hi; exact .inr ⟨z, List.mem_cons_self⟩
            · rcases f4 i hi with h | ⟨z', h⟩
              · exact .inl (List.mem_append_right _ h)
              · exact .inr ⟨z', List.mem_cons_of_mem _ h⟩
    | agg l =>
      refine mL rfl rfl rfl fun i hi => ?_
      cases c with
      | agg cs' =>
        simp only [cN]
        exact ot l cs' hp.1 i (by simpa [dt] using hi)
      | _ => simp [dt] at hi
    | arr => exact mL rfl rfl rfl fun i hi => by simp [dt] at hi
    | same => exact mL rfl rfl rfl fun i hi => by simp [dt] at hi
    | int => exact mL rfl rfl rfl fun i hi => by simp [dt] at hi
    | bool => exact mL rfl rfl rfl fun i hi => by simp [dt] at hi
    | str => exact mL rfl rfl rfl fun i hi => by simp [dt] at hi
    | sl => exact mL rfl rfl rfl fun i hi => by simp [dt] at hi
    | fz => exact mL rfl rfl rfl fun i hi => by simp [dt] at hi
    | row t k => exact mL rfl rfl rfl (vr _ c rfl rfl)
    | rowz t k => exact mL rfl rfl rfl (vr _ c rfl rfl)
    | abx t k => exact mL rfl rfl rfl (vr _ c rfl rfl)
theorem Lx {t : TypeId} {j : Nat} : ∀ (ids : List Nat) (s : S) {cs : List AV}, j ∉ ids → s.H j = some (.box t cs) → ∃ cs', (ids.foldl S.kill s).H j = some (.box t cs') ∧ ∀ id2 z2 cs1, cs = .ptr id2 z2 0 0 :: cs1 → id2 ∉ ids → ∃ cs1', cs' = .ptr id2 z2 0 0 :: cs1'
  | [], s, cs, _, h => ⟨cs, h, fun _ _ c e _ => ⟨c, e⟩⟩
  | i :: ids, s, cs, hj, h => by
    have hne : j ≠ i := fun e => hj (e ▸ List.mem_cons_self)
    obtain ⟨c', h1, h2⟩ := Lx (t := t) (j := j) ids (s.kill i) (cs := cs.map (kl1 i)) (fun hm => hj (List.mem_cons_of_mem _ hm)) (by
      show upd (fun j => cY (kl1 i) (s.H j)) i none j = _
      rw [al _ _ hne, h]
      rfl)
    refine ⟨c', h1, fun id2 z2 cs1 e hn => ?_⟩
    subst e
    have hn2 : id2 ≠ i := fun e => hn (e ▸ List.mem_cons_self)
    have e1 : Nat.beq id2 i = false := by rw [← Bool.not_eq_true, Nat.beq_eq]; exact hn2
    exact h2 id2 z2 (cs1.map (kl1 i)) (by simp [kl1, e1]) (fun hm => hn (List.mem_cons_of_mem _ hm))
theorem Gh {t : TypeId} {j : Nat} : ∀ (ids : List Nat) (s : S) {cs : List AV}, j ∉ ids → s.H j = some (.box t cs) → ∃ cs', (ids.foldl S.freeze s).H j = some (.box t cs') ∧ ∀ id2 z2 cs1, cs = .ptr id2 z2 0 0 :: cs1 → id2 ∉ ids → ∃ cs1', cs' = .ptr id2 z2 0 0 :: cs1'
  | [], s, cs, _, h => ⟨cs, h, fun _ _ c e _ => ⟨c, e⟩⟩
  | i :: ids, s, cs, hj, h => by
    have hne : j ≠ i := fun e => hj (e ▸ List.mem_cons_self)
    have : ∃ cs', (s.freeze i).H j = some (.box t cs') ∧ ∀ id2 z2 cs1, cs = .ptr id2 z2 0 0 :: cs1 → id2 ≠ i → ∃ cs1', cs' = .ptr id2 z2 0 0 :: cs1' := by
      unfold S.freeze
      split
      · rename_i k xs _
        refine ⟨cs.map (fz1 i k xs), ?_, fun id2 z2 cs1 e hn => ?_⟩
        · show upd (fun j => cY (fz1 i k xs) (s.H j)) i none j = _
          rw [al _ _ hne, h]
          rfl
        · subst e
          have e1 : Nat.beq id2 i = false := by rw [← Bool.not_eq_true, Nat.beq_eq]; exact hn
          exact ⟨cs1.map (fz1 i k xs), by simp [fz1, e1]⟩
      · refine ⟨cs.map (kl1 i), ?_, fun id2 z2 cs1 e hn => ?_⟩
        · show upd (fun j => cY (kl1 i) (s.H j)) i none j = _
          rw [al _ _ hne, h]
          rfl
        · subst e
          have e1 : Nat.beq id2 i = false := by rw [← Bool.not_eq_true, Nat.beq_eq]; exact hn
          exact ⟨cs1.map (kl1 i), by simp [kl1, e1]⟩
    obtain ⟨c', h', hd'⟩ := this
    obtain ⟨c2, h2, h3⟩ := Gh (t := t) (j := j) ids (s.freeze i) (fun hm => hj (List.mem_cons_of_mem _ hm)) h'
    refine ⟨c2, h2, fun id2 z2 cs1 e hn => ?_⟩
    obtain ⟨cs1', e'⟩ := hd' id2 z2 cs1 e (fun e => hn (e ▸ List.mem_cons_self))
    exact h3 id2 z2 cs1' e' (fun hm => hn (List.mem_cons_of_mem _ hm))
theorem Ru {t : TypeId} {j : Nat} (q : Bool) (ids : List Nat) (s : S) {cs : List AV} (hj : ¬ (q = true ∧ j ∈ ids)) (h : s.H j = some (.box t cs)) :
    ∃ cs', (sE q ids s).H j = some (.box t cs') ∧ ∀ id2 z2 cs1, cs = .ptr id2 z2 0 0 :: cs1 → ¬ (q = true ∧ id2 ∈ ids) → ∃ cs1', cs' = .ptr id2 z2 0 0 :: cs1' := by
  cases q with
  | false => exact ⟨cs, h, fun _ _ c e _ => ⟨c, e⟩⟩
  | true =>
    obtain ⟨c', h1, h2⟩ := Gh ids s (fun hm => hj ⟨rfl, hm⟩) h
    exact ⟨c', h1, fun id2 z2 cs1 e hn => h2 id2 z2 cs1 e fun hm => hn ⟨rfl, hm⟩⟩
theorem R4 {cs : List AV} {vs : List Value} (h : RL (R1 w β) cs vs) : R2 w β (Ev cs) (NV vs) := by
  match cs, vs, h with
  | [], vs, h =>
    have := h.of_nil
    subst this
    exact ⟨[], rfl, .nil⟩
  | [c], vs, h =>
    obtain ⟨v, vs', rfl, h1, h2⟩ := h.uncons
    have := h2.of_nil
    subst this
    exact .ofR1 h1
  | c :: c' :: cs, vs, h =>
    obtain ⟨v, vs', rfl, h1, h2⟩ := h.uncons
    obtain ⟨v', vs'', rfl, h3, h4⟩ := h2.uncons
    exact ⟨v :: v' :: vs'', rfl, h⟩
theorem Lm : ∀ (ps : List Sh) (k : Nat) (t : Nat), t ∈ cc k ps → k ≤ t ∧ ∃ e l, ps[t - k]? = some (.box e l)
  | [], _, _, h => by cases h
  | p :: ps, k, t, h => by
    have tail : t ∈ cc (k + 1) ps → k ≤ t ∧ ∃ e l, (p :: ps)[t - k]? = some (.box e l) := fun h => by
      obtain ⟨h1, e, l, h2⟩ := Lm ps (k + 1) t h
      refine ⟨by omega, e, l, ?_⟩
      have : t - k = (t - (k + 1)) + 1 := by omega
      rw [this]
      simpa using h2
    unfold cc at h
    split at h
    · rename_i hb
      rcases List.mem_cons.1 h with rfl | h
      · refine ⟨Nat.le_refl _, ?_⟩
        cases p <;> first | (cases hb; done) | skip
        rename_i t0 l0
        exact ⟨t0, l0, by simp⟩
      · exact tail h
    · exact tail h
theorem Lh {H : Hp} : ∀ {ps : List Sh} {cs : List AV} {x : LTs ps}, j0 E H ps cs = some x → ∀ {i : Nat} {h : Sh}, ps[i]? = some h → ∃ c y, cs[i]? = some c ∧ bL E H h c = some y
  | [], cs, x, _, i, h, hi => by simp at hi
  | _ :: _, [], _, h, _, _, _ => by cases h
  | p :: ps, c :: cs, x, hx, i, h, hi => by
    obtain ⟨x1, e1, hx⟩ := Option.bind_eq_some_iff.1 hx
    obtain ⟨x2, e2, hx⟩ := Option.bind_eq_some_iff.1 hx
    cases i with
    | zero => simp at hi; subst hi; exact ⟨c, x1, rfl, e1⟩
    | succ i =>
      obtain ⟨c', y, h1, h2⟩ := Lh e2 (by simpa using hi)
      exact ⟨c', y, by simpa using h1, h2⟩
end
end Go.VS
namespace Go.VS
open Go
def okQ (P : Program) (m : Summ) : Bool := Q7 P m.ps && sG m.rs && (jZ m.rs).all fun t => (cc 0 m.ps).any fun p => Nat.beq p t
section
variable {B B' : Base} {β β' : Beta} {H : Hp} {w w' : World} {M M' : Nat → Prop} {stk : List (Array Value)} {s s' : S} {a : Act} {P : Program} {E : Nat → AV} {e : Nat → Value} {b : Nat} {C : Cx}
theorem Ow {o : Oper} {f : FuncId} {args : List Operand} {ts : Array TypeId} {K : Act → World → Prop} {Q : Exit → Act → World → Prop} (hE : rf P f) (ho : o.op = .call { callee := .value (.func f), args := args.toArray, argTypes := ts })
    {R : Ending → World → Prop} (hc : Calls P f (args.map a.eval).toArray w R) (hR : ∀ en w', R en w' → ∃ v, en = .returned v ∧ K (a.put o.dst v) w') : o.wp P a w K Q := by
  unfold Oper.wp
  have h1 : execOp a.eval o = callFunc f (args.map a.eval).toArray := by
    have ef : a.eval (.func f) = .func (.func f) #[] #[] := rfl
    unfold execOp
    simp [ho, resolve, Deferred.ofValue, invoke, ef]
  rw [h1, hE]
  refine Calls.mono hc fun en w' h => ?_
  obtain ⟨v, rfl, hk⟩ := hR en w' h
  exact hk
theorem FG : ∀ (ids : List Nat) (s : S), (ids.foldl S.kill s).gs = s.gs ∧ (ids.foldl S.kill s).n = s.n ∧ (ids.foldl S.kill s).pins = s.pins
  | [], _ => ⟨rfl, rfl, rfl⟩
  | i :: ids, s => FG ids (s.kill i)
theorem OP (q : Bool) (ids : List Nat) (s : S) : (sE q ids s).gs = s.gs ∧ (sE q ids s).n = s.n ∧ (sE q ids s).pins = s.pins := by
  cases q with
  | false => exact ⟨rfl, rfl, rfl⟩
  | true =>
    obtain ⟨h1, h2, h3, _⟩ := m6 ids s
    exact ⟨h1, h2, h3⟩
theorem Oy {h : Sh} {x : LT h} {v : Value} {os : List (Value × Nat)} (ht : R5 h = true) (hr : Rel P w M e h x v os) : (aX E H b h x).2.2 = b + os.length := by
  by_cases hh : lb h = true
  · exact Lr h H b x v os hh hr
  · cases h <;> first | (exact absurd ht hh; done) | skip
    case agg l =>
      obtain ⟨us, rfl, h1⟩ := hr
      have un : aX E H b (.agg l) x = (match ah E H b l x with | (cs, H, b) => (AV.agg cs, H, b)) := rfl
      have := vl (E := E) l H b x us os ht h1
      rw [un]
      generalize ah E H b l x = r at *
      exact this
    case arr k =>
      obtain ⟨rfl, h1⟩ := hr
      rfl
theorem Fz : ∀ {l : List Sh} {H : Hp} {b : Nat} {x : LTs l} {us : List Value} {os : List (Value × Nat)}, sG l = true → Rels P w M e l x us os → (ah E H b l x).2.2 = b + os.length
  | [], H, b, x, us, os, _, hr => by obtain ⟨_, rfl⟩ := hr; rfl
  | h :: l, H, b, x, us, os, hl, hr => by
    obtain ⟨u, us', o1, o2, rfl, rfl, h1, h2⟩ := hr
    simp only [sG, Bool.and_eq_true] at hl
    have un : ah E H b (h :: l) x = (match aX E H b h x.1 with | (c, H, b) => match ah E H b l x.2 with | (cs, H, b) => (c :: cs, H, b)) := rfl
    have k := Oy (E := E) (H := H) (b := b) hl.1 h1
    rw [un]
    generalize aX E H b h x.1 = r at *
    obtain ⟨c, H', b'⟩ := r
    have k : b' = b + o1.length := k
    subst k
    have k2 := Fz (H := H') (b := b + o1.length) hl.2 h2
    simp only
    generalize ah E H' (b + o1.length) l x.2 = r at *
    obtain ⟨cs, H'', b''⟩ := r
    have k2 : b'' = _ := k2
    simp [k2, Nat.add_assoc]
theorem OM {O : Nat → Prop} (hg : Mf B.P B.w0 B.O) (hs : Hs B β H w) (hO : ∀ b, O b → MB β b) : Mf B.P w O := by
  obtain ⟨w0, h1, h2⟩ := hg
  refine ⟨w0, h1, fun b hb => ?_⟩
  obtain ⟨h3, h4, h5⟩ := h2 b hb
  exact ⟨fun h => (hs.old b (hO b h)).1.elim h3 (by omega), Nat.lt_of_lt_of_le h4 hs.size, (hs.block b h4 h3).trans h5⟩
theorem RB {m : Summ} {f : FuncId} (hS : oF B.P f m) (hk : okQ B.P m = true) {d : Option Nat} {as : List Operand} {o : Oper} {ts : Array TypeId} {K : Act → World → Prop} {Q : Exit → Act → World → Prop}
    (hst : St B β stk s a w) (hfr : ∀ j, b ≤ j → j < b + 16 → s.H j = none) (hd : s.has d = true) (he : oA m s b d (as.map s.ev) some = some s') (hod : o.dst = d) (ho : o.op = .call { callee := .value (.func f), args := as.toArray, argTypes := ts })
    (hK : va B stk a d s' K) : o.wp B.P a w K Q := by
  simp only [okQ, Bool.and_eq_true, List.all_eq_true, List.any_eq_true] at hk
  obtain ⟨⟨hps, hrs⟩, hsm⟩ := hk
  unfold oA at he
  simp only at he
  split at he
  case h_2 => cases he
  rename_i x hx hnd
  obtain ⟨r, hr, he⟩ := Option.bind_eq_some_iff.1 he
  simp only [Bool.and_eq_true] at hnd
  have hids := qO hnd.1
  generalize hcs : as.map s.ev = cs at *
  generalize hargs : as.map a.eval = args
  have hlen : args.length = cs.length := by rw [← hcs, ← hargs]; simp
  have hrx : ∀ (i : Nat) (c : AV) (v : Value), cs[i]? = some c → args[i]? = some v → RX w β (bA a) c v := fun i c v h1 h2 => by
    rw [← hcs, List.getElem?_map] at h1
    rw [← hargs, List.getElem?_map] at h2
    obtain ⟨y, hy, rfl⟩ := Option.map_eq_some_iff.1 h1
    rw [hy] at h2
    cases h2
    exact hst.eval y
  have hpl := mg hx
  have rl : RL (R1 w β) cs args := ⟨hlen, fun j c u h1 h2 => (hrx j c u h1 h2).toR1 (hpl c (List.mem_of_getElem? h1)).1 (hpl c (List.mem_of_getElem? h1)).2⟩
  generalize hE : (fun (i : Nat) => (cs[i]?).getD AV.un) = E at *
  have hEat : ∀ {t : Nat} {c : AV}, cs[t]? = some c → E t = c := fun h => by rw [← hE]; simp [h]
  generalize hI : aQ s.H m.ps cs = ids at *
  generalize hro : bC s.H m.ps cs = ro at *
  generalize hfz : b7 s.H m.ps cs = fz at *
  have hrosub : ro.Sublist ids := by rw [← hro, ← hI]; exact vf _ _
  have hroK : ∀ i ∈ ro, AR s.H i := by rw [← hro]; exact qL _ _ _ hx
  have hfzK : ∀ i ∈ fz, AR s.H i := by rw [← hfz]; exact q4 _ _ _ hx
  obtain ⟨bc, bv, hFb, hba, hdsub, hidsOf⟩ := Hq (E := E) hst.hs m.ps cs args x hps rl hx
  rw [hI] at hba hdsub hidsOf
  rw [hro] at hidsOf
  let Zc : Nat → Prop := fun bl => MZ β bl ∧ bl ∉ aL (ids.filterMap β) ∧ bl ∉ aL (fz.filterMap β)
  have R : RdOK B β s.H w (fun bl => bl ∈ aL (ids.filterMap β) ∨ Zc bl) E (ar args) := {
    hs := hst.hs
    hM := fun bl h => h.elim (fun h => .inl (AC h)) (fun h => h.1)
    hE := fun t id z hEt => by
      cases hc : cs[t]? with
      | none => rw [← hE] at hEt; simp [hc] at hEt
      | some c =>
        have hlt : t < args.length := by rw [hlen]; exact (List.getElem?_eq_some_iff.1 hc).1
        rw [hEat hc]
        exact rl.2 t c _ hc (by simp [ar, hlt]) }
  have hfzo : JC β (fun bl => bl ∈ aL (ids.filterMap β) ∨ Zc bl) fz := fun i hi p a' hp ha hm => by
    rcases hm with hm | hm
    · exact Gf hst.hs hnd.2 i hi p a' hp ha (.inl hm)
    · exact hm.2.2 (List.mem_filterMap.2 ⟨p, List.mem_filterMap.2 ⟨i, hi, hp⟩, by simp [mR, ha]⟩)
  obtain ⟨os, hrel, hblk⟩ := qN R m.ps cs args x rl hx (by rw [hfz]; exact hfzo)
  rw [hI] at hblk
  have hMeq : (fun bl => bl ∈ aL (ids.filterMap β) ∨ Zc bl) = fun bl => bl ∈ aL os ∨ Zc bl := by rw [hblk]
  rw [hMeq] at hrel
  have hosMB : ∀ bl ∈ aL os, MB β bl := fun bl h => by rw [hblk] at h; exact AC h
  have hcall := hS.2 x r hr w Zc args os hrel (by rw [hblk]; exact rb hst.hs hids)
    (fun bl h => ⟨(hst.hs.old bl (hosMB bl h)).2, fun hz => hz.2.1 (by rw [← hblk]; exact h)⟩) (fun bl h => by
      rcases h.1 with h1 | h1
      · exact (hst.hs.old bl h1).2
      · exact hst.hs.zl bl h1)
    (OM B.gl hst.hs (fun bl h => hosMB bl h))
  rw [← hargs] at hcall
  refine Ow hS.1 ho hcall ?_
  rw [hargs]
  rintro en w' ⟨v, rfl, hret⟩
  refine ⟨v, rfl, ?_⟩
  rw [hod]
  obtain ⟨vs, os1, os2, rfl, hr1, hr2, hnodup, hbl⟩ := hret.ex
  obtain ⟨β1, h1, hβ1, hZ1⟩ := St.killsZ (a := a) (w := w) (stk := stk) ro (hids.sublist hrosub) hst
  obtain ⟨β2, h2, hβ2, hZ2⟩ := h1.fzIfE (bD m.rs || bD (aq m.ps)) fz
  have hsame := OP (bD m.rs || bD (aq m.ps)) fz (ro.foldl S.kill s)
  have hsame1 := FG ro s
  have hbox2 : ∀ {id : Nat} {t : TypeId} {cs0 : List AV}, s.H id = some (.box t cs0) → ∃ cs1, (sE (bD m.rs || bD (aq m.ps)) fz (ro.foldl S.kill s)).H id = some (.box t cs1) := fun {id t cs0} hid => by
    obtain ⟨cs1, h⟩ := I9 ro s (fun hm => hroK id hm t cs0 hid) hid
    exact Qe _ fz _ (fun hm => hfzK id hm.2 t cs0 hid) h
  have hnone2 : ∀ j, s.H j = none → (sE (bD m.rs || bD (aq m.ps)) fz (ro.foldl S.kill s)).H j = none := fun j hj =>
    (Gg (N := fun _ => False) (bD m.rs || bD (aq m.ps)) fz (Keeps.kills ro (Keeps.refl _ s))).nn j (fun h => h) hj
  generalize hq : (bD m.rs || bD (aq m.ps)) = q at *
  generalize hs2 : sE q fz (ro.foldl S.kill s) = s2 at *
  have hβ2' : ∀ j p, β2 j = some p → β j = some p ∧ j ∉ ro ∧ ¬ (q = true ∧ j ∈ fz) := fun j p h => by
    rw [hβ2] at h
    split at h
    · cases h
    · rename_i hn
      rw [hβ1] at h
      split at h
      · cases h
      · rename_i hn'
        exact ⟨h, hn', hn⟩
  have hZ2' : ∀ bl, β2.Z bl ↔ β.Z bl ∨ ∃ i ∈ ro, ∃ p a, β i = some p ∧ adr p.1 = some a ∧ a.block = bl := fun bl => by rw [hZ2]; exact hZ1 bl
  generalize hbc : b9 m.ps cs = bcT at *
  generalize hbv : iQ m.ps args = bvT at *
  have hM2 : ∃ M2 : Nat → Prop, Rels B.P w' M2 (ar args) m.rs r.1 vs os1 ∧ Rels B.P w' M2 (ar args) (aq m.ps) r.2 bvT os2 ∧ (q = false → ∀ bl, M2 bl) ∧ (q = true → ∀ bl, (bl ∈ aL (os1 ++ os2) ∨ Zc bl) → M2 bl) := by
    cases q with
    | false =>
      simp only [Bool.or_eq_false_iff] at hq
      exact ⟨fun _ => True, Rels.anyM _ _ _ _ hq.1 hr1, Rels.anyM _ _ _ _ hq.2 hr2, fun _ _ => trivial, fun h => by cases h⟩
    | true => exact ⟨_, hr1, hr2, (by intro h; cases h), fun _ bl h => h⟩
  obtain ⟨M2, hr1', hr2', hMf, hMt⟩ := hM2
  generalize hg : aC E s2.H b (aq m.ps) bcT r.2 = g at *
  obtain ⟨ds, H1, b1⟩ := g
  simp only at he
  generalize hmk : ah E H1 b1 m.rs r.1 = g at *
  obtain ⟨rc, Hf, b2⟩ := g
  simp only at he
  split at he
  case h_2 => cases he
  rename_i hb2
  have hb2 := Nat.le_of_ble_eq_true hb2
  cases he
  have hle2 : b1 ≤ b2 := by have := dj E m.rs H1 b1 r.1; rw [hmk] at this; exact this
  have hgb : (aC E s2.H b (aq m.ps) bcT r.2).2.2 ≤ b + 16 := by rw [hg]; exact Nat.le_trans hle2 hb2
  have hdK : ∀ i ∈ mr bc, i ∉ ro ∧ i ∉ fz ∧ ∃ t cs0, s.H i = some (.box t cs0) := fun i hi => by
    obtain ⟨z, hz⟩ := NK hi
    obtain ⟨j, hj⟩ := List.getElem?_of_mem hz
    obtain ⟨v, _, id, z', bb, k1, _, ⟨t, cs0, k3⟩, _, _⟩ := hba.get hj
    cases k1
    exact ⟨fun h => hroK i h _ _ k3, fun h => hfzK i h _ _ k3, t, cs0, k3⟩
  have hFb2 : Fb B.P w' s2.H (aq m.ps) bcT bvT bc bv := hFb.carry hret.pk fun i hi t cs0 h0 => by
    obtain ⟨k1, k2, _⟩ := hdK i hi
    obtain ⟨cs1, h3, h4⟩ := Lx ro s k1 h0
    obtain ⟨cs2, h5, h6⟩ := Ru q fz (ro.foldl S.kill s) (fun hm => k2 hm.2) h3
    rw [hs2] at h5
    refine ⟨cs2, h5, fun id2 z2 c1 e hm => ?_⟩
    obtain ⟨c2, e2⟩ := h4 id2 z2 c1 e (hdK id2 hm).1
    exact h6 id2 z2 c2 e2 (fun hm' => (hdK id2 hm).2.1 hm'.2)
  obtain ⟨nw, hperm, hb1, hgi⟩ := Bp (E := E) (P := B.P) (w := w') (M := M2) (e := ar args) (aq m.ps) s2.H b r.2 bcT bc bvT bv os2 (b + 16) hFb2 (hids.sublist hdsub)
    (fun i hi hh => by
      obtain ⟨_, _, t, cs0, k3⟩ := hdK i hi
      rw [hfr i hh.1 hh.2] at k3
      cases k3) hr2' hgb
  rw [hg] at hb1 hgi
  simp only at hb1 hgi
  let os' := nw ++ os1
  let β3 : Beta := ⟨fun j => if b ≤ j ∧ j < b + os'.length then os'[j - b]? else β2 j, B.Z⟩
  have hlenb2 : ∀ j p, β3 j = some p → (b ≤ j ∧ j < b + os'.length ∧ os'[j - b]? = some p) ∨ (¬ (b ≤ j ∧ j < b + os'.length) ∧ β2 j = some p) := fun j p h => by
    have h : (if b ≤ j ∧ j < b + os'.length then os'[j - b]? else β2 j) = some p := h
    split at h
    · rename_i hh; exact .inl ⟨hh.1, hh.2, h⟩
    · rename_i hh; exact .inr ⟨hh, h⟩
  have hnum : Num β3 b os' := fun i p hp => by
    have hlt := (List.getElem?_eq_some_iff.1 hp).1
    show (if b ≤ b + i ∧ b + i < b + os'.length then os'[b + i - b]? else β2 (b + i)) = some p
    rw [if_pos ⟨by omega, by omega⟩, show b + i - b = i by omega]
    exact hp
  have hpermb : (aL os2).Perm (aL nw ++ aL (bv.map fun v => (v, 1))) := by
    have := hperm.filterMap mR
    rwa [List.filterMap_append] at this
  have hsubos : ∀ bl, bl ∈ aL os' → bl ∈ aL (os1 ++ os2) := fun bl h => by
    simp only [os', aL, List.filterMap_append, List.mem_append] at h ⊢
    rcases h with h | h
    · exact .inr (hpermb.mem_iff.2 (List.mem_append_left _ h))
    · exact .inl h
  have hnod : (aL os' ++ aL (bv.map fun v => (v, 1))).Nodup := by
    have h1 : (aL (os1 ++ os2)).Perm (aL os' ++ aL (bv.map fun v => (v, 1))) := by
      simp only [os', aL, List.filterMap_append] at hpermb ⊢
      refine (List.Perm.append_left _ hpermb).trans ?_
      rw [← List.append_assoc]
      exact List.Perm.append_right _ List.perm_append_comm
    exact h1.nodup_iff.1 hnodup
  have hnod' : (aL os').Nodup := (List.nodup_append.1 hnod).1
  have hbxid : ∀ i, i ∈ ids → i ∉ ro → ∃ v, (v, 1) ∈ bv.map (fun v => (v, 1)) ∧ β i = some (v, 1) ∧ (∃ z, AV.ptr i z 0 0 ∈ bc) := fun i hi hn => by
    rcases hidsOf i hi with h | ⟨z, h⟩
    · exact absurd h hn
    · obtain ⟨j, hj⟩ := List.getElem?_of_mem h
      obtain ⟨v, hv, id, z', bb, k1, k2, k3, k4, k5⟩ := hba.get hj
      cases k1
      exact ⟨v, List.mem_map.2 ⟨v, List.mem_of_getElem? hv, rfl⟩, k4, z, h⟩
  have hold2 : ∀ j p a', β2 j = some p → adr p.1 = some a' → a'.block ∈ aL os → j ∈ ids ∧ j ∉ ro := fun j p a' hj ha hm => by
    obtain ⟨h0, h1, _⟩ := hβ2' j p hj
    rw [hblk] at hm
    obtain ⟨i, hi, p', a2, hp', ha', e'⟩ := lc hm
    have := hst.hs.inj j i p p' a' a2 h0 hp' ha ha' e'.symm
    subst this
    exact ⟨hi, h1⟩
  have hosMZ2 : ∀ bl, bl ∈ aL os → MZ β2 bl := fun bl hm => by
    have hm' := hm
    rw [hblk] at hm
    obtain ⟨i, hi, p, a', hp, ha, e'⟩ := lc hm
    by_cases hr : i ∈ ro
    · exact .inr ((hZ2' bl).2 (.inr ⟨i, hr, p, a', hp, ha, e'⟩))
    · refine .inl ⟨i, p.1, p.2, a', ?_, ha, e'⟩
      have hnf : i ∉ fz := fun hf => Ln hnd.2 i hf hi
      rw [hβ2, if_neg (fun h => hnf h.2), hβ1, if_neg hr]
      exact hp
  have hβ3MB : ∀ bl, MB β3 bl → MB β2 bl ∨ bl ∈ aL os' := fun bl hm => by
    obtain ⟨j, hd', n, a', hj, ha, e'⟩ := hm
    rcases hlenb2 j _ hj with ⟨_, _, hj⟩ | ⟨_, hj⟩
    · exact .inr (List.mem_filterMap.2 ⟨_, List.mem_of_getElem? hj, by simp [mR, ha, e']⟩)
    · exact .inl ⟨j, hd', n, a', hj, ha, e'⟩
  have hcell : ∀ bl o v, ¬ MZ β2 bl → w.cell? ⟨bl, o, none⟩ = some v → w'.cell? ⟨bl, o, none⟩ = some v := fun bl o v hn hc => by
    have hlt := block_lt_of_cell hc
    rw [World.cell?_of_block (w := w) (w' := w') (hret.block bl hlt (fun hm => hn (hosMZ2 bl hm)))]
    exact hc
  have hMZ3 : ∀ bl, ¬ MZ β2 bl → bl < w.heap.size → ¬ MZ β3 bl := fun bl hn hlt hm => by
    rcases hm with hm | hm
    · rcases hβ3MB bl hm with h | h
      · exact hn (.inl h)
      · rcases (hbl bl (hsubos bl h)).1 with h3 | h3
        · exact hn (hosMZ2 bl h3)
        · omega
    · exact hn (.inr ((hZ2' bl).2 (.inl (by rw [hst.hs.z]; exact hm))))
  have hβ23 : ∀ j p, β2 j = some p → β3 j = some p := fun j p hj => by
    have hne : ¬ (b ≤ j ∧ j < b + os'.length) := fun hh => by
      have hlen' : os'.length = nw.length + os1.length := by simp [os']
      have h3 := (hgi : _)
      obtain ⟨ob, hob⟩ := h2.hs.dom j p hj
      have := hnone2 j (hfr j hh.1 (by
        have : b2 = b1 + os1.length := by
          have := Fz hrs hr1' (E := E) (H := H1) (b := b1)
          rw [hmk] at this; exact this
        omega))
      rw [this] at hob
      cases hob
    show (if b ≤ j ∧ j < b + os'.length then os'[j - b]? else β2 j) = some p
    rw [if_neg hne]
    exact hj
  have hkp : Kp w β2 w' β3 := fun c v hc => hc.mono hβ23 hcell hMZ3
  have hM3 : ∀ bl, MZ β3 bl → M2 bl := fun bl hm => by
    cases q with
    | false => exact hMf rfl bl
    | true =>
      refine hMt rfl bl ?_
      rcases hm with hm | hm
      · rcases hβ3MB bl hm with h | h
        · obtain ⟨j, hd', n, a', hj, ha, e'⟩ := h
          obtain ⟨k1, k2, k3⟩ := hβ2' j _ hj
          by_cases hji : j ∈ ids
          · obtain ⟨v, hv1, hv2, _⟩ := hbxid j hji k2
            rw [k1] at hv2
            cases hv2
            refine .inl ?_
            simp only [aL, List.filterMap_append, List.mem_append]
            refine .inr (hpermb.mem_iff.2 (List.mem_append_right _ (List.mem_filterMap.2 ⟨_, hv1, by simp [mR, ha, e']⟩)))
          · refine .inr ⟨.inl ⟨j, hd', n, a', k1, ha, e'⟩, fun hb => ?_, fun hb => ?_⟩
            · rw [← hblk, ← e'] at hb
              exact hji (hold2 j _ a' hj ha hb).1
            · obtain ⟨i, hi, p, a2, hp, ha2, e2⟩ := lc hb
              have := hst.hs.inj j i _ p a' a2 k1 hp ha ha2 (e'.trans e2.symm)
              subst this
              exact k3 ⟨rfl, hi⟩
        · exact .inl (hsubos bl h)
      · have hz : β.Z bl := by rw [hst.hs.z]; exact hm
        refine .inr ⟨.inr hz, fun hb => ?_, fun hb => ?_⟩
        · obtain ⟨i, hi, p, a2, hp, ha2, e2⟩ := lc hb
          exact hst.hs.zn i p a2 hp ha2 (e2 ▸ hz)
        · obtain ⟨i, hi, p, a2, hp, ha2, e2⟩ := lc hb
          exact hst.hs.zn i p a2 hp ha2 (e2 ▸ hz)
  obtain ⟨g1, g2, g3, g4⟩ := hgi β3 hM3 hnum.left (fun i c v k1 k2 id z hc => by
    obtain ⟨id', z', bb, j1, j2, j3, j4, j5⟩ := hba.2 i c v k1 k2
    rw [hc] at j1
    cases j1
    refine hβ23 id _ ?_
    have hnr : id ∉ ro := fun h => hroK id h _ _ j3.choose_spec.choose_spec
    have hnf : id ∉ fz := fun h => hfzK id h _ _ j3.choose_spec.choose_spec
    rw [hβ2, if_neg (fun h => hnf h.2), hβ1, if_neg hnr]
    exact j4)
  have hslot : Hx w' β3 E (ar args) (jZ m.rs) := fun t ht => by
    obtain ⟨p, hp1, hp2⟩ := hsm t ht
    obtain rfl := ak hp2
    obtain ⟨_, e1, l1, hp3⟩ := Lm m.ps 0 p hp1
    rw [Nat.sub_zero] at hp3
    obtain ⟨c, y, hc, hy⟩ := Lh hx hp3
    have hlt : p < args.length := by rw [hlen]; exact (List.getElem?_eq_some_iff.1 hc).1
    have hR := rl.2 p c (ar args p) hc (by simp [ar, hlt])
    rw [hEat hc]
    cases c <;> first | (cases hy; done) | skip
    rename_i id z i' o'
    cases i' <;> cases o' <;> simp only [bL] at hy <;> first | (cases hy; done) | skip
    split at hy
    case h_2 => cases hy
    rename_i t' cs' hid
    have hnr : id ∉ ro := fun h => hroK id h _ _ hid
    have hnf : id ∉ fz := fun h => hfzK id h _ _ hid
    have hR := hR.ptrs
    generalize ar args p = v at hR
    cases hR with
    | ptr k1 k2 k3 => exact .of_RC (.ptr (hβ23 id _ (by rw [hβ2, if_neg (fun h => hnf h.2), hβ1, if_neg hnr]; exact k1)) k2 k3)
  obtain ⟨f1, f2, f3⟩ := Fw (β := β3) (E := E) (M := M2) (P := B.P) (w := w') (e := ar args) hM3 m.rs H1 b1 r.1 vs os1 hrs hr1' (by rw [hb1]; exact hnum.right) hslot
  rw [hmk] at f1 f2 f3
  simp only at f1 f2 f3
  have hlen' : os'.length = nw.length + os1.length := by simp [os']
  have hobj : ∀ j, (∃ ob, Hf j = some ob ∧ ObOK B.P w' β3 j ob) ∨ (Hf j = s2.H j ∧ ∀ z, AV.ptr j z 0 0 ∉ bc) := fun j => by
    by_cases hj : b1 ≤ j ∧ j < b1 + os1.length
    · exact .inl (f3.2 j hj.1 hj.2)
    · have e1 : Hf j = H1 j := f3.1 j (by omega)
      rcases g1 j with h | ⟨ob, h, h'⟩
      · by_cases hm : ∃ z, AV.ptr j z 0 0 ∈ bc
        · obtain ⟨z, hm⟩ := hm
          obtain ⟨ob, h3, h4⟩ := g3 j z hm
          exact .inl ⟨ob, by rw [e1]; exact h3, h4⟩
        · exact .inr ⟨e1.trans h, fun z hz => hm ⟨z, hz⟩⟩
      · exact .inl ⟨ob, by rw [e1]; exact h, h'⟩
  have hHf : Hs B β3 Hf w' := {
    objs := fun j ob hj => by
      rcases hobj j with ⟨ob', h3, h4⟩ | ⟨h3, h4⟩
      · rw [h3] at hj
        cases hj
        exact h4
      · rw [h3] at hj
        have hob := h2.hs.objs j ob hj
        have hex : ∃ p, β2 j = some p := by
          cases ob with
          | box e cs => obtain ⟨_, _, h, _⟩ := hob; exact ⟨_, h⟩
          | row e fz k xs => obtain ⟨_, h, _⟩ := hob; exact ⟨_, h⟩
          | arr e k xs => obtain ⟨_, _, h, _⟩ := hob; exact ⟨_, h⟩
        obtain ⟨p, hp⟩ := hex
        refine hob.mono (by rw [hβ23 j p hp, hp]) hkp fun p' a' hp' ha' => ?_
        rw [hp] at hp'
        cases hp'
        have hlt := (h2.hs.old a'.block ⟨j, p.1, p.2, a', hp, ha', rfl⟩).2
        refine hret.block a'.block hlt fun hm => ?_
        obtain ⟨h5, h6⟩ := hold2 j p a' hp ha' hm
        obtain ⟨_, _, _, z, hz⟩ := hbxid j h5 h6
        exact h4 z hz
    dom := fun j p hj => by
      rcases hobj j with ⟨ob', h3, _⟩ | ⟨h3, _⟩
      · exact ⟨ob', h3⟩
      · rcases hlenb2 j p hj with ⟨k1, k2, k3⟩ | ⟨_, hj⟩
        · by_cases hjb : j < b + nw.length
          · obtain ⟨ob, k4, _⟩ := g2 j k1 hjb
            have : Hf j = H1 j := f3.1 j (by omega)
            exact ⟨ob, by rw [this]; exact k4⟩
          · obtain ⟨ob, k4, _⟩ := f3.2 j (by omega) (by omega)
            exact ⟨ob, k4⟩
        · obtain ⟨ob, k4⟩ := h2.hs.dom j p hj
          exact ⟨ob, by rw [h3]; exact k4⟩
    inj := fun i j p p' a1 a2 hi hj ha1 ha2 hb => by
      have cross : ∀ (i j : Nat) (p p' : Value × Nat) (a1 a2 : Addr), β2 i = some p → os'[j - b]? = some p' → adr p.1 = some a1 → adr p'.1 = some a2 → a1.block = a2.block → False := by
        intro i j p p' a1 a2 hi hj ha1 ha2 hb
        have hm2 : a2.block ∈ aL os' := List.mem_filterMap.2 ⟨p', List.mem_of_getElem? hj, by simp [mR, ha2]⟩
        rcases (hbl a2.block (hsubos _ hm2)).1 with h3 | h3
        · rw [← hb] at h3
          obtain ⟨h5, h6⟩ := hold2 i p a1 hi ha1 h3
          obtain ⟨v, hv1, hv2, _⟩ := hbxid i h5 h6
          rw [(hβ2' i p hi).1] at hv2
          cases hv2
          have hm1 : a1.block ∈ aL (bv.map fun v => (v, 1)) := List.mem_filterMap.2 ⟨_, hv1, by simp [mR, ha1]⟩
          exact (List.nodup_append.1 hnod).2.2 _ hm2 _ hm1 hb.symm
        · have := (h2.hs.old a1.block ⟨i, p.1, p.2, a1, hi, ha1, rfl⟩).2
          omega
      rcases hlenb2 i p hi with ⟨i1, i2, i3⟩ | ⟨_, i3⟩ <;> rcases hlenb2 j p' hj with ⟨j1, j2, j3⟩ | ⟨_, j3⟩
      · have := E3 hnod' (i - b) (j - b) p p' a1 a2 i3 j3 ha1 ha2 hb
        omega
      · exact (cross j i p' p a2 a1 j3 i3 ha2 ha1 hb.symm).elim
      · exact (cross i j p p' a1 a2 i3 j3 ha1 ha2 hb).elim
      · exact h2.hs.inj i j p p' a1 a2 i3 j3 ha1 ha2 hb
    old := fun bl hm => by
      rcases hβ3MB bl hm with h | h
      · exact ⟨(h2.hs.old bl h).1, Nat.lt_of_lt_of_le (h2.hs.old bl h).2 hret.size⟩
      · have h3 := hbl bl (hsubos bl h)
        refine ⟨?_, h3.2⟩
        rcases h3.1 with h4 | h4
        · exact (hst.hs.old bl (hosMB bl h4)).1
        · exact .inr (Nat.le_trans hst.hs.size h4)
    os := hret.wos.trans hst.hs.os
    tape := hret.tape.trans hst.hs.tape
    output := hret.output.trans hst.hs.output
    size := Nat.le_trans hst.hs.size hret.size
    block := fun bl hlt hO => by
      rw [hret.block bl (Nat.lt_of_lt_of_le hlt hst.hs.size) fun hm => ?_]
      · exact hst.hs.block bl hlt hO
      · rcases (hst.hs.old bl (hosMB bl hm)).1 with h | h
        · exact hO h
        · omega
    z := rfl
    zn := fun j p a' hj ha hz => by
      rcases hlenb2 j p hj with ⟨_, _, j3⟩ | ⟨_, j3⟩
      · have hm2 : a'.block ∈ aL os' := List.mem_filterMap.2 ⟨p, List.mem_of_getElem? j3, by simp [mR, ha]⟩
        rcases (hbl a'.block (hsubos _ hm2)).1 with h3 | h3
        · rw [hblk] at h3
          obtain ⟨i, hi, p2, a2, hp2, ha2, e2⟩ := lc h3
          exact hst.hs.zn i p2 a2 hp2 ha2 (by rw [e2, hst.hs.z]; exact hz)
        · have := hst.hs.zl a'.block (by rw [hst.hs.z]; exact hz)
          omega
      · exact hst.hs.zn j p a' (hβ2' j p j3).1 ha (by rw [hst.hs.z]; exact hz)
    zl := fun bl hz => Nat.lt_of_lt_of_le (hst.hs.zl bl (by rw [hst.hs.z]; exact hz)) hret.size
    pk := hst.hs.pk.trans hret.pk }
  have hfin : St B β3 stk { s2 with H := Hf } a w' := by
    refine ⟨fun t => RT.mono hkp (h2.T t), ⟨h2.stack.1, fun i T tm k1 k2 t => RT.mono hkp (h2.stack.2 i T tm k1 k2 t)⟩, h2.n, h2.defers, h2.pins, h2.gs, hHf⟩
  have hhas : ({ s2 with H := Hf } : S).has d = true := by
    have : ({ s2 with H := Hf } : S).has d = s.has d := Bm (hsame.1.trans hsame1.1) (hsame.2.1.trans hsame1.2.1) (hsame.2.2.trans hsame1.2.2) d
    rw [this]
    exact hd
  exact hK β3 (NV vs) w' (ET hfin hhas (R4 f1))
end
end Go.VS
namespace Go.VS
open Go
section
variable {B : Base} {β β' : Beta} {H : Hp} {w w' : World} {stk : List (Array Value)} {s s' : S} {a : Act} {P : Program} {C : Cx}
theorem O6 (hΓ : ∀ f d m, C.Γ f d = some m → oF P f m ∧ okQ P m = true) (B : Base) (hB : B.P = P) : lI C B := by
  intro f d m hm β stk s a w b as s' o ts K Q hst hfr hd he hod ho hK
  obtain ⟨h1, h2⟩ := hΓ f d m hm
  rw [← hB] at h1 h2
  exact RB h1 h2 hst hfr hd he hod ho hK
end
def bI {A R : Type} (t : (A → Option R) → A → Option R) : Nat → A → Option R
  | 0 => fun _ => none
  | n + 1 => t (bI t n)
open Classical in
noncomputable def LL {A R : Type} (t : (A → Option R) → A → Option R) (x : A) : Option R :=
  if h : ∃ n r, bI t n x = some r then some (Classical.choose (Classical.choose_spec h)) else none
theorem Jk {A R : Type} {t : (A → Option R) → A → Option R} {x : A} {r : R} (h : LL t x = some r) : ∃ n, bI t n x = some r := by
  unfold LL at h
  split at h
  · rename_i hn
    have := Classical.choose_spec (Classical.choose_spec hn)
    cases h
    exact ⟨_, this⟩
  · cases h
theorem Oj {P : Program} {f : FuncId} {ps rs : List Sh} {t : (LTs ps → Option (LTs rs × LTs (aq ps))) → LTs ps → Option (LTs rs × LTs (aq ps))} (he : rf P f)
    (h : ∀ g, oF P f ⟨ps, rs, g⟩ → oF P f ⟨ps, rs, t g⟩) : oF P f ⟨ps, rs, LL t⟩ := by
  have hn : ∀ n, oF P f ⟨ps, rs, bI t n⟩ := by
    intro n
    induction n with
    | zero => exact ⟨he, fun x r hx => by cases hx⟩
    | succ n ih => exact h _ ih
  refine ⟨he, fun x r hx => ?_⟩
  obtain ⟨n, hx⟩ := Jk hx
  intro w Z args os h1 h2 h3 h4 h5
  exact Calls.mono ((hn n).2 x r hx w Z args os h1 h2 h3 h4 h5) fun en w' ⟨v, e, hr⟩ => ⟨v, e, ⟨hr.ex, hr.wos, hr.tape, hr.output, hr.size, hr.block, hr.pk⟩⟩
end Go.VS
namespace Go.VS
open Go
def gam : List (Nat × Option Nat × Summ) → Nat → Option Nat → Option Summ
  | [], _, _ => none
  | (f, e, m) :: l, g, d => match Nat.beq f g && (match e, d with
      | none, _ => true
      | some a, some b => Nat.beq a b
      | some _, none => false) with
    | true => some m
    | false => gam l g d
def Mg (P : Program) (l : List (Nat × Option Nat × Summ)) : Prop := ∀ e ∈ l, oF P e.1 e.2.2 ∧ okQ P e.2.2 = true
theorem an {P : Program} : Mg P [] := fun e h => by cases h
theorem Sk {P : Program} {l : List (Nat × Option Nat × Summ)} (h : Mg P l) : ∀ f d m, gam l f d = some m → oF P f m ∧ okQ P m = true := by
  induction l with
  | nil => intro f d m hm; cases hm
  | cons e l ih =>
    obtain ⟨g, e, m'⟩ := e
    intro f d m hm
    unfold gam at hm
    split at hm
    · rename_i hc
      simp only [Bool.and_eq_true] at hc
      cases hm
      obtain rfl := ak hc.1
      exact h _ List.mem_cons_self
    · exact ih (fun e he => h e (List.mem_cons_of_mem _ he)) f d m hm
def bF : Code → Adv → List (Code × Loop)
  | .seq a b, .join _ u v => bF a u ++ bF b v
  | .seq a b, .two u v => bF a u ++ bF b v
  | .seq a _, .one u => bF a u
  | .cond _ x _, .one u => bF x u
  | .cond _ x y, .two u v => bF x u ++ bF y v
  | .cond _ x y, .join _ u v => bF x u ++ bF y v
  | .block _ c, .one u => bF c u
  | .block _ c, .two u _ => bF c u
  | .block _ c, .join _ u _ => bF c u
  | .loop c, .loop l => [(c, l)]
  | _, _ => []
theorem ca {L : Code → Loop → Prop} : ∀ (c : Code) (v : Adv), (∀ p ∈ bF c v, L p.1 p.2) → oG L c v
  | .seq a b, .join _ u v, h => ⟨ca a u fun p hp => h p (List.mem_append_left _ hp), ca b v fun p hp => h p (List.mem_append_right _ hp)⟩
  | .seq a b, .two u v, h => ⟨ca a u fun p hp => h p (List.mem_append_left _ hp), ca b v fun p hp => h p (List.mem_append_right _ hp)⟩
  | .seq a b, .one u, h => ⟨ca a u h, bj L b⟩
  | .seq a b, .nil, _ => ⟨bj L a, bj L b⟩
  | .seq a b, .loop _, _ => ⟨bj L a, bj L b⟩
  | .cond _ x y, .one u, h => ⟨ca x u h, bj L y⟩
  | .cond _ x y, .two u v, h => ⟨ca x u fun p hp => h p (List.mem_append_left _ hp), ca y v fun p hp => h p (List.mem_append_right _ hp)⟩
  | .cond _ x y, .join _ u v, h => ⟨ca x u fun p hp => h p (List.mem_append_left _ hp), ca y v fun p hp => h p (List.mem_append_right _ hp)⟩
  | .cond _ x y, .nil, _ => ⟨bj L x, bj L y⟩
  | .cond _ x y, .loop _, _ => ⟨bj L x, bj L y⟩
  | .block _ c, .one u, h => ca c u h
  | .block _ c, .two u _, h => ca c u h
  | .block _ c, .join _ u _, h => ca c u h
  | .block _ c, .nil, _ => bj L c
  | .block _ c, .loop _, _ => bj L c
  | .loop c, .loop l, h => h (c, l) (by simp [bF])
  | .loop _, .nil, _ => trivial
  | .loop _, .one _, _ => trivial
  | .loop _, .two _ _, _ => trivial
  | .loop _, .join _ _ _, _ => trivial
  | .skip, _, _ => trivial
  | .region _ _ _, _, _ => trivial
  | .exit _, _, _ => trivial
  | .ret, _, _ => trivial
  | .rangeFunc _ _ _ _, _, _ => trivial
  | .scope _, _, _ => trivial
  | .label _, _, _ => trivial
  | .goto _, _, _ => trivial
  | .refuse _, _, _ => trivial
def QT (L : Code → Loop → Prop) (l : List (Code × Loop)) : Prop := ∀ p ∈ l, L p.1 p.2
theorem Md {L : Code → Loop → Prop} {c : Code} {v : Adv} {l : List (Code × Loop)} (h : bF c v = l) (hl : QT L l) : oG L c v := ca c v (by rw [h]; exact hl)
theorem SM {L : Code → Loop → Prop} : QT L [] := fun p h => by cases h
theorem SN {L : Code → Loop → Prop} {c : Code} {v : Loop} {l : List (Code × Loop)} (h : L c v) (hl : QT L l) : QT L ((c, v) :: l) := fun p hp => by
  rcases List.mem_cons.1 hp with rfl | hp
  · exact h
  · exact hl p hp
end Go.VS
namespace Go.VS
open Go
abbrev Ent := Nat × Option Nat × Summ
def SQ (P : Program) (e : Ent) : Prop := oF P e.1 e.2.2 ∧ okQ P e.2.2 = true
theorem gC {P : Program} {e : Ent} {l : List Ent} (h : SQ P e) (hl : Mg P l) : Mg P (e :: l) := fun x hx => by
  rcases List.mem_cons.1 hx with rfl | hx
  · exact h
  · exact hl x hx
def inR : List (Nat × Nat) → Nat → Bool
  | [], _ => false
  | (a, b) :: l, n => match Nat.ble a n && Nat.ble n b with
    | true => true
    | false => inR l n
structure OKC (P : Program) (C : Cx) (inl : (Ω : Type) → Inl Ω) : Prop where
  p : C.P = P
  m : P.follows .mixedOrders = true
  c : ∀ B : Base, B.P = P → lI C B
  i : ∀ B : Base, B.P = P → AE C B inl
theorem okc {P : Program} {kd : TypeId → Option K} {l : List Ent} {cz sp : Nat → Bool} (hm : P.follows .mixedOrders = true) (h : Mg P l) : OKC P ⟨P, kd, gam l, cz, sp⟩ ae :=
  ⟨rfl, hm, fun B hB => O6 (C := ⟨P, kd, gam l, cz, sp⟩) (Sk h) B hB, fun B _ => PT _ B⟩
def LpK (P : Program) (n : Nat) (pins : List Nat) (ls : List (Code × Loop)) : Prop := ∀ B : Base, B.P = P → QT (uZ B n pins) ls
theorem kN {P : Program} {n : Nat} {pins : List Nat} : LpK P n pins [] := fun _ _ => SM
theorem kC {P : Program} {n : Nat} {pins : List Nat} {c : Code} {l : Loop} {ls : List (Code × Loop)} (h : LpK P n pins [(c, l)]) (hl : LpK P n pins ls) : LpK P n pins ((c, l) :: ls) := fun B hB => SN (h B hB (c, l) List.mem_cons_self) (hl B hB)
theorem lk {P : Program} {C : Cx} {inl : (Ω : Type) → Inl Ω} (hC : OKC P C inl) {n : Nat} {pins : List Nat} {body : Code} {v : Adv} {l : Loop} {b : Lv l.sch → Option (Lv l.sch ⊕ (Lv l.rsch ⊕ Lv l.osch))} {ls : List (Code × Loop)}
    (hb : ∀ x, evL C inl n pins body v l x = b x) (hr : l.run = ax b) (h : bF body v = ls) (hl : LpK P n pins ls) : LpK P n pins [(body, l)] := fun B hB p hp => by
  obtain rfl := List.mem_singleton.1 hp
  exact Rg (hC.p.trans hB.symm) (by rw [hB]; exact hC.m) (hC.c B hB) (hC.i B hB) hb hr (Md h (hl B hB))
def fnB (P : Program) (f : Nat) (fn : Func) (m : Summ) : Option Func × Bool × Bool × Bool := (P.funcs[f]?, fn.name == "runtime.NumGoroutine", okM m fn.ntmps, okQ P m)
theorem so {P : Program} {C : Cx} {inl : (Ω : Type) → Inl Ω} {f : Nat} {d : Option Nat} {fn : Func} {m : Summ} {v : Adv} {ls : List (Code × Loop)} (hC : OKC P C inl)
    (hf : fnB P f fn m = (some fn, false, true, true)) (hb : fn.body = some (uW fn)) (h : bF (uW fn) v = ls) (hl : LpK P fn.ntmps (cc 0 m.ps) ls) (hg : ∀ x, Sl C inl fn v m x = m.g x) : SQ P (f, d, m) := by
  simp only [fnB, Prod.mk.injEq] at hf
  exact ⟨PD hC.p hC.m hC.c hC.i hf.1 hf.2.1 hb hf.2.2.1 (fun B hB => Md h (hl B hB)) hg, hf.2.2.2⟩
theorem soR {P : Program} {f : Nat} {d : Option Nat} {ps rs : List Sh} {t : (LTs ps → Option (LTs rs × LTs (aq ps))) → LTs ps → Option (LTs rs × LTs (aq ps))} (he : rf P f)
    (hq : ∀ g, okQ P ⟨ps, rs, g⟩ = true) (h : ∀ g, SQ P (f, d, ⟨ps, rs, g⟩) → SQ P (f, d, ⟨ps, rs, t g⟩)) : SQ P (f, d, ⟨ps, rs, LL t⟩) :=
  ⟨Oj he fun g hg => (h g ⟨hg, hq g⟩).1, hq _⟩
def MX (a b c d : Int) (e : ByteArray) (a' b' c' d' : Int) (e' : ByteArray) : Bool := decide (a = a') && (decide (b = b') && (decide (c = c') && (decide (d = d') && (decide (e = e') && true))))
end Go.VS
