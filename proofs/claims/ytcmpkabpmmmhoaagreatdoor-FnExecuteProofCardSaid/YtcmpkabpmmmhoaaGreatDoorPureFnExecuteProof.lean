/- The law FnExecuteProof, as a statement over plain numbers and lists, is proved: what the program's functions compute is what the reference's compute. -/
import Derived.Test.YtcmpkabpmmmhoaaGreatDoorPFnExecuteProofx7
import Derived.Lib.SplitLaws
import Derived.Laws.Entries
namespace Go.Proofs.YtcmpkabpmmmhoaaGreatDoor.Pure
open Go.RowKit Go.Proofs.YtcmpkabpmmmhoaaGreatDoor.PFnExecuteProof Go.Proofs.YtcmpkabpmmmhoaaGreatDoorW.PrintWords Go.Proofs.YtcmpkabpmmmhoaaGreatDoorW.PrintLast
set_option linter.unusedVariables false
set_option linter.unusedSimpArgs false
/-! ### lists of whole numbers -/
theorem wrap_nat {n : Nat} (h : n < 4611686018427387904) : wrap64 ((n : Int) + 1) = ((n + 1 : Nat) : Int) := by unfold wrap64; omega
theorem rd_at {l : List Int} {i : Nat} (h : i < l.length) : rd l (i : Int) = l[i] := by
  unfold rd
  rw [Int.toNat_natCast, List.getD_eq_getElem?_getD, List.getElem?_eq_getElem h]
  rfl
theorem and_one (a : Nat) (ha : a < 4611686018427387904) : Go.bits .and .i64 (a : Int) 1 = ((a % 2 : Nat) : Int) := by
  have h1 : (BitVec.ofInt 64 (a : Int)).toNat = a := by
    rw [BitVec.ofInt_natCast, BitVec.toNat_ofNat]; exact Nat.mod_eq_of_lt (by omega)
  have h2 : (BitVec.ofInt 64 (1 : Int)).toNat = 1 := by decide
  show IntKind.i64.wrap ((BitVec.ofInt 64 (a : Int) &&& BitVec.ofInt 64 (1 : Int)).toNat : Int) = _
  rw [BitVec.toNat_and, h1, h2, Nat.and_one_is_mod]
  have : a % 2 < 2 := Nat.mod_lt _ (by omega)
  generalize a % 2 = c at this
  simp [IntKind.wrap, IntKind.bits, IntKind.signed]
  omega
theorem ite_same {α : Type} {p q : Prop} [Decidable p] [Decidable q] (h : p ↔ q) {a b : α} : (if p then a else b) = if q then a else b := by
  by_cases hq : q
  · rw [if_pos (h.mpr hq), if_pos hq]
  · rw [if_neg (fun x => hq (h.mp x)), if_neg hq]
/-! ### rulers -/
def isRuler (l : List Int) : Prop := (∀ x ∈ l, 1 ≤ x ∧ x ≤ 60) ∧ 1 ≤ l.length ∧ l.length ≤ 9
instance (l : List Int) : Decidable (isRuler l) := by unfold isRuler; infer_instance
theorem spec_in (a b c : Int) : spec_l6In.f a b c = some (decide (b ≤ a ∧ a ≤ c)) := by
  unfold spec_l6In.f
  by_cases h : a ≥ b
  · rw [if_pos h]
    congr 1
    exact decide_eq_decide.mpr ⟨fun x => ⟨h, x⟩, fun x => x.2⟩
  · rw [if_neg h, decide_eq_false (fun x => h x.1)]
theorem impl_ruler_l (l : List Int) (hl : l.length ≤ 1048576) : ∀ (d k i : Nat), i + d = l.length → d + 1 ≤ k →
    impl_isRuler.l0 k l l (l.length : Int) (i : Int) = some (decide ((∀ x ∈ l.drop i, 1 ≤ x ∧ x ≤ 60) ∧ 1 ≤ l.length ∧ l.length ≤ 9)) := by
  intro d
  induction d with
  | zero =>
    intro k i hi hk
    obtain ⟨m, rfl⟩ : ∃ m, k = m + 1 := ⟨k - 1, by omega⟩
    rw [impl_isRuler.l0, if_neg (by omega), List.drop_eq_nil_of_le (by omega)]
    simp only [List.not_mem_nil, false_implies, implies_true, true_and]
    split
    · congr 1
      exact decide_eq_decide.mpr ⟨fun x => by omega, fun x => by omega⟩
    · rw [decide_eq_false (by omega)]
  | succ d ih =>
    intro k i hi hk
    obtain ⟨m, rfl⟩ : ∃ m, k = m + 1 := ⟨k - 1, by omega⟩
    have hil : i < l.length := by omega
    rw [impl_isRuler.l0, if_pos (by omega), if_pos (by omega), if_pos (by omega), rd_at hil, wrap_nat (by omega), ih m (i + 1) (by omega) (by omega), List.drop_eq_getElem_cons hil]
    simp only [List.mem_cons, forall_eq_or_imp]
    split
    · next h => rw [decide_eq_false (fun x => by omega)]
    · next h =>
      split
      · next h => rw [decide_eq_false (fun x => by omega)]
      · next h1 => congr 1; exact decide_eq_decide.mpr ⟨fun x => ⟨⟨⟨by omega, by omega⟩, x.1⟩, x.2⟩, fun x => ⟨x.1.2, x.2⟩⟩
theorem impl_ruler (l : List Int) (hl : l.length ≤ 1048576) (k : Nat) (hk : l.length + 1 ≤ k) : impl_isRuler.f k l = some (decide (isRuler l)) :=
  impl_ruler_l l hl l.length k 0 (by omega) (by omega)
/-! ### bundles -/
def asc (l : List Int) : Prop := ∀ j : Nat, j < l.length → 0 < j → rd l ((j - 1 : Nat) : Int) ≤ rd l (j : Int)
instance (l : List Int) : Decidable (asc l) := by unfold asc; infer_instance
def isBundle (l : List Int) : Prop := isRuler l ∧ asc l
instance (l : List Int) : Decidable (isBundle l) := by unfold isBundle; infer_instance
theorem all_rd (l : List Int) (p : Int → Prop) : (∀ x ∈ l, p x) ↔ ∀ j : Nat, j < l.length → p (rd l (j : Int)) := by
  constructor
  · intro h j hj
    rw [rd_at hj]
    exact h _ (List.getElem_mem hj)
  · intro h x hx
    obtain ⟨j, hj, rfl⟩ := List.mem_iff_getElem.mp hx
    rw [← rd_at hj]
    exact h j hj
theorem wrap_pred {n : Nat} (h0 : 0 < n) (h : n < 4611686018427387904) : wrap64 ((n : Int) - 1) = ((n - 1 : Nat) : Int) := by unfold wrap64; omega
def l1Rest (l : List Int) (i : Nat) : Prop := (∀ j : Nat, j < l.length → i ≤ j → (1 ≤ rd l (j : Int) ∧ rd l (j : Int) ≤ 60) ∧ (0 < j → rd l ((j - 1 : Nat) : Int) ≤ rd l (j : Int))) ∧ 1 ≤ l.length ∧ l.length ≤ 9
instance (l : List Int) (i : Nat) : Decidable (l1Rest l i) := by unfold l1Rest; infer_instance
theorem l1Rest_step {l : List Int} {i : Nat} (h : i < l.length) : l1Rest l i ↔ ((1 ≤ rd l (i : Int) ∧ rd l (i : Int) ≤ 60) ∧ (0 < i → rd l ((i - 1 : Nat) : Int) ≤ rd l (i : Int))) ∧ l1Rest l (i + 1) := by
  unfold l1Rest
  constructor
  · rintro ⟨h1, h2⟩
    exact ⟨h1 i h (Nat.le_refl _), fun j hj hij => h1 j hj (by omega), h2⟩
  · rintro ⟨h1, h2, h3⟩
    refine ⟨fun j hj hij => ?_, h3⟩
    rcases Nat.lt_or_ge i j with h' | h'
    · exact h2 j hj h'
    · obtain rfl : i = j := by omega
      exact h1
theorem spec_bundle_l (l : List Int) (hl : l.length ≤ 1048576) : ∀ (d k i : Nat), i + d = l.length → d + 1 ≤ k → spec_l1Bundle.l0 k l (i : Int) = some (decide (l1Rest l i)) := by
  intro d
  induction d with
  | zero =>
    intro k i hi hk
    obtain ⟨m, rfl⟩ : ∃ m, k = m + 1 := ⟨k - 1, by omega⟩
    rw [spec_l1Bundle.l0, if_neg (by omega), spec_in]
    simp only [Option.bind_some]
    congr 1
    exact decide_eq_decide.mpr ⟨fun x => ⟨fun j hj hij => by omega, by omega⟩, fun x => by have := x.2; omega⟩
  | succ d ih =>
    intro k i hi hk
    obtain ⟨m, rfl⟩ : ∃ m, k = m + 1 := ⟨k - 1, by omega⟩
    have hil : i < l.length := by omega
    have st := l1Rest_step hil
    have ih := ih m (i + 1) (by omega) (by omega)
    rw [spec_l1Bundle.l0, if_pos (by omega), if_pos (by omega), spec_in, wrap_nat (by omega), ih]
    simp only [Option.bind_some, decide_eq_true_eq]
    by_cases h1 : 1 ≤ rd l (i : Int) ∧ rd l (i : Int) ≤ 60
    · rw [if_pos h1]
      by_cases h2 : 0 < i
      · rw [if_pos (by omega), wrap_pred h2 (by omega), if_pos (by omega), if_pos (by omega)]
        by_cases h3 : rd l (i : Int) < rd l ((i - 1 : Nat) : Int)
        · rw [if_pos h3, decide_eq_false (fun x => by have := (st.mp x).1.2 h2; omega)]
        · rw [if_neg h3]
          congr 1
          exact decide_eq_decide.mpr ⟨fun x => st.mpr ⟨⟨h1, fun _ => by omega⟩, x⟩, fun x => (st.mp x).2⟩
      · rw [if_neg (by omega)]
        congr 1
        exact decide_eq_decide.mpr ⟨fun x => st.mpr ⟨⟨h1, fun h => absurd h h2⟩, x⟩, fun x => (st.mp x).2⟩
    · rw [if_neg h1, decide_eq_false (fun x => h1 (st.mp x).1.1)]
theorem spec_bundle (l : List Int) (hl : l.length ≤ 1048576) (k : Nat) (hk : l.length + 1 ≤ k) : spec_l1Bundle.f k l = some (decide (isBundle l)) := by
  unfold spec_l1Bundle.f
  have := spec_bundle_l l hl l.length k 0 (by omega) hk
  rw [show ((0 : Nat) : Int) = 0 from rfl] at this
  rw [this]
  congr 1
  refine decide_eq_decide.mpr ?_
  unfold isBundle isRuler asc l1Rest
  rw [all_rd l (fun x => 1 ≤ x ∧ x ≤ 60)]
  exact ⟨fun x => ⟨⟨fun j hj => (x.1 j hj (by omega)).1, x.2⟩, fun j hj h0 => (x.1 j hj (by omega)).2 h0⟩, fun x => ⟨fun j hj _ => ⟨x.1.1 j hj, x.2 j hj⟩, x.1.2⟩⟩
theorem less_tells (a b : Int) : cmp_Less_int.f a b = some (decide (a < b)) := by
  unfold cmp_Less_int.f cmp_isNaN_int.f
  simp
theorem sorted_l (l : List Int) (hl : l.length ≤ 1048576) : ∀ (i k : Nat), i + 1 ≤ k → i < l.length → slices_IsSorted_int_int.l0 k l (i : Int) = some (decide (∀ j : Nat, j < i + 1 → 0 < j → rd l ((j - 1 : Nat) : Int) ≤ rd l (j : Int))) := by
  intro i
  induction i with
  | zero =>
    intro k hk hi
    obtain ⟨m, rfl⟩ : ∃ m, k = m + 1 := ⟨k - 1, by omega⟩
    rw [slices_IsSorted_int_int.l0, if_neg (by omega), decide_eq_true (fun j hj h0 => by omega)]
  | succ i ih =>
    intro k hk hi
    obtain ⟨m, rfl⟩ : ∃ m, k = m + 1 := ⟨k - 1, by omega⟩
    rw [slices_IsSorted_int_int.l0, if_pos (by omega), if_pos (by omega), if_pos (by omega), wrap_pred (by omega) (by omega), if_pos (by omega), if_pos (by omega), less_tells, show i + 1 - 1 = i from rfl, ih m (by omega) (by omega)]
    simp only [Option.bind_some, decide_eq_true_eq]
    by_cases h : rd l ((i + 1 : Nat) : Int) < rd l (i : Int)
    · rw [if_pos h, decide_eq_false (fun x => by have := x (i + 1) (by omega) (by omega); rw [show i + 1 - 1 = i from rfl] at this; omega)]
    · rw [if_neg h]
      congr 1
      refine decide_eq_decide.mpr ⟨fun x j hj h0 => ?_, fun x j hj h0 => x j (by omega) h0⟩
      rcases Nat.lt_or_ge j (i + 1) with h' | h'
      · exact x j h' h0
      · obtain rfl : j = i + 1 := by omega
        rw [show i + 1 - 1 = i from rfl]
        omega
theorem impl_bundle (l : List Int) (hl : l.length ≤ 1048576) (k : Nat) (hk : l.length + 1 ≤ k) : impl_StickIn.f k l = some (decide (isBundle l)) := by
  unfold impl_StickIn.f
  rw [impl_ruler l hl k hk]
  simp only [Option.bind_some, decide_eq_true_eq]
  by_cases h : isRuler l
  · have h1 := h.2.1
    rw [if_pos h]
    unfold slices_IsSorted_int_int.f
    rw [wrap_pred (by omega) (by omega), sorted_l l hl (l.length - 1) k (by omega) (by omega)]
    simp only [Option.bind_some]
    congr 1
    refine decide_eq_decide.mpr ?_
    rw [show l.length - 1 + 1 = l.length by omega]
    exact ⟨fun x => ⟨h, x⟩, fun x => x.2⟩
  · rw [if_neg h, decide_eq_false (fun x => h x.1)]
theorem sum_l (l : List Int) (hl : l.length ≤ 100) (hx : ∀ x ∈ l, 1 ≤ x ∧ x ≤ 60) : ∀ (d k i : Nat) (s : Int), i + d = l.length → d + 1 ≤ k → 0 ≤ s → s ≤ 60 * i →
    impl_sum.l0 k s l (l.length : Int) (i : Int) = some (s + (l.drop i).sum) := by
  intro d
  induction d with
  | zero =>
    intro k i s hi hk h0 h1
    obtain ⟨m, rfl⟩ : ∃ m, k = m + 1 := ⟨k - 1, by omega⟩
    rw [impl_sum.l0, if_neg (by omega), List.drop_eq_nil_of_le (by omega)]
    simp
  | succ d ih =>
    intro k i s hi hk h0 h1
    obtain ⟨m, rfl⟩ : ∃ m, k = m + 1 := ⟨k - 1, by omega⟩
    have hil : i < l.length := by omega
    have hx := hx l[i] (List.getElem_mem hil)
    have w : wrap64 (s + l[i]) = s + l[i] := by unfold wrap64; omega
    rw [impl_sum.l0, if_pos (by omega), if_pos (by omega), if_pos (by omega), rd_at hil, w, wrap_nat (by omega), ih m (i + 1) _ (by omega) (by omega) (by omega) (by omega), List.drop_eq_getElem_cons hil, List.sum_cons]
    congr 1
    omega
theorem sum_tells (l : List Int) (hl : l.length ≤ 100) (hx : ∀ x ∈ l, 1 ≤ x ∧ x ≤ 60) (k : Nat) (hk : l.length + 1 ≤ k) : impl_sum.f k l = some l.sum := by
  have := sum_l l hl hx l.length k 0 0 (by omega) hk (by omega) (by omega)
  unfold impl_sum.f
  rw [show ((0 : Nat) : Int) = 0 from rfl] at this
  rw [this]
  simp
theorem ssum_l (l : List Int) (hl : l.length ≤ 100) (hx : ∀ x ∈ l, 1 ≤ x ∧ x ≤ 60) : ∀ (d k i : Nat) (s : Int), i + d = l.length → d + 1 ≤ k → 0 ≤ s → s ≤ 60 * i →
    spec_l1Sum.l0 k l s (i : Int) = some (s + (l.drop i).sum) := by
  intro d
  induction d with
  | zero =>
    intro k i s hi hk h0 h1
    obtain ⟨m, rfl⟩ : ∃ m, k = m + 1 := ⟨k - 1, by omega⟩
    rw [spec_l1Sum.l0, if_neg (by omega), List.drop_eq_nil_of_le (by omega)]
    simp
  | succ d ih =>
    intro k i s hi hk h0 h1
    obtain ⟨m, rfl⟩ : ∃ m, k = m + 1 := ⟨k - 1, by omega⟩
    have hil : i < l.length := by omega
    have hx := hx l[i] (List.getElem_mem hil)
    have w : wrap64 (s + l[i]) = s + l[i] := by unfold wrap64; omega
    rw [spec_l1Sum.l0, if_pos (by omega), if_pos (by omega), rd_at hil, w, wrap_nat (by omega), ih m (i + 1) _ (by omega) (by omega) (by omega) (by omega), List.drop_eq_getElem_cons hil, List.sum_cons]
    congr 1
    omega
theorem ssum_tells (l : List Int) (hl : l.length ≤ 100) (hx : ∀ x ∈ l, 1 ≤ x ∧ x ≤ 60) (k : Nat) (hk : l.length + 1 ≤ k) : spec_l1Sum.f k l = some l.sum := by
  have := ssum_l l hl hx l.length k 0 0 (by omega) hk (by omega) (by omega)
  unfold spec_l1Sum.f
  rw [show ((0 : Nat) : Int) = 0 from rfl] at this
  rw [this]
  simp
/-! ### proofs about closing -/
theorem dec_small : ∀ n : Nat, n < 100 → spec_l6Dec.f 3 (n : Int) = some ⟨(Lib.decDigits n).toArray⟩ := by decide +kernel
theorem dec_tells (n k : Nat) (h : n < 100) (hk : 3 ≤ k) : spec_l6Dec.f k (n : Int) = some ⟨(Lib.decDigits n).toArray⟩ := at_rounds (spec_l6Dec.mono (n : Int)) hk (dec_small n h)
theorem dec_size : ∀ n : Nat, n < 100 → (⟨(Lib.decDigits n).toArray⟩ : ByteArray).size ≤ 2 := by decide +kernel
theorem sum_ge : ∀ (l : List Int), (∀ x ∈ l, 1 ≤ x ∧ x ≤ 60) → ∀ i (h : i < l.length), l[i] + ((l.length : Int) - 1) ≤ l.sum
  | [], _, i, h => by simp at h
  | x :: l, hx, 0, h => by
    have h1 : ∀ l : List Int, (∀ x ∈ l, 1 ≤ x ∧ x ≤ 60) → (l.length : Int) ≤ l.sum := by
      intro l
      induction l with
      | nil => intro _; simp
      | cons y r ih =>
        intro h
        have := ih (fun z hz => h z (List.mem_cons_of_mem _ hz))
        have := h y List.mem_cons_self
        simp only [List.length_cons, List.sum_cons]
        omega
    have := h1 l (fun z hz => hx z (List.mem_cons_of_mem _ hz))
    simp only [List.length_cons, List.sum_cons, List.getElem_cons_zero]
    omega
  | x :: l, hx, i + 1, h => by
    have := sum_ge l (fun z hz => hx z (List.mem_cons_of_mem _ hz)) i (by simpa using h)
    have := hx x List.mem_cons_self
    simp only [List.length_cons, List.sum_cons, List.getElem_cons_succ]
    omega
theorem sum_le : ∀ (l : List Int), (∀ x ∈ l, 1 ≤ x ∧ x ≤ 60) → l.sum ≤ 60 * l.length
  | [], _ => by simp
  | x :: l, hx => by
    have := sum_le l (fun z hz => hx z (List.mem_cons_of_mem _ hz))
    have := hx x List.mem_cons_self
    simp only [List.length_cons, List.sum_cons]
    omega
def gapOf (l : List Int) : Int := l.sum - 2 * rd l ((l.length - 1 : Nat) : Int)
theorem gap_in {l : List Int} (h : isRuler l) : -58 ≤ gapOf l ∨ l.length < 3 := by
  rcases Nat.lt_or_ge l.length 3 with h3 | h3
  · exact .inr h3
  · left
    have hi : l.length - 1 < l.length := by omega
    have h1 := sum_ge l h.1 (l.length - 1) hi
    have h2 := h.1 _ (List.getElem_mem hi)
    unfold gapOf
    rw [rd_at hi]
    omega
theorem gap_le {l : List Int} (h : isRuler l) : -120 ≤ gapOf l ∧ gapOf l ≤ 540 := by
  have hl := h.2
  have hi : l.length - 1 < l.length := by omega
  have h1 := sum_ge l h.1 (l.length - 1) hi
  have h2 := h.1 _ (List.getElem_mem hi)
  have h3 := sum_le l h.1
  unfold gapOf
  rw [rd_at hi]
  omega
theorem wrap_small {x : Int} (h0 : -1000000 ≤ x) (h1 : x ≤ 1000000) : wrap64 x = x := by unfold wrap64; omega
def closeText (l : List Int) : ByteArray × Bool :=
  if isBundle l ∧ 3 ≤ l.length then (if gapOf l > 0 then (⟨#[99, 108, 111, 115, 101, 115]⟩, true) else ((⟨#[111, 112, 101, 110, 32]⟩ : ByteArray) ++ ⟨(Lib.decDigits (-gapOf l).toNat).toArray⟩, true)) else (⟨#[]⟩, false)
theorem sgap_tells (l : List Int) (h : isRuler l) (k : Nat) (hk : l.length + 1 ≤ k) : spec_l3Gap.f k l = some (gapOf l) := by
  have hl := h.2
  have hi : l.length - 1 < l.length := by omega
  have h2 := h.1 _ (List.getElem_mem hi)
  have g := gap_le h
  unfold gapOf at g
  unfold spec_l3Gap.f
  rw [ssum_tells l (by omega) h.1 k hk]
  simp only [Option.bind_some]
  rw [wrap_pred (by omega) (by omega), if_pos (by omega), if_pos (by omega)]
  unfold gapOf
  rw [rd_at hi] at g ⊢
  rw [wrap_small (x := 2 * _) (by omega) (by omega), wrap_small (by omega) (by omega)]
theorem scloses_tells (l : List Int) (h : isRuler l) (h3 : 3 ≤ l.length) (k : Nat) (hk : l.length + 1 ≤ k) : spec_l3Closes.f k l = some (decide (gapOf l > 0)) := by
  unfold spec_l3Closes.f
  rw [if_pos (by omega), sgap_tells l h k hk]
  rfl
theorem sclose_tells (l : List Int) (hl : l.length ≤ 1048576) (k : Nat) (hk : l.length + 10 ≤ k) : spec_ProofClose.f k l = some (closeText l) := by
  unfold spec_ProofClose.f closeText
  rw [spec_bundle l hl k (by omega)]
  simp only [Option.bind_some, decide_eq_true_eq]
  obtain ⟨m, rfl⟩ : ∃ m, k = m + 1 := ⟨k - 1, by omega⟩
  by_cases hb : isBundle l
  · rw [if_pos hb, spec_ProofClose.j0]
    by_cases h3 : 3 ≤ l.length
    · rw [if_neg (by simp; omega), if_pos ⟨hb, h3⟩, scloses_tells l hb.1 h3 m (by omega), sgap_tells l hb.1 m (by omega)]
      simp only [Option.bind_some, decide_eq_true_eq]
      by_cases hg : gapOf l > 0
      · rw [if_pos hg, if_pos hg]
      · have g1 := (gap_in hb.1).resolve_right (by omega)
        rw [if_neg hg, if_neg hg, wrap_small (by omega) (by omega)]
        have := dec_tells (-gapOf l).toNat m (by omega) (by omega)
        rw [Int.toNat_of_nonneg (by omega)] at this
        rw [this]
        have := dec_size (-gapOf l).toNat (by omega)
        simp only [Option.bind_some]
        rw [if_pos (by omega)]
    · rw [if_pos (by simp; omega), if_neg (fun x => h3 x.2)]
  · rw [if_neg hb, spec_ProofClose.j0, if_pos rfl, if_neg (fun x => hb x.1)]
theorem itoa_dec100 : ∀ n : Nat, n < 100 → Lib.itoa (n : Int) = Lib.decDigits n := by decide +kernel
theorem itoa_dec (n : Int) (h : 0 ≤ n ∧ n < 100) : Lib.itoa n = Lib.decDigits n.toNat := by
  have := itoa_dec100 n.toNat (by omega)
  rw [Int.toNat_of_nonneg (by omega)] at this
  exact this
theorem igap_tells (l : List Int) (h : isRuler l) (k : Nat) (hk : l.length + 1 ≤ k) : impl_gap.f k l = some (gapOf l) := by
  have hl := h.2
  have hi : l.length - 1 < l.length := by omega
  have h2 := h.1 _ (List.getElem_mem hi)
  have g := gap_le h
  unfold gapOf at g
  unfold impl_gap.f
  rw [sum_tells l (by omega) h.1 k hk]
  simp only [Option.bind_some]
  rw [wrap_pred (by omega) (by omega), if_pos (by omega), if_pos (by omega)]
  unfold gapOf
  rw [rd_at hi] at g ⊢
  rw [wrap_small (x := 2 * _) (by omega) (by omega), wrap_small (by omega) (by omega)]
theorem icloses_tells (l : List Int) (h : isRuler l) (h3 : 3 ≤ l.length) (k : Nat) (hk : l.length + 1 ≤ k) : impl_closes.f k l = some (decide (gapOf l > 0)) := by
  unfold impl_closes.f
  rw [if_pos (by omega), igap_tells l h k hk]
  rfl
theorem iclose_tells (l : List Int) (hl : l.length ≤ 1048576) (k : Nat) (hk : l.length + 10 ≤ k) : impl_ProofClose.f k l = some (closeText l) := by
  unfold impl_ProofClose.f closeText
  rw [impl_bundle l hl k (by omega)]
  simp only [Option.bind_some, decide_eq_true_eq]
  obtain ⟨m, rfl⟩ : ∃ m, k = m + 1 := ⟨k - 1, by omega⟩
  by_cases hb : isBundle l
  · rw [if_pos hb, impl_ProofClose.j0]
    by_cases h3 : 3 ≤ l.length
    · rw [if_neg (by simp; omega), if_pos ⟨hb, h3⟩, icloses_tells l hb.1 h3 m (by omega), igap_tells l hb.1 m (by omega)]
      simp only [Option.bind_some, decide_eq_true_eq]
      by_cases hg : gapOf l > 0
      · rw [if_pos hg, if_pos hg]
      · have g1 := (gap_in hb.1).resolve_right (by omega)
        rw [if_neg hg, if_neg hg, wrap_small (by omega) (by omega)]
        unfold strconv_Itoa.f
        rw [if_pos ⟨by omega, by omega⟩, itoa_dec (-gapOf l) (by omega)]
        have := dec_size (-gapOf l).toNat (by omega)
        simp only [Option.bind_some]
        rw [if_pos (by omega)]
    · rw [if_pos (by simp; omega), if_neg (fun x => h3 x.2)]
  · rw [if_neg hb, impl_ProofClose.j0, if_pos rfl, if_neg (fun x => hb x.1)]
/-! ### the reader of draws -/
theorem wrap_id {x : Int} (h0 : -9223372036854775808 ≤ x) (h1 : x ≤ 9223372036854775807) : wrap64 x = x := by unfold wrap64; omega
theorem wf_u8 {l : List Int} (h : ∀ x ∈ l, (Lit.int .u8 x).wf = true) : ∀ x ∈ l, 0 ≤ x ∧ x ≤ 255 := by
  intro x hx
  have := h x hx
  simp [Lit.wf, IntKind.min, IntKind.max, IntKind.bits, IntKind.signed] at this
  omega
theorem rd_u8 {b : List Int} (hb : ∀ x ∈ b, 0 ≤ x ∧ x ≤ 255) (i : Int) (h0 : 0 ≤ i) (h1 : i < b.length) : 0 ≤ rd b i ∧ rd b i ≤ 255 := by
  have hl : i.toNat < b.length := by omega
  have : rd b i = b[i.toNat] := by
    unfold rd
    rw [List.getD_eq_getElem?_getD, List.getElem?_eq_getElem hl]
    rfl
  rw [this]
  exact hb _ (List.getElem_mem hl)
theorem xor_i64 (a b : Nat) (ha : a < 4611686018427387904) (hb : b < 4611686018427387904) : Go.bits .xor .i64 (a : Int) (b : Int) = ((a ^^^ b : Nat) : Int) := by
  have hx : a ^^^ b < 2 ^ 62 := Nat.xor_lt_two_pow (by omega) (by omega)
  have h1 : (BitVec.ofInt 64 (a : Int)).toNat = a := by
    rw [BitVec.ofInt_natCast, BitVec.toNat_ofNat]; exact Nat.mod_eq_of_lt (by omega)
  have h2 : (BitVec.ofInt 64 (b : Int)).toNat = b := by
    rw [BitVec.ofInt_natCast, BitVec.toNat_ofNat]; exact Nat.mod_eq_of_lt (by omega)
  show IntKind.i64.wrap ((BitVec.ofInt 64 (a : Int) ^^^ BitVec.ofInt 64 (b : Int)).toNat : Int) = _
  rw [BitVec.toNat_xor, h1, h2]
  generalize a ^^^ b = c at hx
  simp [IntKind.wrap, IntKind.bits, IntKind.signed]
  omega
theorem tmod_in {x n : Int} (hx : 0 ≤ x) (hn : 1 ≤ n) : 0 ≤ Int.tmod x n ∧ Int.tmod x n < n := by
  rw [Int.tmod_eq_emod_of_nonneg hx]
  exact ⟨Int.emod_nonneg _ (by omega), Int.emod_lt_of_pos _ (by omega)⟩
theorem tdiv_in {x n : Int} (hx : 0 ≤ x) (hn : 1 ≤ n) : 0 ≤ Int.tdiv x n ∧ Int.tdiv x n ≤ x := by
  rw [Int.tdiv_eq_ediv_of_nonneg hx]
  exact ⟨Int.ediv_nonneg hx (by omega), Int.ediv_le_self _ hx⟩
theorem pick_tells (b : List Int) (hb : ∀ x ∈ b, 0 ≤ x ∧ x ≤ 255) (hl : b.length ≤ 2000) (p n : Int) (hp : 0 ≤ p) (hp2 : p ≤ 1000000) (hn : 1 ≤ n) (hn2 : n ≤ 1000000) (k : Nat) (hk : 1 ≤ k) :
    ∃ r, spec_l6Rd_pick.f k b p n = some (r, p + 1) ∧ 0 ≤ r ∧ r < n := by
  obtain ⟨m, rfl⟩ : ∃ m, k = m + 1 := ⟨k - 1, by omega⟩
  unfold spec_l6Rd_pick.f
  have e0 : wrap64 (p + 1) = p + 1 := wrap_id (by omega) (by omega)
  have e1 : wrap64 (p + 1 - 1) = p := by rw [show p + 1 - 1 = p by omega]; exact wrap_id (by omega) (by omega)
  rw [if_neg (by omega), spec_l6Rd_pick.j0, e0, e1]
  by_cases hz : b.length = 0
  · rw [if_pos (by simp [hz])]
    exact ⟨0, rfl, by omega, by omega⟩
  · have hz2 : ((b.length : Int) == 0) = false := by rw [beq_eq_false_iff_ne]; omega
    rw [hz2, if_neg (by decide)]
    by_cases h : p < b.length
    · rw [if_pos h, if_pos hp, if_neg (by omega)]
      have hr := rd_u8 hb p hp h
      rw [wrap_id (x := rd b p) (by omega) (by omega)]
      exact ⟨_, rfl, tmod_in hr.1 hn⟩
    · rw [if_neg h, if_neg (by omega)]
      have hlen : (1 : Int) ≤ b.length := by omega
      have q1 := tmod_in hp hlen
      have e7 : wrap64 (p * 7) = p * 7 := wrap_id (by omega) (by omega)
      have e8 : wrap64 (p * 7 + 3) = p * 7 + 3 := wrap_id (by omega) (by omega)
      rw [e7, e8]
      have q2 := tmod_in (show (0 : Int) ≤ p * 7 + 3 by omega) hlen
      rw [if_pos q1.1, if_pos q1.2, if_pos q2.1, if_pos q2.2, if_neg (by omega)]
      have r1 := rd_u8 hb _ q1.1 q1.2
      have r2 := rd_u8 hb _ q2.1 q2.2
      have q3 := tdiv_in hp hlen
      generalize rd b (Int.tmod p b.length) = x1 at r1
      generalize rd b (Int.tmod (p * 7 + 3) b.length) = x2 at r2
      generalize Int.tdiv p b.length = x3 at q3
      rw [wrap_id (x := x1) (by omega) (by omega), wrap_id (x := x2) (by omega) (by omega), wrap_id (x := x3) (by omega) (by omega), wrap_id (x := x1 * 131) (by omega) (by omega), wrap_id (x := x2 * 1117) (by omega) (by omega),
        wrap_id (x := x1 * 131 + x2 * 1117) (by omega) (by omega), wrap_id (x := p * 29) (by omega) (by omega), wrap_id (x := x1 * 131 + x2 * 1117 + p * 29) (by omega) (by omega), wrap_id (x := x3 * 53) (by omega) (by omega),
        wrap_id (x := x1 * 131 + x2 * 1117 + p * 29 + x3 * 53) (by omega) (by omega)]
      obtain ⟨X, hX⟩ : ∃ X : Nat, x1 * 131 + x2 * 1117 + p * 29 + x3 * 53 = X := ⟨(x1 * 131 + x2 * 1117 + p * 29 + x3 * 53).toNat, by omega⟩
      rw [hX]
      have hXb : X < 1000000000 := by omega
      have q4 := tdiv_in (show (0 : Int) ≤ (X : Int) by omega) (show (1 : Int) ≤ 64 by omega)
      rw [wrap_id (x := Int.tdiv X 64) (by omega) (by omega)]
      obtain ⟨Y, hY⟩ : ∃ Y : Nat, Int.tdiv X 64 = Y := ⟨(Int.tdiv X 64).toNat, by omega⟩
      rw [hY, xor_i64 X Y (by omega) (by omega)]
      exact ⟨_, rfl, tmod_in (by omega) hn⟩
/-- The bytes that the reader takes. -/
theorem open_tells (l : List Int) (h : ∀ x ∈ l, 0 ≤ x ∧ x ≤ 255) : ∃ b, spec_l6Open.f l = some (b, 0) ∧ b.length ≤ 2000 ∧ ∀ x ∈ b, 0 ≤ x ∧ x ≤ 255 := by
  unfold spec_l6Open.f
  by_cases hl : (l.length : Int) > 2000
  · rw [if_pos hl, if_pos (by omega)]
    exact ⟨_, rfl, by rw [List.length_take]; omega, fun x hx => h x (List.mem_of_mem_take hx)⟩
  · rw [if_neg hl]
    exact ⟨_, rfl, by omega, h⟩
/-! ### spec.l1Sort: the same numbers -/
theorem sort_l1 (a out : List Int) (i : Int) (hl : out.length ≤ 1000) : ∀ (j k : Nat), j ≤ out.length → j + 1 ≤ k → ∃ j' : Nat, spec_l1Sort.l1 k a out i (j : Int) = some (j' : Int) ∧ j' ≤ j := by
  intro j
  induction j with
  | zero =>
    intro k h1 h2
    obtain ⟨m, rfl⟩ : ∃ m, k = m + 1 := ⟨k - 1, by omega⟩
    rw [spec_l1Sort.l1, if_neg (by omega)]
    exact ⟨0, rfl, Nat.le_refl _⟩
  | succ j ih =>
    intro k h1 h2
    obtain ⟨m, rfl⟩ : ∃ m, k = m + 1 := ⟨k - 1, by omega⟩
    rw [spec_l1Sort.l1, if_pos (by omega), show wrap64 (((j + 1 : Nat) : Int) - 1) = (j : Int) by unfold wrap64; omega, if_pos (by omega), if_pos (by omega)]
    split
    · obtain ⟨j', h3, h4⟩ := ih m (by omega) (by omega)
      exact ⟨j', h3, by omega⟩
    · exact ⟨j + 1, rfl, Nat.le_refl _⟩
theorem take_grow (a : List Int) (i : Nat) (h : i < a.length) : a.take (i + 1) = a.take i ++ [rd a (i : Int)] := by
  rw [List.take_succ_eq_append_getElem h]
  congr 2
  unfold rd
  rw [List.getD_eq_getElem?_getD, Int.toNat_natCast, List.getElem?_eq_getElem h]
  rfl
theorem sort_l0 (a : List Int) (hl : a.length ≤ 900) : ∀ (d k i : Nat) (out : List Int), i + d = a.length → out.length = i → a.length + d + 2 ≤ k → out.Perm (a.take i) → ∃ r, spec_l1Sort.l0 k a out (i : Int) = some r ∧ r.Perm a := by
  intro d
  induction d with
  | zero =>
    intro k i out h1 h2 h3 h4
    obtain ⟨m, rfl⟩ : ∃ m, k = m + 1 := ⟨k - 1, by omega⟩
    rw [spec_l1Sort.l0, if_neg (by omega)]
    exact ⟨out, rfl, by rw [List.take_of_length_le (by omega)] at h4; exact h4⟩
  | succ d ih =>
    intro k i out h1 h2 h3 h4
    obtain ⟨m, rfl⟩ : ∃ m, k = m + 1 := ⟨k - 1, by omega⟩
    rw [spec_l1Sort.l0, if_pos (by omega), if_pos (by omega)]
    obtain ⟨j, h5, h6⟩ := sort_l1 a out i (by omega) out.length m (Nat.le_refl _) (by omega)
    rw [h5]
    simp only [Option.bind_some]
    rw [if_pos (by omega), if_pos (by omega), if_pos (by omega), show wrap64 ((i : Int) + 1) = ((i + 1 : Nat) : Int) by unfold wrap64; omega]
    refine ih m (i + 1) _ (by omega) ?_ (by omega) ?_
    · rw [Int.toNat_natCast]
      simp only [List.length_append, List.length_take, List.length_drop, List.length_nil, List.length_cons]
      omega
    · rw [Int.toNat_natCast, List.nil_append, take_grow a i (by omega)]
      refine List.Perm.trans (List.perm_append_right_iff _ |>.mpr List.perm_append_comm) ?_
      rw [List.append_assoc, List.take_append_drop]
      exact List.perm_append_comm.trans (h4.append_right _)
theorem sort_tells (a : List Int) (hl : a.length ≤ 900) (k : Nat) (hk : 2 * a.length + 2 ≤ k) : ∃ r, spec_l1Sort.f k a = some r ∧ r.Perm a := by
  unfold spec_l1Sort.f
  exact sort_l0 a hl a.length k 0 [] (by omega) rfl (by omega) (by simp)
/-! ### a bundle that is drawn -/
theorem length_draw (b : List Int) (hb : ∀ x ∈ b, 0 ≤ x ∧ x ≤ 255) (hl : b.length ≤ 2000) (p : Int) (hp : 0 ≤ p) (hp2 : p ≤ 900000) (k : Nat) (hk : 1 ≤ k) :
    ∃ r q, spec_l91Length.f k b p = some (r, q) ∧ p ≤ q ∧ q ≤ p + 3 := by
  unfold spec_l91Length.f
  obtain ⟨r1, h1, _⟩ := pick_tells b hb hl p 12 hp (by omega) (by omega) (by omega) k hk
  obtain ⟨r2, h2, _⟩ := pick_tells b hb hl (p + 1) 6 (by omega) (by omega) (by omega) (by omega) k hk
  obtain ⟨r3, h3, _⟩ := pick_tells b hb hl (p + 1 + 1) 48 (by omega) (by omega) (by omega) (by omega) k hk
  rw [h1]
  simp only [Option.bind_some]
  rw [h2]
  simp only [Option.bind_some]
  rw [h3]
  simp only [Option.bind_some]
  exact ⟨_, _, rfl, by omega, by omega⟩
theorem sticks_draw_l (b : List Int) (hb : ∀ x ∈ b, 0 ≤ x ∧ x ≤ 255) (hl : b.length ≤ 2000) (n : Nat) (hn9 : n ≤ 9) : ∀ (d k i : Nat) (out : List Int) (p : Int), i + d = n → d + 30 ≤ k → out.length = i → 0 ≤ p → p ≤ 1000 + 3 * i →
    ∃ a q, spec_l91Sticks.l0 k (n : Int) out (i : Int) b p = some (a, q) ∧ a.length ≤ n + 1 ∧ 0 ≤ q ∧ q ≤ 1003 + 3 * n := by
  intro d
  induction d with
  | zero =>
    intro k i out p hi hk ho hp hp2
    obtain ⟨m, rfl⟩ : ∃ m, k = m + 1 := ⟨k - 1, by omega⟩
    rw [spec_l91Sticks.l0, if_neg (by omega)]
    obtain ⟨r, g1, g2⟩ := sort_tells out (by omega) m (by omega)
    have g3 := g2.length_eq
    rw [g1]
    simp only [Option.bind_some]
    obtain ⟨r1, h1, _⟩ := pick_tells b hb hl p 40 hp (by omega) (by omega) (by omega) m (by omega)
    rw [h1]
    simp only [Option.bind_some]
    split
    · rw [if_pos (by omega)]
      exact ⟨_, _, rfl, by rw [List.length_append]; simp; omega, by omega, by omega⟩
    · split
      · rw [if_pos (by simp; omega)]
        exact ⟨_, _, rfl, by rw [List.length_append]; simp; omega, by omega, by omega⟩
      · exact ⟨_, _, rfl, by omega, by omega, by omega⟩
  | succ d ih =>
    intro k i out p hi hk ho hp hp2
    obtain ⟨m, rfl⟩ : ∃ m, k = m + 1 := ⟨k - 1, by omega⟩
    rw [spec_l91Sticks.l0, if_pos (by omega)]
    obtain ⟨r, q, h1, h2, h3⟩ := length_draw b hb hl p hp (by omega) m (by omega)
    rw [h1]
    simp only [Option.bind_some]
    rw [if_pos (by omega), show wrap64 ((i : Int) + 1) = ((i + 1 : Nat) : Int) by unfold wrap64; omega]
    exact ih m (i + 1) _ q (by omega) (by omega) (by rw [List.length_append]; simp; omega) (by omega) (by omega)
theorem bundle_draw (b : List Int) (hb : ∀ x ∈ b, 0 ≤ x ∧ x ≤ 255) (hl : b.length ≤ 2000) (k : Nat) (hk : 60 ≤ k) :
    ∃ a q, spec_l91Bundle.f k b 0 = some (a, q) ∧ a.length ≤ 10 ∧ 0 ≤ q ∧ q ≤ 1100 := by
  unfold spec_l91Bundle.f
  obtain ⟨r, h, g1, g2⟩ := pick_tells b hb hl 0 9 (by omega) (by omega) (by omega) (by omega) k (by omega)
  rw [h]
  simp only [Option.bind_some]
  obtain ⟨n, hn⟩ : ∃ n : Nat, r = n := ⟨r.toNat, by omega⟩
  subst hn
  unfold spec_l91Sticks.f
  rw [show wrap64 (1 + (n : Int)) = ((n + 1 : Nat) : Int) by unfold wrap64; omega]
  obtain ⟨a, q, h1, h2, h3, h4⟩ := sticks_draw_l b hb hl (n + 1) (by omega) (n + 1) k 0 [] (0 + 1) (by omega) (by omega) rfl (by omega) (by omega)
  have h1 : spec_l91Sticks.l0 k ((n + 1 : Nat) : Int) [] 0 b (0 + 1) = some (a, q) := h1
  rw [h1]
  exact ⟨a, q, rfl, by omega, h3, by omega⟩
theorem bundle_one (l : List Int) (hl : l.length ≤ 1048576) (hb : ∀ x ∈ l, 0 ≤ x ∧ x ≤ 255) (k : Nat) (hk : 60 ≤ k) : ∃ a, spec_l91One.f k l = some a ∧ a.length ≤ 10 := by
  unfold spec_l91One.f
  obtain ⟨b, h1, h2, h3⟩ := open_tells l hb
  rw [h1]
  simp only [Option.bind_some]
  obtain ⟨a, q, h4, h5, _⟩ := bundle_draw b h3 h2 k hk
  rw [h4]
  exact ⟨a, rfl, h5⟩
/-! ### a text, cut at a byte -/
def pieces (c : UInt8) : List UInt8 → List (List UInt8)
  | [] => [[]]
  | b :: r => if b = c then [] :: pieces c r else (match pieces c r with
    | [] => [[b]]
    | q :: qs => (b :: q) :: qs)
theorem pieces_ne (c : UInt8) : ∀ s, pieces c s ≠ []
  | [] => by simp [pieces]
  | b :: r => by
    unfold pieces
    split
    · simp
    · split <;> simp
theorem pieces_sep (c : UInt8) (r : List UInt8) : pieces c (c :: r) = [] :: pieces c r := by
  rw [pieces, if_pos rfl]
theorem pieces_head {b c : UInt8} (r : List UInt8) (hb : b ≠ c) : ∃ q qs, pieces c r = q :: qs ∧ pieces c (b :: r) = (b :: q) :: qs := by
  cases h : pieces c r with
  | nil => exact absurd h (pieces_ne c r)
  | cons q qs => exact ⟨q, qs, rfl, by rw [pieces, if_neg hb, h]⟩
theorem splitc_head {b c : UInt8} (hb : b ≠ c) (r : List UInt8) : ∀ k, ∃ q qs, Lib.splitK [c] 0 k r = q :: qs ∧ Lib.splitK [c] 0 k (b :: r) = (b :: q) :: qs
  | 0 => ⟨r, [], rfl, rfl⟩
  | k + 1 => by
    have hi : Lib.index (b :: r) [c] = if Lib.index r [c] == -1 then -1 else Lib.index r [c] + 1 := by
      rw [Lib.index, if_neg (by simp [List.isPrefixOf]; exact fun h => hb h.symm)]
    unfold Lib.splitK
    by_cases h : Lib.index r [c] = -1
    · rw [hi, h]
      exact ⟨r, [], by simp, by simp⟩
    · have hge : -1 ≤ Lib.index r [c] := by
        rw [Lib.index_one]
        exact Lib.indexByte_ge _ _
      obtain ⟨i, e⟩ : ∃ i : Nat, Lib.index r [c] = (i : Int) := ⟨(Lib.index r [c]).toNat, by omega⟩
      have h1 : (Lib.index r [c] == -1) = false := beq_eq_false_iff_ne.mpr h
      have h2 : (Lib.index (b :: r) [c] == -1) = false := by
        rw [hi, h1, e]
        exact beq_eq_false_iff_ne.mpr (by simp; omega)
      have h3 : Lib.index (b :: r) [c] = ((i + 1 : Nat) : Int) := by rw [hi, h1, e]; simp
      rw [h1, h2, h3, e]
      refine ⟨_, _, rfl, ?_⟩
      simp only [Int.toNat_natCast, Nat.add_zero]
      rfl
theorem split_pieces (c : UInt8) : ∀ s : List UInt8, Lib.splitK [c] 0 (s.count c) s = pieces c s
  | [] => rfl
  | b :: r => by
    by_cases hb : b = c
    · subst hb
      rw [pieces_sep, ← split_pieces b r, List.count_cons_self]
      have h0 : Lib.index (b :: r) [b] = 0 := by rw [Lib.index, if_pos (by simp [List.isPrefixOf])]
      conv => lhs; unfold Lib.splitK
      rw [h0]
      rfl
    · rw [List.count_cons_of_ne hb]
      obtain ⟨q, qs, h1, h2⟩ := splitc_head hb r (r.count c)
      obtain ⟨q', qs', h3, h4⟩ := pieces_head r hb
      rw [split_pieces c r, h3] at h1
      injection h1 with e1 e2
      rw [h2, h4, e1, e2]
theorem pieces_app (c : UInt8) : ∀ (x : List UInt8), (∀ b ∈ x, b ≠ c) → ∀ t, pieces c (x ++ c :: t) = x :: pieces c t
  | [], _, t => pieces_sep c t
  | b :: x, h, t => by
    obtain ⟨q, qs, h1, h2⟩ := pieces_head (x ++ c :: t) (h b (List.mem_cons_self ..))
    rw [pieces_app c x (fun d hd => h d (List.mem_cons_of_mem _ hd)) t] at h1
    injection h1 with e1 e2
    rw [List.cons_append, h2, e1, e2]
theorem pieces_one (c : UInt8) : ∀ (x : List UInt8), (∀ b ∈ x, b ≠ c) → pieces c x = [x]
  | [], _ => rfl
  | b :: x, h => by
    obtain ⟨q, qs, h1, h2⟩ := pieces_head x (h b (List.mem_cons_self ..))
    rw [pieces_one c x (fun d hd => h d (List.mem_cons_of_mem _ hd))] at h1
    injection h1 with e1 e2
    rw [h2, ← e1, ← e2]
theorem pieces_len (c : UInt8) : ∀ s : List UInt8, (pieces c s).length ≤ s.length + 1
  | [] => by simp [pieces]
  | b :: r => by
    have ih := pieces_len c r
    by_cases hb : b = c
    · subst hb
      rw [pieces_sep, List.length_cons, List.length_cons]
      omega
    · obtain ⟨q, qs, h1, h2⟩ := pieces_head r hb
      rw [h2]
      rw [h1] at ih
      simp only [List.length_cons] at ih ⊢
      omega
theorem pieces_small (c : UInt8) : ∀ s : List UInt8, ∀ p ∈ pieces c s, p.length ≤ s.length
  | [], p, hp => by
    obtain rfl : p = [] := by simpa [pieces] using hp
    simp
  | b :: r, p, hp => by
    by_cases hb : b = c
    · subst hb
      rw [pieces_sep] at hp
      rcases List.mem_cons.mp hp with rfl | hp
      · simp
      · have := pieces_small b r p hp
        rw [List.length_cons]
        omega
    · obtain ⟨q, qs, h1, h2⟩ := pieces_head r hb
      rw [h2] at hp
      rcases List.mem_cons.mp hp with rfl | hp
      · have := pieces_small c r q (by rw [h1]; exact List.mem_cons_self)
        simp only [List.length_cons]
        omega
      · have := pieces_small c r p (by rw [h1]; exact List.mem_cons_of_mem _ hp)
        rw [List.length_cons]
        omega
def bytes (l : List UInt8) : ByteArray := ⟨l.toArray⟩
theorem bytes_back (s : ByteArray) : bytes s.data.toList = s := by
  cases s
  rfl
theorem bytes_size (l : List UInt8) : (bytes l).size = l.length := by
  show l.toArray.size = l.length
  simp
theorem back_size (s : ByteArray) : s.data.toList.length = s.size := Array.length_toList
theorem bytes_app (a b : List UInt8) : bytes a ++ bytes b = bytes (a ++ b) := by
  rw [← bytes_back (bytes a ++ bytes b), ByteArray.data_append, Array.toList_append]
  rfl
theorem split_bytes (c : UInt8) (s : ByteArray) (hs : s.size ≤ 1048577) : strings_Split.f s (⟨#[c]⟩ : ByteArray) = some ((pieces c s.data.toList).map bytes) := by
  unfold strings_Split.f
  rw [if_pos ⟨rfl, by omega⟩]
  congr 1
  have h : (Lib.splitB ⟨#[c]⟩ 0 (Lib.countB s ⟨#[c]⟩) s).map (·.data.toList) = pieces c s.data.toList := by
    rw [Lib.splitB_data]
    show Lib.splitK [c] 0 (Lib.count s.data.toList [c]) s.data.toList = _
    rw [Lib.count_one]
    exact split_pieces c _
  rw [← h, List.map_map]
  conv => lhs; rw [← List.map_id (Lib.splitB ⟨#[c]⟩ 0 (Lib.countB s ⟨#[c]⟩) s)]
  apply List.map_congr_left
  intro p _
  exact (bytes_back p).symm
theorem bytes_inj {a b : ByteArray} (h : a.data.toList = b.data.toList) : a = b := by rw [← bytes_back a, ← bytes_back b, h]
/-! ### a line's first word -/
theorem indexB_here (c : UInt8) (r : List UInt8) : Lib.indexByte (c :: r) c = 0 := by
  unfold Lib.indexByte
  rw [if_pos (beq_self_eq_true c)]
theorem indexB_pre (c : UInt8) (r : List UInt8) : ∀ x : List UInt8, (∀ b ∈ x, b ≠ c) → Lib.indexByte (x ++ c :: r) c = (x.length : Int)
  | [], _ => indexB_here c r
  | b :: x, h => by
    have ih := indexB_pre c r x (fun d hd => h d (List.mem_cons_of_mem _ hd))
    rw [List.cons_append]
    unfold Lib.indexByte
    rw [if_neg (by rw [beq_iff_eq]; exact h b (List.mem_cons_self ..)), ih, if_neg (by rw [beq_iff_eq]; omega), List.length_cons]
    omega
theorem indexB_none (c : UInt8) : ∀ x : List UInt8, (∀ b ∈ x, b ≠ c) → Lib.indexByte x c = -1
  | [], _ => rfl
  | b :: x, h => by
    unfold Lib.indexByte
    rw [if_neg (by rw [beq_iff_eq]; exact h b (List.mem_cons_self ..)), indexB_none c x (fun d hd => h d (List.mem_cons_of_mem _ hd))]
    rfl
theorem cut_word (x r : List UInt8) (h : ∀ b ∈ x, b ≠ 32) : strings_Cut.f (bytes (x ++ 32 :: r)) = (bytes x, bytes r, true) := by
  have hd : (bytes (x ++ 32 :: r)).data.toList = x ++ 32 :: r := by simp [bytes]
  unfold strings_Cut.f
  rw [hd, indexB_pre 32 r x h, if_pos (by omega), Int.toNat_natCast]
  have e1 : (bytes (x ++ 32 :: r)).extract 0 x.length = bytes x := by
    rw [← bytes_back ((bytes (x ++ 32 :: r)).extract 0 x.length), Lib.extract_data, hd]
    simp
  have e2 : (bytes (x ++ 32 :: r)).extract (x.length + 1) (bytes (x ++ 32 :: r)).size = bytes r := by
    rw [← bytes_back ((bytes (x ++ 32 :: r)).extract (x.length + 1) _), Lib.extract_data, hd, bytes_size]
    congr 1
    rw [List.drop_append, List.drop_eq_nil_of_le (by omega), show x.length + 1 - x.length = 1 by omega]
    simp only [List.length_append, List.length_cons, List.drop_succ_cons, List.drop_zero, List.nil_append]
    exact List.take_of_length_le (by omega)
  rw [e1, e2]
theorem cut_bare (x : List UInt8) (h : ∀ b ∈ x, b ≠ 32) : strings_Cut.f (bytes x) = (bytes x, ⟨#[]⟩, false) := by
  have hd : (bytes x).data.toList = x := by simp [bytes]
  unfold strings_Cut.f
  rw [hd, indexB_none 32 x h, if_neg (by omega)]
/-! ### numbers with just one space between, read -/
def digs : Nat → List UInt8 → Option Nat
  | n, [] => some n
  | n, c :: r => if 48 ≤ c.toNat ∧ c.toNat ≤ 57 then digs (n * 10 + (c.toNat - 48)) r else none
def tokNum (p : List UInt8) : Option Int := if 1 ≤ p.length ∧ p.length ≤ 3 then (digs 0 p).map Int.ofNat else none
def nums : List (List UInt8) → Option (List Int)
  | [] => some []
  | p :: r => (tokNum p).bind fun n => (nums r).bind fun ns => some (n :: ns)
def numsOf (s : List UInt8) : Option (List Int) := nums (pieces 32 s)
theorem dropb_at {s : ByteArray} {i : Nat} (h : i < s.size) : ∃ b : UInt8, s.data.toList.drop i = b :: s.data.toList.drop (i + 1) ∧ bt s (i : Int) = (b.toNat : Int) := by
  have hl : i < s.data.toList.length := by rw [back_size]; exact h
  refine ⟨s.data.toList[i], List.drop_eq_getElem_cons hl, ?_⟩
  unfold bt
  rw [dif_pos (by simpa using h)]
  rfl
theorem dropb_end {s : ByteArray} {i : Nat} (h : s.size ≤ i) : s.data.toList.drop i = [] := List.drop_eq_nil_of_le (by rw [back_size]; exact h)
theorem wrap_succN {n : Nat} (h : n ≤ 1000000000) : wrap64 ((n : Int) + 1) = ((n + 1 : Nat) : Int) := by unfold wrap64; omega
theorem readnum_l (ps : List ByteArray) (L j : Int) (acc : List Int) (hacc : acc.length ≤ 1000000) (p : ByteArray) (hp : p.size ≤ 3) : ∀ (d m i n : Nat), i + d = p.size → n < 10 ^ i →
    impl_readNumbers.l1 (m + d + 1) acc p (n : Int) ps L j (p.size : Int) (i : Int) = (match digs n (p.data.toList.drop i) with
      | none => some ([], false)
      | some v => impl_readNumbers.l0 m (acc ++ [(v : Int)]) ps L (wrap64 (j + 1))) := by
  intro d
  induction d with
  | zero =>
    intro m i n hi hn
    rw [dropb_end (by omega), Nat.add_zero, impl_readNumbers.l1, if_neg (by omega), if_pos (by omega)]
    rfl
  | succ d ih =>
    intro m i n hi hn
    obtain ⟨c, e1, e2⟩ := dropb_at (s := p) (i := i) (by omega)
    have hc := c.toNat_lt
    have hn2 : n < 1000 := by
      have : 10 ^ i ≤ 10 ^ 3 := Nat.pow_le_pow_right (by omega) (by omega)
      omega
    rw [show m + (d + 1) + 1 = (m + d + 1) + 1 by omega, impl_readNumbers.l1, if_pos (by omega), if_pos (by omega), if_pos (by omega), e2, e1, digs]
    by_cases h1 : c.toNat < 48
    · rw [if_pos (by omega), if_neg (by omega)]
    · rw [if_neg (by omega)]
      by_cases h2 : 57 < c.toNat
      · rw [if_pos (by omega), if_neg (by omega)]
      · have hw : wrap64 (wrap64 ((n : Int) * 10) + ((c.toNat : Int) - 48) % 256) = ((n * 10 + (c.toNat - 48) : Nat) : Int) := by
          have e3 : wrap64 ((n : Int) * 10) = (n : Int) * 10 := by unfold wrap64; omega
          have e4 : ((c.toNat : Int) - 48) % 256 = (c.toNat : Int) - 48 := by omega
          rw [e3, e4]
          unfold wrap64
          omega
        rw [if_neg (by omega), if_pos (by omega), hw, wrap_succN (by omega)]
        have hpow : n * 10 + (c.toNat - 48) < 10 ^ (i + 1) := by
          rw [Nat.pow_succ]
          omega
        exact ih m (i + 1) _ (by omega) hpow
theorem readnums_l (ps : List ByteArray) (hl : ps.length ≤ 1000000) : ∀ (d k j : Nat) (acc : List Int), j + d = ps.length → acc.length = j → 6 * d + 1 ≤ k →
    impl_readNumbers.l0 k acc ps (ps.length : Int) (j : Int) = some (match nums ((ps.drop j).map (·.data.toList)) with
      | some ys => (acc ++ ys, true)
      | none => ([], false)) := by
  intro d
  induction d with
  | zero =>
    intro k j acc hj ha hk
    obtain ⟨m, rfl⟩ : ∃ m, k = m + 1 := ⟨k - 1, by omega⟩
    rw [impl_readNumbers.l0, if_neg (by omega), List.drop_eq_nil_of_le (by omega)]
    simp [nums]
  | succ d ih =>
    intro k j acc hj ha hk
    obtain ⟨m, rfl⟩ : ∃ m, k = m + 1 + 1 := ⟨k - 2, by omega⟩
    have hjl : j < ps.length := by omega
    have hr : rdOf ByteArray.empty ps (j : Int) = ps[j] := by simp [rdOf, hjl]
    have hsz := back_size ps[j]
    rw [impl_readNumbers.l0, if_pos (by omega), if_pos (by omega), if_pos (by omega), hr, List.drop_eq_getElem_cons hjl, List.map_cons, nums]
    unfold tokNum
    by_cases h1 : ps[j].size < 1
    · rw [if_pos (by omega), impl_readNumbers.j1, if_pos rfl, if_neg (by omega)]
      rfl
    · rw [if_neg (by omega), impl_readNumbers.j1]
      by_cases h3 : ps[j].size > 3
      · rw [if_pos (by simpa using (by omega : ((ps[j].size : Int) > 3))), if_neg (by omega)]
        rfl
      · rw [if_neg (by simpa using (by omega : ¬ ((ps[j].size : Int) > 3))), if_pos (by omega)]
        have g := readnum_l ps (ps.length : Int) (j : Int) acc (by omega) ps[j] (by omega) ps[j].size (m - ps[j].size - 1) 0 0 (by omega) (by simp)
        rw [show m - ps[j].size - 1 + ps[j].size + 1 = m by omega] at g
        rw [show ((0 : Nat) : Int) = 0 from rfl] at g
        rw [g, List.drop_zero]
        cases hd : digs 0 ps[j].data.toList with
        | none => rfl
        | some v =>
          dsimp only
          rw [wrap_succN (by omega), ih _ (j + 1) (acc ++ [(v : Int)]) (by omega) (by simp [ha]) (by omega)]
          simp only [Option.map_some, Option.bind_some]
          cases nums ((ps.drop (j + 1)).map (·.data.toList)) with
          | none => rfl
          | some ys => simp
theorem readnums_tells (s : List UInt8) (hs : s.length ≤ 100000) (k : Nat) (hk : 6 * s.length + 8 ≤ k) : impl_readNumbers.f k (bytes s) = some (match numsOf s with
    | some ys => (ys, true)
    | none => ([], false)) := by
  have hd : (bytes s).data.toList = s := by simp [bytes]
  have hpl := pieces_len 32 s
  unfold impl_readNumbers.f
  rw [split_bytes 32 _ (by rw [bytes_size]; omega), hd, Option.bind_some]
  have h := readnums_l ((pieces 32 s).map bytes) (by rw [List.length_map]; omega) (pieces 32 s).length k 0 [] (by rw [List.length_map]; omega) rfl (by omega)
  rw [show ((0 : Nat) : Int) = 0 from rfl] at h
  rw [h, List.drop_zero, List.map_map]
  have e : (pieces 32 s).map ((·.data.toList) ∘ bytes) = pieces 32 s := by
    conv => rhs; rw [← List.map_id (pieces 32 s)]
    apply List.map_congr_left
    intro p _
    simp [bytes]
  rw [e]
  rfl
/-! ### what is said of a list is read again -/
theorem pieces_join (c : UInt8) : ∀ (r : List (List UInt8)) (x : List UInt8), (∀ q ∈ x :: r, ∀ b ∈ q, b ≠ c) → pieces c (Lib.join (x :: r) [c]) = x :: r
  | [], x, h => by
    rw [Lib.join_one]
    exact pieces_one c x (h x (List.mem_cons_self ..))
  | y :: r, x, h => by
    have e : Lib.join (x :: y :: r) [c] = x ++ c :: Lib.join (y :: r) [c] := by
      rw [Lib.join_cons, Lib.join_cons]
      unfold Lib.joinTail
      rw [List.map_cons, List.flatten_cons, List.append_assoc]
      rfl
    rw [e, pieces_app c x (h x (List.mem_cons_self ..)), pieces_join c r y (fun q hq => h q (List.mem_cons_of_mem _ hq))]
def sayAll (xs : List Int) : List UInt8 := Lib.join (xs.map Lib.itoa) [32]
theorem itoa_61 : ∀ n : Nat, n < 61 → tokNum (Lib.itoa (n : Int)) = some (n : Int) ∧ (∀ b ∈ Lib.itoa (n : Int), b ≠ 32 ∧ b ≠ 10) ∧ (Lib.itoa (n : Int)).length ≤ 2 := by decide +kernel
theorem itoa_60 {n : Int} (h : 1 ≤ n ∧ n ≤ 60) : tokNum (Lib.itoa n) = some n ∧ (∀ b ∈ Lib.itoa n, b ≠ 32 ∧ b ≠ 10) ∧ (Lib.itoa n).length ≤ 2 := by
  have := itoa_61 n.toNat (by omega)
  rw [Int.toNat_of_nonneg (by omega)] at this
  exact this
theorem nums_itoa : ∀ (xs : List Int), (∀ x ∈ xs, 1 ≤ x ∧ x ≤ 60) → nums (xs.map Lib.itoa) = some xs
  | [], _ => rfl
  | x :: xs, h => by
    rw [List.map_cons, nums, (itoa_60 (h x (List.mem_cons_self ..))).1, Option.bind_some, nums_itoa xs (fun y hy => h y (List.mem_cons_of_mem _ hy)), Option.bind_some]
theorem nums_said {xs : List Int} (h0 : xs ≠ []) (h : ∀ x ∈ xs, 1 ≤ x ∧ x ≤ 60) : numsOf (sayAll xs) = some xs := by
  unfold numsOf sayAll
  cases xs with
  | nil => exact absurd rfl h0
  | cons x r =>
    rw [List.map_cons, pieces_join, ← List.map_cons]
    · exact nums_itoa _ h
    · intro q hq b hb
      rw [← List.map_cons, List.mem_map] at hq
      obtain ⟨m, hm, rfl⟩ := hq
      exact ((itoa_60 (h m hm)).2.1 b hb).1
theorem join_mem {b : UInt8} : ∀ (r : List (List UInt8)), b ∈ Lib.join r [32] → b = 32 ∨ ∃ q ∈ r, b ∈ q
  | [], h => by simp [Lib.join] at h
  | x :: r, h => by
    rw [Lib.join_cons] at h
    rcases List.mem_append.mp h with h | h
    · exact .inr ⟨x, List.mem_cons_self, h⟩
    · unfold Lib.joinTail at h
      rw [List.mem_flatten] at h
      obtain ⟨q, hq, hb⟩ := h
      obtain ⟨y, hy, rfl⟩ := List.mem_map.mp hq
      rcases List.mem_append.mp hb with hb | hb
      · exact .inl (by simpa using hb)
      · exact .inr ⟨y, List.mem_cons_of_mem _ hy, hb⟩
theorem said_no10 {xs : List Int} (h : ∀ x ∈ xs, 1 ≤ x ∧ x ≤ 60) : ∀ b ∈ sayAll xs, b ≠ 10 := by
  intro b hb
  rcases join_mem _ hb with rfl | ⟨q, hq, hbq⟩
  · decide
  · obtain ⟨m, hm, rfl⟩ := List.mem_map.mp hq
    exact ((itoa_60 (h m hm)).2.1 b hbq).2
theorem join_len (B : Nat) : ∀ (r : List (List UInt8)), (∀ q ∈ r, q.length ≤ B) → (Lib.join r [32]).length ≤ (B + 1) * r.length
  | [], _ => by simp [Lib.join]
  | x :: r, h => by
    rw [Lib.join_cons, List.length_append]
    have h1 := h x List.mem_cons_self
    have h2 : ∀ r : List (List UInt8), (∀ q ∈ r, q.length ≤ B) → (Lib.joinTail [32] r).length ≤ (B + 1) * r.length := by
      intro r
      induction r with
      | nil => intro _; simp [Lib.joinTail]
      | cons z r ih =>
        intro h
        have g1 := h z List.mem_cons_self
        have g2 := ih (fun y hy => h y (List.mem_cons_of_mem _ hy))
        unfold Lib.joinTail at g2 ⊢
        rw [List.map_cons, List.flatten_cons, List.length_append, List.length_append]
        simp only [List.length_cons, List.length_nil, Nat.mul_add, Nat.mul_one]
        omega
    have h3 := h2 r (fun q hq => h q (List.mem_cons_of_mem _ hq))
    rw [List.length_cons, Nat.mul_add]
    omega
theorem said_size {xs : List Int} (h : ∀ x ∈ xs, 1 ≤ x ∧ x ≤ 60) : (sayAll xs).length ≤ 3 * xs.length := by
  have := join_len 2 (xs.map Lib.itoa) (fun q hq => by
    obtain ⟨m, hm, rfl⟩ := List.mem_map.mp hq
    exact (itoa_60 (h m hm)).2.2)
  rw [List.length_map] at this
  exact this
/-! ### a list is said -/
theorem itoa_f (n : Int) (h : -1000 ≤ n ∧ n ≤ 1000) : strconv_Itoa.f n = some (bytes (Lib.itoa n)) := by
  unfold strconv_Itoa.f
  rw [if_pos ⟨by omega, by omega⟩]
  rfl
theorem digits_1000 : ∀ n : Nat, n < 1000 → laws_digits.f 4 (n : Int) = some (bytes (Lib.itoa (n : Int))) ∧ (Lib.itoa (n : Int)).length ≤ 3 := by decide +kernel
theorem digits_tells {n : Int} (h : 0 ≤ n ∧ n ≤ 999) (k : Nat) (hk : 4 ≤ k) : laws_digits.f k n = some (bytes (Lib.itoa n)) ∧ (Lib.itoa n).length ≤ 3 := by
  have := digits_1000 n.toNat (by omega)
  rw [Int.toNat_of_nonneg (by omega)] at this
  exact ⟨at_rounds (laws_digits.mono n) hk this.1, this.2⟩
theorem sayAll_snoc (xs : List Int) (n : Int) (h : xs ≠ []) : sayAll (xs ++ [n]) = sayAll xs ++ 32 :: Lib.itoa n := by
  match xs, h with
  | x :: r, _ =>
    unfold sayAll
    rw [List.cons_append, List.map_cons, List.map_cons, Lib.join_cons, Lib.join_cons, List.map_append]
    unfold Lib.joinTail
    rw [List.map_append, List.flatten_append]
    simp [List.append_assoc]
theorem sayAll_one (n : Int) : sayAll [n] = Lib.itoa n := by
  unfold sayAll
  rw [List.map_cons, List.map_nil, Lib.join_one]
theorem sayAll_len {xs : List Int} (h : ∀ x ∈ xs, 0 ≤ x ∧ x ≤ 999) : (sayAll xs).length ≤ 4 * xs.length := by
  have := join_len 3 (xs.map Lib.itoa) (fun q hq => by
    obtain ⟨m, hm, rfl⟩ := List.mem_map.mp hq
    exact (digits_tells (h m hm) 4 (by omega)).2)
  rw [List.length_map] at this
  exact this
theorem spaced_l (xs : List Int) (hl : xs.length ≤ 100000) (hx : ∀ y ∈ xs, 0 ≤ y ∧ y ≤ 999) : ∀ (d k i : Nat) (s : List UInt8), i + d = xs.length → d + 5 ≤ k → s.length ≤ 4 * i → s = sayAll (xs.take i) →
    laws_spaced.l0 k xs (bytes s) (i : Int) = some (bytes (sayAll xs)) := by
  intro d
  induction d with
  | zero =>
    intro k i s hi hk hs he
    obtain ⟨m, rfl⟩ : ∃ m, k = m + 1 := ⟨k - 1, by omega⟩
    rw [laws_spaced.l0, if_neg (by omega), he, List.take_of_length_le (by omega)]
  | succ d ih =>
    intro k i s hi hk hs he
    obtain ⟨m, rfl⟩ : ∃ m, k = m + 1 := ⟨k - 1, by omega⟩
    have hil : i < xs.length := by omega
    obtain ⟨t1, t3⟩ := digits_tells (hx _ (List.getElem_mem hil)) m (by omega)
    rw [laws_spaced.l0, if_pos (by omega), rd_at hil, wrap_succN (by omega), t1]
    simp only [Option.bind_some]
    have hbs : bytes s ++ (⟨#[32]⟩ : ByteArray) = bytes (s ++ [32]) := bytes_app s [32]
    by_cases h0 : 0 < i
    · have hne : xs.take i ≠ [] := by
        intro h
        have := congrArg List.length h
        rw [List.length_take, List.length_nil] at this
        omega
      rw [if_pos (by omega), if_pos (by rw [bytes_size]; omega), if_pos (by omega), hbs, if_pos (by rw [bytes_size, bytes_size, List.length_append]; simp only [List.length_cons, List.length_nil]; omega), bytes_app]
      refine ih m (i + 1) _ (by omega) (by omega) (by rw [List.length_append, List.length_append]; simp only [List.length_cons, List.length_nil]; omega) ?_
      rw [List.take_succ_eq_append_getElem hil, sayAll_snoc _ _ hne, ← he, List.append_assoc]
      rfl
    · have hi0 : i = 0 := by omega
      subst hi0
      rw [if_neg (by omega), if_pos (by omega), if_pos (by rw [bytes_size, bytes_size]; omega), bytes_app]
      refine ih m (0 + 1) _ (by omega) (by omega) (by rw [List.length_append]; omega) ?_
      have hs0 : s = [] := List.eq_nil_of_length_eq_zero (by omega)
      rw [List.take_succ_eq_append_getElem hil, List.take_zero, List.nil_append, sayAll_one, hs0, List.nil_append]
theorem spaced_tells (xs : List Int) (hl : xs.length ≤ 100000) (hx : ∀ y ∈ xs, 0 ≤ y ∧ y ≤ 999) (k : Nat) (hk : xs.length + 5 ≤ k) : laws_spaced.f k xs = some (bytes (sayAll xs)) := by
  unfold laws_spaced.f
  have h := spaced_l xs hl hx xs.length k 0 [] (by omega) (by omega) (by simp) (by simp [sayAll, Lib.join])
  exact h
/-! ### a script's lines, one behind the other -/
def lineOf (k : Nat) (l : List Int) (p : ByteArray) : Option (ByteArray × List Int) := if (strings_Cut.f p).2.2 = true then impl_withRest.f k l (strings_Cut.f p).1 (strings_Cut.f p).2.1 else impl_withoutRest.f k l (strings_Cut.f p).1
theorem line_rounds {k k' : Nat} (h : k ≤ k') {l : List Int} {p : ByteArray} {x : ByteArray × List Int} (hx : lineOf k l p = some x) : lineOf k' l p = some x := by
  unfold lineOf at hx ⊢
  by_cases c : (strings_Cut.f p).2.2 = true
  · rw [if_pos c] at hx ⊢
    exact at_rounds (fun k => impl_withRest.mono _ _ _ k) h hx
  · rw [if_neg c] at hx ⊢
    exact at_rounds (fun k => impl_withoutRest.mono _ _ k) h hx
def runOf (k : Nat) : List ByteArray → List UInt8 → List Int → Option (List UInt8 × List Int)
  | [], acc, l => some (acc, l)
  | p :: r, acc, l => (lineOf k l p).bind fun x => if x.1.size ≤ 1700 then runOf k r (acc ++ (x.1 ++ (⟨#[10]⟩ : ByteArray)).data.toList) x.2 else none
theorem run_l0 (K : Nat) (ls : List ByteArray) (h6 : ls.length ≤ 601) (hp : ∀ p ∈ ls, p.size ≤ 600) (res : List UInt8 × List Int) : ∀ (d k i : Nat) (acc : List UInt8) (l : List Int), i + d = ls.length → K + d + 1 ≤ k → acc.length ≤ i * 1701 → runOf K (ls.drop i) acc l = some res →
    impl_Execute.l0 k ls acc l (i : Int) = some res := by
  intro d
  induction d with
  | zero =>
    intro k i acc l hi hk ha hr
    obtain ⟨m, rfl⟩ : ∃ m, k = m + 1 := ⟨k - 1, by omega⟩
    rw [List.drop_eq_nil_of_le (by omega)] at hr
    rw [impl_Execute.l0, if_neg (by omega)]
    exact hr
  | succ d ih =>
    intro k i acc l hi hk ha hr
    obtain ⟨m, rfl⟩ : ∃ m, k = m + 1 := ⟨k - 1, by omega⟩
    have hil : i < ls.length := by omega
    have hrd : rdOf ByteArray.empty ls (i : Int) = ls[i] := by simp [rdOf, hil]
    rw [List.drop_eq_getElem_cons hil, runOf] at hr
    obtain ⟨x, h1, h2⟩ := Option.bind_eq_some_iff.mp hr
    have hx := line_rounds (show K ≤ m by omega) h1
    have hpi := hp _ (List.getElem_mem hil)
    split at h2
    · next hs =>
      have hlen : (acc ++ (x.1 ++ (⟨#[10]⟩ : ByteArray)).data.toList).length ≤ (i + 1) * 1701 := by
        have e : (x.1 ++ (⟨#[10]⟩ : ByteArray)).data.toList.length = x.1.size + 1 := by
          rw [back_size]
          exact ByteArray.size_append
        rw [List.length_append, e]
        omega
      have hw : wrap64 ((i : Int) + 1) = ((i + 1 : Nat) : Int) := by unfold wrap64; omega
      have g := ih m (i + 1) _ x.2 (by omega) (by omega) hlen h2
      rw [impl_Execute.l0, if_pos (by omega), if_pos (by omega), hrd, if_pos (by omega), if_pos (by omega), hw]
      unfold lineOf at hx
      by_cases c : (strings_Cut.f ls[i]).2.2 = true
      · rw [if_pos c] at hx ⊢
        rw [hx, Option.bind_some, if_pos (by omega)]
        exact g
      · rw [if_neg c] at hx ⊢
        rw [hx, Option.bind_some, if_pos (by omega)]
        exact g
    · cases h2
theorem itoa_few : ∀ n : Nat, n < 10 → (Lib.itoa (n : Int)) = [(n.toUInt8 + 48)] := by decide +kernel
/-- A script that ends with a newline, at most as long as is told. -/
theorem exec_tells (K : Nat) (s : List UInt8) (h6 : s.length ≤ 600) (acc : List UInt8) (l : List Int) (hl : l.length ≤ 9) (ha : acc.length ≤ 1048576)
    (hr : runOf K (((pieces 10 s).take ((pieces 10 s).length - 1)).map bytes) [] [3, 4, 5] = some (acc, l)) (k : Nat) (hk : K + 602 ≤ k) :
    impl_Execute.f k (bytes s) = some (bytes (acc ++ [115, 116, 105, 99, 107, 115, 32, l.length.toUInt8 + 48, 10])) := by
  have hd : (bytes s).data.toList = s := by simp [bytes]
  have hpl := pieces_len 10 s
  have hpn : 1 ≤ (pieces 10 s).length := by
    have := pieces_ne 10 s
    cases h : pieces 10 s with
    | nil => exact absurd h this
    | cons => simp
  unfold impl_Execute.f
  rw [if_neg (by rw [bytes_size]; omega), split_bytes 10 _ (by rw [bytes_size]; omega), hd, Option.bind_some, List.length_map, if_pos (by omega), ← List.map_take]
  have hlen : (((pieces 10 s).take ((pieces 10 s).length - 1)).map bytes).length ≤ 600 := by
    rw [List.length_map, List.length_take]
    omega
  have h0 := run_l0 K _ (by omega) (by
    intro p hp
    obtain ⟨q, hq, rfl⟩ := List.mem_map.mp hp
    rw [bytes_size]
    have := pieces_small 10 s q (List.mem_of_mem_take hq)
    omega) _ _ k 0 [] [3, 4, 5] (Nat.zero_add _) (by omega) (by simp) hr
  rw [Int.ofNat_zero] at h0 
  rw [h0, Option.bind_some, if_pos ha]
  dsimp only
  unfold strconv_Itoa.f
  rw [if_pos ⟨by omega, by omega⟩, Option.bind_some, itoa_few l.length (by omega), if_pos (by show (1 : Nat) ≤ 100; decide)]
  rfl
/-! ### a ruler is set, and something is asked -/
theorem set_tells (K : Nat) (a : List Int) (hr : isRuler a) (hK : 200 ≤ K) : impl_withRest.f_set K [3, 4, 5] (bytes (sayAll a)) = some (⟨#[111, 107]⟩, a) := by
  have h9 := hr.2
  have hs := said_size hr.1
  unfold impl_withRest.f_set
  rw [readnums_tells _ (by omega) K (by omega), nums_said (by intro h; rw [h] at h9; simp at h9) hr.1]
  simp only [Option.bind_some]
  rw [if_pos trivial, if_pos (by omega), impl_ruler a (by omega) K (by omega), Option.bind_some, if_pos (by simpa using hr)]
theorem ask_tells (K : Nat) (a : List Int) (hr : isRuler a) (hK : 200 ≤ K) (W : List UInt8) (hW : ∀ b ∈ W, b ≠ 10) (hW2 : ∀ b ∈ W, b ≠ 32) (hWl : W.length ≤ 20) (out : ByteArray) (ho : out.size ≤ 1700)
    (hset : impl_withRest.f K [3, 4, 5] (bytes [115, 101, 116]) (bytes (sayAll a)) = some (⟨#[111, 107]⟩, a)) (hq : impl_withoutRest.f K a (bytes W) = some (out, a)) :
    impl_Execute.f (K + 602) (((⟨#[115, 101, 116, 32]⟩ : ByteArray) ++ bytes (sayAll a)) ++ bytes (10 :: (W ++ [10]))) = some ((((⟨#[111, 107, 10]⟩ : ByteArray) ++ out) ++ (⟨#[10, 115, 116, 105, 99, 107, 115, 32]⟩ : ByteArray)) ++ bytes (Lib.itoa (a.length : Int)) ++ (⟨#[10]⟩ : ByteArray)) := by
  have h9 := hr.2
  have hs := said_size hr.1
  have hn := said_no10 hr.1
  obtain ⟨S, hS⟩ : ∃ S, S = sayAll a := ⟨_, rfl⟩
  rw [← hS] at hs hn hset ⊢
  have hc1 : strings_Cut.f (bytes ([115, 101, 116] ++ 32 :: S)) = (bytes [115, 101, 116], bytes S, true) := cut_word [115, 101, 116] S (by decide)
  have hc2 : strings_Cut.f (bytes W) = (bytes W, ⟨#[]⟩, false) := cut_bare W hW2
  have e : ((⟨#[115, 101, 116, 32]⟩ : ByteArray) ++ bytes S) ++ bytes (10 :: (W ++ [10])) = bytes (([115, 101, 116] ++ 32 :: S) ++ 10 :: (W ++ [10])) := by
    rw [← bytes_app ([115, 101, 116] ++ 32 :: S), show (⟨#[115, 101, 116, 32]⟩ : ByteArray) = bytes [115, 101, 116, 32] from rfl, bytes_app]
    rfl
  have h5 : ∀ b ∈ ([115, 101, 116] : List UInt8), b ≠ 10 := by decide
  have hb : ∀ b ∈ ([115, 101, 116] ++ 32 :: S : List UInt8), b ≠ 10 := by
    intro b hb
    rcases List.mem_append.mp hb with hb | hb
    · exact h5 b hb
    · rcases List.mem_cons.mp hb with rfl | hb
      · decide
      · exact hn b hb
  have hz : ([115, 101, 116] ++ 32 :: S : List UInt8).length = 4 + S.length := by
    rw [List.length_append]
    simp only [List.length_cons, List.length_nil]
    omega
  obtain ⟨y, hy⟩ : ∃ y, y = ([115, 101, 116] ++ 32 :: S : List UInt8) := ⟨_, rfl⟩
  rw [← hy] at hc1 e hb hz
  clear hy
  have hp : pieces 10 (y ++ 10 :: (W ++ [10])) = [y, W, []] := by
    rw [pieces_app 10 _ hb, pieces_app 10 W hW]
    rfl
  have hl1 : lineOf K [3, 4, 5] (bytes y) = some (⟨#[111, 107]⟩, a) := by
    unfold lineOf
    rw [hc1, if_pos rfl]
    exact hset
  have hl2 : lineOf K a (bytes W) = some (out, a) := by
    unfold lineOf
    rw [hc2, if_neg (by simp)]
    exact hq
  have hz2 : (y ++ 10 :: (W ++ [10]) : List UInt8).length ≤ 600 := by
    rw [List.length_append, hz]
    simp only [List.length_cons, List.length_append, List.length_nil]
    omega
  have hrun : runOf K (((pieces 10 (y ++ 10 :: (W ++ [10]))).take ((pieces 10 (y ++ 10 :: (W ++ [10]))).length - 1)).map bytes) [] [3, 4, 5] = some ((([] ++ ((⟨#[111, 107]⟩ : ByteArray) ++ (⟨#[10]⟩ : ByteArray)).data.toList) ++ (out ++ (⟨#[10]⟩ : ByteArray)).data.toList), a) := by
    rw [hp]
    show runOf K [bytes y, bytes W] [] [3, 4, 5] = _
    rw [runOf, hl1, Option.bind_some, if_pos (by show (2 : Nat) ≤ 1700; decide), runOf, hl2, Option.bind_some, if_pos ho, runOf]
  have hos : (out ++ (⟨#[10]⟩ : ByteArray)).data.toList.length = out.size + 1 := by
    rw [back_size]
    exact ByteArray.size_append
  have hks : ((⟨#[111, 107]⟩ : ByteArray) ++ (⟨#[10]⟩ : ByteArray)).data.toList = [111, 107, 10] := rfl
  rw [hks, List.nil_append] at hrun
  rw [e, exec_tells K _ hz2 _ a (by omega) (by rw [List.length_append, hos]; simp only [List.length_cons, List.length_nil]; omega) hrun (K + 602) (by omega), itoa_few a.length (by omega)]
  congr 1
  apply bytes_inj
  simp only [ByteArray.data_append, Array.toList_append, List.append_assoc, bytes]
  simp
theorem closeText_yes {l : List Int} (h : (closeText l).2 = true) : isBundle l ∧ 3 ≤ l.length := by
  unfold closeText at h
  by_cases hb : isBundle l ∧ 3 ≤ l.length
  · exact hb
  · rw [if_neg hb] at h
    exact absurd h (by simp)
theorem FnExecuteProof : laws_FnExecuteProof.Pure := by
  intro l h1 h2 h3
  obtain ⟨K, hK⟩ : ∃ K, K = l.length + 2000 := ⟨_, rfl⟩
  refine ⟨K + 603, ?_⟩
  unfold laws_FnExecuteProof.f
  by_cases hl : (l.length : Int) > 1048576
  · rw [if_pos hl]
  · rw [if_neg hl]
    have hl : l.length ≤ 1048576 := by omega
    obtain ⟨a, g1, g2⟩ := bundle_one l hl (wf_u8 h3) (K + 603) (by omega)
    unfold spec_DrawProofClose.f
    rw [g1]
    simp only [Option.bind_some]
    rw [sclose_tells a (by omega) _ (by omega), iclose_tells a (by omega) _ (by omega)]
    simp only [Option.bind_some]
    rw [if_neg (by simp), if_pos trivial, laws_FnExecuteProof.j0]
    by_cases hc : (closeText a).2 = true
    · obtain ⟨hb, h3⟩ := closeText_yes hc
      have hr := hb.1
      have h9 := hr.2
      have hx : ∀ y ∈ a, 0 ≤ y ∧ y ≤ 999 := fun y hy => by have := hr.1 y hy; omega
      have hsz := said_size hr.1
      have hos : (closeText a).1.size ≤ 7 := by
        unfold closeText
        rw [if_pos ⟨hb, h3⟩]
        by_cases hg : gapOf a > 0
        · rw [if_pos hg]
          decide
        · rw [if_neg hg]
          have g1 := (gap_in hr).resolve_right (by omega)
          have := dec_size (-gapOf a).toNat (by omega)
          show ((⟨#[111, 112, 101, 110, 32]⟩ : ByteArray) ++ (⟨(Lib.decDigits (-gapOf a).toNat).toArray⟩ : ByteArray)).size ≤ 7
          rw [ByteArray.size_append, show (⟨#[111, 112, 101, 110, 32]⟩ : ByteArray).size = 5 from rfl]
          omega
      have hq : impl_withoutRest.f K a (bytes [112, 114, 111, 111, 102]) = some ((closeText a).1, a) := by
        unfold impl_withoutRest.f
        rw [if_pos (show bytes [112, 114, 111, 111, 102] = (⟨#[112, 114, 111, 111, 102]⟩ : ByteArray) from rfl)]
        unfold impl_withoutRest.f_proof
        rw [iclose_tells a (by omega) K (by omega)]
        simp only [Option.bind_some]
        unfold impl_written.f
        rw [if_pos hc]
        rfl
      have hset : impl_withRest.f K [3, 4, 5] (bytes [115, 101, 116]) (bytes (sayAll a)) = some (⟨#[111, 107]⟩, a) := by
        unfold impl_withRest.f
        rw [if_pos (show bytes [115, 101, 116] = (⟨#[115, 101, 116]⟩ : ByteArray) from rfl)]
        exact set_tells K a hr (by omega)
      have hx1 : impl_Execute.f (K + 602) (((⟨#[115, 101, 116, 32]⟩ : ByteArray) ++ bytes (sayAll a)) ++ (⟨#[10, 112, 114, 111, 111, 102, 10]⟩ : ByteArray)) = _ := ask_tells K a hr (by omega) [112, 114, 111, 111, 102] (by decide) (by decide) (by decide) _ (by omega) hset hq
      obtain ⟨d1, d2⟩ := digits_tells (n := (a.length : Int)) (by omega) (K + 602) (by omega)
      have z1 : ((⟨#[115, 101, 116, 32]⟩ : ByteArray) ++ bytes (sayAll a)).size = 4 + (sayAll a).length := by
        rw [ByteArray.size_append, bytes_size]
        rfl
      have z2 : ((⟨#[111, 107, 10]⟩ : ByteArray) ++ (closeText a).1).size = 3 + (closeText a).1.size := ByteArray.size_append
      have z3 : (((⟨#[111, 107, 10]⟩ : ByteArray) ++ (closeText a).1) ++ (⟨#[10, 115, 116, 105, 99, 107, 115, 32]⟩ : ByteArray)).size = 3 + (closeText a).1.size + 8 := by rw [ByteArray.size_append, z2]; rfl
      have z4 : ((((⟨#[111, 107, 10]⟩ : ByteArray) ++ (closeText a).1) ++ (⟨#[10, 115, 116, 105, 99, 107, 115, 32]⟩ : ByteArray)) ++ bytes (Lib.itoa (a.length : Int))).size = 3 + (closeText a).1.size + 8 + (Lib.itoa (a.length : Int)).length := by rw [ByteArray.size_append, z3, bytes_size]
      rw [if_neg (by simp [hc]), spaced_tells a (by omega) hx (K + 602) (by omega)]
      simp only [Option.bind_some]
      rw [if_pos (by rw [bytes_size]; omega), if_pos (by omega), hx1]
      simp only [Option.bind_some]
      rw [if_pos (by omega), if_pos (by omega), d1]
      simp only [Option.bind_some]
      rw [if_pos (by rw [bytes_size]; omega), if_pos (by omega)]
      exact congrArg some (beq_self_eq_true _)
    · have hc : (closeText a).2 = false := by simpa using hc
      rw [if_pos (by simp [hc]), if_pos (by simp)]
      exact congrArg some (beq_self_eq_true _)

end Go.Proofs.YtcmpkabpmmmhoaaGreatDoor.Pure
