/- The law FnCloseIs, as a statement over plain numbers and lists, is proved: what the program's functions compute is what the reference's compute. -/
import Derived.Test.YtciaehggpcaapaaDoorPFnCloseIsx5
import Derived.Laws.Entries
namespace Go.Proofs.YtciaehggpcaapaaDoor.Pure
open Go.RowKit Go.Proofs.YtciaehggpcaapaaDoor.PFnCloseIs Go.Proofs.YtciaehggpcaapaaDoorW.PrintWords Go.Proofs.YtciaehggpcaapaaDoorW.PrintLast
set_option linter.unusedVariables false
set_option linter.unusedSimpArgs false
/-! ### lists of whole numbers -/
theorem wrap_nat {n : Nat} (h : n < 4611686018427387904) : wrap64 ((n : Int) + 1) = ((n + 1 : Nat) : Int) := by unfold wrap64; omega
theorem rd_at {l : List Int} {i : Nat} (h : i < l.length) : rd l (i : Int) = l[i] := by
  unfold rd
  rw [Int.toNat_natCast, List.getD_eq_getElem?_getD, List.getElem?_eq_getElem h]
  rfl
theorem and_one (a : Nat) (ha : a < 4611686018427387904) : Go.bits .and .i64 (a : Int) 1 = ((a % 2 : Nat) : Int) := by
  have h1 : (BitVec.ofInt 64 (a : Int)).toNat = a := by
    rw [BitVec.ofInt_natCast, BitVec.toNat_ofNat]; exact Nat.mod_eq_of_lt (by omega)
  have h2 : (BitVec.ofInt 64 (1 : Int)).toNat = 1 := by decide
  show IntKind.i64.wrap ((BitVec.ofInt 64 (a : Int) &&& BitVec.ofInt 64 (1 : Int)).toNat : Int) = _
  rw [BitVec.toNat_and, h1, h2, Nat.and_one_is_mod]
  have : a % 2 < 2 := Nat.mod_lt _ (by omega)
  generalize a % 2 = c at this
  simp [IntKind.wrap, IntKind.bits, IntKind.signed]
  omega
theorem ite_same {α : Type} {p q : Prop} [Decidable p] [Decidable q] (h : p ↔ q) {a b : α} : (if p then a else b) = if q then a else b := by
  by_cases hq : q
  · rw [if_pos (h.mpr hq), if_pos hq]
  · rw [if_neg (fun x => hq (h.mp x)), if_neg hq]
/-! ### rulers -/
def isRuler (l : List Int) : Prop := (∀ x ∈ l, 1 ≤ x ∧ x ≤ 60) ∧ 1 ≤ l.length ∧ l.length ≤ 9
instance (l : List Int) : Decidable (isRuler l) := by unfold isRuler; infer_instance
theorem spec_in (a b c : Int) : spec_l6In.f a b c = some (decide (b ≤ a ∧ a ≤ c)) := by
  unfold spec_l6In.f
  by_cases h : a ≥ b
  · rw [if_pos h]
    congr 1
    exact decide_eq_decide.mpr ⟨fun x => ⟨h, x⟩, fun x => x.2⟩
  · rw [if_neg h, decide_eq_false (fun x => h x.1)]
theorem impl_ruler_l (l : List Int) (hl : l.length ≤ 1048576) : ∀ (d k i : Nat), i + d = l.length → d + 1 ≤ k →
    impl_isRuler.l0 k l l (l.length : Int) (i : Int) = some (decide ((∀ x ∈ l.drop i, 1 ≤ x ∧ x ≤ 60) ∧ 1 ≤ l.length ∧ l.length ≤ 9)) := by
  intro d
  induction d with
  | zero =>
    intro k i hi hk
    obtain ⟨m, rfl⟩ : ∃ m, k = m + 1 := ⟨k - 1, by omega⟩
    rw [impl_isRuler.l0, if_neg (by omega), List.drop_eq_nil_of_le (by omega)]
    simp only [List.not_mem_nil, false_implies, implies_true, true_and]
    split
    · congr 1
      exact decide_eq_decide.mpr ⟨fun x => by omega, fun x => by omega⟩
    · rw [decide_eq_false (by omega)]
  | succ d ih =>
    intro k i hi hk
    obtain ⟨m, rfl⟩ : ∃ m, k = m + 1 := ⟨k - 1, by omega⟩
    have hil : i < l.length := by omega
    rw [impl_isRuler.l0, if_pos (by omega), if_pos (by omega), if_pos (by omega), rd_at hil, wrap_nat (by omega), ih m (i + 1) (by omega) (by omega), List.drop_eq_getElem_cons hil]
    simp only [List.mem_cons, forall_eq_or_imp]
    split
    · next h => rw [decide_eq_false (fun x => by omega)]
    · next h =>
      split
      · next h => rw [decide_eq_false (fun x => by omega)]
      · next h1 => congr 1; exact decide_eq_decide.mpr ⟨fun x => ⟨⟨⟨by omega, by omega⟩, x.1⟩, x.2⟩, fun x => ⟨x.1.2, x.2⟩⟩
theorem impl_ruler (l : List Int) (hl : l.length ≤ 1048576) (k : Nat) (hk : l.length + 1 ≤ k) : impl_isRuler.f k l = some (decide (isRuler l)) :=
  impl_ruler_l l hl l.length k 0 (by omega) (by omega)
/-! ### bundles -/
def asc (l : List Int) : Prop := ∀ j : Nat, j < l.length → 0 < j → rd l ((j - 1 : Nat) : Int) ≤ rd l (j : Int)
instance (l : List Int) : Decidable (asc l) := by unfold asc; infer_instance
def isBundle (l : List Int) : Prop := isRuler l ∧ asc l
instance (l : List Int) : Decidable (isBundle l) := by unfold isBundle; infer_instance
theorem all_rd (l : List Int) (p : Int → Prop) : (∀ x ∈ l, p x) ↔ ∀ j : Nat, j < l.length → p (rd l (j : Int)) := by
  constructor
  · intro h j hj
    rw [rd_at hj]
    exact h _ (List.getElem_mem hj)
  · intro h x hx
    obtain ⟨j, hj, rfl⟩ := List.mem_iff_getElem.mp hx
    rw [← rd_at hj]
    exact h j hj
theorem wrap_pred {n : Nat} (h0 : 0 < n) (h : n < 4611686018427387904) : wrap64 ((n : Int) - 1) = ((n - 1 : Nat) : Int) := by unfold wrap64; omega
def l1Rest (l : List Int) (i : Nat) : Prop := (∀ j : Nat, j < l.length → i ≤ j → (1 ≤ rd l (j : Int) ∧ rd l (j : Int) ≤ 60) ∧ (0 < j → rd l ((j - 1 : Nat) : Int) ≤ rd l (j : Int))) ∧ 1 ≤ l.length ∧ l.length ≤ 9
instance (l : List Int) (i : Nat) : Decidable (l1Rest l i) := by unfold l1Rest; infer_instance
theorem l1Rest_step {l : List Int} {i : Nat} (h : i < l.length) : l1Rest l i ↔ ((1 ≤ rd l (i : Int) ∧ rd l (i : Int) ≤ 60) ∧ (0 < i → rd l ((i - 1 : Nat) : Int) ≤ rd l (i : Int))) ∧ l1Rest l (i + 1) := by
  unfold l1Rest
  constructor
  · rintro ⟨h1, h2⟩
    exact ⟨h1 i h (Nat.le_refl _), fun j hj hij => h1 j hj (by omega), h2⟩
  · rintro ⟨h1, h2, h3⟩
    refine ⟨fun j hj hij => ?_, h3⟩
    rcases Nat.lt_or_ge i j with h' | h'
    · exact h2 j hj h'
    · obtain rfl : i = j := by omega
      exact h1
theorem spec_bundle_l (l : List Int) (hl : l.length ≤ 1048576) : ∀ (d k i : Nat), i + d = l.length → d + 1 ≤ k → spec_l1Bundle.l0 k l (i : Int) = some (decide (l1Rest l i)) := by
  intro d
  induction d with
  | zero =>
    intro k i hi hk
    obtain ⟨m, rfl⟩ : ∃ m, k = m + 1 := ⟨k - 1, by omega⟩
    rw [spec_l1Bundle.l0, if_neg (by omega), spec_in]
    simp only [Option.bind_some]
    congr 1
    exact decide_eq_decide.mpr ⟨fun x => ⟨fun j hj hij => by omega, by omega⟩, fun x => by have := x.2; omega⟩
  | succ d ih =>
    intro k i hi hk
    obtain ⟨m, rfl⟩ : ∃ m, k = m + 1 := ⟨k - 1, by omega⟩
    have hil : i < l.length := by omega
    have st := l1Rest_step hil
    have ih := ih m (i + 1) (by omega) (by omega)
    rw [spec_l1Bundle.l0, if_pos (by omega), if_pos (by omega), spec_in, wrap_nat (by omega), ih]
    simp only [Option.bind_some, decide_eq_true_eq]
    by_cases h1 : 1 ≤ rd l (i : Int) ∧ rd l (i : Int) ≤ 60
    · rw [if_pos h1]
      by_cases h2 : 0 < i
      · rw [if_pos (by omega), wrap_pred h2 (by omega), if_pos (by omega), if_pos (by omega)]
        by_cases h3 : rd l (i : Int) < rd l ((i - 1 : Nat) : Int)
        · rw [if_pos h3, decide_eq_false (fun x => by have := (st.mp x).1.2 h2; omega)]
        · rw [if_neg h3]
          congr 1
          exact decide_eq_decide.mpr ⟨fun x => st.mpr ⟨⟨h1, fun _ => by omega⟩, x⟩, fun x => (st.mp x).2⟩
      · rw [if_neg (by omega)]
        congr 1
        exact decide_eq_decide.mpr ⟨fun x => st.mpr ⟨⟨h1, fun h => absurd h h2⟩, x⟩, fun x => (st.mp x).2⟩
    · rw [if_neg h1, decide_eq_false (fun x => h1 (st.mp x).1.1)]
theorem spec_bundle (l : List Int) (hl : l.length ≤ 1048576) (k : Nat) (hk : l.length + 1 ≤ k) : spec_l1Bundle.f k l = some (decide (isBundle l)) := by
  unfold spec_l1Bundle.f
  have := spec_bundle_l l hl l.length k 0 (by omega) hk
  rw [show ((0 : Nat) : Int) = 0 from rfl] at this
  rw [this]
  congr 1
  refine decide_eq_decide.mpr ?_
  unfold isBundle isRuler asc l1Rest
  rw [all_rd l (fun x => 1 ≤ x ∧ x ≤ 60)]
  exact ⟨fun x => ⟨⟨fun j hj => (x.1 j hj (by omega)).1, x.2⟩, fun j hj h0 => (x.1 j hj (by omega)).2 h0⟩, fun x => ⟨fun j hj _ => ⟨x.1.1 j hj, x.2 j hj⟩, x.1.2⟩⟩
theorem less_tells (a b : Int) : cmp_Less_int.f a b = some (decide (a < b)) := by
  unfold cmp_Less_int.f cmp_isNaN_int.f
  simp
theorem sorted_l (l : List Int) (hl : l.length ≤ 1048576) : ∀ (i k : Nat), i + 1 ≤ k → i < l.length → slices_IsSorted_int_int.l0 k l (i : Int) = some (decide (∀ j : Nat, j < i + 1 → 0 < j → rd l ((j - 1 : Nat) : Int) ≤ rd l (j : Int))) := by
  intro i
  induction i with
  | zero =>
    intro k hk hi
    obtain ⟨m, rfl⟩ : ∃ m, k = m + 1 := ⟨k - 1, by omega⟩
    rw [slices_IsSorted_int_int.l0, if_neg (by omega), decide_eq_true (fun j hj h0 => by omega)]
  | succ i ih =>
    intro k hk hi
    obtain ⟨m, rfl⟩ : ∃ m, k = m + 1 := ⟨k - 1, by omega⟩
    rw [slices_IsSorted_int_int.l0, if_pos (by omega), if_pos (by omega), if_pos (by omega), wrap_pred (by omega) (by omega), if_pos (by omega), if_pos (by omega), less_tells, show i + 1 - 1 = i from rfl, ih m (by omega) (by omega)]
    simp only [Option.bind_some, decide_eq_true_eq]
    by_cases h : rd l ((i + 1 : Nat) : Int) < rd l (i : Int)
    · rw [if_pos h, decide_eq_false (fun x => by have := x (i + 1) (by omega) (by omega); rw [show i + 1 - 1 = i from rfl] at this; omega)]
    · rw [if_neg h]
      congr 1
      refine decide_eq_decide.mpr ⟨fun x j hj h0 => ?_, fun x j hj h0 => x j (by omega) h0⟩
      rcases Nat.lt_or_ge j (i + 1) with h' | h'
      · exact x j h' h0
      · obtain rfl : j = i + 1 := by omega
        rw [show i + 1 - 1 = i from rfl]
        omega
theorem impl_bundle (l : List Int) (hl : l.length ≤ 1048576) (k : Nat) (hk : l.length + 1 ≤ k) : impl_StickIn.f k l = some (decide (isBundle l)) := by
  unfold impl_StickIn.f
  rw [impl_ruler l hl k hk]
  simp only [Option.bind_some, decide_eq_true_eq]
  by_cases h : isRuler l
  · have h1 := h.2.1
    rw [if_pos h]
    unfold slices_IsSorted_int_int.f
    rw [wrap_pred (by omega) (by omega), sorted_l l hl (l.length - 1) k (by omega) (by omega)]
    simp only [Option.bind_some]
    congr 1
    refine decide_eq_decide.mpr ?_
    rw [show l.length - 1 + 1 = l.length by omega]
    exact ⟨fun x => ⟨h, x⟩, fun x => x.2⟩
  · rw [if_neg h, decide_eq_false (fun x => h x.1)]
theorem sum_l (l : List Int) (hl : l.length ≤ 100) (hx : ∀ x ∈ l, 1 ≤ x ∧ x ≤ 60) : ∀ (d k i : Nat) (s : Int), i + d = l.length → d + 1 ≤ k → 0 ≤ s → s ≤ 60 * i →
    impl_sum.l0 k s l (l.length : Int) (i : Int) = some (s + (l.drop i).sum) := by
  intro d
  induction d with
  | zero =>
    intro k i s hi hk h0 h1
    obtain ⟨m, rfl⟩ : ∃ m, k = m + 1 := ⟨k - 1, by omega⟩
    rw [impl_sum.l0, if_neg (by omega), List.drop_eq_nil_of_le (by omega)]
    simp
  | succ d ih =>
    intro k i s hi hk h0 h1
    obtain ⟨m, rfl⟩ : ∃ m, k = m + 1 := ⟨k - 1, by omega⟩
    have hil : i < l.length := by omega
    have hx := hx l[i] (List.getElem_mem hil)
    have w : wrap64 (s + l[i]) = s + l[i] := by unfold wrap64; omega
    rw [impl_sum.l0, if_pos (by omega), if_pos (by omega), if_pos (by omega), rd_at hil, w, wrap_nat (by omega), ih m (i + 1) _ (by omega) (by omega) (by omega) (by omega), List.drop_eq_getElem_cons hil, List.sum_cons]
    congr 1
    omega
theorem sum_tells (l : List Int) (hl : l.length ≤ 100) (hx : ∀ x ∈ l, 1 ≤ x ∧ x ≤ 60) (k : Nat) (hk : l.length + 1 ≤ k) : impl_sum.f k l = some l.sum := by
  have := sum_l l hl hx l.length k 0 0 (by omega) hk (by omega) (by omega)
  unfold impl_sum.f
  rw [show ((0 : Nat) : Int) = 0 from rfl] at this
  rw [this]
  simp
theorem ssum_l (l : List Int) (hl : l.length ≤ 100) (hx : ∀ x ∈ l, 1 ≤ x ∧ x ≤ 60) : ∀ (d k i : Nat) (s : Int), i + d = l.length → d + 1 ≤ k → 0 ≤ s → s ≤ 60 * i →
    spec_l1Sum.l0 k l s (i : Int) = some (s + (l.drop i).sum) := by
  intro d
  induction d with
  | zero =>
    intro k i s hi hk h0 h1
    obtain ⟨m, rfl⟩ : ∃ m, k = m + 1 := ⟨k - 1, by omega⟩
    rw [spec_l1Sum.l0, if_neg (by omega), List.drop_eq_nil_of_le (by omega)]
    simp
  | succ d ih =>
    intro k i s hi hk h0 h1
    obtain ⟨m, rfl⟩ : ∃ m, k = m + 1 := ⟨k - 1, by omega⟩
    have hil : i < l.length := by omega
    have hx := hx l[i] (List.getElem_mem hil)
    have w : wrap64 (s + l[i]) = s + l[i] := by unfold wrap64; omega
    rw [spec_l1Sum.l0, if_pos (by omega), if_pos (by omega), rd_at hil, w, wrap_nat (by omega), ih m (i + 1) _ (by omega) (by omega) (by omega) (by omega), List.drop_eq_getElem_cons hil, List.sum_cons]
    congr 1
    omega
theorem ssum_tells (l : List Int) (hl : l.length ≤ 100) (hx : ∀ x ∈ l, 1 ≤ x ∧ x ≤ 60) (k : Nat) (hk : l.length + 1 ≤ k) : spec_l1Sum.f k l = some l.sum := by
  have := ssum_l l hl hx l.length k 0 0 (by omega) hk (by omega) (by omega)
  unfold spec_l1Sum.f
  rw [show ((0 : Nat) : Int) = 0 from rfl] at this
  rw [this]
  simp
/-! ### proofs about closing -/
theorem dec_small : ∀ n : Nat, n < 100 → spec_l6Dec.f 3 (n : Int) = some ⟨(Lib.decDigits n).toArray⟩ := by decide +kernel
theorem dec_tells (n k : Nat) (h : n < 100) (hk : 3 ≤ k) : spec_l6Dec.f k (n : Int) = some ⟨(Lib.decDigits n).toArray⟩ := at_rounds (spec_l6Dec.mono (n : Int)) hk (dec_small n h)
theorem dec_size : ∀ n : Nat, n < 100 → (⟨(Lib.decDigits n).toArray⟩ : ByteArray).size ≤ 2 := by decide +kernel
theorem sum_ge : ∀ (l : List Int), (∀ x ∈ l, 1 ≤ x ∧ x ≤ 60) → ∀ i (h : i < l.length), l[i] + ((l.length : Int) - 1) ≤ l.sum
  | [], _, i, h => by simp at h
  | x :: l, hx, 0, h => by
    have h1 : ∀ l : List Int, (∀ x ∈ l, 1 ≤ x ∧ x ≤ 60) → (l.length : Int) ≤ l.sum := by
      intro l
      induction l with
      | nil => intro _; simp
      | cons y r ih =>
        intro h
        have := ih (fun z hz => h z (List.mem_cons_of_mem _ hz))
        have := h y List.mem_cons_self
        simp only [List.length_cons, List.sum_cons]
        omega
    have := h1 l (fun z hz => hx z (List.mem_cons_of_mem _ hz))
    simp only [List.length_cons, List.sum_cons, List.getElem_cons_zero]
    omega
  | x :: l, hx, i + 1, h => by
    have := sum_ge l (fun z hz => hx z (List.mem_cons_of_mem _ hz)) i (by simpa using h)
    have := hx x List.mem_cons_self
    simp only [List.length_cons, List.sum_cons, List.getElem_cons_succ]
    omega
theorem sum_le : ∀ (l : List Int), (∀ x ∈ l, 1 ≤ x ∧ x ≤ 60) → l.sum ≤ 60 * l.length
  | [], _ => by simp
  | x :: l, hx => by
    have := sum_le l (fun z hz => hx z (List.mem_cons_of_mem _ hz))
    have := hx x List.mem_cons_self
    simp only [List.length_cons, List.sum_cons]
    omega
def gapOf (l : List Int) : Int := l.sum - 2 * rd l ((l.length - 1 : Nat) : Int)
theorem gap_in {l : List Int} (h : isRuler l) : -58 ≤ gapOf l ∨ l.length < 3 := by
  rcases Nat.lt_or_ge l.length 3 with h3 | h3
  · exact .inr h3
  · left
    have hi : l.length - 1 < l.length := by omega
    have h1 := sum_ge l h.1 (l.length - 1) hi
    have h2 := h.1 _ (List.getElem_mem hi)
    unfold gapOf
    rw [rd_at hi]
    omega
theorem gap_le {l : List Int} (h : isRuler l) : -120 ≤ gapOf l ∧ gapOf l ≤ 540 := by
  have hl := h.2
  have hi : l.length - 1 < l.length := by omega
  have h1 := sum_ge l h.1 (l.length - 1) hi
  have h2 := h.1 _ (List.getElem_mem hi)
  have h3 := sum_le l h.1
  unfold gapOf
  rw [rd_at hi]
  omega
theorem wrap_small {x : Int} (h0 : -1000000 ≤ x) (h1 : x ≤ 1000000) : wrap64 x = x := by unfold wrap64; omega
def closeText (l : List Int) : ByteArray × Bool :=
  if isBundle l ∧ 3 ≤ l.length then (if gapOf l > 0 then (⟨#[99, 108, 111, 115, 101, 115]⟩, true) else ((⟨#[111, 112, 101, 110, 32]⟩ : ByteArray) ++ ⟨(Lib.decDigits (-gapOf l).toNat).toArray⟩, true)) else (⟨#[]⟩, false)
theorem sgap_tells (l : List Int) (h : isRuler l) (k : Nat) (hk : l.length + 1 ≤ k) : spec_l3Gap.f k l = some (gapOf l) := by
  have hl := h.2
  have hi : l.length - 1 < l.length := by omega
  have h2 := h.1 _ (List.getElem_mem hi)
  have g := gap_le h
  unfold gapOf at g
  unfold spec_l3Gap.f
  rw [ssum_tells l (by omega) h.1 k hk]
  simp only [Option.bind_some]
  rw [wrap_pred (by omega) (by omega), if_pos (by omega), if_pos (by omega)]
  unfold gapOf
  rw [rd_at hi] at g ⊢
  rw [wrap_small (x := 2 * _) (by omega) (by omega), wrap_small (by omega) (by omega)]
theorem scloses_tells (l : List Int) (h : isRuler l) (h3 : 3 ≤ l.length) (k : Nat) (hk : l.length + 1 ≤ k) : spec_l3Closes.f k l = some (decide (gapOf l > 0)) := by
  unfold spec_l3Closes.f
  rw [if_pos (by omega), sgap_tells l h k hk]
  rfl
theorem sclose_tells (l : List Int) (hl : l.length ≤ 1048576) (k : Nat) (hk : l.length + 10 ≤ k) : spec_ProofClose.f k l = some (closeText l) := by
  unfold spec_ProofClose.f closeText
  rw [spec_bundle l hl k (by omega)]
  simp only [Option.bind_some, decide_eq_true_eq]
  obtain ⟨m, rfl⟩ : ∃ m, k = m + 1 := ⟨k - 1, by omega⟩
  by_cases hb : isBundle l
  · rw [if_pos hb, spec_ProofClose.j0]
    by_cases h3 : 3 ≤ l.length
    · rw [if_neg (by simp; omega), if_pos ⟨hb, h3⟩, scloses_tells l hb.1 h3 m (by omega), sgap_tells l hb.1 m (by omega)]
      simp only [Option.bind_some, decide_eq_true_eq]
      by_cases hg : gapOf l > 0
      · rw [if_pos hg, if_pos hg]
      · have g1 := (gap_in hb.1).resolve_right (by omega)
        rw [if_neg hg, if_neg hg, wrap_small (by omega) (by omega)]
        have := dec_tells (-gapOf l).toNat m (by omega) (by omega)
        rw [Int.toNat_of_nonneg (by omega)] at this
        rw [this]
        have := dec_size (-gapOf l).toNat (by omega)
        simp only [Option.bind_some]
        rw [if_pos (by omega)]
    · rw [if_pos (by simp; omega), if_neg (fun x => h3 x.2)]
  · rw [if_neg hb, spec_ProofClose.j0, if_pos rfl, if_neg (fun x => hb x.1)]
theorem igap_tells (l : List Int) (h : isRuler l) (k : Nat) (hk : l.length + 1 ≤ k) : impl_gap.f k l = some (gapOf l) := by
  have hl := h.2
  have hi : l.length - 1 < l.length := by omega
  have h2 := h.1 _ (List.getElem_mem hi)
  have g := gap_le h
  unfold gapOf at g
  unfold impl_gap.f
  rw [sum_tells l (by omega) h.1 k hk]
  simp only [Option.bind_some]
  rw [wrap_pred (by omega) (by omega), if_pos (by omega), if_pos (by omega)]
  unfold gapOf
  rw [rd_at hi] at g ⊢
  rw [wrap_small (x := 2 * _) (by omega) (by omega), wrap_small (by omega) (by omega)]
theorem icloses_tells (l : List Int) (h : isRuler l) (h3 : 3 ≤ l.length) (k : Nat) (hk : l.length + 1 ≤ k) : impl_closes.f k l = some (decide (gapOf l > 0)) := by
  unfold impl_closes.f
  rw [if_pos (by omega), igap_tells l h k hk]
  rfl
theorem iclose_tells (l : List Int) (hl : l.length ≤ 1048576) (k : Nat) (hk : l.length + 10 ≤ k) : impl_ProofClose.f k l = some (closeText l) := by
  unfold impl_ProofClose.f closeText
  rw [impl_bundle l hl k (by omega)]
  simp only [Option.bind_some, decide_eq_true_eq]
  obtain ⟨m, rfl⟩ : ∃ m, k = m + 1 := ⟨k - 1, by omega⟩
  by_cases hb : isBundle l
  · rw [if_pos hb, impl_ProofClose.j0]
    by_cases h3 : 3 ≤ l.length
    · rw [if_neg (by simp; omega), if_pos ⟨hb, h3⟩, icloses_tells l hb.1 h3 m (by omega), igap_tells l hb.1 m (by omega)]
      simp only [Option.bind_some, decide_eq_true_eq]
      by_cases hg : gapOf l > 0
      · rw [if_pos hg, if_pos hg]
      · have g1 := (gap_in hb.1).resolve_right (by omega)
        rw [if_neg hg, if_neg hg, wrap_small (by omega) (by omega)]
        unfold strconv_Itoa_22.f
        rw [if_pos ⟨by omega, by omega⟩]
        have := dec_size (-gapOf l).toNat (by omega)
        simp only [Option.bind_some]
        rw [if_pos (by omega)]
    · rw [if_pos (by simp; omega), if_neg (fun x => h3 x.2)]
  · rw [if_neg hb, impl_ProofClose.j0, if_pos rfl, if_neg (fun x => hb x.1)]
def closeIs (l : List Int) (s : ByteArray) : Int × Bool :=
  if (closeText l).2 = true ∧ (closeText l).1.toList = s.toList then (if gapOf l > 0 then (1, true) else (0, true)) else (0, false)
theorem toList_append_data (a b : ByteArray) : (a ++ b).toList = a.toList ++ b.toList := by
  rw [Lib.toList_data, Lib.toList_data, Lib.toList_data, ByteArray.data_append, Array.toList_append]
theorem open_not_closes (b : ByteArray) : ((⟨#[111, 112, 101, 110, 32]⟩ : ByteArray) ++ b).toList ≠ ([99, 108, 111, 115, 101, 115] : List UInt8) := by
  rw [toList_append_data, show (⟨#[111, 112, 101, 110, 32]⟩ : ByteArray).toList = [111, 112, 101, 110, 32] by rw [Lib.toList_data]]
  simp
theorem closes_toList : (⟨#[99, 108, 111, 115, 101, 115]⟩ : ByteArray).toList = ([99, 108, 111, 115, 101, 115] : List UInt8) := by rw [Lib.toList_data]
theorem scloseis_tells (l : List Int) (s : ByteArray) (hl : l.length ≤ 1048576) (k : Nat) (hk : l.length + 20 ≤ k) : spec_ProofCloseIs.f k l s = some (closeIs l s) := by
  unfold spec_ProofCloseIs.f
  rw [sclose_tells l hl k (by omega)]
  simp only [Option.bind_some]
  obtain ⟨m, rfl⟩ : ∃ m, k = m + 1 := ⟨k - 1, by omega⟩
  unfold closeIs
  by_cases h : (closeText l).2 = true
  · rw [if_pos h]
    by_cases h2 : (closeText l).1.toList = s.toList
    · have e : ((closeText l).1.toList != s.toList) = false := by rw [h2]; simp
      rw [e, spec_ProofCloseIs.j0, if_neg (by decide), if_pos (show (closeText l).2 = true ∧ (closeText l).1.toList = s.toList from ⟨h, h2⟩), ← h2]
      unfold closeText at h ⊢
      by_cases hb : isBundle l ∧ 3 ≤ l.length
      · rw [if_pos hb]
        by_cases hg : gapOf l > 0
        · rw [if_pos hg, if_pos hg, if_pos closes_toList]
        · rw [if_neg hg, if_neg hg, if_neg (open_not_closes _)]
      · rw [if_neg hb] at h
        exact absurd h (by decide)
    · have e : ((closeText l).1.toList != s.toList) = true := by simpa using h2
      rw [e, spec_ProofCloseIs.j0, if_pos rfl, if_neg (fun x => h2 x.2)]
  · rw [if_neg h, spec_ProofCloseIs.j0, if_pos rfl, if_neg (fun x => h x.1)]
theorem icloseis_tells (l : List Int) (s : ByteArray) (hl : l.length ≤ 1048576) (k : Nat) (hk : l.length + 20 ≤ k) : impl_ProofCloseIs.f k l s = some (closeIs l s) := by
  unfold impl_ProofCloseIs.f
  rw [iclose_tells l hl k (by omega)]
  simp only [Option.bind_some]
  obtain ⟨m, rfl⟩ : ∃ m, k = m + 1 := ⟨k - 1, by omega⟩
  unfold closeIs
  by_cases h : (closeText l).2 = true
  · have hb : isBundle l ∧ 3 ≤ l.length := by
      unfold closeText at h
      by_cases hb : isBundle l ∧ 3 ≤ l.length
      · exact hb
      · rw [if_neg hb] at h
        exact absurd h (by decide)
    rw [if_pos h]
    by_cases h2 : (closeText l).1.toList = s.toList
    · have e : (s.toList != (closeText l).1.toList) = false := by rw [h2]; simp
      rw [e, impl_ProofCloseIs.j0, if_neg (by decide), if_pos ⟨h, h2⟩, icloses_tells l hb.1.1 hb.2 m (by omega)]
      simp only [Option.bind_some, decide_eq_true_eq]
      by_cases hg : gapOf l > 0
      · rw [if_pos hg, if_pos hg]
      · rw [if_neg hg, if_neg hg]
    · have e : (s.toList != (closeText l).1.toList) = true := by
        rw [bne_iff_ne]
        exact fun x => h2 x.symm
      rw [e, impl_ProofCloseIs.j0, if_pos rfl, if_neg (fun x => h2 x.2)]
  · rw [if_neg h, impl_ProofCloseIs.j0, if_pos rfl, if_neg (fun x => h x.1)]
/-! ### the reader of draws -/
theorem wrap_id {x : Int} (h0 : -9223372036854775808 ≤ x) (h1 : x ≤ 9223372036854775807) : wrap64 x = x := by unfold wrap64; omega
theorem wf_u8 {l : List Int} (h : ∀ x ∈ l, (Lit.int .u8 x).wf = true) : ∀ x ∈ l, 0 ≤ x ∧ x ≤ 255 := by
  intro x hx
  have := h x hx
  simp [Lit.wf, IntKind.min, IntKind.max, IntKind.bits, IntKind.signed] at this
  omega
theorem rd_u8 {b : List Int} (hb : ∀ x ∈ b, 0 ≤ x ∧ x ≤ 255) (i : Int) (h0 : 0 ≤ i) (h1 : i < b.length) : 0 ≤ rd b i ∧ rd b i ≤ 255 := by
  have hl : i.toNat < b.length := by omega
  have : rd b i = b[i.toNat] := by
    unfold rd
    rw [List.getD_eq_getElem?_getD, List.getElem?_eq_getElem hl]
    rfl
  rw [this]
  exact hb _ (List.getElem_mem hl)
theorem xor_i64 (a b : Nat) (ha : a < 4611686018427387904) (hb : b < 4611686018427387904) : Go.bits .xor .i64 (a : Int) (b : Int) = ((a ^^^ b : Nat) : Int) := by
  have hx : a ^^^ b < 2 ^ 62 := Nat.xor_lt_two_pow (by omega) (by omega)
  have h1 : (BitVec.ofInt 64 (a : Int)).toNat = a := by
    rw [BitVec.ofInt_natCast, BitVec.toNat_ofNat]; exact Nat.mod_eq_of_lt (by omega)
  have h2 : (BitVec.ofInt 64 (b : Int)).toNat = b := by
    rw [BitVec.ofInt_natCast, BitVec.toNat_ofNat]; exact Nat.mod_eq_of_lt (by omega)
  show IntKind.i64.wrap ((BitVec.ofInt 64 (a : Int) ^^^ BitVec.ofInt 64 (b : Int)).toNat : Int) = _
  rw [BitVec.toNat_xor, h1, h2]
  generalize a ^^^ b = c at hx
  simp [IntKind.wrap, IntKind.bits, IntKind.signed]
  omega
theorem tmod_in {x n : Int} (hx : 0 ≤ x) (hn : 1 ≤ n) : 0 ≤ Int.tmod x n ∧ Int.tmod x n < n := by
  rw [Int.tmod_eq_emod_of_nonneg hx]
  exact ⟨Int.emod_nonneg _ (by omega), Int.emod_lt_of_pos _ (by omega)⟩
theorem tdiv_in {x n : Int} (hx : 0 ≤ x) (hn : 1 ≤ n) : 0 ≤ Int.tdiv x n ∧ Int.tdiv x n ≤ x := by
  rw [Int.tdiv_eq_ediv_of_nonneg hx]
  exact ⟨Int.ediv_nonneg hx (by omega), Int.ediv_le_self _ hx⟩
theorem pick_tells (b : List Int) (hb : ∀ x ∈ b, 0 ≤ x ∧ x ≤ 255) (hl : b.length ≤ 2000) (p n : Int) (hp : 0 ≤ p) (hp2 : p ≤ 1000000) (hn : 1 ≤ n) (hn2 : n ≤ 1000000) (k : Nat) (hk : 1 ≤ k) :
    ∃ r, spec_l6Rd_pick.f k b p n = some (r, p + 1) ∧ 0 ≤ r ∧ r < n := by
  obtain ⟨m, rfl⟩ : ∃ m, k = m + 1 := ⟨k - 1, by omega⟩
  unfold spec_l6Rd_pick.f
  have e0 : wrap64 (p + 1) = p + 1 := wrap_id (by omega) (by omega)
  have e1 : wrap64 (p + 1 - 1) = p := by rw [show p + 1 - 1 = p by omega]; exact wrap_id (by omega) (by omega)
  rw [if_neg (by omega), spec_l6Rd_pick.j0, e0, e1]
  by_cases hz : b.length = 0
  · rw [if_pos (by simp [hz])]
    exact ⟨0, rfl, by omega, by omega⟩
  · have hz2 : ((b.length : Int) == 0) = false := by rw [beq_eq_false_iff_ne]; omega
    rw [hz2, if_neg (by decide)]
    by_cases h : p < b.length
    · rw [if_pos h, if_pos hp, if_neg (by omega)]
      have hr := rd_u8 hb p hp h
      rw [wrap_id (x := rd b p) (by omega) (by omega)]
      exact ⟨_, rfl, tmod_in hr.1 hn⟩
    · rw [if_neg h, if_neg (by omega)]
      have hlen : (1 : Int) ≤ b.length := by omega
      have q1 := tmod_in hp hlen
      have e7 : wrap64 (p * 7) = p * 7 := wrap_id (by omega) (by omega)
      have e8 : wrap64 (p * 7 + 3) = p * 7 + 3 := wrap_id (by omega) (by omega)
      rw [e7, e8]
      have q2 := tmod_in (show (0 : Int) ≤ p * 7 + 3 by omega) hlen
      rw [if_pos q1.1, if_pos q1.2, if_pos q2.1, if_pos q2.2, if_neg (by omega)]
      have r1 := rd_u8 hb _ q1.1 q1.2
      have r2 := rd_u8 hb _ q2.1 q2.2
      have q3 := tdiv_in hp hlen
      generalize rd b (Int.tmod p b.length) = x1 at r1
      generalize rd b (Int.tmod (p * 7 + 3) b.length) = x2 at r2
      generalize Int.tdiv p b.length = x3 at q3
      rw [wrap_id (x := x1) (by omega) (by omega), wrap_id (x := x2) (by omega) (by omega), wrap_id (x := x3) (by omega) (by omega), wrap_id (x := x1 * 131) (by omega) (by omega), wrap_id (x := x2 * 1117) (by omega) (by omega),
        wrap_id (x := x1 * 131 + x2 * 1117) (by omega) (by omega), wrap_id (x := p * 29) (by omega) (by omega), wrap_id (x := x1 * 131 + x2 * 1117 + p * 29) (by omega) (by omega), wrap_id (x := x3 * 53) (by omega) (by omega),
        wrap_id (x := x1 * 131 + x2 * 1117 + p * 29 + x3 * 53) (by omega) (by omega)]
      obtain ⟨X, hX⟩ : ∃ X : Nat, x1 * 131 + x2 * 1117 + p * 29 + x3 * 53 = X := ⟨(x1 * 131 + x2 * 1117 + p * 29 + x3 * 53).toNat, by omega⟩
      rw [hX]
      have hXb : X < 1000000000 := by omega
      have q4 := tdiv_in (show (0 : Int) ≤ (X : Int) by omega) (show (1 : Int) ≤ 64 by omega)
      rw [wrap_id (x := Int.tdiv X 64) (by omega) (by omega)]
      obtain ⟨Y, hY⟩ : ∃ Y : Nat, Int.tdiv X 64 = Y := ⟨(Int.tdiv X 64).toNat, by omega⟩
      rw [hY, xor_i64 X Y (by omega) (by omega)]
      exact ⟨_, rfl, tmod_in (by omega) hn⟩
/-- The bytes that the reader takes. -/
theorem open_tells (l : List Int) (h : ∀ x ∈ l, 0 ≤ x ∧ x ≤ 255) : ∃ b, spec_l6Open.f l = some (b, 0) ∧ b.length ≤ 2000 ∧ ∀ x ∈ b, 0 ≤ x ∧ x ≤ 255 := by
  unfold spec_l6Open.f
  by_cases hl : (l.length : Int) > 2000
  · rw [if_pos hl, if_pos (by omega)]
    exact ⟨_, rfl, by rw [List.length_take]; omega, fun x hx => h x (List.mem_of_mem_take hx)⟩
  · rw [if_neg hl]
    exact ⟨_, rfl, by omega, h⟩
/-! ### spec.l1Sort: the same numbers -/
theorem sort_l1 (a out : List Int) (i : Int) (hl : out.length ≤ 1000) : ∀ (j k : Nat), j ≤ out.length → j + 1 ≤ k → ∃ j' : Nat, spec_l1Sort.l1 k a out i (j : Int) = some (j' : Int) ∧ j' ≤ j := by
  intro j
  induction j with
  | zero =>
    intro k h1 h2
    obtain ⟨m, rfl⟩ : ∃ m, k = m + 1 := ⟨k - 1, by omega⟩
    rw [spec_l1Sort.l1, if_neg (by omega)]
    exact ⟨0, rfl, Nat.le_refl _⟩
  | succ j ih =>
    intro k h1 h2
    obtain ⟨m, rfl⟩ : ∃ m, k = m + 1 := ⟨k - 1, by omega⟩
    rw [spec_l1Sort.l1, if_pos (by omega), show wrap64 (((j + 1 : Nat) : Int) - 1) = (j : Int) by unfold wrap64; omega, if_pos (by omega), if_pos (by omega)]
    split
    · obtain ⟨j', h3, h4⟩ := ih m (by omega) (by omega)
      exact ⟨j', h3, by omega⟩
    · exact ⟨j + 1, rfl, Nat.le_refl _⟩
theorem take_grow (a : List Int) (i : Nat) (h : i < a.length) : a.take (i + 1) = a.take i ++ [rd a (i : Int)] := by
  rw [List.take_succ_eq_append_getElem h]
  congr 2
  unfold rd
  rw [List.getD_eq_getElem?_getD, Int.toNat_natCast, List.getElem?_eq_getElem h]
  rfl
theorem sort_l0 (a : List Int) (hl : a.length ≤ 900) : ∀ (d k i : Nat) (out : List Int), i + d = a.length → out.length = i → a.length + d + 2 ≤ k → out.Perm (a.take i) → ∃ r, spec_l1Sort.l0 k a out (i : Int) = some r ∧ r.Perm a := by
  intro d
  induction d with
  | zero =>
    intro k i out h1 h2 h3 h4
    obtain ⟨m, rfl⟩ : ∃ m, k = m + 1 := ⟨k - 1, by omega⟩
    rw [spec_l1Sort.l0, if_neg (by omega)]
    exact ⟨out, rfl, by rw [List.take_of_length_le (by omega)] at h4; exact h4⟩
  | succ d ih =>
    intro k i out h1 h2 h3 h4
    obtain ⟨m, rfl⟩ : ∃ m, k = m + 1 := ⟨k - 1, by omega⟩
    rw [spec_l1Sort.l0, if_pos (by omega), if_pos (by omega)]
    obtain ⟨j, h5, h6⟩ := sort_l1 a out i (by omega) out.length m (Nat.le_refl _) (by omega)
    rw [h5]
    simp only [Option.bind_some]
    rw [if_pos (by omega), if_pos (by omega), if_pos (by omega), show wrap64 ((i : Int) + 1) = ((i + 1 : Nat) : Int) by unfold wrap64; omega]
    refine ih m (i + 1) _ (by omega) ?_ (by omega) ?_
    · rw [Int.toNat_natCast]
      simp only [List.length_append, List.length_take, List.length_drop, List.length_nil, List.length_cons]
      omega
    · rw [Int.toNat_natCast, List.nil_append, take_grow a i (by omega)]
      refine List.Perm.trans (List.perm_append_right_iff _ |>.mpr List.perm_append_comm) ?_
      rw [List.append_assoc, List.take_append_drop]
      exact List.perm_append_comm.trans (h4.append_right _)
theorem sort_tells (a : List Int) (hl : a.length ≤ 900) (k : Nat) (hk : 2 * a.length + 2 ≤ k) : ∃ r, spec_l1Sort.f k a = some r ∧ r.Perm a := by
  unfold spec_l1Sort.f
  exact sort_l0 a hl a.length k 0 [] (by omega) rfl (by omega) (by simp)
/-! ### a bundle that is drawn -/
theorem length_draw (b : List Int) (hb : ∀ x ∈ b, 0 ≤ x ∧ x ≤ 255) (hl : b.length ≤ 2000) (p : Int) (hp : 0 ≤ p) (hp2 : p ≤ 900000) (k : Nat) (hk : 1 ≤ k) :
    ∃ r q, spec_l91Length.f k b p = some (r, q) ∧ p ≤ q ∧ q ≤ p + 3 := by
  unfold spec_l91Length.f
  obtain ⟨r1, h1, _⟩ := pick_tells b hb hl p 12 hp (by omega) (by omega) (by omega) k hk
  obtain ⟨r2, h2, _⟩ := pick_tells b hb hl (p + 1) 6 (by omega) (by omega) (by omega) (by omega) k hk
  obtain ⟨r3, h3, _⟩ := pick_tells b hb hl (p + 1 + 1) 48 (by omega) (by omega) (by omega) (by omega) k hk
  rw [h1]
  simp only [Option.bind_some]
  rw [h2]
  simp only [Option.bind_some]
  rw [h3]
  simp only [Option.bind_some]
  exact ⟨_, _, rfl, by omega, by omega⟩
theorem sticks_draw_l (b : List Int) (hb : ∀ x ∈ b, 0 ≤ x ∧ x ≤ 255) (hl : b.length ≤ 2000) (n : Nat) (hn9 : n ≤ 9) : ∀ (d k i : Nat) (out : List Int) (p : Int), i + d = n → d + 30 ≤ k → out.length = i → 0 ≤ p → p ≤ 1000 + 3 * i →
    ∃ a q, spec_l91Sticks.l0 k (n : Int) out (i : Int) b p = some (a, q) ∧ a.length ≤ n + 1 ∧ 0 ≤ q ∧ q ≤ 1003 + 3 * n := by
  intro d
  induction d with
  | zero =>
    intro k i out p hi hk ho hp hp2
    obtain ⟨m, rfl⟩ : ∃ m, k = m + 1 := ⟨k - 1, by omega⟩
    rw [spec_l91Sticks.l0, if_neg (by omega)]
    obtain ⟨r, g1, g2⟩ := sort_tells out (by omega) m (by omega)
    have g3 := g2.length_eq
    rw [g1]
    simp only [Option.bind_some]
    obtain ⟨r1, h1, _⟩ := pick_tells b hb hl p 40 hp (by omega) (by omega) (by omega) m (by omega)
    rw [h1]
    simp only [Option.bind_some]
    split
    · rw [if_pos (by omega)]
      exact ⟨_, _, rfl, by rw [List.length_append]; simp; omega, by omega, by omega⟩
    · split
      · rw [if_pos (by simp; omega)]
        exact ⟨_, _, rfl, by rw [List.length_append]; simp; omega, by omega, by omega⟩
      · exact ⟨_, _, rfl, by omega, by omega, by omega⟩
  | succ d ih =>
    intro k i out p hi hk ho hp hp2
    obtain ⟨m, rfl⟩ : ∃ m, k = m + 1 := ⟨k - 1, by omega⟩
    rw [spec_l91Sticks.l0, if_pos (by omega)]
    obtain ⟨r, q, h1, h2, h3⟩ := length_draw b hb hl p hp (by omega) m (by omega)
    rw [h1]
    simp only [Option.bind_some]
    rw [if_pos (by omega), show wrap64 ((i : Int) + 1) = ((i + 1 : Nat) : Int) by unfold wrap64; omega]
    exact ih m (i + 1) _ q (by omega) (by omega) (by rw [List.length_append]; simp; omega) (by omega) (by omega)
theorem bundle_draw (b : List Int) (hb : ∀ x ∈ b, 0 ≤ x ∧ x ≤ 255) (hl : b.length ≤ 2000) (k : Nat) (hk : 60 ≤ k) :
    ∃ a q, spec_l91Bundle.f k b 0 = some (a, q) ∧ a.length ≤ 10 ∧ 0 ≤ q ∧ q ≤ 1100 := by
  unfold spec_l91Bundle.f
  obtain ⟨r, h, g1, g2⟩ := pick_tells b hb hl 0 9 (by omega) (by omega) (by omega) (by omega) k (by omega)
  rw [h]
  simp only [Option.bind_some]
  obtain ⟨n, hn⟩ : ∃ n : Nat, r = n := ⟨r.toNat, by omega⟩
  subst hn
  unfold spec_l91Sticks.f
  rw [show wrap64 (1 + (n : Int)) = ((n + 1 : Nat) : Int) by unfold wrap64; omega]
  obtain ⟨a, q, h1, h2, h3, h4⟩ := sticks_draw_l b hb hl (n + 1) (by omega) (n + 1) k 0 [] (0 + 1) (by omega) (by omega) rfl (by omega) (by omega)
  have h1 : spec_l91Sticks.l0 k ((n + 1 : Nat) : Int) [] 0 b (0 + 1) = some (a, q) := h1
  rw [h1]
  exact ⟨a, q, rfl, by omega, h3, by omega⟩
theorem bundle_one (l : List Int) (hl : l.length ≤ 1048576) (hb : ∀ x ∈ l, 0 ≤ x ∧ x ≤ 255) (k : Nat) (hk : 60 ≤ k) : ∃ a, spec_l91One.f k l = some a ∧ a.length ≤ 10 := by
  unfold spec_l91One.f
  obtain ⟨b, h1, h2, h3⟩ := open_tells l hb
  rw [h1]
  simp only [Option.bind_some]
  obtain ⟨a, q, h4, h5, _⟩ := bundle_draw b h3 h2 k hk
  rw [h4]
  exact ⟨a, rfl, h5⟩
theorem of_draws (b : List Int) (hb : ∀ x ∈ b, 0 ≤ x ∧ x ≤ 255) (hl : b.length ≤ 2000) (p : Int) (hp : 0 ≤ p) (hp2 : p ≤ 1000000) (l : List ByteArray) (hn : 1 ≤ l.length) (hn2 : l.length ≤ 1000000) (k : Nat) (hk : 1 ≤ k) :
    ∃ s, spec_l6Rd_of.f k b p l = some (s, p + 1) := by
  unfold spec_l6Rd_of.f
  obtain ⟨r, h1, h2, h3⟩ := pick_tells b hb hl p (l.length : Int) hp hp2 (by omega) (by omega) k hk
  rw [h1]
  simp only [Option.bind_some]
  rw [if_pos h2, if_pos h3]
  exact ⟨_, rfl⟩
theorem of_bind (b : List Int) (hb : ∀ x ∈ b, 0 ≤ x ∧ x ≤ 255) (hl : b.length ≤ 2000) (p : Int) (hp : 0 ≤ p) (hp2 : p ≤ 1000000) (l : List ByteArray) (hn : 1 ≤ l.length) (hn2 : l.length ≤ 1000000) (k : Nat) (hk : 1 ≤ k) (a : List Int) :
    ∃ s, ((spec_l6Rd_of.f k b p l).bind fun t => some (a, t.1)) = some (a, s) := by
  obtain ⟨s, hs⟩ := of_draws b hb hl p hp hp2 l hn hn2 k hk
  rw [hs]
  exact ⟨s, rfl⟩
theorem closeText_ok {l : List Int} (h : (closeText l).2 = true) : isBundle l ∧ 3 ≤ l.length := by
  unfold closeText at h
  by_cases hb : isBundle l ∧ 3 ≤ l.length
  · exact hb
  · rw [if_neg hb] at h
    exact absurd h (by simp)
theorem closeIs_ok {l : List Int} {s : ByteArray} (h : (closeIs l s).2 = true) : (closeText l).2 = true ∧ closeIs l s = (if gapOf l > 0 then (1, true) else (0, true)) := by
  unfold closeIs at h ⊢
  by_cases hb : (closeText l).2 = true ∧ (closeText l).1.toList = s.toList
  · rw [if_pos hb]
    exact ⟨hb.1, rfl⟩
  · rw [if_neg hb] at h
    exact absurd h (by simp)
theorem poly_tells (l : List Int) (hl : l.length ≤ 1048576) (k : Nat) (hk : l.length + 1 ≤ k) (h : (closeText l).2 = true) : impl_PolyCloses.f k l = some (decide (gapOf l > 0)) := by
  obtain ⟨hb, h3⟩ := closeText_ok h
  unfold impl_PolyCloses.f
  rw [impl_bundle l hl k hk]
  simp only [Option.bind_some]
  rw [if_pos (by simpa using hb), icloses_tells l hb.1 h3 k hk]
  rfl
theorem closeIs_of (l : List Int) (h : (closeText l).2 = true) : closeIs l (closeText l).1 = (if gapOf l > 0 then (1, true) else (0, true)) := by
  unfold closeIs
  rw [if_pos ⟨h, rfl⟩]
theorem close_draw (l : List Int) (hl : l.length ≤ 1048576) (hb : ∀ x ∈ l, 0 ≤ x ∧ x ≤ 255) (k : Nat) (hk : 60 ≤ k) : ∃ a s, spec_DrawProofCloseIs.f k l = some (a, s) ∧ a.length ≤ 10 := by
  unfold spec_DrawProofCloseIs.f
  obtain ⟨a, g1, g2⟩ := bundle_one l hl hb k hk
  obtain ⟨b, h1, h2, h3⟩ := open_tells l hb
  rw [g1]
  simp only [Option.bind_some]
  rw [sclose_tells a (by omega) k (by omega), h1]
  simp only [Option.bind_some]
  split
  · obtain ⟨r, e1, _⟩ := pick_tells b h3 h2 61 5 (by omega) (by omega) (by omega) (by omega) k (by omega)
    rw [e1]
    simp only [Option.bind_some]
    split
    · exact Exists.elim (of_bind b h3 h2 (61 + 1) (by omega) (by omega) _ (by simp) (by simp) k (by omega) a) fun s hs => ⟨a, s, hs, g2⟩
    · exact ⟨a, _, rfl, g2⟩
  · exact Exists.elim (of_bind b h3 h2 61 (by omega) (by omega) _ (by simp) (by simp) k (by omega) a) fun s hs => ⟨a, s, hs, g2⟩
theorem FnCloseIs : laws_FnCloseIs.Pure := by
  intro l h1 h2 h3
  refine ⟨l.length + 1000, ?_⟩
  unfold laws_FnCloseIs.f
  split
  · rfl
  · next hl =>
    have hl : l.length ≤ 1048576 := by omega
    obtain ⟨a, s, g1, g2⟩ := close_draw l hl (wf_u8 h3) (l.length + 1000) (by omega)
    rw [g1]
    simp only [Option.bind_some]
    rw [scloseis_tells a s (by omega) _ (by omega), icloseis_tells a s (by omega) _ (by omega)]
    simp only [Option.bind_some]
    rw [if_neg (by simp), if_pos trivial]
    by_cases hc : (closeIs a s).2 = true
    · obtain ⟨q1, q2⟩ := closeIs_ok hc
      rw [if_pos hc, poly_tells a (by omega) _ (by omega) q1, q2]
      by_cases hg : gapOf a > 0 <;> simp [hg]
    · rw [if_neg hc, if_pos (by simp)]
      simp

end Go.Proofs.YtciaehggpcaapaaDoor.Pure
