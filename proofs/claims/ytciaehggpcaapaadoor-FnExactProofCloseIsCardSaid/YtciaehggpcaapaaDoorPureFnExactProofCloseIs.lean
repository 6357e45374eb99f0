/- The law FnExactProofCloseIs, as a statement over plain numbers and lists, is proved: what the program's functions compute is what the reference's compute. -/
import Derived.Test.YtciaehggpcaapaaDoorPFnExactProofCloseIsx4
namespace Go.Proofs.YtciaehggpcaapaaDoor.Pure
open Go.RowKit Go.Proofs.YtciaehggpcaapaaDoor.PFnExactProofCloseIs Go.Proofs.YtciaehggpcaapaaDoorW.PrintWords Go.Proofs.YtciaehggpcaapaaDoorW.PrintLast
set_option linter.unusedVariables false
set_option linter.unusedSimpArgs false
/-! ### lists of whole numbers -/
theorem wrap_nat {n : Nat} (h : n < 4611686018427387904) : wrap64 ((n : Int) + 1) = ((n + 1 : Nat) : Int) := by unfold wrap64; omega
theorem rd_at {l : List Int} {i : Nat} (h : i < l.length) : rd l (i : Int) = l[i] := by
  unfold rd
  rw [Int.toNat_natCast, List.getD_eq_getElem?_getD, List.getElem?_eq_getElem h]
  rfl
theorem and_one (a : Nat) (ha : a < 4611686018427387904) : Go.bits .and .i64 (a : Int) 1 = ((a % 2 : Nat) : Int) := by
  have h1 : (BitVec.ofInt 64 (a : Int)).toNat = a := by
    rw [BitVec.ofInt_natCast, BitVec.toNat_ofNat]; exact Nat.mod_eq_of_lt (by omega)
  have h2 : (BitVec.ofInt 64 (1 : Int)).toNat = 1 := by decide
  show IntKind.i64.wrap ((BitVec.ofInt 64 (a : Int) &&& BitVec.ofInt 64 (1 : Int)).toNat : Int) = _
  rw [BitVec.toNat_and, h1, h2, Nat.and_one_is_mod]
  have : a % 2 < 2 := Nat.mod_lt _ (by omega)
  generalize a % 2 = c at this
  simp [IntKind.wrap, IntKind.bits, IntKind.signed]
  omega
theorem ite_same {α : Type} {p q : Prop} [Decidable p] [Decidable q] (h : p ↔ q) {a b : α} : (if p then a else b) = if q then a else b := by
  by_cases hq : q
  · rw [if_pos (h.mpr hq), if_pos hq]
  · rw [if_neg (fun x => hq (h.mp x)), if_neg hq]
theorem toInt_l (l : List Int) (hl : l.length < 4611686018427387904) : ∀ (d k i : Nat), i + d = l.length → d + 1 ≤ k →
    laws_toIntS.l0 k l (l.take i ++ List.replicate d 0) (i : Int) = some l := by
  intro d
  induction d with
  | zero =>
    intro k i hi hk
    obtain ⟨m, rfl⟩ : ∃ m, k = m + 1 := ⟨k - 1, by omega⟩
    rw [laws_toIntS.l0, if_neg (by omega), List.take_of_length_le (by omega)]
    simp
  | succ d ih =>
    intro k i hi hk
    obtain ⟨m, rfl⟩ : ∃ m, k = m + 1 := ⟨k - 1, by omega⟩
    have hil : i < l.length := by omega
    rw [laws_toIntS.l0, if_pos (by omega), if_pos (by omega), if_pos (by simp; omega), rd_at hil, wrap_nat (by omega)]
    have e : ((l.take i ++ List.replicate (d + 1) 0).set ((i : Nat) : Int).toNat l[i]) = l.take (i + 1) ++ List.replicate d 0 := by
      rw [Int.toNat_natCast, List.set_append_right _ _ (by rw [List.length_take]; omega), List.length_take, show i - min i l.length = 0 by omega, List.replicate_succ, List.set_cons_zero, List.take_succ_eq_append_getElem hil, List.append_assoc]
      rfl
    rw [e]
    exact ih m (i + 1) (by omega) (by omega)
theorem toInt_tells (l : List Int) (hl : l.length ≤ 1048576) (k : Nat) (hk : l.length + 1 ≤ k) : laws_toIntS.f k l = some l := by
  unfold laws_toIntS.f
  rw [if_pos (by omega), if_pos (by omega), Int.toNat_natCast]
  have := toInt_l l (by omega) l.length k 0 (by omega) (by omega)
  simpa using this
theorem eqInt_l (l : List Int) (hl : l.length < 4611686018427387904) : ∀ (d k i : Nat), i + d = l.length → d + 1 ≤ k → laws_eqIntS.l0 k l l (i : Int) = some true := by
  intro d
  induction d with
  | zero =>
    intro k i hi hk
    obtain ⟨m, rfl⟩ : ∃ m, k = m + 1 := ⟨k - 1, by omega⟩
    rw [laws_eqIntS.l0, if_neg (by omega)]
  | succ d ih =>
    intro k i hi hk
    obtain ⟨m, rfl⟩ : ∃ m, k = m + 1 := ⟨k - 1, by omega⟩
    rw [laws_eqIntS.l0, if_pos (by omega), if_pos (by omega), if_pos (by omega), if_pos rfl, wrap_nat (by omega)]
    exact ih m (i + 1) (by omega) (by omega)
theorem eqInt_tells (l : List Int) (hl : l.length ≤ 1048576) (k : Nat) (hk : l.length + 1 ≤ k) : laws_eqIntS.f k l l = some true := by
  unfold laws_eqIntS.f
  rw [if_pos rfl]
  exact eqInt_l l (by omega) l.length k 0 (by omega) (by omega)
/-! ### rulers -/
def isRuler (l : List Int) : Prop := (∀ x ∈ l, 1 ≤ x ∧ x ≤ 60) ∧ 1 ≤ l.length ∧ l.length ≤ 9
instance (l : List Int) : Decidable (isRuler l) := by unfold isRuler; infer_instance
theorem spec_in (a b c : Int) : spec_l6In.f a b c = some (decide (b ≤ a ∧ a ≤ c)) := by
  unfold spec_l6In.f
  by_cases h : a ≥ b
  · rw [if_pos h]
    congr 1
    exact decide_eq_decide.mpr ⟨fun x => ⟨h, x⟩, fun x => x.2⟩
  · rw [if_neg h, decide_eq_false (fun x => h x.1)]
theorem impl_ruler_l (l : List Int) (hl : l.length ≤ 1048576) : ∀ (d k i : Nat), i + d = l.length → d + 1 ≤ k →
    impl_isRuler.l0 k l l (l.length : Int) (i : Int) = some (decide ((∀ x ∈ l.drop i, 1 ≤ x ∧ x ≤ 60) ∧ 1 ≤ l.length ∧ l.length ≤ 9)) := by
  intro d
  induction d with
  | zero =>
    intro k i hi hk
    obtain ⟨m, rfl⟩ : ∃ m, k = m + 1 := ⟨k - 1, by omega⟩
    rw [impl_isRuler.l0, if_neg (by omega), List.drop_eq_nil_of_le (by omega)]
    simp only [List.not_mem_nil, false_implies, implies_true, true_and]
    split
    · congr 1
      exact decide_eq_decide.mpr ⟨fun x => by omega, fun x => by omega⟩
    · rw [decide_eq_false (by omega)]
  | succ d ih =>
    intro k i hi hk
    obtain ⟨m, rfl⟩ : ∃ m, k = m + 1 := ⟨k - 1, by omega⟩
    have hil : i < l.length := by omega
    rw [impl_isRuler.l0, if_pos (by omega), if_pos (by omega), if_pos (by omega), rd_at hil, wrap_nat (by omega), ih m (i + 1) (by omega) (by omega), List.drop_eq_getElem_cons hil]
    simp only [List.mem_cons, forall_eq_or_imp]
    split
    · next h => rw [decide_eq_false (fun x => by omega)]
    · next h =>
      split
      · next h => rw [decide_eq_false (fun x => by omega)]
      · next h1 => congr 1; exact decide_eq_decide.mpr ⟨fun x => ⟨⟨⟨by omega, by omega⟩, x.1⟩, x.2⟩, fun x => ⟨x.1.2, x.2⟩⟩
theorem impl_ruler (l : List Int) (hl : l.length ≤ 1048576) (k : Nat) (hk : l.length + 1 ≤ k) : impl_isRuler.f k l = some (decide (isRuler l)) :=
  impl_ruler_l l hl l.length k 0 (by omega) (by omega)
/-! ### bundles -/
def asc (l : List Int) : Prop := ∀ j : Nat, j < l.length → 0 < j → rd l ((j - 1 : Nat) : Int) ≤ rd l (j : Int)
instance (l : List Int) : Decidable (asc l) := by unfold asc; infer_instance
def isBundle (l : List Int) : Prop := isRuler l ∧ asc l
instance (l : List Int) : Decidable (isBundle l) := by unfold isBundle; infer_instance
theorem all_rd (l : List Int) (p : Int → Prop) : (∀ x ∈ l, p x) ↔ ∀ j : Nat, j < l.length → p (rd l (j : Int)) := by
  constructor
  · intro h j hj
    rw [rd_at hj]
    exact h _ (List.getElem_mem hj)
  · intro h x hx
    obtain ⟨j, hj, rfl⟩ := List.mem_iff_getElem.mp hx
    rw [← rd_at hj]
    exact h j hj
theorem wrap_pred {n : Nat} (h0 : 0 < n) (h : n < 4611686018427387904) : wrap64 ((n : Int) - 1) = ((n - 1 : Nat) : Int) := by unfold wrap64; omega
def l1Rest (l : List Int) (i : Nat) : Prop := (∀ j : Nat, j < l.length → i ≤ j → (1 ≤ rd l (j : Int) ∧ rd l (j : Int) ≤ 60) ∧ (0 < j → rd l ((j - 1 : Nat) : Int) ≤ rd l (j : Int))) ∧ 1 ≤ l.length ∧ l.length ≤ 9
instance (l : List Int) (i : Nat) : Decidable (l1Rest l i) := by unfold l1Rest; infer_instance
theorem l1Rest_step {l : List Int} {i : Nat} (h : i < l.length) : l1Rest l i ↔ ((1 ≤ rd l (i : Int) ∧ rd l (i : Int) ≤ 60) ∧ (0 < i → rd l ((i - 1 : Nat) : Int) ≤ rd l (i : Int))) ∧ l1Rest l (i + 1) := by
  unfold l1Rest
  constructor
  · rintro ⟨h1, h2⟩
    exact ⟨h1 i h (Nat.le_refl _), fun j hj hij => h1 j hj (by omega), h2⟩
  · rintro ⟨h1, h2, h3⟩
    refine ⟨fun j hj hij => ?_, h3⟩
    rcases Nat.lt_or_ge i j with h' | h'
    · exact h2 j hj h'
    · obtain rfl : i = j := by omega
      exact h1
theorem spec_bundle_l (l : List Int) (hl : l.length ≤ 1048576) : ∀ (d k i : Nat), i + d = l.length → d + 1 ≤ k → spec_l1Bundle.l0 k l (i : Int) = some (decide (l1Rest l i)) := by
  intro d
  induction d with
  | zero =>
    intro k i hi hk
    obtain ⟨m, rfl⟩ : ∃ m, k = m + 1 := ⟨k - 1, by omega⟩
    rw [spec_l1Bundle.l0, if_neg (by omega), spec_in]
    simp only [Option.bind_some]
    congr 1
    exact decide_eq_decide.mpr ⟨fun x => ⟨fun j hj hij => by omega, by omega⟩, fun x => by have := x.2; omega⟩
  | succ d ih =>
    intro k i hi hk
    obtain ⟨m, rfl⟩ : ∃ m, k = m + 1 := ⟨k - 1, by omega⟩
    have hil : i < l.length := by omega
    have st := l1Rest_step hil
    have ih := ih m (i + 1) (by omega) (by omega)
    rw [spec_l1Bundle.l0, if_pos (by omega), if_pos (by omega), spec_in, wrap_nat (by omega), ih]
    simp only [Option.bind_some, decide_eq_true_eq]
    by_cases h1 : 1 ≤ rd l (i : Int) ∧ rd l (i : Int) ≤ 60
    · rw [if_pos h1]
      by_cases h2 : 0 < i
      · rw [if_pos (by omega), wrap_pred h2 (by omega), if_pos (by omega), if_pos (by omega)]
        by_cases h3 : rd l (i : Int) < rd l ((i - 1 : Nat) : Int)
        · rw [if_pos h3, decide_eq_false (fun x => by have := (st.mp x).1.2 h2; omega)]
        · rw [if_neg h3]
          congr 1
          exact decide_eq_decide.mpr ⟨fun x => st.mpr ⟨⟨h1, fun _ => by omega⟩, x⟩, fun x => (st.mp x).2⟩
      · rw [if_neg (by omega)]
        congr 1
        exact decide_eq_decide.mpr ⟨fun x => st.mpr ⟨⟨h1, fun h => absurd h h2⟩, x⟩, fun x => (st.mp x).2⟩
    · rw [if_neg h1, decide_eq_false (fun x => h1 (st.mp x).1.1)]
theorem spec_bundle (l : List Int) (hl : l.length ≤ 1048576) (k : Nat) (hk : l.length + 1 ≤ k) : spec_l1Bundle.f k l = some (decide (isBundle l)) := by
  unfold spec_l1Bundle.f
  have := spec_bundle_l l hl l.length k 0 (by omega) hk
  rw [show ((0 : Nat) : Int) = 0 from rfl] at this
  rw [this]
  congr 1
  refine decide_eq_decide.mpr ?_
  unfold isBundle isRuler asc l1Rest
  rw [all_rd l (fun x => 1 ≤ x ∧ x ≤ 60)]
  exact ⟨fun x => ⟨⟨fun j hj => (x.1 j hj (by omega)).1, x.2⟩, fun j hj h0 => (x.1 j hj (by omega)).2 h0⟩, fun x => ⟨fun j hj _ => ⟨x.1.1 j hj, x.2 j hj⟩, x.1.2⟩⟩
theorem less_tells (a b : Int) : cmp_Less_int.f a b = some (decide (a < b)) := by
  unfold cmp_Less_int.f cmp_isNaN_int.f
  simp
theorem sorted_l (l : List Int) (hl : l.length ≤ 1048576) : ∀ (i k : Nat), i + 1 ≤ k → i < l.length → slices_IsSorted_int_int.l0 k l (i : Int) = some (decide (∀ j : Nat, j < i + 1 → 0 < j → rd l ((j - 1 : Nat) : Int) ≤ rd l (j : Int))) := by
  intro i
  induction i with
  | zero =>
    intro k hk hi
    obtain ⟨m, rfl⟩ : ∃ m, k = m + 1 := ⟨k - 1, by omega⟩
    rw [slices_IsSorted_int_int.l0, if_neg (by omega), decide_eq_true (fun j hj h0 => by omega)]
  | succ i ih =>
    intro k hk hi
    obtain ⟨m, rfl⟩ : ∃ m, k = m + 1 := ⟨k - 1, by omega⟩
    rw [slices_IsSorted_int_int.l0, if_pos (by omega), if_pos (by omega), if_pos (by omega), wrap_pred (by omega) (by omega), if_pos (by omega), if_pos (by omega), less_tells, show i + 1 - 1 = i from rfl, ih m (by omega) (by omega)]
    simp only [Option.bind_some, decide_eq_true_eq]
    by_cases h : rd l ((i + 1 : Nat) : Int) < rd l (i : Int)
    · rw [if_pos h, decide_eq_false (fun x => by have := x (i + 1) (by omega) (by omega); rw [show i + 1 - 1 = i from rfl] at this; omega)]
    · rw [if_neg h]
      congr 1
      refine decide_eq_decide.mpr ⟨fun x j hj h0 => ?_, fun x j hj h0 => x j (by omega) h0⟩
      rcases Nat.lt_or_ge j (i + 1) with h' | h'
      · exact x j h' h0
      · obtain rfl : j = i + 1 := by omega
        rw [show i + 1 - 1 = i from rfl]
        omega
theorem impl_bundle (l : List Int) (hl : l.length ≤ 1048576) (k : Nat) (hk : l.length + 1 ≤ k) : impl_StickIn.f k l = some (decide (isBundle l)) := by
  unfold impl_StickIn.f
  rw [impl_ruler l hl k hk]
  simp only [Option.bind_some, decide_eq_true_eq]
  by_cases h : isRuler l
  · have h1 := h.2.1
    rw [if_pos h]
    unfold slices_IsSorted_int_int.f
    rw [wrap_pred (by omega) (by omega), sorted_l l hl (l.length - 1) k (by omega) (by omega)]
    simp only [Option.bind_some]
    congr 1
    refine decide_eq_decide.mpr ?_
    rw [show l.length - 1 + 1 = l.length by omega]
    exact ⟨fun x => ⟨h, x⟩, fun x => x.2⟩
  · rw [if_neg h, decide_eq_false (fun x => h x.1)]
theorem sum_l (l : List Int) (hl : l.length ≤ 100) (hx : ∀ x ∈ l, 1 ≤ x ∧ x ≤ 60) : ∀ (d k i : Nat) (s : Int), i + d = l.length → d + 1 ≤ k → 0 ≤ s → s ≤ 60 * i →
    impl_sum.l0 k s l (l.length : Int) (i : Int) = some (s + (l.drop i).sum) := by
  intro d
  induction d with
  | zero =>
    intro k i s hi hk h0 h1
    obtain ⟨m, rfl⟩ : ∃ m, k = m + 1 := ⟨k - 1, by omega⟩
    rw [impl_sum.l0, if_neg (by omega), List.drop_eq_nil_of_le (by omega)]
    simp
  | succ d ih =>
    intro k i s hi hk h0 h1
    obtain ⟨m, rfl⟩ : ∃ m, k = m + 1 := ⟨k - 1, by omega⟩
    have hil : i < l.length := by omega
    have hx := hx l[i] (List.getElem_mem hil)
    have w : wrap64 (s + l[i]) = s + l[i] := by unfold wrap64; omega
    rw [impl_sum.l0, if_pos (by omega), if_pos (by omega), if_pos (by omega), rd_at hil, w, wrap_nat (by omega), ih m (i + 1) _ (by omega) (by omega) (by omega) (by omega), List.drop_eq_getElem_cons hil, List.sum_cons]
    congr 1
    omega
theorem sum_tells (l : List Int) (hl : l.length ≤ 100) (hx : ∀ x ∈ l, 1 ≤ x ∧ x ≤ 60) (k : Nat) (hk : l.length + 1 ≤ k) : impl_sum.f k l = some l.sum := by
  have := sum_l l hl hx l.length k 0 0 (by omega) hk (by omega) (by omega)
  unfold impl_sum.f
  rw [show ((0 : Nat) : Int) = 0 from rfl] at this
  rw [this]
  simp
theorem ssum_l (l : List Int) (hl : l.length ≤ 100) (hx : ∀ x ∈ l, 1 ≤ x ∧ x ≤ 60) : ∀ (d k i : Nat) (s : Int), i + d = l.length → d + 1 ≤ k → 0 ≤ s → s ≤ 60 * i →
    spec_l1Sum.l0 k l s (i : Int) = some (s + (l.drop i).sum) := by
  intro d
  induction d with
  | zero =>
    intro k i s hi hk h0 h1
    obtain ⟨m, rfl⟩ : ∃ m, k = m + 1 := ⟨k - 1, by omega⟩
    rw [spec_l1Sum.l0, if_neg (by omega), List.drop_eq_nil_of_le (by omega)]
    simp
  | succ d ih =>
    intro k i s hi hk h0 h1
    obtain ⟨m, rfl⟩ : ∃ m, k = m + 1 := ⟨k - 1, by omega⟩
    have hil : i < l.length := by omega
    have hx := hx l[i] (List.getElem_mem hil)
    have w : wrap64 (s + l[i]) = s + l[i] := by unfold wrap64; omega
    rw [spec_l1Sum.l0, if_pos (by omega), if_pos (by omega), rd_at hil, w, wrap_nat (by omega), ih m (i + 1) _ (by omega) (by omega) (by omega) (by omega), List.drop_eq_getElem_cons hil, List.sum_cons]
    congr 1
    omega
theorem ssum_tells (l : List Int) (hl : l.length ≤ 100) (hx : ∀ x ∈ l, 1 ≤ x ∧ x ≤ 60) (k : Nat) (hk : l.length + 1 ≤ k) : spec_l1Sum.f k l = some l.sum := by
  have := ssum_l l hl hx l.length k 0 0 (by omega) hk (by omega) (by omega)
  unfold spec_l1Sum.f
  rw [show ((0 : Nat) : Int) = 0 from rfl] at this
  rw [this]
  simp
/-! ### proofs about closing -/
theorem dec_small : ∀ n : Nat, n < 100 → spec_l6Dec.f 3 (n : Int) = some ⟨(Lib.decDigits n).toArray⟩ := by decide +kernel
theorem dec_tells (n k : Nat) (h : n < 100) (hk : 3 ≤ k) : spec_l6Dec.f k (n : Int) = some ⟨(Lib.decDigits n).toArray⟩ := at_rounds (spec_l6Dec.mono (n : Int)) hk (dec_small n h)
theorem dec_size : ∀ n : Nat, n < 100 → (⟨(Lib.decDigits n).toArray⟩ : ByteArray).size ≤ 2 := by decide +kernel
theorem sum_ge : ∀ (l : List Int), (∀ x ∈ l, 1 ≤ x ∧ x ≤ 60) → ∀ i (h : i < l.length), l[i] + ((l.length : Int) - 1) ≤ l.sum
  | [], _, i, h => by simp at h
  | x :: l, hx, 0, h => by
    have h1 : ∀ l : List Int, (∀ x ∈ l, 1 ≤ x ∧ x ≤ 60) → (l.length : Int) ≤ l.sum := by
      intro l
      induction l with
      | nil => intro _; simp
      | cons y r ih =>
        intro h
        have := ih (fun z hz => h z (List.mem_cons_of_mem _ hz))
        have := h y List.mem_cons_self
        simp only [List.length_cons, List.sum_cons]
        omega
    have := h1 l (fun z hz => hx z (List.mem_cons_of_mem _ hz))
    simp only [List.length_cons, List.sum_cons, List.getElem_cons_zero]
    omega
  | x :: l, hx, i + 1, h => by
    have := sum_ge l (fun z hz => hx z (List.mem_cons_of_mem _ hz)) i (by simpa using h)
    have := hx x List.mem_cons_self
    simp only [List.length_cons, List.sum_cons, List.getElem_cons_succ]
    omega
theorem sum_le : ∀ (l : List Int), (∀ x ∈ l, 1 ≤ x ∧ x ≤ 60) → l.sum ≤ 60 * l.length
  | [], _ => by simp
  | x :: l, hx => by
    have := sum_le l (fun z hz => hx z (List.mem_cons_of_mem _ hz))
    have := hx x List.mem_cons_self
    simp only [List.length_cons, List.sum_cons]
    omega
def gapOf (l : List Int) : Int := l.sum - 2 * rd l ((l.length - 1 : Nat) : Int)
theorem gap_in {l : List Int} (h : isRuler l) : -58 ≤ gapOf l ∨ l.length < 3 := by
  rcases Nat.lt_or_ge l.length 3 with h3 | h3
  · exact .inr h3
  · left
    have hi : l.length - 1 < l.length := by omega
    have h1 := sum_ge l h.1 (l.length - 1) hi
    have h2 := h.1 _ (List.getElem_mem hi)
    unfold gapOf
    rw [rd_at hi]
    omega
theorem gap_le {l : List Int} (h : isRuler l) : -120 ≤ gapOf l ∧ gapOf l ≤ 540 := by
  have hl := h.2
  have hi : l.length - 1 < l.length := by omega
  have h1 := sum_ge l h.1 (l.length - 1) hi
  have h2 := h.1 _ (List.getElem_mem hi)
  have h3 := sum_le l h.1
  unfold gapOf
  rw [rd_at hi]
  omega
theorem wrap_small {x : Int} (h0 : -1000000 ≤ x) (h1 : x ≤ 1000000) : wrap64 x = x := by unfold wrap64; omega
def closeText (l : List Int) : ByteArray × Bool :=
  if isBundle l ∧ 3 ≤ l.length then (if gapOf l > 0 then (⟨#[99, 108, 111, 115, 101, 115]⟩, true) else ((⟨#[111, 112, 101, 110, 32]⟩ : ByteArray) ++ ⟨(Lib.decDigits (-gapOf l).toNat).toArray⟩, true)) else (⟨#[]⟩, false)
theorem sgap_tells (l : List Int) (h : isRuler l) (k : Nat) (hk : l.length + 1 ≤ k) : spec_l3Gap.f k l = some (gapOf l) := by
  have hl := h.2
  have hi : l.length - 1 < l.length := by omega
  have h2 := h.1 _ (List.getElem_mem hi)
  have g := gap_le h
  unfold gapOf at g
  unfold spec_l3Gap.f
  rw [ssum_tells l (by omega) h.1 k hk]
  simp only [Option.bind_some]
  rw [wrap_pred (by omega) (by omega), if_pos (by omega), if_pos (by omega)]
  unfold gapOf
  rw [rd_at hi] at g ⊢
  rw [wrap_small (x := 2 * _) (by omega) (by omega), wrap_small (by omega) (by omega)]
theorem scloses_tells (l : List Int) (h : isRuler l) (h3 : 3 ≤ l.length) (k : Nat) (hk : l.length + 1 ≤ k) : spec_l3Closes.f k l = some (decide (gapOf l > 0)) := by
  unfold spec_l3Closes.f
  rw [if_pos (by omega), sgap_tells l h k hk]
  rfl
theorem sclose_tells (l : List Int) (hl : l.length ≤ 1048576) (k : Nat) (hk : l.length + 10 ≤ k) : spec_ProofClose.f k l = some (closeText l) := by
  unfold spec_ProofClose.f closeText
  rw [spec_bundle l hl k (by omega)]
  simp only [Option.bind_some, decide_eq_true_eq]
  obtain ⟨m, rfl⟩ : ∃ m, k = m + 1 := ⟨k - 1, by omega⟩
  by_cases hb : isBundle l
  · rw [if_pos hb, spec_ProofClose.j0]
    by_cases h3 : 3 ≤ l.length
    · rw [if_neg (by simp; omega), if_pos ⟨hb, h3⟩, scloses_tells l hb.1 h3 m (by omega), sgap_tells l hb.1 m (by omega)]
      simp only [Option.bind_some, decide_eq_true_eq]
      by_cases hg : gapOf l > 0
      · rw [if_pos hg, if_pos hg]
      · have g1 := (gap_in hb.1).resolve_right (by omega)
        rw [if_neg hg, if_neg hg, wrap_small (by omega) (by omega)]
        have := dec_tells (-gapOf l).toNat m (by omega) (by omega)
        rw [Int.toNat_of_nonneg (by omega)] at this
        rw [this]
        have := dec_size (-gapOf l).toNat (by omega)
        simp only [Option.bind_some]
        rw [if_pos (by omega)]
    · rw [if_pos (by simp; omega), if_neg (fun x => h3 x.2)]
  · rw [if_neg hb, spec_ProofClose.j0, if_pos rfl, if_neg (fun x => hb x.1)]
theorem igap_tells (l : List Int) (h : isRuler l) (k : Nat) (hk : l.length + 1 ≤ k) : impl_gap.f k l = some (gapOf l) := by
  have hl := h.2
  have hi : l.length - 1 < l.length := by omega
  have h2 := h.1 _ (List.getElem_mem hi)
  have g := gap_le h
  unfold gapOf at g
  unfold impl_gap.f
  rw [sum_tells l (by omega) h.1 k hk]
  simp only [Option.bind_some]
  rw [wrap_pred (by omega) (by omega), if_pos (by omega), if_pos (by omega)]
  unfold gapOf
  rw [rd_at hi] at g ⊢
  rw [wrap_small (x := 2 * _) (by omega) (by omega), wrap_small (by omega) (by omega)]
theorem icloses_tells (l : List Int) (h : isRuler l) (h3 : 3 ≤ l.length) (k : Nat) (hk : l.length + 1 ≤ k) : impl_closes.f k l = some (decide (gapOf l > 0)) := by
  unfold impl_closes.f
  rw [if_pos (by omega), igap_tells l h k hk]
  rfl
theorem iclose_tells (l : List Int) (hl : l.length ≤ 1048576) (k : Nat) (hk : l.length + 10 ≤ k) : impl_ProofClose.f k l = some (closeText l) := by
  unfold impl_ProofClose.f closeText
  rw [impl_bundle l hl k (by omega)]
  simp only [Option.bind_some, decide_eq_true_eq]
  obtain ⟨m, rfl⟩ : ∃ m, k = m + 1 := ⟨k - 1, by omega⟩
  by_cases hb : isBundle l
  · rw [if_pos hb, impl_ProofClose.j0]
    by_cases h3 : 3 ≤ l.length
    · rw [if_neg (by simp; omega), if_pos ⟨hb, h3⟩, icloses_tells l hb.1 h3 m (by omega), igap_tells l hb.1 m (by omega)]
      simp only [Option.bind_some, decide_eq_true_eq]
      by_cases hg : gapOf l > 0
      · rw [if_pos hg, if_pos hg]
      · have g1 := (gap_in hb.1).resolve_right (by omega)
        rw [if_neg hg, if_neg hg, wrap_small (by omega) (by omega)]
        unfold strconv_Itoa_22.f
        rw [if_pos ⟨by omega, by omega⟩]
        have := dec_size (-gapOf l).toNat (by omega)
        simp only [Option.bind_some]
        rw [if_pos (by omega)]
    · rw [if_pos (by simp; omega), if_neg (fun x => h3 x.2)]
  · rw [if_neg hb, impl_ProofClose.j0, if_pos rfl, if_neg (fun x => hb x.1)]
def closeIs (l : List Int) (s : ByteArray) : Int × Bool :=
  if (closeText l).2 = true ∧ (closeText l).1.toList = s.toList then (if gapOf l > 0 then (1, true) else (0, true)) else (0, false)
theorem toList_append_data (a b : ByteArray) : (a ++ b).toList = a.toList ++ b.toList := by
  rw [Lib.toList_data, Lib.toList_data, Lib.toList_data, ByteArray.data_append, Array.toList_append]
theorem open_not_closes (b : ByteArray) : ((⟨#[111, 112, 101, 110, 32]⟩ : ByteArray) ++ b).toList ≠ ([99, 108, 111, 115, 101, 115] : List UInt8) := by
  rw [toList_append_data, show (⟨#[111, 112, 101, 110, 32]⟩ : ByteArray).toList = [111, 112, 101, 110, 32] by rw [Lib.toList_data]]
  simp
theorem closes_toList : (⟨#[99, 108, 111, 115, 101, 115]⟩ : ByteArray).toList = ([99, 108, 111, 115, 101, 115] : List UInt8) := by rw [Lib.toList_data]
theorem scloseis_tells (l : List Int) (s : ByteArray) (hl : l.length ≤ 1048576) (k : Nat) (hk : l.length + 20 ≤ k) : spec_ProofCloseIs.f k l s = some (closeIs l s) := by
  unfold spec_ProofCloseIs.f
  rw [sclose_tells l hl k (by omega)]
  simp only [Option.bind_some]
  obtain ⟨m, rfl⟩ : ∃ m, k = m + 1 := ⟨k - 1, by omega⟩
  unfold closeIs
  by_cases h : (closeText l).2 = true
  · rw [if_pos h]
    by_cases h2 : (closeText l).1.toList = s.toList
    · have e : ((closeText l).1.toList != s.toList) = false := by rw [h2]; simp
      rw [e, spec_ProofCloseIs.j0, if_neg (by decide), if_pos (show (closeText l).2 = true ∧ (closeText l).1.toList = s.toList from ⟨h, h2⟩), ← h2]
      unfold closeText at h ⊢
      by_cases hb : isBundle l ∧ 3 ≤ l.length
      · rw [if_pos hb]
        by_cases hg : gapOf l > 0
        · rw [if_pos hg, if_pos hg, if_pos closes_toList]
        · rw [if_neg hg, if_neg hg, if_neg (open_not_closes _)]
      · rw [if_neg hb] at h
        exact absurd h (by decide)
    · have e : ((closeText l).1.toList != s.toList) = true := by simpa using h2
      rw [e, spec_ProofCloseIs.j0, if_pos rfl, if_neg (fun x => h2 x.2)]
  · rw [if_neg h, spec_ProofCloseIs.j0, if_pos rfl, if_neg (fun x => h x.1)]
theorem icloseis_tells (l : List Int) (s : ByteArray) (hl : l.length ≤ 1048576) (k : Nat) (hk : l.length + 20 ≤ k) : impl_ProofCloseIs.f k l s = some (closeIs l s) := by
  unfold impl_ProofCloseIs.f
  rw [iclose_tells l hl k (by omega)]
  simp only [Option.bind_some]
  obtain ⟨m, rfl⟩ : ∃ m, k = m + 1 := ⟨k - 1, by omega⟩
  unfold closeIs
  by_cases h : (closeText l).2 = true
  · have hb : isBundle l ∧ 3 ≤ l.length := by
      unfold closeText at h
      by_cases hb : isBundle l ∧ 3 ≤ l.length
      · exact hb
      · rw [if_neg hb] at h
        exact absurd h (by decide)
    rw [if_pos h]
    by_cases h2 : (closeText l).1.toList = s.toList
    · have e : (s.toList != (closeText l).1.toList) = false := by rw [h2]; simp
      rw [e, impl_ProofCloseIs.j0, if_neg (by decide), if_pos ⟨h, h2⟩, icloses_tells l hb.1.1 hb.2 m (by omega)]
      simp only [Option.bind_some, decide_eq_true_eq]
      by_cases hg : gapOf l > 0
      · rw [if_pos hg, if_pos hg]
      · rw [if_neg hg, if_neg hg]
    · have e : (s.toList != (closeText l).1.toList) = true := by
        rw [bne_iff_ne]
        exact fun x => h2 x.symm
      rw [e, impl_ProofCloseIs.j0, if_pos rfl, if_neg (fun x => h2 x.2)]
  · rw [if_neg h, impl_ProofCloseIs.j0, if_pos rfl, if_neg (fun x => h x.1)]
theorem FnExactProofCloseIs : laws_FnExactProofCloseIs.Pure := by
  intro l s h1 h2 h3 h4
  refine ⟨l.length + 1000, ?_⟩
  unfold laws_FnExactProofCloseIs.f
  split
  · rfl
  · next hl =>
    have hl : l.length ≤ 1048576 := by omega
    split
    · rfl
    · rw [toInt_tells l hl _ (by omega)]
      simp only [Option.bind_some]
      rw [scloseis_tells l s hl _ (by omega), icloseis_tells l s hl _ (by omega)]
      simp only [Option.bind_some]
      rw [if_pos trivial, laws_FnExactProofCloseIs.j0, if_neg (by simp), toInt_tells l hl _ (by omega)]
      simp only [Option.bind_some]
      rw [eqInt_tells l hl _ (by omega)]
      rfl

end Go.Proofs.YtciaehggpcaapaaDoor.Pure
