/- The law FnPartSort, as a statement over plain numbers and lists, is proved: what the program's functions compute is what the reference's compute. -/
import Derived.Test.YthgphegpkjngaaaPFnPartSortx6
import Derived.Laws.Entries
namespace Go.Proofs.Ythgphegpkjngaaa.Pure
open Go.RowKit Go.Proofs.Ythgphegpkjngaaa.PFnPartSort Go.Proofs.YthgphegpkjngaaaW.PrintWords Go.Proofs.YthgphegpkjngaaaW.PrintLast
set_option linter.unusedVariables false
set_option linter.unusedSimpArgs false
/-! ### lists of whole numbers -/
theorem wrap_nat {n : Nat} (h : n < 4611686018427387904) : wrap64 ((n : Int) + 1) = ((n + 1 : Nat) : Int) := by unfold wrap64; omega
theorem rd_at {l : List Int} {i : Nat} (h : i < l.length) : rd l (i : Int) = l[i] := by
  unfold rd
  rw [Int.toNat_natCast, List.getD_eq_getElem?_getD, List.getElem?_eq_getElem h]
  rfl
theorem and_one (a : Nat) (ha : a < 4611686018427387904) : Go.bits .and .i64 (a : Int) 1 = ((a % 2 : Nat) : Int) := by
  have h1 : (BitVec.ofInt 64 (a : Int)).toNat = a := by
    rw [BitVec.ofInt_natCast, BitVec.toNat_ofNat]; exact Nat.mod_eq_of_lt (by omega)
  have h2 : (BitVec.ofInt 64 (1 : Int)).toNat = 1 := by decide
  show IntKind.i64.wrap ((BitVec.ofInt 64 (a : Int) &&& BitVec.ofInt 64 (1 : Int)).toNat : Int) = _
  rw [BitVec.toNat_and, h1, h2, Nat.and_one_is_mod]
  have : a % 2 < 2 := Nat.mod_lt _ (by omega)
  generalize a % 2 = c at this
  simp [IntKind.wrap, IntKind.bits, IntKind.signed]
  omega
theorem ite_same {α : Type} {p q : Prop} [Decidable p] [Decidable q] (h : p ↔ q) {a b : α} : (if p then a else b) = if q then a else b := by
  by_cases hq : q
  · rw [if_pos (h.mpr hq), if_pos hq]
  · rw [if_neg (fun x => hq (h.mp x)), if_neg hq]
/-! ### rulers -/
def isRuler (l : List Int) : Prop := (∀ x ∈ l, 1 ≤ x ∧ x ≤ 60) ∧ 1 ≤ l.length ∧ l.length ≤ 9
instance (l : List Int) : Decidable (isRuler l) := by unfold isRuler; infer_instance
theorem spec_in (a b c : Int) : spec_l6In.f a b c = some (decide (b ≤ a ∧ a ≤ c)) := by
  unfold spec_l6In.f
  by_cases h : a ≥ b
  · rw [if_pos h]
    congr 1
    exact decide_eq_decide.mpr ⟨fun x => ⟨h, x⟩, fun x => x.2⟩
  · rw [if_neg h, decide_eq_false (fun x => h x.1)]
theorem impl_ruler_l (l : List Int) (hl : l.length ≤ 1048576) : ∀ (d k i : Nat), i + d = l.length → d + 1 ≤ k →
    impl_isRuler.l0 k l l (l.length : Int) (i : Int) = some (decide ((∀ x ∈ l.drop i, 1 ≤ x ∧ x ≤ 60) ∧ 1 ≤ l.length ∧ l.length ≤ 9)) := by
  intro d
  induction d with
  | zero =>
    intro k i hi hk
    obtain ⟨m, rfl⟩ : ∃ m, k = m + 1 := ⟨k - 1, by omega⟩
    rw [impl_isRuler.l0, if_neg (by omega), List.drop_eq_nil_of_le (by omega)]
    simp only [List.not_mem_nil, false_implies, implies_true, true_and]
    split
    · congr 1
      exact decide_eq_decide.mpr ⟨fun x => by omega, fun x => by omega⟩
    · rw [decide_eq_false (by omega)]
  | succ d ih =>
    intro k i hi hk
    obtain ⟨m, rfl⟩ : ∃ m, k = m + 1 := ⟨k - 1, by omega⟩
    have hil : i < l.length := by omega
    rw [impl_isRuler.l0, if_pos (by omega), if_pos (by omega), if_pos (by omega), rd_at hil, wrap_nat (by omega), ih m (i + 1) (by omega) (by omega), List.drop_eq_getElem_cons hil]
    simp only [List.mem_cons, forall_eq_or_imp]
    split
    · next h => rw [decide_eq_false (fun x => by omega)]
    · next h =>
      split
      · next h => rw [decide_eq_false (fun x => by omega)]
      · next h1 => congr 1; exact decide_eq_decide.mpr ⟨fun x => ⟨⟨⟨by omega, by omega⟩, x.1⟩, x.2⟩, fun x => ⟨x.1.2, x.2⟩⟩
theorem impl_ruler (l : List Int) (hl : l.length ≤ 1048576) (k : Nat) (hk : l.length + 1 ≤ k) : impl_isRuler.f k l = some (decide (isRuler l)) :=
  impl_ruler_l l hl l.length k 0 (by omega) (by omega)
/-! ### bundles -/
def asc (l : List Int) : Prop := ∀ j : Nat, j < l.length → 0 < j → rd l ((j - 1 : Nat) : Int) ≤ rd l (j : Int)
instance (l : List Int) : Decidable (asc l) := by unfold asc; infer_instance
def isBundle (l : List Int) : Prop := isRuler l ∧ asc l
instance (l : List Int) : Decidable (isBundle l) := by unfold isBundle; infer_instance
theorem all_rd (l : List Int) (p : Int → Prop) : (∀ x ∈ l, p x) ↔ ∀ j : Nat, j < l.length → p (rd l (j : Int)) := by
  constructor
  · intro h j hj
    rw [rd_at hj]
    exact h _ (List.getElem_mem hj)
  · intro h x hx
    obtain ⟨j, hj, rfl⟩ := List.mem_iff_getElem.mp hx
    rw [← rd_at hj]
    exact h j hj
theorem wrap_pred {n : Nat} (h0 : 0 < n) (h : n < 4611686018427387904) : wrap64 ((n : Int) - 1) = ((n - 1 : Nat) : Int) := by unfold wrap64; omega
def l1Rest (l : List Int) (i : Nat) : Prop := (∀ j : Nat, j < l.length → i ≤ j → (1 ≤ rd l (j : Int) ∧ rd l (j : Int) ≤ 60) ∧ (0 < j → rd l ((j - 1 : Nat) : Int) ≤ rd l (j : Int))) ∧ 1 ≤ l.length ∧ l.length ≤ 9
instance (l : List Int) (i : Nat) : Decidable (l1Rest l i) := by unfold l1Rest; infer_instance
theorem l1Rest_step {l : List Int} {i : Nat} (h : i < l.length) : l1Rest l i ↔ ((1 ≤ rd l (i : Int) ∧ rd l (i : Int) ≤ 60) ∧ (0 < i → rd l ((i - 1 : Nat) : Int) ≤ rd l (i : Int))) ∧ l1Rest l (i + 1) := by
  unfold l1Rest
  constructor
  · rintro ⟨h1, h2⟩
    exact ⟨h1 i h (Nat.le_refl _), fun j hj hij => h1 j hj (by omega), h2⟩
  · rintro ⟨h1, h2, h3⟩
    refine ⟨fun j hj hij => ?_, h3⟩
    rcases Nat.lt_or_ge i j with h' | h'
    · exact h2 j hj h'
    · obtain rfl : i = j := by omega
      exact h1
theorem spec_bundle_l (l : List Int) (hl : l.length ≤ 1048576) : ∀ (d k i : Nat), i + d = l.length → d + 1 ≤ k → spec_l1Bundle.l0 k l (i : Int) = some (decide (l1Rest l i)) := by
  intro d
  induction d with
  | zero =>
    intro k i hi hk
    obtain ⟨m, rfl⟩ : ∃ m, k = m + 1 := ⟨k - 1, by omega⟩
    rw [spec_l1Bundle.l0, if_neg (by omega), spec_in]
    simp only [Option.bind_some]
    congr 1
    exact decide_eq_decide.mpr ⟨fun x => ⟨fun j hj hij => by omega, by omega⟩, fun x => by have := x.2; omega⟩
  | succ d ih =>
    intro k i hi hk
    obtain ⟨m, rfl⟩ : ∃ m, k = m + 1 := ⟨k - 1, by omega⟩
    have hil : i < l.length := by omega
    have st := l1Rest_step hil
    have ih := ih m (i + 1) (by omega) (by omega)
    rw [spec_l1Bundle.l0, if_pos (by omega), if_pos (by omega), spec_in, wrap_nat (by omega), ih]
    simp only [Option.bind_some, decide_eq_true_eq]
    by_cases h1 : 1 ≤ rd l (i : Int) ∧ rd l (i : Int) ≤ 60
    · rw [if_pos h1]
      by_cases h2 : 0 < i
      · rw [if_pos (by omega), wrap_pred h2 (by omega), if_pos (by omega), if_pos (by omega)]
        by_cases h3 : rd l (i : Int) < rd l ((i - 1 : Nat) : Int)
        · rw [if_pos h3, decide_eq_false (fun x => by have := (st.mp x).1.2 h2; omega)]
        · rw [if_neg h3]
          congr 1
          exact decide_eq_decide.mpr ⟨fun x => st.mpr ⟨⟨h1, fun _ => by omega⟩, x⟩, fun x => (st.mp x).2⟩
      · rw [if_neg (by omega)]
        congr 1
        exact decide_eq_decide.mpr ⟨fun x => st.mpr ⟨⟨h1, fun h => absurd h h2⟩, x⟩, fun x => (st.mp x).2⟩
    · rw [if_neg h1, decide_eq_false (fun x => h1 (st.mp x).1.1)]
theorem spec_bundle (l : List Int) (hl : l.length ≤ 1048576) (k : Nat) (hk : l.length + 1 ≤ k) : spec_l1Bundle.f k l = some (decide (isBundle l)) := by
  unfold spec_l1Bundle.f
  have := spec_bundle_l l hl l.length k 0 (by omega) hk
  rw [show ((0 : Nat) : Int) = 0 from rfl] at this
  rw [this]
  congr 1
  refine decide_eq_decide.mpr ?_
  unfold isBundle isRuler asc l1Rest
  rw [all_rd l (fun x => 1 ≤ x ∧ x ≤ 60)]
  exact ⟨fun x => ⟨⟨fun j hj => (x.1 j hj (by omega)).1, x.2⟩, fun j hj h0 => (x.1 j hj (by omega)).2 h0⟩, fun x => ⟨fun j hj _ => ⟨x.1.1 j hj, x.2 j hj⟩, x.1.2⟩⟩
theorem less_tells (a b : Int) : cmp_Less_int.f a b = some (decide (a < b)) := by
  unfold cmp_Less_int.f cmp_isNaN_int.f
  simp
theorem sorted_l (l : List Int) (hl : l.length ≤ 1048576) : ∀ (i k : Nat), i + 1 ≤ k → i < l.length → slices_IsSorted_int_int.l0 k l (i : Int) = some (decide (∀ j : Nat, j < i + 1 → 0 < j → rd l ((j - 1 : Nat) : Int) ≤ rd l (j : Int))) := by
  intro i
  induction i with
  | zero =>
    intro k hk hi
    obtain ⟨m, rfl⟩ : ∃ m, k = m + 1 := ⟨k - 1, by omega⟩
    rw [slices_IsSorted_int_int.l0, if_neg (by omega), decide_eq_true (fun j hj h0 => by omega)]
  | succ i ih =>
    intro k hk hi
    obtain ⟨m, rfl⟩ : ∃ m, k = m + 1 := ⟨k - 1, by omega⟩
    rw [slices_IsSorted_int_int.l0, if_pos (by omega), if_pos (by omega), if_pos (by omega), wrap_pred (by omega) (by omega), if_pos (by omega), if_pos (by omega), less_tells, show i + 1 - 1 = i from rfl, ih m (by omega) (by omega)]
    simp only [Option.bind_some, decide_eq_true_eq]
    by_cases h : rd l ((i + 1 : Nat) : Int) < rd l (i : Int)
    · rw [if_pos h, decide_eq_false (fun x => by have := x (i + 1) (by omega) (by omega); rw [show i + 1 - 1 = i from rfl] at this; omega)]
    · rw [if_neg h]
      congr 1
      refine decide_eq_decide.mpr ⟨fun x j hj h0 => ?_, fun x j hj h0 => x j (by omega) h0⟩
      rcases Nat.lt_or_ge j (i + 1) with h' | h'
      · exact x j h' h0
      · obtain rfl : j = i + 1 := by omega
        rw [show i + 1 - 1 = i from rfl]
        omega
theorem impl_bundle (l : List Int) (hl : l.length ≤ 1048576) (k : Nat) (hk : l.length + 1 ≤ k) : impl_StickIn.f k l = some (decide (isBundle l)) := by
  unfold impl_StickIn.f
  rw [impl_ruler l hl k hk]
  simp only [Option.bind_some, decide_eq_true_eq]
  by_cases h : isRuler l
  · have h1 := h.2.1
    rw [if_pos h]
    unfold slices_IsSorted_int_int.f
    rw [wrap_pred (by omega) (by omega), sorted_l l hl (l.length - 1) k (by omega) (by omega)]
    simp only [Option.bind_some]
    congr 1
    refine decide_eq_decide.mpr ?_
    rw [show l.length - 1 + 1 = l.length by omega]
    exact ⟨fun x => ⟨h, x⟩, fun x => x.2⟩
  · rw [if_neg h, decide_eq_false (fun x => h x.1)]
/-! ### part lists -/
def pf (l : List Int) (t : Int) : Nat → Nat → List Nat
  | 0, _ => []
  | d + 1, i => if rd l (i : Int) = t then i :: pf l t d (i + 1) else pf l t d (i + 1)
def places (l : List Int) (t : Int) : List Nat := pf l t l.length 0
theorem rd_app {l : List Int} {x : Int} {i : Nat} (h : i < l.length) : rd (l ++ [x]) (i : Int) = rd l (i : Int) := by
  rw [rd_at h, rd_at (by simp; omega), List.getElem_append_left h]
theorem rd_app_last (l : List Int) (x : Int) : rd (l ++ [x]) (l.length : Int) = x := by
  rw [rd_at (by simp)]
  simp
theorem pf_app (l : List Int) (x t : Int) : ∀ d i, i + d = l.length → pf (l ++ [x]) t (d + 1) i = pf l t d i ++ if x = t then [l.length] else []
  | 0, i, h => by
    have : i = l.length := by omega
    subst this
    simp only [pf]
    rw [rd_app_last]
    split <;> simp
  | d + 1, i, h => by
    rw [pf, rd_app (by omega), pf_app l x t d (i + 1) (by omega), pf]
    split <;> simp
theorem places_app (l : List Int) (x t : Int) : places (l ++ [x]) t = places l t ++ if x = t then [l.length] else [] := by
  have := pf_app l x t l.length 0 (by omega)
  unfold places
  rw [List.length_append]
  exact this
theorem pf_lt (l : List Int) (t : Int) : ∀ d i, i + d = l.length → ∀ j ∈ pf l t d i, j < l.length
  | 0, i, h, j, hj => by simp [pf] at hj
  | d + 1, i, h, j, hj => by
    rw [pf] at hj
    split at hj
    · rcases List.mem_cons.mp hj with rfl | hj
      · omega
      · exact pf_lt l t d (i + 1) (by omega) j hj
    · exact pf_lt l t d (i + 1) (by omega) j hj
theorem places_lt {l : List Int} {t : Int} {j : Nat} (h : j ∈ places l t) : j < l.length := pf_lt l t l.length 0 (by omega) j h
theorem pf_len (l : List Int) (t : Int) : ∀ d i, (pf l t d i).length ≤ d
  | 0, i => by simp [pf]
  | d + 1, i => by
    have := pf_len l t d (i + 1)
    rw [pf]
    split <;> simp <;> omega
def tri (x y z : Int) : Bool := decide (x < y + z) && (decide (y < x + z) && decide (z < x + y))
def three : List Int → Bool
  | [x, y, z] => tri x y z
  | _ => false
def selOf (a l : List Int) (t : Int) : List Int := (places l t).map fun j : Nat => rd a (j : Int)
def fits (a l : List Int) (m : Nat) : Bool := (List.range m).all fun t => three (selOf a l (t : Int))
/-- All part lists that begin so, in order. -/
def gen (a : List Int) : Nat → List Int → Nat → List (List Int)
  | 0, l, m => if fits a l m = true then [l] else []
  | d + 1, l, m => (List.range' 0 (m + 2)).flatMap fun e : Nat => if (places l ((e : Int) - 1)).length = 3 ∧ 0 < e then [] else gen a d (l ++ [(e : Int) - 1]) (if e = m + 1 then m + 1 else m)
def genAll (a : List Int) : List (List Int) := gen a a.length [] 0
theorem fits_iff {a l : List Int} {m : Nat} : fits a l m = true ↔ ∀ t, t < m → three (selOf a l (t : Int)) = true := by
  simp [fits, List.all_eq_true]
theorem mem_gen_len (a : List Int) : ∀ (d : Nat) (l : List Int) (m : Nat) (x : List Int), x ∈ gen a d l m → x.length = l.length + d
  | 0, l, m, x, h => by
    rw [gen] at h
    split at h
    · simp at h; subst h; rfl
    · simp at h
  | d + 1, l, m, x, h => by
    rw [gen, List.mem_flatMap] at h
    obtain ⟨e, he, h⟩ := h
    split at h
    · simp at h
    · have := mem_gen_len a d _ _ x h
      simp at this
      omega
/-- The numbers of a part list. -/
theorem mem_gen_in (a : List Int) : ∀ (d : Nat) (l : List Int) (m : Nat) (x : List Int), x ∈ gen a d l m → (∀ y ∈ l, -1 ≤ y ∧ y < m) → ∃ m', m ≤ m' ∧ m' ≤ m + d ∧ (∀ y ∈ x, -1 ≤ y ∧ y < (m' : Nat)) ∧ fits a x m' = true
  | 0, l, m, x, h, hl => by
    rw [gen] at h
    split at h
    · next hf => simp at h; subst h; exact ⟨m, Nat.le_refl _, by omega, hl, hf⟩
    · simp at h
  | d + 1, l, m, x, h, hl => by
    rw [gen, List.mem_flatMap] at h
    obtain ⟨e, he, h⟩ := h
    simp only [List.mem_range'_1] at he
    split at h
    · simp at h
    · obtain ⟨m', h1, h2, h3⟩ := mem_gen_in a d _ _ x h (fun y hy => by
        rcases List.mem_append.mp hy with hy | hy
        · have := hl y hy
          split <;> omega
        · simp at hy
          subst hy
          split <;> omega)
      exact ⟨m', by split at h1 <;> omega, by split at h2 <;> omega, h3⟩
theorem gen_length (a : List Int) : ∀ (d : Nat) (l : List Int) (m : Nat), m + d ≤ 9 → (gen a d l m).length ≤ 11 ^ d
  | 0, l, m, h => by
    rw [gen]
    split <;> simp
  | d + 1, l, m, h => by
    have key : ∀ (c e : Nat), ((List.range' e c).flatMap fun e : Nat => if (places l ((e : Int) - 1)).length = 3 ∧ 0 < e then [] else gen a d (l ++ [(e : Int) - 1]) (if e = m + 1 then m + 1 else m)).length ≤ c * 11 ^ d := by
      intro c
      induction c with
      | zero => intro e; simp
      | succ c ih =>
        intro e
        rw [List.range'_succ, List.flatMap_cons, List.length_append, Nat.add_mul, Nat.one_mul, Nat.add_comm]
        have h1 := ih (e + 1)
        have h2 : (if (places l ((e : Int) - 1)).length = 3 ∧ 0 < e then [] else gen a d (l ++ [(e : Int) - 1]) (if e = m + 1 then m + 1 else m)).length ≤ 11 ^ d := by
          split
          · simp
          · exact gen_length a d _ _ (by split <;> omega)
        omega
    have := key (m + 2) 0
    rw [gen]
    refine Nat.le_trans this ?_
    rw [Nat.pow_succ, Nat.mul_comm]
    exact Nat.mul_le_mul_left _ (by omega)
theorem pow11 {d : Nat} (h : d ≤ 9) : 11 ^ d ≤ 2357947691 := Nat.le_trans (Nat.pow_le_pow_right (by omega) h) (by decide)
theorem count_l (l : List Int) (t : Int) (hl : l.length ≤ 1000) : ∀ (d k i : Nat) (c : Nat), i + d = l.length → d + 1 ≤ k → c ≤ i →
    impl_countOf.l0 k t (c : Int) l (l.length : Int) (i : Int) = some ((c + (pf l t d i).length : Nat) : Int) := by
  intro d
  induction d with
  | zero =>
    intro k i c hi hk hc
    obtain ⟨m, rfl⟩ : ∃ m, k = m + 1 := ⟨k - 1, by omega⟩
    rw [impl_countOf.l0, if_neg (by omega)]
    simp [pf]
  | succ d ih =>
    intro k i c hi hk hc
    obtain ⟨m, rfl⟩ : ∃ m, k = m + 1 := ⟨k - 1, by omega⟩
    rw [impl_countOf.l0, if_pos (by omega), if_pos (by omega), if_pos (by omega), wrap_nat (n := i) (by omega), pf]
    split
    · rw [wrap_nat (by omega), ih m (i + 1) (c + 1) (by omega) (by omega) (by omega)]
      simp only [List.length_cons]
      congr 2
      omega
    · rw [ih m (i + 1) c (by omega) (by omega) (by omega)]
theorem count_tells (l : List Int) (t : Int) (hl : l.length ≤ 1000) (k : Nat) (hk : l.length + 1 ≤ k) : impl_countOf.f k l t = some ((places l t).length : Int) := by
  have := count_l l t hl l.length k 0 0 (by omega) hk (by omega)
  unfold impl_countOf.f places
  simpa using this
theorem stick_three (x y z : Int) (hx : 1 ≤ x ∧ x ≤ 60) (hy : 1 ≤ y ∧ y ≤ 60) (hz : 1 ≤ z ∧ z ≤ 60) (k : Nat) (hk : 4 ≤ k) : impl_StickThree.f k x y z = some (tri x y z) := by
  unfold impl_StickThree.f tri
  rw [impl_ruler [x, y, z] (by simp) k (by simpa using hk), decide_eq_true (show isRuler [x, y, z] from ⟨by intro w hw; simp at hw; rcases hw with rfl | rfl | rfl <;> assumption, by simp, by simp⟩)]
  simp only [Option.bind_some]
  rw [if_pos trivial, show wrap64 (y + z) = y + z by unfold wrap64; omega, show wrap64 (x + z) = x + z by unfold wrap64; omega, show wrap64 (x + y) = x + y by unfold wrap64; omega]
  by_cases h1 : x < y + z
  · rw [if_pos h1, decide_eq_true h1]
    by_cases h2 : y < x + z
    · rw [if_pos h2, decide_eq_true h2]
      rfl
    · rw [if_neg h2, decide_eq_false h2]
      rfl
  · rw [if_neg h1, decide_eq_false h1]
    rfl
theorem sel_in {a l : List Int} {t : Int} (ha : ∀ x ∈ a, 1 ≤ x ∧ x ≤ 60) (hl : l.length ≤ a.length) : ∀ x ∈ selOf a l t, 1 ≤ x ∧ x ≤ 60 := by
  intro x hx
  simp only [selOf, List.mem_map] at hx
  obtain ⟨j, hj, rfl⟩ := hx
  have := places_lt hj
  rw [rd_at (show j < a.length by omega)]
  exact ha _ (List.getElem_mem _)
theorem fit_l1 (a l : List Int) (t : Nat) (m : Int) (ha : ∀ x ∈ a, 1 ≤ x ∧ x ≤ 60) (hl : l.length = a.length) (h9 : a.length ≤ 9) : ∀ (d k i : Nat) (acc : List Int), i + d = l.length → d + 5 ≤ k → acc.length ≤ i → (∀ x ∈ acc, 1 ≤ x ∧ x ≤ 60) →
    ∃ k', k' + d + 1 = k ∧ impl_partsFit.l1 k a l (t : Int) acc m (t : Int) l (l.length : Int) (i : Int) = if three (acc ++ (pf l (t : Int) d i).map (fun j : Nat => rd a (j : Int))) = true then impl_partsFit.l0 k' a l m (wrap64 ((t : Int) + 1)) else some false := by
  intro d
  induction d with
  | zero =>
    intro k i acc hi hk hc hacc
    obtain ⟨k', rfl⟩ : ∃ m, k = m + 1 := ⟨k - 1, by omega⟩
    refine ⟨k', by omega, ?_⟩
    rw [impl_partsFit.l1, if_neg (by omega)]
    simp only [pf, List.map_nil, List.append_nil]
    by_cases h3 : (acc.length : Int) = 3
    · rw [if_pos h3, if_pos (by omega), if_pos (by omega), if_pos (by omega)]
      match acc, h3, hacc with
      | [x, y, z], _, hacc =>
        have e0 : rd [x, y, z] 0 = x := rfl
        have e1 : rd [x, y, z] 1 = y := rfl
        have e2 : rd [x, y, z] 2 = z := rfl
        rw [e0, e1, e2, stick_three x y z (hacc x (by simp)) (hacc y (by simp)) (hacc z (by simp)) k' (by omega)]
        rfl
    · rw [if_neg h3, if_neg]
      match acc, h3 with
      | [], _ => simp [three]
      | [x], _ => simp [three]
      | [x, y], _ => simp [three]
      | [x, y, z], h3 => simp at h3
      | x :: y :: z :: w :: r, _ => simp [three]
  | succ d ih =>
    intro k i acc hi hk hc hacc
    obtain ⟨q, rfl⟩ : ∃ m, k = m + 1 := ⟨k - 1, by omega⟩
    rw [impl_partsFit.l1, if_pos (by omega), if_pos (by omega), if_pos (by omega), wrap_nat (n := i) (by omega), pf]
    have hia : i < a.length := by omega
    split
    · rw [if_pos (by omega), if_pos (by omega)]
      obtain ⟨k', h1, h2⟩ := ih q (i + 1) (acc ++ [rd a (i : Int)]) (by omega) (by omega) (by simp; omega) (fun x hx => by
        rcases List.mem_append.mp hx with hx | hx
        · exact hacc x hx
        · simp at hx
          subst hx
          rw [rd_at hia]
          exact ha _ (List.getElem_mem hia))
      refine ⟨k', by omega, ?_⟩
      rw [h2]
      simp
    · obtain ⟨k', h1, h2⟩ := ih q (i + 1) acc (by omega) (by omega) (by omega) hacc
      exact ⟨k', by omega, h2⟩
theorem fit_arith {d q k' n : Nat} (hk : 20 * (d + 1) + 20 ≤ q + 1) (h1 : k' + n + 1 = q) (h9 : n ≤ 9) : 20 * d + 20 ≤ k' := by omega
theorem fit_l0 (a l : List Int) (m : Nat) (ha : ∀ x ∈ a, 1 ≤ x ∧ x ≤ 60) (hl : l.length = a.length) (h9 : a.length ≤ 9) (hm : m ≤ 9) : ∀ (d k t : Nat), t + d = m → 20 * d + 20 ≤ k →
    impl_partsFit.l0 k a l (m : Int) (t : Int) = some ((List.range' t d).all fun t => three (selOf a l (t : Int))) := by
  intro d
  induction d with
  | zero =>
    intro k t ht hk
    obtain ⟨q, rfl⟩ : ∃ m, k = m + 1 := ⟨k - 1, by omega⟩
    rw [impl_partsFit.l0, if_neg (by omega)]
    rfl
  | succ d ih =>
    intro k t ht hk
    obtain ⟨q, rfl⟩ : ∃ m, k = m + 1 := ⟨k - 1, by omega⟩
    have b1 : l.length + 5 ≤ q := by omega
    have ht' : t + 1 + d = m := by omega
    have hw := wrap_nat (n := t) (by omega)
    have hlt : (t : Int) < (m : Int) := by omega
    obtain ⟨k', h1, h2⟩ := fit_l1 a l t (m : Int) ha hl h9 l.length q 0 [] (Nat.zero_add _) b1 (Nat.le_refl _) (fun _ h => by cases h)
    have hk' : 20 * d + 20 ≤ k' := fit_arith hk h1 (hl ▸ h9)
    rw [impl_partsFit.l0, if_pos hlt]
    rw [show ((0 : Nat) : Int) = 0 from rfl] at h2
    rw [h2, List.nil_append, List.range'_succ, List.all_cons]
    have e : (pf l (t : Int) l.length 0).map (fun j : Nat => rd a (j : Int)) = selOf a l (t : Int) := rfl
    rw [e]
    cases h : three (selOf a l (t : Int)) with
    | true =>
      rw [if_pos rfl, hw, ih k' (t + 1) ht' hk']
      simp
    | false => rw [if_neg (by decide)]; simp
theorem fit_tells (a l : List Int) (m : Nat) (ha : ∀ x ∈ a, 1 ≤ x ∧ x ≤ 60) (hl : l.length = a.length) (h9 : a.length ≤ 9) (hm : m ≤ 9) (k : Nat) (hk : 300 ≤ k) : impl_partsFit.f k a l (m : Int) = some (fits a l m) := by
  have := fit_l0 a l m ha hl h9 hm m k 0 (by omega) (by omega)
  unfold impl_partsFit.f fits
  rw [show ((0 : Nat) : Int) = 0 from rfl] at this
  rw [this, List.range_eq_range']
def branch (a : List Int) (d : Nat) (l : List Int) (m e : Nat) : List (List Int) := if (places l ((e : Int) - 1)).length = 3 ∧ 0 < e then [] else gen a d (l ++ [(e : Int) - 1]) (if e = m + 1 then m + 1 else m)
theorem parts_run {S : Type} (a : List Int) (ha : ∀ x ∈ a, 1 ≤ x ∧ x ≤ 60) (h9 : a.length ≤ 9) (stp : S → List Int → S) : ∀ (d : Nat) (l : List Int) (m : Nat), l.length + d = a.length → m ≤ l.length →
    ∃ K, ∀ k, K ≤ k → ∀ (step : S → List Int → Option S) (s : S), (∀ s xs, xs ∈ gen a d l m → step s xs = some (stp s xs)) → impl_parts.t step k 0 a l (m : Int) 0 s = some ((gen a d l m).foldl stp s)
  | 0, l, m, hd, hm => by
    refine ⟨301, fun k hk step s hs => ?_⟩
    obtain ⟨q, rfl⟩ : ∃ m, k = m + 1 := ⟨k - 1, by omega⟩
    rw [impl_parts.t0, if_pos (by omega), fit_tells a l m ha (by omega) h9 (by omega) q (by omega)]
    simp only [Option.bind_some]
    rw [gen] at hs ⊢
    cases h : fits a l m with
    | true =>
      rw [h, if_pos rfl] at hs
      rw [if_pos rfl, if_pos rfl, hs s l (by simp)]
      rfl
    | false => rw [if_neg (by decide), if_neg (by decide)]; rfl
  | d + 1, l, m, hd, hm => by
    have loop : ∀ (c e : Nat), e + c = m + 2 → ∃ K, ∀ k, K ≤ k → ∀ (step : S → List Int → Option S) (s : S), (∀ s xs, xs ∈ (List.range' e c).flatMap (branch a d l m) → step s xs = some (stp s xs)) →
        impl_parts.t step k 1 a l (m : Int) ((e : Int) - 1) s = some (((List.range' e c).flatMap (branch a d l m)).foldl stp s) := by
      intro c
      induction c with
      | zero =>
        intro e he
        refine ⟨1, fun k hk step s hs => ?_⟩
        obtain ⟨q, rfl⟩ : ∃ m, k = m + 1 := ⟨k - 1, by omega⟩
        rw [impl_parts.t1, if_neg (by omega)]
        rfl
      | succ c ih =>
        intro e he
        obtain ⟨K1, h1⟩ := ih (e + 1) (by omega)
        obtain ⟨K2, h2⟩ := parts_run a ha h9 stp d (l ++ [(e : Int) - 1]) (if e = m + 1 then m + 1 else m) (by simp; omega) (by simp; split <;> omega)
        refine ⟨K1 + K2 + 1100, fun k hk step s hs => ?_⟩
        obtain ⟨q, rfl⟩ : ∃ m, k = m + 2 := ⟨k - 2, by omega⟩
        rw [List.range'_succ, List.flatMap_cons] at hs ⊢
        rw [List.foldl_append]
        have hw : wrap64 ((e : Int) - 1 + 1) = ((e + 1 : Nat) : Int) - 1 := by unfold wrap64; omega
        have g1 := fun q hq s => h1 q hq step s (fun s xs hx => hs s xs (List.mem_append_right _ hx))
        have body : ¬ ((places l ((e : Int) - 1)).length = 3 ∧ 0 < e) → impl_parts.t step (q + 1) 2 a l (m : Int) ((e : Int) - 1) s = some (((List.range' (e + 1) c).flatMap (branch a d l m)).foldl stp ((branch a d l m e).foldl stp s)) := by
          intro hb
          have e2 : branch a d l m e = gen a d (l ++ [(e : Int) - 1]) (if e = m + 1 then m + 1 else m) := by unfold branch; rw [if_neg hb]
          have g2 := h2 q (by omega) step s (fun s xs hx => hs s xs (List.mem_append_left _ (by rw [e2]; exact hx)))
          rw [impl_parts.t2 step q 0, if_pos (by omega), hw]
          by_cases hem : e = m + 1
          · rw [if_pos (by omega), show wrap64 ((m : Int) + 1) = ((m + 1 : Nat) : Int) by unfold wrap64; omega]
            rw [if_pos hem] at g2
            rw [g2]
            simp only [Option.bind_some]
            rw [g1 q (by omega), e2, if_pos hem]
          · rw [if_neg (by omega)]
            rw [if_neg hem] at g2
            rw [g2]
            simp only [Option.bind_some]
            rw [g1 q (by omega), e2, if_neg hem]
        rw [impl_parts.t1 step (q + 1), if_pos (by omega)]
        by_cases h0 : 0 < e
        · rw [if_pos (by omega), count_tells l _ (by omega) (q + 1) (by omega)]
          simp only [Option.bind_some]
          by_cases hc : (places l ((e : Int) - 1)).length = 3
          · rw [if_pos (by omega), hw, g1 (q + 1) (by omega)]
            have e2 : branch a d l m e = [] := by unfold branch; rw [if_pos ⟨hc, h0⟩]
            rw [e2]
            rfl
          · rw [if_neg (by omega)]
            exact body (fun x => hc x.1)
        · rw [if_neg (by omega)]
          exact body (fun x => h0 x.2)
    obtain ⟨K, h⟩ := loop (m + 2) 0 (by omega)
    refine ⟨K + 1, fun k hk step s hs => ?_⟩
    obtain ⟨q, rfl⟩ : ∃ m, k = m + 1 := ⟨k - 1, by omega⟩
    rw [impl_parts.t0, if_neg (by omega)]
    have := h q (by omega) step s hs
    rw [show ((0 : Nat) : Int) - 1 = -1 from rfl] at this
    exact this
theorem parts_tells {S : Type} (a : List Int) (hr : isRuler a) (stp : S → List Int → S) : ∃ K, ∀ k, K ≤ k → ∀ (step : S → List Int → Option S) (s : S), (∀ s xs, xs ∈ genAll a → step s xs = some (stp s xs)) → impl_parts.f step k a s = some ((genAll a).foldl stp s) := by
  obtain ⟨K, h⟩ := parts_run a hr.1 hr.2.2 stp a.length [] 0 (by simp) (by simp)
  refine ⟨K, fun k hk step s hs => ?_⟩
  unfold impl_parts.f
  rw [if_pos (by have := hr.2.2; omega)]
  exact h k hk step s hs
/-- No three that is full is wrong. -/
def Good (a l : List Int) (m : Nat) : Prop := ∀ t : Nat, t < m → (places l (t : Int)).length = 3 → three (selOf a l (t : Int)) = true
theorem selOf_app (a l : List Int) (x t : Int) : selOf a (l ++ [x]) t = selOf a l t ++ if x = t then [rd a (l.length : Int)] else [] := by
  unfold selOf
  rw [places_app, List.map_append]
  split <;> rfl
theorem selOf_len (a l : List Int) (t : Int) : (selOf a l t).length = (places l t).length := by simp [selOf]
theorem gen_bad (a : List Int) : ∀ (d : Nat) (l : List Int) (m t : Nat), t < m → (places l (t : Int)).length = 3 → three (selOf a l (t : Int)) = false → gen a d l m = []
  | 0, l, m, t, ht, h3, hb => by
    rw [gen, if_neg]
    intro h
    rw [fits_iff] at h
    rw [h t ht] at hb
    cases hb
  | d + 1, l, m, t, ht, h3, hb => by
    rw [gen, List.flatMap_eq_nil_iff]
    intro e he
    split
    · rfl
    · next hs =>
      have hne : ¬ ((e : Int) - 1 = (t : Int)) := by
        intro h
        refine hs ⟨by rw [h]; exact h3, by omega⟩
      refine gen_bad a d _ _ t (by split <;> omega) ?_ ?_
      · rw [places_app, if_neg hne, List.append_nil]
        exact h3
      · rw [selOf_app, if_neg hne, List.append_nil]
        exact hb
theorem sel_two (a l : List Int) (t : Int) (ha : ∀ x ∈ a, 1 ≤ x ∧ x ≤ 60) (hl : l.length < a.length) (_h9 : a.length ≤ 9) (h : (places l t).length = 2) :
    ∃ p0 p1 : Nat, places l t = [p0, p1] ∧ p0 < a.length ∧ p1 < a.length ∧ selOf a l t ++ [rd a (l.length : Int)] = [rd a p0, rd a p1, rd a (l.length : Int)] ∧ (1 ≤ rd a p0 ∧ rd a p0 ≤ 60) ∧ (1 ≤ rd a p1 ∧ rd a p1 ≤ 60) ∧ (1 ≤ rd a (l.length : Int) ∧ rd a (l.length : Int) ≤ 60) := by
  match hp : places l t, h with
  | [p0, p1], _ =>
    have h0 : p0 < l.length := places_lt (t := t) (by rw [hp]; simp)
    have h1 : p1 < l.length := places_lt (t := t) (by rw [hp]; simp)
    have key : ∀ j : Nat, j < a.length → 1 ≤ rd a (j : Int) ∧ rd a (j : Int) ≤ 60 := fun j hj => by
      rw [rd_at hj]
      exact ha _ (List.getElem_mem hj)
    refine ⟨p0, p1, rfl, by omega, by omega, ?_, key p0 (by omega), key p1 (by omega), key l.length (by omega)⟩
    unfold selOf
    rw [hp]
    rfl
theorem three_len {xs : List Int} (h : three xs = true) : xs.length = 3 := by
  match xs, h with
  | [x, y, z], _ => rfl
/-! ### how many threes -/
def thr (xs : List Int) : Int := xs.foldl (fun n x => mx n (x + 1)) 0
theorem mx_le (a b : Int) : a ≤ mx a b ∧ b ≤ mx a b ∧ (mx a b = a ∨ mx a b = b) := by
  unfold mx
  split <;> omega
theorem foldl_mx_ge : ∀ (xs : List Int) (n : Int), n ≤ xs.foldl (fun n x => mx n (x + 1)) n
  | [], n => Int.le_refl _
  | x :: xs, n => by
    have := foldl_mx_ge xs (mx n (x + 1))
    have := mx_le n (x + 1)
    rw [List.foldl_cons]
    omega
theorem thr_nonneg (xs : List Int) : 0 ≤ thr xs := foldl_mx_ge xs 0
theorem thr_shift : ∀ (xs : List Int) (y : Int), xs.foldl (fun n x => mx n (x + 1)) (y + 1) = xs.foldl mx y + 1
  | [], y => rfl
  | x :: xs, y => by
    rw [List.foldl_cons, List.foldl_cons, ← thr_shift xs (mx y x)]
    congr 1
    unfold mx
    split <;> split <;> omega
theorem thr_max (x : Int) (xs : List Int) (h : -1 ≤ x) : thr (x :: xs) = xs.foldl mx x + 1 := by
  unfold thr
  rw [List.foldl_cons, ← thr_shift, show mx 0 (x + 1) = x + 1 by unfold mx; split <;> omega]
theorem foldl_mx_in : ∀ (xs : List Int) (y B : Int), y ≤ B → (∀ x ∈ xs, x ≤ B) → xs.foldl mx y ≤ B
  | [], y, B, h, _ => h
  | x :: xs, y, B, h, hx => by
    rw [List.foldl_cons]
    refine foldl_mx_in xs _ B ?_ (fun z hz => hx z (List.mem_cons_of_mem _ hz))
    have := mx_le y x
    have := hx x List.mem_cons_self
    omega
theorem foldl_mx_le : ∀ (xs : List Int) (y : Int), y ≤ xs.foldl mx y
  | [], y => Int.le_refl _
  | x :: xs, y => by
    have := foldl_mx_le xs (mx y x)
    have := mx_le y x
    rw [List.foldl_cons]
    omega
theorem mem_all_in {a x : List Int} (h9 : a.length ≤ 9) (h : x ∈ genAll a) : x.length = a.length ∧ ∀ y ∈ x, -1 ≤ y ∧ y ≤ 8 := by
  have h1 := mem_gen_len a _ _ _ x h
  obtain ⟨m', h2, h3, h4, _⟩ := mem_gen_in a _ _ _ x h (by simp)
  refine ⟨by simpa using h1, fun y hy => ?_⟩
  have := h4 y hy
  omega
theorem gen_ne (a : List Int) : ∀ (d n : Nat), gen a d (List.replicate n (-1)) 0 ≠ []
  | 0, n => by
    rw [gen, if_pos (by rw [fits_iff]; intro t ht; omega)]
    simp
  | d + 1, n => by
    rw [gen]
    intro h
    rw [List.flatMap_eq_nil_iff] at h
    have := h 0 (by simp)
    rw [if_neg (by omega), if_neg (by omega)] at this
    refine gen_ne a d (n + 1) ?_
    rw [List.replicate_succ']
    exact this
theorem genAll_ne (a : List Int) : genAll a ≠ [] := gen_ne a a.length 0
theorem imax_l (xs : List Int) (hl : xs.length ≤ 1000) : ∀ (d k i : Nat) (n : Int), i + d = xs.length → d + 1 ≤ k → slices_Max_int_int.l0 k xs n (i : Int) = some ((xs.drop i).foldl mx n) := by
  intro d
  induction d with
  | zero =>
    intro k i n hi hk
    obtain ⟨m, rfl⟩ : ∃ m, k = m + 1 := ⟨k - 1, by omega⟩
    rw [slices_Max_int_int.l0, if_neg (by omega), List.drop_eq_nil_of_le (by omega)]
    rfl
  | succ d ih =>
    intro k i n hi hk
    obtain ⟨m, rfl⟩ : ∃ m, k = m + 1 := ⟨k - 1, by omega⟩
    have hil : i < xs.length := by omega
    rw [slices_Max_int_int.l0, if_pos (by omega), if_pos (by omega), rd_at hil, wrap_nat (by omega), ih m (i + 1) _ (by omega) (by omega), List.drop_eq_getElem_cons hil]
    rfl
theorem imax_tells (x : Int) (xs : List Int) (hl : xs.length ≤ 900) (k : Nat) (hk : xs.length + 2 ≤ k) : slices_Max_int_int.f k (x :: xs) = some (xs.foldl mx x) := by
  have := imax_l (x :: xs) (by simp; omega) xs.length k 1 x (by simp; omega) (by omega)
  unfold slices_Max_int_int.f
  rw [if_pos (by simp)]
  exact this
/-- What the program takes for the number of threes. -/
theorem imax_thr (xs : List Int) (h1 : 1 ≤ xs.length) (hl : xs.length ≤ 900) (hx : ∀ y ∈ xs, -1 ≤ y ∧ y ≤ 8) (k : Nat) (hk : xs.length + 2 ≤ k) : ∃ M, slices_Max_int_int.f k xs = some M ∧ wrap64 (M + 1) = thr xs ∧ -1 ≤ M ∧ M ≤ 8 := by
  match xs, h1, hl, hx, hk with
  | x :: r, _, hl, hx, hk =>
    have h0 := hx x List.mem_cons_self
    refine ⟨_, imax_tells x r (by simp at hl; omega) k (by simp at hk; omega), ?_, ?_, ?_⟩
    · have h2 := foldl_mx_in r x 8 (by omega) (fun z hz => (hx z (List.mem_cons_of_mem _ hz)).2)
      have h3 := foldl_mx_le r x
      rw [thr_max x r (by omega)]
      unfold wrap64
      omega
    · have h3 := foldl_mx_le r x
      omega
    · exact foldl_mx_in r x 8 (by omega) (fun z hz => (hx z (List.mem_cons_of_mem _ hz)).2)
def mostOf (l : List Int) : Int × Bool := if isBundle l then ((genAll l).foldl (fun s x => mx s (thr x)) 0, true) else (0, false)
theorem most_impl (l : List Int) (hl : l.length ≤ 1048576) : ∃ K, ∀ k, K ≤ k → impl_PartMost.f k l = some (mostOf l) := by
  by_cases hb : isBundle l
  · obtain ⟨K, h⟩ := parts_tells l hb.1 (fun s x => mx s (thr x))
    refine ⟨K + l.length + 100, fun k hk => ?_⟩
    unfold impl_PartMost.f mostOf
    rw [impl_bundle l hl k (by omega), decide_eq_true hb, if_pos hb]
    simp only [Option.bind_some]
    rw [if_pos trivial, h k (by omega) (impl_PartMost.step k) 0 (fun s xs hx => ?_)]
    · rfl
    · have h9 := hb.1.2
      have hin := mem_all_in h9.2 hx
      obtain ⟨M, e1, e2, _⟩ := imax_thr xs (by omega) (by omega) hin.2 k (by omega)
      unfold impl_PartMost.step
      rw [e1]
      simp only [Option.bind_some]
      rw [e2]
  · refine ⟨l.length + 100, fun k hk => ?_⟩
    unfold impl_PartMost.f mostOf
    rw [impl_bundle l hl k (by omega), decide_eq_false hb, if_neg hb]
    simp only [Option.bind_some]
    rw [if_neg (by decide)]
/-! ### what a part list is -/
def rg : List Int → Nat → Option Nat
  | [], m => some m
  | x :: l, m => if -1 ≤ x ∧ x ≤ (m : Int) then rg l (if x = (m : Int) then m + 1 else m) else none
theorem rg_le : ∀ (l : List Int) (m m' : Nat), rg l m = some m' → m ≤ m' ∧ m' ≤ m + l.length
  | [], m, m', h => by
    rw [rg] at h
    injection h with h
    subst h
    exact ⟨Nat.le_refl _, by simp⟩
  | x :: l, m, m', h => by
    rw [rg] at h
    split at h
    · have := rg_le l _ m' h
      rw [List.length_cons]
      split at this <;> omega
    · cases h
theorem places_mono (t : Int) : ∀ (y l : List Int), (places l t).length ≤ (places (l ++ y) t).length
  | [], l => by rw [List.append_nil]; exact Nat.le_refl _
  | x :: y, l => by
    have h := places_mono t y (l ++ [x])
    rw [List.append_assoc, List.singleton_append] at h
    rw [places_app, List.length_append] at h
    omega
theorem gen_iff (a : List Int) : ∀ (d : Nat) (l : List Int) (m : Nat) (x : List Int), x ∈ gen a d l m ↔ ∃ y m', x = l ++ y ∧ y.length = d ∧ rg y m = some m' ∧ fits a x m' = true
  | 0, l, m, x => by
    rw [gen]
    constructor
    · intro h
      split at h
      · next hf =>
        rw [List.mem_singleton] at h
        subst h
        exact ⟨[], m, by simp, rfl, rfl, hf⟩
      · cases h
    · rintro ⟨y, m', rfl, h2, h3, h4⟩
      have : y = [] := List.length_eq_zero_iff.mp h2
      subst this
      rw [rg] at h3
      injection h3 with h3
      subst h3
      rw [List.append_nil] at h4 ⊢
      rw [if_pos h4]
      exact List.mem_singleton.mpr rfl
  | d + 1, l, m, x => by
    rw [gen, List.mem_flatMap]
    constructor
    · rintro ⟨e, he, h⟩
      rw [List.mem_range'_1] at he
      split at h
      · cases h
      · obtain ⟨y, m', h1, h2, h3, h4⟩ := (gen_iff a d _ _ x).mp h
        refine ⟨((e : Int) - 1) :: y, m', by rw [h1, List.append_assoc]; rfl, by rw [List.length_cons, h2], ?_, h4⟩
        rw [rg, if_pos (by omega), ← h3]
        congr 1
        split <;> split <;> omega
    · rintro ⟨y, m', h1, h2, h3, h4⟩
      match y, h1, h2, h3 with
      | z :: y, h1, h2, h3 =>
        rw [rg] at h3
        split at h3
        · next hz =>
          obtain ⟨e, rfl⟩ : ∃ e : Nat, z = (e : Int) - 1 := ⟨(z + 1).toNat, by omega⟩
          refine ⟨e, by rw [List.mem_range'_1]; omega, ?_⟩
          have hle := rg_le _ _ _ h3
          rw [if_neg]
          · refine (gen_iff a d _ _ x).mpr ⟨y, m', by rw [h1, List.append_assoc]; rfl, by simpa using h2, ?_, h4⟩
            rw [← h3]
            congr 1
            split <;> split <;> omega
          · rintro ⟨q1, q2⟩
            rw [fits_iff] at h4
            have h5 := three_len (h4 (e - 1) (by split at hle <;> omega))
            rw [selOf_len, show ((e - 1 : Nat) : Int) = (e : Int) - 1 by omega, h1, show l ++ ((e : Int) - 1) :: y = (l ++ [(e : Int) - 1]) ++ y by rw [List.append_assoc]; rfl] at h5
            have h6 := places_mono ((e : Int) - 1) y (l ++ [(e : Int) - 1])
            rw [places_app, if_pos rfl, List.length_append, List.length_singleton] at h6
            omega
        · cases h3
theorem all_iff (a x : List Int) : x ∈ genAll a ↔ x.length = a.length ∧ ∃ m, rg x 0 = some m ∧ fits a x m = true := by
  unfold genAll
  rw [gen_iff]
  constructor
  · rintro ⟨y, m, rfl, h2, h3, h4⟩
    exact ⟨h2, m, h3, h4⟩
  · rintro ⟨h2, m, h3, h4⟩
    exact ⟨x, m, rfl, h2, h3, h4⟩
/-- How many sticks are in the first classes. -/
def inN (x : List Int) : Nat → Nat
  | 0 => 0
  | m + 1 => inN x m + (places x (m : Int)).length
theorem inN_app (x : List Int) (y : Int) : ∀ m, inN (x ++ [y]) m = inN x m + if 0 ≤ y ∧ y < m then 1 else 0
  | 0 => by rw [inN, inN, if_neg (by omega)]
  | m + 1 => by
    rw [inN, inN, inN_app x y m, places_app, List.length_append]
    by_cases h : y = (m : Int)
    · rw [if_pos h, if_neg (by omega), if_pos (by omega)]
      simp only [List.length_singleton]
      omega
    · rw [if_neg h]
      simp only [List.length_nil]
      by_cases h2 : 0 ≤ y ∧ y < (m : Int)
      · rw [if_pos h2, if_pos (by omega)]
        omega
      · rw [if_neg h2, if_neg (by omega)]
        omega
theorem inN_nil : ∀ m, inN [] m = 0
  | 0 => rfl
  | m + 1 => by rw [inN, inN_nil m]; rfl
theorem inN_le (m : Nat) : ∀ (n : Nat) (x : List Int), x.length = n → inN x m ≤ n
  | 0, x, h => by rw [List.length_eq_zero_iff.mp h, inN_nil]; exact Nat.le_refl _
  | n + 1, x, h => by
    rcases List.eq_nil_or_concat x with rfl | ⟨y, z, rfl⟩
    · simp at h
    · rw [List.concat_eq_append] at h ⊢
      have := inN_le m n y (by simpa using h)
      rw [inN_app]
      split <;> omega
theorem inN_fits (a x : List Int) : ∀ m, fits a x m = true → inN x m = 3 * m
  | 0, _ => rfl
  | m + 1, h => by
    rw [fits_iff] at h
    have h1 := inN_fits a x m (fits_iff.mpr fun t ht => h t (by omega))
    have h2 := three_len (h m (by omega))
    rw [selOf_len] at h2
    rw [inN, h1, h2]
    omega
def noNeg (x : List Int) : Bool := decide ((-1 : Int) ∉ x)
theorem rg_thr : ∀ (l : List Int) (m m' : Nat), rg l m = some m' → l.foldl (fun n x => mx n (x + 1)) (m : Int) = (m' : Int)
  | [], m, m', h => by
    rw [rg] at h
    injection h with h
    subst h
    rfl
  | x :: l, m, m', h => by
    rw [rg] at h
    split at h
    · next hx =>
      rw [List.foldl_cons, ← rg_thr l _ m' h]
      congr 1
      unfold mx
      split <;> split <;> omega
    · cases h
theorem rg_in (l : List Int) (m m' : Nat) (h : rg l m = some m') : ∀ y ∈ l, -1 ≤ y ∧ y < m' := by
  induction l generalizing m with
  | nil => intro y hy; cases hy
  | cons x l ih =>
    rw [rg] at h
    split at h
    · next hx =>
      have hle := rg_le _ _ _ h
      intro y hy
      rcases List.mem_cons.mp hy with rfl | hy
      · split at hle <;> omega
      · exact ih _ h y hy
    · cases h
theorem thr_third {a xs : List Int} (hxs : xs ∈ genAll a) : ∃ m, rg xs 0 = some m ∧ fits a xs m = true ∧ thr xs = (m : Int) ∧ 3 * m ≤ a.length := by
  obtain ⟨q1, m, hm, hf⟩ := (all_iff a xs).mp hxs
  have hthr : thr xs = (m : Int) := rg_thr xs 0 m hm
  have h3 := inN_fits a xs m hf
  have h4 := inN_le m xs.length xs rfl
  exact ⟨m, hm, hf, hthr, by omega⟩
theorem fold_ge {α : Type} (f : α → Int) : ∀ (ls : List α) (n : Int), n ≤ ls.foldl (fun s x => mx s (f x)) n ∧ ∀ x ∈ ls, f x ≤ ls.foldl (fun s x => mx s (f x)) n
  | [], n => ⟨Int.le_refl _, fun x hx => by cases hx⟩
  | z :: ls, n => by
    obtain ⟨h1, h2⟩ := fold_ge f ls (mx n (f z))
    have h3 := mx_le n (f z)
    rw [List.foldl_cons]
    refine ⟨by omega, fun x hx => ?_⟩
    rcases List.mem_cons.mp hx with rfl | hx
    · omega
    · exact h2 x hx
theorem fold_at {α : Type} (f : α → Int) : ∀ (ls : List α) (n : Int), ls.foldl (fun s x => mx s (f x)) n = n ∨ ∃ x ∈ ls, ls.foldl (fun s x => mx s (f x)) n = f x
  | [], n => .inl rfl
  | z :: ls, n => by
    rw [List.foldl_cons]
    have h3 := mx_le n (f z)
    rcases fold_at f ls (mx n (f z)) with h | ⟨x, hx, h⟩
    · rcases h3.2.2 with e | e
      · exact .inl (h.trans e)
      · exact .inr ⟨z, List.mem_cons_self, h.trans e⟩
    · exact .inr ⟨x, List.mem_cons_of_mem _ hx, h⟩
/-! ### spec.l1Sort: the same numbers -/
theorem sort_l1 (a out : List Int) (i : Int) (hl : out.length ≤ 1000) : ∀ (j k : Nat), j ≤ out.length → j + 1 ≤ k → ∃ j' : Nat, spec_l1Sort.l1 k a out i (j : Int) = some (j' : Int) ∧ j' ≤ j := by
  intro j
  induction j with
  | zero =>
    intro k h1 h2
    obtain ⟨m, rfl⟩ : ∃ m, k = m + 1 := ⟨k - 1, by omega⟩
    rw [spec_l1Sort.l1, if_neg (by omega)]
    exact ⟨0, rfl, Nat.le_refl _⟩
  | succ j ih =>
    intro k h1 h2
    obtain ⟨m, rfl⟩ : ∃ m, k = m + 1 := ⟨k - 1, by omega⟩
    rw [spec_l1Sort.l1, if_pos (by omega), show wrap64 (((j + 1 : Nat) : Int) - 1) = (j : Int) by unfold wrap64; omega, if_pos (by omega), if_pos (by omega)]
    split
    · obtain ⟨j', h3, h4⟩ := ih m (by omega) (by omega)
      exact ⟨j', h3, by omega⟩
    · exact ⟨j + 1, rfl, Nat.le_refl _⟩
theorem take_grow (a : List Int) (i : Nat) (h : i < a.length) : a.take (i + 1) = a.take i ++ [rd a (i : Int)] := by
  rw [List.take_succ_eq_append_getElem h]
  congr 2
  unfold rd
  rw [List.getD_eq_getElem?_getD, Int.toNat_natCast, List.getElem?_eq_getElem h]
  rfl
theorem sort_l0 (a : List Int) (hl : a.length ≤ 900) : ∀ (d k i : Nat) (out : List Int), i + d = a.length → out.length = i → a.length + d + 2 ≤ k → out.Perm (a.take i) → ∃ r, spec_l1Sort.l0 k a out (i : Int) = some r ∧ r.Perm a := by
  intro d
  induction d with
  | zero =>
    intro k i out h1 h2 h3 h4
    obtain ⟨m, rfl⟩ : ∃ m, k = m + 1 := ⟨k - 1, by omega⟩
    rw [spec_l1Sort.l0, if_neg (by omega)]
    exact ⟨out, rfl, by rw [List.take_of_length_le (by omega)] at h4; exact h4⟩
  | succ d ih =>
    intro k i out h1 h2 h3 h4
    obtain ⟨m, rfl⟩ : ∃ m, k = m + 1 := ⟨k - 1, by omega⟩
    rw [spec_l1Sort.l0, if_pos (by omega), if_pos (by omega)]
    obtain ⟨j, h5, h6⟩ := sort_l1 a out i (by omega) out.length m (Nat.le_refl _) (by omega)
    rw [h5]
    simp only [Option.bind_some]
    rw [if_pos (by omega), if_pos (by omega), if_pos (by omega), show wrap64 ((i : Int) + 1) = ((i + 1 : Nat) : Int) by unfold wrap64; omega]
    refine ih m (i + 1) _ (by omega) ?_ (by omega) ?_
    · rw [Int.toNat_natCast]
      simp only [List.length_append, List.length_take, List.length_drop, List.length_nil, List.length_cons]
      omega
    · rw [Int.toNat_natCast, List.nil_append, take_grow a i (by omega)]
      refine List.Perm.trans (List.perm_append_right_iff _ |>.mpr List.perm_append_comm) ?_
      rw [List.append_assoc, List.take_append_drop]
      exact List.perm_append_comm.trans (h4.append_right _)
theorem sort_tells (a : List Int) (hl : a.length ≤ 900) (k : Nat) (hk : 2 * a.length + 2 ≤ k) : ∃ r, spec_l1Sort.f k a = some r ∧ r.Perm a := by
  unfold spec_l1Sort.f
  exact sort_l0 a hl a.length k 0 [] (by omega) rfl (by omega) (by simp)
/-! ### spec.l1Sort sorts -/
theorem sorted_l1 (a out : List Int) (i : Int) (hl : out.length ≤ 1000) : ∀ (j k : Nat), j ≤ out.length → j + 1 ≤ k → (∀ t : Nat, j ≤ t → t < out.length → rd a i < rd out (t : Int)) → ∃ j' : Nat, spec_l1Sort.l1 k a out i (j : Int) = some (j' : Int) ∧ j' ≤ j ∧ (∀ t : Nat, j' ≤ t → t < out.length → rd a i < rd out (t : Int)) ∧ (0 < j' → rd out ((j' - 1 : Nat) : Int) ≤ rd a i) := by
  intro j
  induction j with
  | zero =>
    intro k h1 h2 h3
    obtain ⟨m, rfl⟩ : ∃ m, k = m + 1 := ⟨k - 1, by omega⟩
    rw [spec_l1Sort.l1, if_neg (by omega)]
    exact ⟨0, rfl, Nat.le_refl _, h3, fun h => absurd h (by omega)⟩
  | succ j ih =>
    intro k h1 h2 h3
    obtain ⟨m, rfl⟩ : ∃ m, k = m + 1 := ⟨k - 1, by omega⟩
    rw [spec_l1Sort.l1, if_pos (by omega), show wrap64 (((j + 1 : Nat) : Int) - 1) = (j : Int) by unfold wrap64; omega, if_pos (by omega), if_pos (by omega)]
    split
    · next hc =>
      obtain ⟨j', h4, h5, h6⟩ := ih m (by omega) (by omega) (fun t ht ht2 => by
        by_cases h : t = j
        · rw [h]
          exact hc
        · exact h3 t (by omega) ht2)
      exact ⟨j', h4, by omega, h6⟩
    · next hc => exact ⟨j + 1, rfl, Nat.le_refl _, h3, fun _ => by rw [Nat.add_sub_cancel]; omega⟩
def Asc (l : List Int) : Prop := l.Pairwise (· ≤ ·)
theorem asc_insert {out : List Int} {v : Int} {j : Nat} (hs : Asc out) (h1 : ∀ x ∈ out.take j, x ≤ v) (h2 : ∀ x ∈ out.drop j, v ≤ x) : Asc ((([] ++ out.take j) ++ [v]) ++ out.drop j) := by
  unfold Asc at hs ⊢
  rw [List.nil_append, List.append_assoc, List.pairwise_append]
  refine ⟨hs.sublist (List.take_sublist _ _), ?_, ?_⟩
  · rw [List.singleton_append, List.pairwise_cons]
    exact ⟨h2, hs.sublist (List.drop_sublist _ _)⟩
  · intro x hx y hy
    rw [List.singleton_append] at hy
    rcases List.mem_cons.mp hy with rfl | hy
    · exact h1 x hx
    · exact Int.le_trans (h1 x hx) (h2 y hy)
theorem asc_at {l : List Int} (h : Asc l) {i j : Nat} (hij : i < j) (hj : j < l.length) : rd l (i : Int) ≤ rd l (j : Int) := by
  rw [rd_at (by omega), rd_at hj]
  exact List.pairwise_iff_getElem.mp h i j (by omega) hj hij
theorem asc_asc {l : List Int} (h : Asc l) : asc l := fun j hj h0 => asc_at h (by omega) hj
theorem asc_of {l : List Int} (h : asc l) : Asc l := by
  refine List.pairwise_iff_getElem.mpr (fun i j hi hj hij => ?_)
  have key : ∀ (d i : Nat), i + d < l.length → rd l (i : Int) ≤ rd l ((i + d : Nat) : Int) := by
    intro d
    induction d with
    | zero => intro i _; exact Int.le_refl _
    | succ d ih =>
      intro i hd
      have h1 := ih i (by omega)
      have h2 := h (i + d + 1) (by omega) (by omega)
      rw [show i + d + 1 - 1 = i + d by omega] at h2
      rw [show i + (d + 1) = i + d + 1 by omega]
      omega
  have := key (j - i) i (by omega)
  rw [show i + (j - i) = j by omega, rd_at hi, rd_at hj] at this
  exact this
theorem sorted_l0 (a : List Int) (hl : a.length ≤ 900) : ∀ (d k i : Nat) (out : List Int), i + d = a.length → out.length = i → a.length + d + 2 ≤ k → out.Perm (a.take i) → Asc out → ∃ r, spec_l1Sort.l0 k a out (i : Int) = some r ∧ r.Perm a ∧ Asc r := by
  intro d
  induction d with
  | zero =>
    intro k i out h1 h2 h3 h4 hs
    obtain ⟨m, rfl⟩ : ∃ m, k = m + 1 := ⟨k - 1, by omega⟩
    rw [spec_l1Sort.l0, if_neg (by omega)]
    exact ⟨out, rfl, by rw [List.take_of_length_le (by omega)] at h4; exact h4, hs⟩
  | succ d ih =>
    intro k i out h1 h2 h3 h4 hs
    obtain ⟨m, rfl⟩ : ∃ m, k = m + 1 := ⟨k - 1, by omega⟩
    rw [spec_l1Sort.l0, if_pos (by omega), if_pos (by omega)]
    obtain ⟨j, h5, h6, h7, h8⟩ := sorted_l1 a out i (by omega) out.length m (Nat.le_refl _) (by omega) (fun t ht ht2 => by omega)
    rw [h5]
    simp only [Option.bind_some]
    rw [if_pos (by omega), if_pos (by omega), if_pos (by omega), show wrap64 ((i : Int) + 1) = ((i + 1 : Nat) : Int) by unfold wrap64; omega]
    refine ih m (i + 1) _ (by omega) ?_ (by omega) ?_ ?_
    · rw [Int.toNat_natCast]
      simp only [List.length_append, List.length_take, List.length_drop, List.length_nil, List.length_cons]
      omega
    · rw [Int.toNat_natCast, List.nil_append, take_grow a i (by omega)]
      refine List.Perm.trans (List.perm_append_right_iff _ |>.mpr List.perm_append_comm) ?_
      rw [List.append_assoc, List.take_append_drop]
      exact List.perm_append_comm.trans (h4.append_right _)
    · rw [Int.toNat_natCast]
      refine asc_insert hs (fun x hx => ?_) (fun x hx => ?_)
      · obtain ⟨t, ht, rfl⟩ := List.mem_iff_getElem.mp hx
        rw [List.length_take] at ht
        rw [List.getElem_take]
        have hj0 : 0 < j := by omega
        have h9 := h8 hj0
        have e : rd out (t : Int) = out[t] := rd_at (by omega)
        rw [← e]
        by_cases htj : t = j - 1
        · rw [htj]
          exact h9
        · exact Int.le_trans (asc_at hs (show t < j - 1 by omega) (by omega)) h9
      · obtain ⟨t, ht, rfl⟩ := List.mem_iff_getElem.mp hx
        rw [List.length_drop] at ht
        rw [List.getElem_drop]
        have := h7 (j + t) (by omega) (by omega)
        rw [rd_at (show j + t < out.length by omega)] at this
        omega
def sortL (a : List Int) : List Int := a.mergeSort (fun x y => decide (x ≤ y))
theorem sortL_perm (a : List Int) : (sortL a).Perm a := List.mergeSort_perm _ _
theorem sortL_asc (a : List Int) : Asc (sortL a) := by
  have h := List.pairwise_mergeSort (le := fun (x y : Int) => decide (x ≤ y)) (fun x y z h1 h2 => by
    rw [decide_eq_true_eq] at *
    omega) (fun x y => by
    rw [Bool.or_eq_true, decide_eq_true_eq, decide_eq_true_eq]
    omega) a
  exact h.imp (fun h => of_decide_eq_true h)
theorem asc_one {l r : List Int} (hp : l.Perm r) (h1 : Asc l) (h2 : Asc r) : l = r :=
  List.Perm.eq_of_pairwise (le := fun (x y : Int) => x ≤ y) (fun x y _ _ h1 h2 => Int.le_antisymm h1 h2) h1 h2 hp
theorem sort_eq (a : List Int) (hl : a.length ≤ 900) (k : Nat) (hk : 2 * a.length + 2 ≤ k) : spec_l1Sort.f k a = some (sortL a) := by
  unfold spec_l1Sort.f
  obtain ⟨r, h1, h2, h3⟩ := sorted_l0 a hl a.length k 0 [] (by omega) rfl (by omega) (by simp) List.Pairwise.nil
  have h1 : spec_l1Sort.l0 k a [] 0 = some r := h1
  rw [h1, asc_one (h2.trans (sortL_perm a).symm) h3 (sortL_asc a)]
theorem ruler_perm {l r : List Int} (hp : l.Perm r) (h : isRuler l) : isRuler r := ⟨fun x hx => h.1 x (hp.mem_iff.mpr hx), by rw [← hp.length_eq]; exact h.2.1, by rw [← hp.length_eq]; exact h.2.2⟩
def sortOf (a : List Int) : List Int × Bool := if isRuler a then (sortL a, true) else ([], false)
theorem sort_bundle {a : List Int} (h : isRuler a) : isBundle (sortL a) := ⟨ruler_perm (sortL_perm a).symm h, asc_asc (sortL_asc a)⟩
theorem sort_go (a : List Int) (hl : a.length ≤ 1048576) (k : Nat) (hk : a.length + 10 ≤ k) : impl_StickSort.f k a = some (sortOf a) := by
  unfold impl_StickSort.f sortOf
  rw [impl_ruler a hl k (by omega), Option.bind_some]
  by_cases hr : isRuler a
  · have h9 := hr.2.2
    have h1 := hr.2.1
    rw [decide_eq_true hr, if_pos rfl, if_pos hr]
    unfold slices_Clone_int_int.f
    rw [if_pos (by omega), if_pos (by omega), Option.bind_some, List.nil_append]
    rfl
  · rw [decide_eq_false hr, if_neg (by decide), if_neg hr]
/-! ### the reader of draws -/
theorem wrap_id {x : Int} (h0 : -9223372036854775808 ≤ x) (h1 : x ≤ 9223372036854775807) : wrap64 x = x := by unfold wrap64; omega
theorem wf_u8 {l : List Int} (h : ∀ x ∈ l, (Lit.int .u8 x).wf = true) : ∀ x ∈ l, 0 ≤ x ∧ x ≤ 255 := by
  intro x hx
  have := h x hx
  simp [Lit.wf, IntKind.min, IntKind.max, IntKind.bits, IntKind.signed] at this
  omega
theorem rd_u8 {b : List Int} (hb : ∀ x ∈ b, 0 ≤ x ∧ x ≤ 255) (i : Int) (h0 : 0 ≤ i) (h1 : i < b.length) : 0 ≤ rd b i ∧ rd b i ≤ 255 := by
  have hl : i.toNat < b.length := by omega
  have : rd b i = b[i.toNat] := by
    unfold rd
    rw [List.getD_eq_getElem?_getD, List.getElem?_eq_getElem hl]
    rfl
  rw [this]
  exact hb _ (List.getElem_mem hl)
theorem xor_i64 (a b : Nat) (ha : a < 4611686018427387904) (hb : b < 4611686018427387904) : Go.bits .xor .i64 (a : Int) (b : Int) = ((a ^^^ b : Nat) : Int) := by
  have hx : a ^^^ b < 2 ^ 62 := Nat.xor_lt_two_pow (by omega) (by omega)
  have h1 : (BitVec.ofInt 64 (a : Int)).toNat = a := by
    rw [BitVec.ofInt_natCast, BitVec.toNat_ofNat]; exact Nat.mod_eq_of_lt (by omega)
  have h2 : (BitVec.ofInt 64 (b : Int)).toNat = b := by
    rw [BitVec.ofInt_natCast, BitVec.toNat_ofNat]; exact Nat.mod_eq_of_lt (by omega)
  show IntKind.i64.wrap ((BitVec.ofInt 64 (a : Int) ^^^ BitVec.ofInt 64 (b : Int)).toNat : Int) = _
  rw [BitVec.toNat_xor, h1, h2]
  generalize a ^^^ b = c at hx
  simp [IntKind.wrap, IntKind.bits, IntKind.signed]
  omega
theorem tmod_in {x n : Int} (hx : 0 ≤ x) (hn : 1 ≤ n) : 0 ≤ Int.tmod x n ∧ Int.tmod x n < n := by
  rw [Int.tmod_eq_emod_of_nonneg hx]
  exact ⟨Int.emod_nonneg _ (by omega), Int.emod_lt_of_pos _ (by omega)⟩
theorem tdiv_in {x n : Int} (hx : 0 ≤ x) (hn : 1 ≤ n) : 0 ≤ Int.tdiv x n ∧ Int.tdiv x n ≤ x := by
  rw [Int.tdiv_eq_ediv_of_nonneg hx]
  exact ⟨Int.ediv_nonneg hx (by omega), Int.ediv_le_self _ hx⟩
theorem pick_tells (b : List Int) (hb : ∀ x ∈ b, 0 ≤ x ∧ x ≤ 255) (hl : b.length ≤ 2000) (p n : Int) (hp : 0 ≤ p) (hp2 : p ≤ 1000000) (hn : 1 ≤ n) (hn2 : n ≤ 1000000) (k : Nat) (hk : 1 ≤ k) :
    ∃ r, spec_l6Rd_pick.f k b p n = some (r, p + 1) ∧ 0 ≤ r ∧ r < n := by
  obtain ⟨m, rfl⟩ : ∃ m, k = m + 1 := ⟨k - 1, by omega⟩
  unfold spec_l6Rd_pick.f
  have e0 : wrap64 (p + 1) = p + 1 := wrap_id (by omega) (by omega)
  have e1 : wrap64 (p + 1 - 1) = p := by rw [show p + 1 - 1 = p by omega]; exact wrap_id (by omega) (by omega)
  rw [if_neg (by omega), spec_l6Rd_pick.j0, e0, e1]
  by_cases hz : b.length = 0
  · rw [if_pos (by simp [hz])]
    exact ⟨0, rfl, by omega, by omega⟩
  · have hz2 : ((b.length : Int) == 0) = false := by rw [beq_eq_false_iff_ne]; omega
    rw [hz2, if_neg (by decide)]
    by_cases h : p < b.length
    · rw [if_pos h, if_pos hp, if_neg (by omega)]
      have hr := rd_u8 hb p hp h
      rw [wrap_id (x := rd b p) (by omega) (by omega)]
      exact ⟨_, rfl, tmod_in hr.1 hn⟩
    · rw [if_neg h, if_neg (by omega)]
      have hlen : (1 : Int) ≤ b.length := by omega
      have q1 := tmod_in hp hlen
      have e7 : wrap64 (p * 7) = p * 7 := wrap_id (by omega) (by omega)
      have e8 : wrap64 (p * 7 + 3) = p * 7 + 3 := wrap_id (by omega) (by omega)
      rw [e7, e8]
      have q2 := tmod_in (show (0 : Int) ≤ p * 7 + 3 by omega) hlen
      rw [if_pos q1.1, if_pos q1.2, if_pos q2.1, if_pos q2.2, if_neg (by omega)]
      have r1 := rd_u8 hb _ q1.1 q1.2
      have r2 := rd_u8 hb _ q2.1 q2.2
      have q3 := tdiv_in hp hlen
      generalize rd b (Int.tmod p b.length) = x1 at r1
      generalize rd b (Int.tmod (p * 7 + 3) b.length) = x2 at r2
      generalize Int.tdiv p b.length = x3 at q3
      rw [wrap_id (x := x1) (by omega) (by omega), wrap_id (x := x2) (by omega) (by omega), wrap_id (x := x3) (by omega) (by omega), wrap_id (x := x1 * 131) (by omega) (by omega), wrap_id (x := x2 * 1117) (by omega) (by omega),
        wrap_id (x := x1 * 131 + x2 * 1117) (by omega) (by omega), wrap_id (x := p * 29) (by omega) (by omega), wrap_id (x := x1 * 131 + x2 * 1117 + p * 29) (by omega) (by omega), wrap_id (x := x3 * 53) (by omega) (by omega),
        wrap_id (x := x1 * 131 + x2 * 1117 + p * 29 + x3 * 53) (by omega) (by omega)]
      obtain ⟨X, hX⟩ : ∃ X : Nat, x1 * 131 + x2 * 1117 + p * 29 + x3 * 53 = X := ⟨(x1 * 131 + x2 * 1117 + p * 29 + x3 * 53).toNat, by omega⟩
      rw [hX]
      have hXb : X < 1000000000 := by omega
      have q4 := tdiv_in (show (0 : Int) ≤ (X : Int) by omega) (show (1 : Int) ≤ 64 by omega)
      rw [wrap_id (x := Int.tdiv X 64) (by omega) (by omega)]
      obtain ⟨Y, hY⟩ : ∃ Y : Nat, Int.tdiv X 64 = Y := ⟨(Int.tdiv X 64).toNat, by omega⟩
      rw [hY, xor_i64 X Y (by omega) (by omega)]
      exact ⟨_, rfl, tmod_in (by omega) hn⟩
/-- The bytes that the reader takes. -/
theorem open_tells (l : List Int) (h : ∀ x ∈ l, 0 ≤ x ∧ x ≤ 255) : ∃ b, spec_l6Open.f l = some (b, 0) ∧ b.length ≤ 2000 ∧ ∀ x ∈ b, 0 ≤ x ∧ x ≤ 255 := by
  unfold spec_l6Open.f
  by_cases hl : (l.length : Int) > 2000
  · rw [if_pos hl, if_pos (by omega)]
    exact ⟨_, rfl, by rw [List.length_take]; omega, fun x hx => h x (List.mem_of_mem_take hx)⟩
  · rw [if_neg hl]
    exact ⟨_, rfl, by omega, h⟩
/-! ### a ruler that is drawn -/
theorem length_tells (b : List Int) (hb : ∀ x ∈ b, 0 ≤ x ∧ x ≤ 255) (hl : b.length ≤ 2000) (p : Int) (hp : 0 ≤ p) (hp2 : p ≤ 900000) (k : Nat) (hk : 1 ≤ k) :
    ∃ r q, spec_l91Length.f k b p = some (r, q) ∧ p ≤ q ∧ q ≤ p + 3 := by
  unfold spec_l91Length.f
  obtain ⟨r1, h1, _⟩ := pick_tells b hb hl p 12 hp (by omega) (by omega) (by omega) k hk
  obtain ⟨r2, h2, _⟩ := pick_tells b hb hl (p + 1) 6 (by omega) (by omega) (by omega) (by omega) k hk
  obtain ⟨r3, h3, _⟩ := pick_tells b hb hl (p + 1 + 1) 48 (by omega) (by omega) (by omega) (by omega) k hk
  rw [h1]
  simp only [Option.bind_some]
  rw [h2]
  simp only [Option.bind_some]
  rw [h3]
  simp only [Option.bind_some]
  exact ⟨_, _, rfl, by omega, by omega⟩
theorem ruler_draw_l (b : List Int) (hb : ∀ x ∈ b, 0 ≤ x ∧ x ≤ 255) (hl : b.length ≤ 2000) (n : Nat) (hn : 1 ≤ n) (hn9 : n ≤ 12) : ∀ (d k i : Nat) (out : List Int) (p : Int), i + d = n → d + 2 ≤ k → out.length = i → 0 ≤ p → p ≤ 1000 + 3 * i →
    ∃ a q, spec_l91Ruler.l0 k out (n : Int) (i : Int) b p = some (a, q) ∧ a.length = n ∧ 0 ≤ q ∧ q ≤ 1003 + 3 * n := by
  intro d
  induction d with
  | zero =>
    intro k i out p hi hk ho hp hp2
    obtain ⟨m, rfl⟩ : ∃ m, k = m + 1 := ⟨k - 1, by omega⟩
    rw [spec_l91Ruler.l0, if_neg (by omega)]
    obtain ⟨r1, h1, _⟩ := pick_tells b hb hl p 30 hp (by omega) (by omega) (by omega) m (by omega)
    rw [h1]
    simp only [Option.bind_some]
    split
    · obtain ⟨r2, h2, g1, g2⟩ := pick_tells b hb hl (p + 1) n (by omega) (by omega) (by omega) (by omega) m (by omega)
      obtain ⟨r3, h3, _⟩ := pick_tells b hb hl (p + 1 + 1) 2 (by omega) (by omega) (by omega) (by omega) m (by omega)
      rw [h2]
      simp only [Option.bind_some]
      rw [h3]
      simp only [Option.bind_some]
      rw [if_pos g1, if_pos (by omega)]
      exact ⟨_, _, rfl, by rw [List.length_set]; omega, by omega, by omega⟩
    · exact ⟨_, _, rfl, by omega, by omega, by omega⟩
  | succ d ih =>
    intro k i out p hi hk ho hp hp2
    obtain ⟨m, rfl⟩ : ∃ m, k = m + 1 := ⟨k - 1, by omega⟩
    rw [spec_l91Ruler.l0, if_pos (by omega)]
    obtain ⟨r, q, h1, h2, h3⟩ := length_tells b hb hl p hp (by omega) m (by omega)
    rw [h1]
    simp only [Option.bind_some]
    rw [if_pos (by omega), wrap_nat (by omega)]
    exact ih m (i + 1) _ q (by omega) (by omega) (by rw [List.length_append]; simp; omega) (by omega) (by omega)
theorem ruler_draw (b : List Int) (hb : ∀ x ∈ b, 0 ≤ x ∧ x ≤ 255) (hl : b.length ≤ 2000) (k : Nat) (hk : 20 ≤ k) :
    ∃ a q, spec_l91Ruler.f k b 0 8 = some (a, q) ∧ a.length ≤ 8 ∧ 0 ≤ q ∧ q ≤ 1100 := by
  unfold spec_l91Ruler.f
  obtain ⟨r, h, g1, g2⟩ := pick_tells b hb hl 0 8 (by omega) (by omega) (by omega) (by omega) k (by omega)
  rw [h]
  simp only [Option.bind_some]
  obtain ⟨n, hn⟩ : ∃ n : Nat, r = n := ⟨r.toNat, by omega⟩
  subst hn
  rw [show wrap64 (1 + (n : Int)) = ((n + 1 : Nat) : Int) by unfold wrap64; omega]
  obtain ⟨a, q, h1, h2, h3, h4⟩ := ruler_draw_l b hb hl (n + 1) (by omega) (by omega) (n + 1) k 0 [] (0 + 1) (by omega) (by omega) rfl (by omega) (by omega)
  exact ⟨a, q, h1, by omega, h3, by omega⟩
theorem same_l (l : List Int) (hl : l.length ≤ 1000) : ∀ (d k i : Nat), i + d = l.length → d + 1 ≤ k → laws_sameInts.l0 k l l (i : Int) = some true := by
  intro d
  induction d with
  | zero =>
    intro k i hi hk
    obtain ⟨m, rfl⟩ : ∃ m, k = m + 1 := ⟨k - 1, by omega⟩
    rw [laws_sameInts.l0, if_neg (by omega)]
  | succ d ih =>
    intro k i hi hk
    obtain ⟨m, rfl⟩ : ∃ m, k = m + 1 := ⟨k - 1, by omega⟩
    rw [laws_sameInts.l0, if_pos (by omega), if_pos (by omega), if_pos (by omega), if_pos rfl, wrap_nat (by omega)]
    exact ih m (i + 1) (by omega) (by omega)
theorem same_tells (l : List Int) (hl : l.length ≤ 1000) (k : Nat) (hk : l.length + 1 ≤ k) : laws_sameInts.f k l l = some true := by
  unfold laws_sameInts.f
  rw [if_pos rfl]
  exact same_l l hl l.length k 0 (by omega) (by omega)
theorem sort_spec (a : List Int) (hl : a.length ≤ 900) (k : Nat) (hk : 2 * a.length + 20 ≤ k) : spec_StickSort.f k a = some (sortOf a) := by
  unfold spec_StickSort.f sortOf
  by_cases h9 : (a.length : Int) > 9
  · rw [if_pos h9, if_neg (fun h => by have := h.2.2; omega)]
  · rw [if_neg h9, sort_eq a hl k (by omega), Option.bind_some]
    unfold spec_l1Done.f
    have hle := (sortL_perm a).length_eq
    rw [spec_bundle (sortL a) (by omega) k (by omega), Option.bind_some]
    by_cases hr : isRuler a
    · rw [decide_eq_true (sort_bundle hr), if_pos rfl, if_pos hr, Option.bind_some]
    · rw [decide_eq_false (fun h => hr (ruler_perm (sortL_perm a) h.1)), if_neg (by decide), if_neg hr, Option.bind_some]
theorem drawsort_tells (l : List Int) (hb : ∀ x ∈ l, 0 ≤ x ∧ x ≤ 255) : ∃ a, (∀ k, 60 ≤ k → spec_DrawStickSort.f k l = some a) ∧ a.length ≤ 12 := by
  obtain ⟨a, h, h10⟩ : ∃ a, spec_DrawStickSort.f 60 l = some a ∧ a.length ≤ 12 := by
    unfold spec_DrawStickSort.f
    obtain ⟨b, h1, h2, h3⟩ := open_tells l hb
    rw [h1]
    simp only [Option.bind_some]
    unfold spec_l91Ruler.f
    obtain ⟨r, h, g1, g2⟩ := pick_tells b h3 h2 0 10 (by omega) (by omega) (by omega) (by omega) 60 (by omega)
    rw [h]
    simp only [Option.bind_some]
    obtain ⟨n, hn⟩ : ∃ n : Nat, r = n := ⟨r.toNat, by omega⟩
    subst hn
    rw [show wrap64 (1 + (n : Int)) = ((n + 1 : Nat) : Int) by unfold wrap64; omega]
    obtain ⟨a, q, e1, e2, e3, e4⟩ := ruler_draw_l b h3 h2 (n + 1) (by omega) (by omega) (n + 1) 60 0 [] (0 + 1) (by omega) (by omega) rfl (by omega) (by omega)
    have e1 : spec_l91Ruler.l0 60 [] ((n + 1 : Nat) : Int) 0 b (0 + 1) = some (a, q) := e1
    rw [e1, Option.bind_some]
    exact ⟨a, rfl, by omega⟩
  exact ⟨a, fun k hk => at_rounds (fun k => spec_DrawStickSort.mono l k) hk h, h10⟩
theorem most_third {x : List Int} (hb : isBundle x) : ∃ m : Nat, mostOf x = ((m : Int), true) ∧ 3 * m ≤ x.length := by
  unfold mostOf
  rw [if_pos hb]
  rcases fold_at thr (genAll x) 0 with e | ⟨y, hy, e⟩
  · exact ⟨0, by rw [e]; rfl, by omega⟩
  · obtain ⟨m, _, _, h1, h2⟩ := thr_third hy
    exact ⟨m, by rw [e, h1], h2⟩
theorem ps_ar {m n : Nat} (h : 3 * m ≤ n) (hn : n ≤ 9) : wrap64 (3 * (m : Int)) ≤ (n : Int) ∧ (m : Int) ≥ 0 := by unfold wrap64; omega
theorem ps_law (a : List Int) (h12 : a.length ≤ 12) : ∃ K, ∀ k, K ≤ k → laws_FnPartSort.j0 (k + 1) a (sortOf a).1 (sortOf a).2 (sortOf a).1 (sortOf a).2 (!(sortOf a).2) = some true := by
  by_cases hr : isRuler a
  · have e1 : sortOf a = (sortL a, true) := by unfold sortOf; rw [if_pos hr]
    have hb := sort_bundle hr
    have hle := (sortL_perm a).length_eq
    obtain ⟨K, g⟩ := most_impl (sortL a) (by omega)
    obtain ⟨m, q1, q2⟩ := most_third hb
    obtain ⟨p1, p2⟩ := ps_ar (by rw [← hle]; exact q2) hr.2.2
    refine ⟨K, fun k hk => ?_⟩
    rw [e1]
    show laws_FnPartSort.j0 (k + 1) a (sortL a) true (sortL a) true false = some true
    rw [laws_FnPartSort.j0, if_neg (by decide), g k hk, Option.bind_some, q1]
    show (if (true = true) then (if wrap64 (3 * (m : Int)) ≤ (a.length : Int) then some (decide ((m : Int) ≥ 0)) else _) else _) = _
    rw [if_pos rfl, if_pos p1, decide_eq_true p2]
  · have e1 : sortOf a = ([], false) := by unfold sortOf; rw [if_neg hr]
    refine ⟨100, fun k hk => ?_⟩
    rw [e1]
    show laws_FnPartSort.j0 (k + 1) a [] false [] false true = some true
    rw [laws_FnPartSort.j0, if_pos rfl, if_pos (by decide), same_tells [] (by simp) k (by simp; omega), Option.bind_some]
theorem FnPartSort : laws_FnPartSort.Pure := by
  intro l h1 h2 h3
  by_cases hl : (l.length : Int) > 1048576
  · exact ⟨0, by unfold laws_FnPartSort.f; rw [if_pos hl]⟩
  · obtain ⟨a, p1, p2⟩ := drawsort_tells l (wf_u8 h3)
    obtain ⟨K, g⟩ := ps_law a p2
    have hs9 : (sortOf a).1.length ≤ 12 := by
      unfold sortOf
      split
      · have := (sortL_perm a).length_eq
        show (sortL a).length ≤ 12
        omega
      · exact Nat.zero_le _
    have g1 := sort_go a (by omega) (K + 100 + 1) (by omega)
    have g2 := sort_spec a (by omega) (K + 100 + 1) (by omega)
    have hs := same_tells (sortOf a).1 (by omega) (K + 100 + 1) (by omega)
    refine ⟨K + 100 + 1, ?_⟩
    unfold laws_FnPartSort.f
    rw [if_neg hl, p1 _ (by omega), Option.bind_some, g1, Option.bind_some, g2, Option.bind_some, if_neg (by simp), hs, Option.bind_some, if_pos rfl]
    exact g _ (by omega)

end Go.Proofs.Ythgphegpkjngaaa.Pure
