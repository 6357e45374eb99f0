/- The law FnPartMost, as a statement over plain numbers and lists, is proved: what the program's functions compute is what the reference's compute. -/
import Derived.Test.YthgphegpkjngaaaPFnPartMostx8
import Derived.Laws.Entries
namespace Go.Proofs.Ythgphegpkjngaaa.Pure
open Go.RowKit Go.Proofs.Ythgphegpkjngaaa.PFnPartMost Go.Proofs.YthgphegpkjngaaaW.PrintWords Go.Proofs.YthgphegpkjngaaaW.PrintLast
set_option linter.unusedVariables false
set_option linter.unusedSimpArgs false
/-! ### lists of whole numbers -/
theorem wrap_nat {n : Nat} (h : n < 4611686018427387904) : wrap64 ((n : Int) + 1) = ((n + 1 : Nat) : Int) := by unfold wrap64; omega
theorem rd_at {l : List Int} {i : Nat} (h : i < l.length) : rd l (i : Int) = l[i] := by
  unfold rd
  rw [Int.toNat_natCast, List.getD_eq_getElem?_getD, List.getElem?_eq_getElem h]
  rfl
theorem and_one (a : Nat) (ha : a < 4611686018427387904) : Go.bits .and .i64 (a : Int) 1 = ((a % 2 : Nat) : Int) := by
  have h1 : (BitVec.ofInt 64 (a : Int)).toNat = a := by
    rw [BitVec.ofInt_natCast, BitVec.toNat_ofNat]; exact Nat.mod_eq_of_lt (by omega)
  have h2 : (BitVec.ofInt 64 (1 : Int)).toNat = 1 := by decide
  show IntKind.i64.wrap ((BitVec.ofInt 64 (a : Int) &&& BitVec.ofInt 64 (1 : Int)).toNat : Int) = _
  rw [BitVec.toNat_and, h1, h2, Nat.and_one_is_mod]
  have : a % 2 < 2 := Nat.mod_lt _ (by omega)
  generalize a % 2 = c at this
  simp [IntKind.wrap, IntKind.bits, IntKind.signed]
  omega
theorem ite_same {α : Type} {p q : Prop} [Decidable p] [Decidable q] (h : p ↔ q) {a b : α} : (if p then a else b) = if q then a else b := by
  by_cases hq : q
  · rw [if_pos (h.mpr hq), if_pos hq]
  · rw [if_neg (fun x => hq (h.mp x)), if_neg hq]
/-! ### rulers -/
def isRuler (l : List Int) : Prop := (∀ x ∈ l, 1 ≤ x ∧ x ≤ 60) ∧ 1 ≤ l.length ∧ l.length ≤ 9
instance (l : List Int) : Decidable (isRuler l) := by unfold isRuler; infer_instance
theorem spec_in (a b c : Int) : spec_l6In.f a b c = some (decide (b ≤ a ∧ a ≤ c)) := by
  unfold spec_l6In.f
  by_cases h : a ≥ b
  · rw [if_pos h]
    congr 1
    exact decide_eq_decide.mpr ⟨fun x => ⟨h, x⟩, fun x => x.2⟩
  · rw [if_neg h, decide_eq_false (fun x => h x.1)]
theorem impl_ruler_l (l : List Int) (hl : l.length ≤ 1048576) : ∀ (d k i : Nat), i + d = l.length → d + 1 ≤ k →
    impl_isRuler.l0 k l l (l.length : Int) (i : Int) = some (decide ((∀ x ∈ l.drop i, 1 ≤ x ∧ x ≤ 60) ∧ 1 ≤ l.length ∧ l.length ≤ 9)) := by
  intro d
  induction d with
  | zero =>
    intro k i hi hk
    obtain ⟨m, rfl⟩ : ∃ m, k = m + 1 := ⟨k - 1, by omega⟩
    rw [impl_isRuler.l0, if_neg (by omega), List.drop_eq_nil_of_le (by omega)]
    simp only [List.not_mem_nil, false_implies, implies_true, true_and]
    split
    · congr 1
      exact decide_eq_decide.mpr ⟨fun x => by omega, fun x => by omega⟩
    · rw [decide_eq_false (by omega)]
  | succ d ih =>
    intro k i hi hk
    obtain ⟨m, rfl⟩ : ∃ m, k = m + 1 := ⟨k - 1, by omega⟩
    have hil : i < l.length := by omega
    rw [impl_isRuler.l0, if_pos (by omega), if_pos (by omega), if_pos (by omega), rd_at hil, wrap_nat (by omega), ih m (i + 1) (by omega) (by omega), List.drop_eq_getElem_cons hil]
    simp only [List.mem_cons, forall_eq_or_imp]
    split
    · next h => rw [decide_eq_false (fun x => by omega)]
    · next h =>
      split
      · next h => rw [decide_eq_false (fun x => by omega)]
      · next h1 => congr 1; exact decide_eq_decide.mpr ⟨fun x => ⟨⟨⟨by omega, by omega⟩, x.1⟩, x.2⟩, fun x => ⟨x.1.2, x.2⟩⟩
theorem impl_ruler (l : List Int) (hl : l.length ≤ 1048576) (k : Nat) (hk : l.length + 1 ≤ k) : impl_isRuler.f k l = some (decide (isRuler l)) :=
  impl_ruler_l l hl l.length k 0 (by omega) (by omega)
/-! ### bundles -/
def asc (l : List Int) : Prop := ∀ j : Nat, j < l.length → 0 < j → rd l ((j - 1 : Nat) : Int) ≤ rd l (j : Int)
instance (l : List Int) : Decidable (asc l) := by unfold asc; infer_instance
def isBundle (l : List Int) : Prop := isRuler l ∧ asc l
instance (l : List Int) : Decidable (isBundle l) := by unfold isBundle; infer_instance
theorem all_rd (l : List Int) (p : Int → Prop) : (∀ x ∈ l, p x) ↔ ∀ j : Nat, j < l.length → p (rd l (j : Int)) := by
  constructor
  · intro h j hj
    rw [rd_at hj]
    exact h _ (List.getElem_mem hj)
  · intro h x hx
    obtain ⟨j, hj, rfl⟩ := List.mem_iff_getElem.mp hx
    rw [← rd_at hj]
    exact h j hj
theorem wrap_pred {n : Nat} (h0 : 0 < n) (h : n < 4611686018427387904) : wrap64 ((n : Int) - 1) = ((n - 1 : Nat) : Int) := by unfold wrap64; omega
def l1Rest (l : List Int) (i : Nat) : Prop := (∀ j : Nat, j < l.length → i ≤ j → (1 ≤ rd l (j : Int) ∧ rd l (j : Int) ≤ 60) ∧ (0 < j → rd l ((j - 1 : Nat) : Int) ≤ rd l (j : Int))) ∧ 1 ≤ l.length ∧ l.length ≤ 9
instance (l : List Int) (i : Nat) : Decidable (l1Rest l i) := by unfold l1Rest; infer_instance
theorem l1Rest_step {l : List Int} {i : Nat} (h : i < l.length) : l1Rest l i ↔ ((1 ≤ rd l (i : Int) ∧ rd l (i : Int) ≤ 60) ∧ (0 < i → rd l ((i - 1 : Nat) : Int) ≤ rd l (i : Int))) ∧ l1Rest l (i + 1) := by
  unfold l1Rest
  constructor
  · rintro ⟨h1, h2⟩
    exact ⟨h1 i h (Nat.le_refl _), fun j hj hij => h1 j hj (by omega), h2⟩
  · rintro ⟨h1, h2, h3⟩
    refine ⟨fun j hj hij => ?_, h3⟩
    rcases Nat.lt_or_ge i j with h' | h'
    · exact h2 j hj h'
    · obtain rfl : i = j := by omega
      exact h1
theorem spec_bundle_l (l : List Int) (hl : l.length ≤ 1048576) : ∀ (d k i : Nat), i + d = l.length → d + 1 ≤ k → spec_l1Bundle.l0 k l (i : Int) = some (decide (l1Rest l i)) := by
  intro d
  induction d with
  | zero =>
    intro k i hi hk
    obtain ⟨m, rfl⟩ : ∃ m, k = m + 1 := ⟨k - 1, by omega⟩
    rw [spec_l1Bundle.l0, if_neg (by omega), spec_in]
    simp only [Option.bind_some]
    congr 1
    exact decide_eq_decide.mpr ⟨fun x => ⟨fun j hj hij => by omega, by omega⟩, fun x => by have := x.2; omega⟩
  | succ d ih =>
    intro k i hi hk
    obtain ⟨m, rfl⟩ : ∃ m, k = m + 1 := ⟨k - 1, by omega⟩
    have hil : i < l.length := by omega
    have st := l1Rest_step hil
    have ih := ih m (i + 1) (by omega) (by omega)
    rw [spec_l1Bundle.l0, if_pos (by omega), if_pos (by omega), spec_in, wrap_nat (by omega), ih]
    simp only [Option.bind_some, decide_eq_true_eq]
    by_cases h1 : 1 ≤ rd l (i : Int) ∧ rd l (i : Int) ≤ 60
    · rw [if_pos h1]
      by_cases h2 : 0 < i
      · rw [if_pos (by omega), wrap_pred h2 (by omega), if_pos (by omega), if_pos (by omega)]
        by_cases h3 : rd l (i : Int) < rd l ((i - 1 : Nat) : Int)
        · rw [if_pos h3, decide_eq_false (fun x => by have := (st.mp x).1.2 h2; omega)]
        · rw [if_neg h3]
          congr 1
          exact decide_eq_decide.mpr ⟨fun x => st.mpr ⟨⟨h1, fun _ => by omega⟩, x⟩, fun x => (st.mp x).2⟩
      · rw [if_neg (by omega)]
        congr 1
        exact decide_eq_decide.mpr ⟨fun x => st.mpr ⟨⟨h1, fun h => absurd h h2⟩, x⟩, fun x => (st.mp x).2⟩
    · rw [if_neg h1, decide_eq_false (fun x => h1 (st.mp x).1.1)]
theorem spec_bundle (l : List Int) (hl : l.length ≤ 1048576) (k : Nat) (hk : l.length + 1 ≤ k) : spec_l1Bundle.f k l = some (decide (isBundle l)) := by
  unfold spec_l1Bundle.f
  have := spec_bundle_l l hl l.length k 0 (by omega) hk
  rw [show ((0 : Nat) : Int) = 0 from rfl] at this
  rw [this]
  congr 1
  refine decide_eq_decide.mpr ?_
  unfold isBundle isRuler asc l1Rest
  rw [all_rd l (fun x => 1 ≤ x ∧ x ≤ 60)]
  exact ⟨fun x => ⟨⟨fun j hj => (x.1 j hj (by omega)).1, x.2⟩, fun j hj h0 => (x.1 j hj (by omega)).2 h0⟩, fun x => ⟨fun j hj _ => ⟨x.1.1 j hj, x.2 j hj⟩, x.1.2⟩⟩
theorem less_tells (a b : Int) : cmp_Less_int.f a b = some (decide (a < b)) := by
  unfold cmp_Less_int.f cmp_isNaN_int.f
  simp
theorem sorted_l (l : List Int) (hl : l.length ≤ 1048576) : ∀ (i k : Nat), i + 1 ≤ k → i < l.length → slices_IsSorted_int_int.l0 k l (i : Int) = some (decide (∀ j : Nat, j < i + 1 → 0 < j → rd l ((j - 1 : Nat) : Int) ≤ rd l (j : Int))) := by
  intro i
  induction i with
  | zero =>
    intro k hk hi
    obtain ⟨m, rfl⟩ : ∃ m, k = m + 1 := ⟨k - 1, by omega⟩
    rw [slices_IsSorted_int_int.l0, if_neg (by omega), decide_eq_true (fun j hj h0 => by omega)]
  | succ i ih =>
    intro k hk hi
    obtain ⟨m, rfl⟩ : ∃ m, k = m + 1 := ⟨k - 1, by omega⟩
    rw [slices_IsSorted_int_int.l0, if_pos (by omega), if_pos (by omega), if_pos (by omega), wrap_pred (by omega) (by omega), if_pos (by omega), if_pos (by omega), less_tells, show i + 1 - 1 = i from rfl, ih m (by omega) (by omega)]
    simp only [Option.bind_some, decide_eq_true_eq]
    by_cases h : rd l ((i + 1 : Nat) : Int) < rd l (i : Int)
    · rw [if_pos h, decide_eq_false (fun x => by have := x (i + 1) (by omega) (by omega); rw [show i + 1 - 1 = i from rfl] at this; omega)]
    · rw [if_neg h]
      congr 1
      refine decide_eq_decide.mpr ⟨fun x j hj h0 => ?_, fun x j hj h0 => x j (by omega) h0⟩
      rcases Nat.lt_or_ge j (i + 1) with h' | h'
      · exact x j h' h0
      · obtain rfl : j = i + 1 := by omega
        rw [show i + 1 - 1 = i from rfl]
        omega
theorem impl_bundle (l : List Int) (hl : l.length ≤ 1048576) (k : Nat) (hk : l.length + 1 ≤ k) : impl_StickIn.f k l = some (decide (isBundle l)) := by
  unfold impl_StickIn.f
  rw [impl_ruler l hl k hk]
  simp only [Option.bind_some, decide_eq_true_eq]
  by_cases h : isRuler l
  · have h1 := h.2.1
    rw [if_pos h]
    unfold slices_IsSorted_int_int.f
    rw [wrap_pred (by omega) (by omega), sorted_l l hl (l.length - 1) k (by omega) (by omega)]
    simp only [Option.bind_some]
    congr 1
    refine decide_eq_decide.mpr ?_
    rw [show l.length - 1 + 1 = l.length by omega]
    exact ⟨fun x => ⟨h, x⟩, fun x => x.2⟩
  · rw [if_neg h, decide_eq_false (fun x => h x.1)]
/-! ### part lists -/
def pf (l : List Int) (t : Int) : Nat → Nat → List Nat
  | 0, _ => []
  | d + 1, i => if rd l (i : Int) = t then i :: pf l t d (i + 1) else pf l t d (i + 1)
def places (l : List Int) (t : Int) : List Nat := pf l t l.length 0
theorem rd_app {l : List Int} {x : Int} {i : Nat} (h : i < l.length) : rd (l ++ [x]) (i : Int) = rd l (i : Int) := by
  rw [rd_at h, rd_at (by simp; omega), List.getElem_append_left h]
theorem rd_app_last (l : List Int) (x : Int) : rd (l ++ [x]) (l.length : Int) = x := by
  rw [rd_at (by simp)]
  simp
theorem pf_app (l : List Int) (x t : Int) : ∀ d i, i + d = l.length → pf (l ++ [x]) t (d + 1) i = pf l t d i ++ if x = t then [l.length] else []
  | 0, i, h => by
    have : i = l.length := by omega
    subst this
    simp only [pf]
    rw [rd_app_last]
    split <;> simp
  | d + 1, i, h => by
    rw [pf, rd_app (by omega), pf_app l x t d (i + 1) (by omega), pf]
    split <;> simp
theorem places_app (l : List Int) (x t : Int) : places (l ++ [x]) t = places l t ++ if x = t then [l.length] else [] := by
  have := pf_app l x t l.length 0 (by omega)
  unfold places
  rw [List.length_append]
  exact this
theorem pf_lt (l : List Int) (t : Int) : ∀ d i, i + d = l.length → ∀ j ∈ pf l t d i, j < l.length
  | 0, i, h, j, hj => by simp [pf] at hj
  | d + 1, i, h, j, hj => by
    rw [pf] at hj
    split at hj
    · rcases List.mem_cons.mp hj with rfl | hj
      · omega
      · exact pf_lt l t d (i + 1) (by omega) j hj
    · exact pf_lt l t d (i + 1) (by omega) j hj
theorem places_lt {l : List Int} {t : Int} {j : Nat} (h : j ∈ places l t) : j < l.length := pf_lt l t l.length 0 (by omega) j h
theorem pf_len (l : List Int) (t : Int) : ∀ d i, (pf l t d i).length ≤ d
  | 0, i => by simp [pf]
  | d + 1, i => by
    have := pf_len l t d (i + 1)
    rw [pf]
    split <;> simp <;> omega
def tri (x y z : Int) : Bool := decide (x < y + z) && (decide (y < x + z) && decide (z < x + y))
def three : List Int → Bool
  | [x, y, z] => tri x y z
  | _ => false
def selOf (a l : List Int) (t : Int) : List Int := (places l t).map fun j : Nat => rd a (j : Int)
def fits (a l : List Int) (m : Nat) : Bool := (List.range m).all fun t => three (selOf a l (t : Int))
/-- All part lists that begin so, in order. -/
def gen (a : List Int) : Nat → List Int → Nat → List (List Int)
  | 0, l, m => if fits a l m = true then [l] else []
  | d + 1, l, m => (List.range' 0 (m + 2)).flatMap fun e : Nat => if (places l ((e : Int) - 1)).length = 3 ∧ 0 < e then [] else gen a d (l ++ [(e : Int) - 1]) (if e = m + 1 then m + 1 else m)
def genAll (a : List Int) : List (List Int) := gen a a.length [] 0
theorem fits_iff {a l : List Int} {m : Nat} : fits a l m = true ↔ ∀ t, t < m → three (selOf a l (t : Int)) = true := by
  simp [fits, List.all_eq_true]
theorem mem_gen_len (a : List Int) : ∀ (d : Nat) (l : List Int) (m : Nat) (x : List Int), x ∈ gen a d l m → x.length = l.length + d
  | 0, l, m, x, h => by
    rw [gen] at h
    split at h
    · simp at h; subst h; rfl
    · simp at h
  | d + 1, l, m, x, h => by
    rw [gen, List.mem_flatMap] at h
    obtain ⟨e, he, h⟩ := h
    split at h
    · simp at h
    · have := mem_gen_len a d _ _ x h
      simp at this
      omega
/-- The numbers of a part list. -/
theorem mem_gen_in (a : List Int) : ∀ (d : Nat) (l : List Int) (m : Nat) (x : List Int), x ∈ gen a d l m → (∀ y ∈ l, -1 ≤ y ∧ y < m) → ∃ m', m ≤ m' ∧ m' ≤ m + d ∧ (∀ y ∈ x, -1 ≤ y ∧ y < (m' : Nat)) ∧ fits a x m' = true
  | 0, l, m, x, h, hl => by
    rw [gen] at h
    split at h
    · next hf => simp at h; subst h; exact ⟨m, Nat.le_refl _, by omega, hl, hf⟩
    · simp at h
  | d + 1, l, m, x, h, hl => by
    rw [gen, List.mem_flatMap] at h
    obtain ⟨e, he, h⟩ := h
    simp only [List.mem_range'_1] at he
    split at h
    · simp at h
    · obtain ⟨m', h1, h2, h3⟩ := mem_gen_in a d _ _ x h (fun y hy => by
        rcases List.mem_append.mp hy with hy | hy
        · have := hl y hy
          split <;> omega
        · simp at hy
          subst hy
          split <;> omega)
      exact ⟨m', by split at h1 <;> omega, by split at h2 <;> omega, h3⟩
theorem gen_length (a : List Int) : ∀ (d : Nat) (l : List Int) (m : Nat), m + d ≤ 9 → (gen a d l m).length ≤ 11 ^ d
  | 0, l, m, h => by
    rw [gen]
    split <;> simp
  | d + 1, l, m, h => by
    have key : ∀ (c e : Nat), ((List.range' e c).flatMap fun e : Nat => if (places l ((e : Int) - 1)).length = 3 ∧ 0 < e then [] else gen a d (l ++ [(e : Int) - 1]) (if e = m + 1 then m + 1 else m)).length ≤ c * 11 ^ d := by
      intro c
      induction c with
      | zero => intro e; simp
      | succ c ih =>
        intro e
        rw [List.range'_succ, List.flatMap_cons, List.length_append, Nat.add_mul, Nat.one_mul, Nat.add_comm]
        have h1 := ih (e + 1)
        have h2 : (if (places l ((e : Int) - 1)).length = 3 ∧ 0 < e then [] else gen a d (l ++ [(e : Int) - 1]) (if e = m + 1 then m + 1 else m)).length ≤ 11 ^ d := by
          split
          · simp
          · exact gen_length a d _ _ (by split <;> omega)
        omega
    have := key (m + 2) 0
    rw [gen]
    refine Nat.le_trans this ?_
    rw [Nat.pow_succ, Nat.mul_comm]
    exact Nat.mul_le_mul_left _ (by omega)
theorem pow11 {d : Nat} (h : d ≤ 9) : 11 ^ d ≤ 2357947691 := Nat.le_trans (Nat.pow_le_pow_right (by omega) h) (by decide)
theorem count_l (l : List Int) (t : Int) (hl : l.length ≤ 1000) : ∀ (d k i : Nat) (c : Nat), i + d = l.length → d + 1 ≤ k → c ≤ i →
    impl_countOf.l0 k t (c : Int) l (l.length : Int) (i : Int) = some ((c + (pf l t d i).length : Nat) : Int) := by
  intro d
  induction d with
  | zero =>
    intro k i c hi hk hc
    obtain ⟨m, rfl⟩ : ∃ m, k = m + 1 := ⟨k - 1, by omega⟩
    rw [impl_countOf.l0, if_neg (by omega)]
    simp [pf]
  | succ d ih =>
    intro k i c hi hk hc
    obtain ⟨m, rfl⟩ : ∃ m, k = m + 1 := ⟨k - 1, by omega⟩
    rw [impl_countOf.l0, if_pos (by omega), if_pos (by omega), if_pos (by omega), wrap_nat (n := i) (by omega), pf]
    split
    · rw [wrap_nat (by omega), ih m (i + 1) (c + 1) (by omega) (by omega) (by omega)]
      simp only [List.length_cons]
      congr 2
      omega
    · rw [ih m (i + 1) c (by omega) (by omega) (by omega)]
theorem count_tells (l : List Int) (t : Int) (hl : l.length ≤ 1000) (k : Nat) (hk : l.length + 1 ≤ k) : impl_countOf.f k l t = some ((places l t).length : Int) := by
  have := count_l l t hl l.length k 0 0 (by omega) hk (by omega)
  unfold impl_countOf.f places
  simpa using this
theorem stick_three (x y z : Int) (hx : 1 ≤ x ∧ x ≤ 60) (hy : 1 ≤ y ∧ y ≤ 60) (hz : 1 ≤ z ∧ z ≤ 60) (k : Nat) (hk : 4 ≤ k) : impl_StickThree.f k x y z = some (tri x y z) := by
  unfold impl_StickThree.f tri
  rw [impl_ruler [x, y, z] (by simp) k (by simpa using hk), decide_eq_true (show isRuler [x, y, z] from ⟨by intro w hw; simp at hw; rcases hw with rfl | rfl | rfl <;> assumption, by simp, by simp⟩)]
  simp only [Option.bind_some]
  rw [if_pos trivial, show wrap64 (y + z) = y + z by unfold wrap64; omega, show wrap64 (x + z) = x + z by unfold wrap64; omega, show wrap64 (x + y) = x + y by unfold wrap64; omega]
  by_cases h1 : x < y + z
  · rw [if_pos h1, decide_eq_true h1]
    by_cases h2 : y < x + z
    · rw [if_pos h2, decide_eq_true h2]
      rfl
    · rw [if_neg h2, decide_eq_false h2]
      rfl
  · rw [if_neg h1, decide_eq_false h1]
    rfl
theorem sel_in {a l : List Int} {t : Int} (ha : ∀ x ∈ a, 1 ≤ x ∧ x ≤ 60) (hl : l.length ≤ a.length) : ∀ x ∈ selOf a l t, 1 ≤ x ∧ x ≤ 60 := by
  intro x hx
  simp only [selOf, List.mem_map] at hx
  obtain ⟨j, hj, rfl⟩ := hx
  have := places_lt hj
  rw [rd_at (show j < a.length by omega)]
  exact ha _ (List.getElem_mem _)
theorem fit_l1 (a l : List Int) (t : Nat) (m : Int) (ha : ∀ x ∈ a, 1 ≤ x ∧ x ≤ 60) (hl : l.length = a.length) (h9 : a.length ≤ 9) : ∀ (d k i : Nat) (acc : List Int), i + d = l.length → d + 5 ≤ k → acc.length ≤ i → (∀ x ∈ acc, 1 ≤ x ∧ x ≤ 60) →
    ∃ k', k' + d + 1 = k ∧ impl_partsFit.l1 k a l (t : Int) acc m (t : Int) l (l.length : Int) (i : Int) = if three (acc ++ (pf l (t : Int) d i).map (fun j : Nat => rd a (j : Int))) = true then impl_partsFit.l0 k' a l m (wrap64 ((t : Int) + 1)) else some false := by
  intro d
  induction d with
  | zero =>
    intro k i acc hi hk hc hacc
    obtain ⟨k', rfl⟩ : ∃ m, k = m + 1 := ⟨k - 1, by omega⟩
    refine ⟨k', by omega, ?_⟩
    rw [impl_partsFit.l1, if_neg (by omega)]
    simp only [pf, List.map_nil, List.append_nil]
    by_cases h3 : (acc.length : Int) = 3
    · rw [if_pos h3, if_pos (by omega), if_pos (by omega), if_pos (by omega)]
      match acc, h3, hacc with
      | [x, y, z], _, hacc =>
        have e0 : rd [x, y, z] 0 = x := rfl
        have e1 : rd [x, y, z] 1 = y := rfl
        have e2 : rd [x, y, z] 2 = z := rfl
        rw [e0, e1, e2, stick_three x y z (hacc x (by simp)) (hacc y (by simp)) (hacc z (by simp)) k' (by omega)]
        rfl
    · rw [if_neg h3, if_neg]
      match acc, h3 with
      | [], _ => simp [three]
      | [x], _ => simp [three]
      | [x, y], _ => simp [three]
      | [x, y, z], h3 => simp at h3
      | x :: y :: z :: w :: r, _ => simp [three]
  | succ d ih =>
    intro k i acc hi hk hc hacc
    obtain ⟨q, rfl⟩ : ∃ m, k = m + 1 := ⟨k - 1, by omega⟩
    rw [impl_partsFit.l1, if_pos (by omega), if_pos (by omega), if_pos (by omega), wrap_nat (n := i) (by omega), pf]
    have hia : i < a.length := by omega
    split
    · rw [if_pos (by omega), if_pos (by omega)]
      obtain ⟨k', h1, h2⟩ := ih q (i + 1) (acc ++ [rd a (i : Int)]) (by omega) (by omega) (by simp; omega) (fun x hx => by
        rcases List.mem_append.mp hx with hx | hx
        · exact hacc x hx
        · simp at hx
          subst hx
          rw [rd_at hia]
          exact ha _ (List.getElem_mem hia))
      refine ⟨k', by omega, ?_⟩
      rw [h2]
      simp
    · obtain ⟨k', h1, h2⟩ := ih q (i + 1) acc (by omega) (by omega) (by omega) hacc
      exact ⟨k', by omega, h2⟩
theorem fit_arith {d q k' n : Nat} (hk : 20 * (d + 1) + 20 ≤ q + 1) (h1 : k' + n + 1 = q) (h9 : n ≤ 9) : 20 * d + 20 ≤ k' := by omega
theorem fit_l0 (a l : List Int) (m : Nat) (ha : ∀ x ∈ a, 1 ≤ x ∧ x ≤ 60) (hl : l.length = a.length) (h9 : a.length ≤ 9) (hm : m ≤ 9) : ∀ (d k t : Nat), t + d = m → 20 * d + 20 ≤ k →
    impl_partsFit.l0 k a l (m : Int) (t : Int) = some ((List.range' t d).all fun t => three (selOf a l (t : Int))) := by
  intro d
  induction d with
  | zero =>
    intro k t ht hk
    obtain ⟨q, rfl⟩ : ∃ m, k = m + 1 := ⟨k - 1, by omega⟩
    rw [impl_partsFit.l0, if_neg (by omega)]
    rfl
  | succ d ih =>
    intro k t ht hk
    obtain ⟨q, rfl⟩ : ∃ m, k = m + 1 := ⟨k - 1, by omega⟩
    have b1 : l.length + 5 ≤ q := by omega
    have ht' : t + 1 + d = m := by omega
    have hw := wrap_nat (n := t) (by omega)
    have hlt : (t : Int) < (m : Int) := by omega
    obtain ⟨k', h1, h2⟩ := fit_l1 a l t (m : Int) ha hl h9 l.length q 0 [] (Nat.zero_add _) b1 (Nat.le_refl _) (fun _ h => by cases h)
    have hk' : 20 * d + 20 ≤ k' := fit_arith hk h1 (hl ▸ h9)
    rw [impl_partsFit.l0, if_pos hlt]
    rw [show ((0 : Nat) : Int) = 0 from rfl] at h2
    rw [h2, List.nil_append, List.range'_succ, List.all_cons]
    have e : (pf l (t : Int) l.length 0).map (fun j : Nat => rd a (j : Int)) = selOf a l (t : Int) := rfl
    rw [e]
    cases h : three (selOf a l (t : Int)) with
    | true =>
      rw [if_pos rfl, hw, ih k' (t + 1) ht' hk']
      simp
    | false => rw [if_neg (by decide)]; simp
theorem fit_tells (a l : List Int) (m : Nat) (ha : ∀ x ∈ a, 1 ≤ x ∧ x ≤ 60) (hl : l.length = a.length) (h9 : a.length ≤ 9) (hm : m ≤ 9) (k : Nat) (hk : 300 ≤ k) : impl_partsFit.f k a l (m : Int) = some (fits a l m) := by
  have := fit_l0 a l m ha hl h9 hm m k 0 (by omega) (by omega)
  unfold impl_partsFit.f fits
  rw [show ((0 : Nat) : Int) = 0 from rfl] at this
  rw [this, List.range_eq_range']
def branch (a : List Int) (d : Nat) (l : List Int) (m e : Nat) : List (List Int) := if (places l ((e : Int) - 1)).length = 3 ∧ 0 < e then [] else gen a d (l ++ [(e : Int) - 1]) (if e = m + 1 then m + 1 else m)
theorem parts_run {S : Type} (a : List Int) (ha : ∀ x ∈ a, 1 ≤ x ∧ x ≤ 60) (h9 : a.length ≤ 9) (stp : S → List Int → S) : ∀ (d : Nat) (l : List Int) (m : Nat), l.length + d = a.length → m ≤ l.length →
    ∃ K, ∀ k, K ≤ k → ∀ (step : S → List Int → Option S) (s : S), (∀ s xs, xs ∈ gen a d l m → step s xs = some (stp s xs)) → impl_parts.t step k 0 a l (m : Int) 0 s = some ((gen a d l m).foldl stp s)
  | 0, l, m, hd, hm => by
    refine ⟨301, fun k hk step s hs => ?_⟩
    obtain ⟨q, rfl⟩ : ∃ m, k = m + 1 := ⟨k - 1, by omega⟩
    rw [impl_parts.t0, if_pos (by omega), fit_tells a l m ha (by omega) h9 (by omega) q (by omega)]
    simp only [Option.bind_some]
    rw [gen] at hs ⊢
    cases h : fits a l m with
    | true =>
      rw [h, if_pos rfl] at hs
      rw [if_pos rfl, if_pos rfl, hs s l (by simp)]
      rfl
    | false => rw [if_neg (by decide), if_neg (by decide)]; rfl
  | d + 1, l, m, hd, hm => by
    have loop : ∀ (c e : Nat), e + c = m + 2 → ∃ K, ∀ k, K ≤ k → ∀ (step : S → List Int → Option S) (s : S), (∀ s xs, xs ∈ (List.range' e c).flatMap (branch a d l m) → step s xs = some (stp s xs)) →
        impl_parts.t step k 1 a l (m : Int) ((e : Int) - 1) s = some (((List.range' e c).flatMap (branch a d l m)).foldl stp s) := by
      intro c
      induction c with
      | zero =>
        intro e he
        refine ⟨1, fun k hk step s hs => ?_⟩
        obtain ⟨q, rfl⟩ : ∃ m, k = m + 1 := ⟨k - 1, by omega⟩
        rw [impl_parts.t1, if_neg (by omega)]
        rfl
      | succ c ih =>
        intro e he
        obtain ⟨K1, h1⟩ := ih (e + 1) (by omega)
        obtain ⟨K2, h2⟩ := parts_run a ha h9 stp d (l ++ [(e : Int) - 1]) (if e = m + 1 then m + 1 else m) (by simp; omega) (by simp; split <;> omega)
        refine ⟨K1 + K2 + 1100, fun k hk step s hs => ?_⟩
        obtain ⟨q, rfl⟩ : ∃ m, k = m + 2 := ⟨k - 2, by omega⟩
        rw [List.range'_succ, List.flatMap_cons] at hs ⊢
        rw [List.foldl_append]
        have hw : wrap64 ((e : Int) - 1 + 1) = ((e + 1 : Nat) : Int) - 1 := by unfold wrap64; omega
        have g1 := fun q hq s => h1 q hq step s (fun s xs hx => hs s xs (List.mem_append_right _ hx))
        have body : ¬ ((places l ((e : Int) - 1)).length = 3 ∧ 0 < e) → impl_parts.t step (q + 1) 2 a l (m : Int) ((e : Int) - 1) s = some (((List.range' (e + 1) c).flatMap (branch a d l m)).foldl stp ((branch a d l m e).foldl stp s)) := by
          intro hb
          have e2 : branch a d l m e = gen a d (l ++ [(e : Int) - 1]) (if e = m + 1 then m + 1 else m) := by unfold branch; rw [if_neg hb]
          have g2 := h2 q (by omega) step s (fun s xs hx => hs s xs (List.mem_append_left _ (by rw [e2]; exact hx)))
          rw [impl_parts.t2 step q 0, if_pos (by omega), hw]
          by_cases hem : e = m + 1
          · rw [if_pos (by omega), show wrap64 ((m : Int) + 1) = ((m + 1 : Nat) : Int) by unfold wrap64; omega]
            rw [if_pos hem] at g2
            rw [g2]
            simp only [Option.bind_some]
            rw [g1 q (by omega), e2, if_pos hem]
          · rw [if_neg (by omega)]
            rw [if_neg hem] at g2
            rw [g2]
            simp only [Option.bind_some]
            rw [g1 q (by omega), e2, if_neg hem]
        rw [impl_parts.t1 step (q + 1), if_pos (by omega)]
        by_cases h0 : 0 < e
        · rw [if_pos (by omega), count_tells l _ (by omega) (q + 1) (by omega)]
          simp only [Option.bind_some]
          by_cases hc : (places l ((e : Int) - 1)).length = 3
          · rw [if_pos (by omega), hw, g1 (q + 1) (by omega)]
            have e2 : branch a d l m e = [] := by unfold branch; rw [if_pos ⟨hc, h0⟩]
            rw [e2]
            rfl
          · rw [if_neg (by omega)]
            exact body (fun x => hc x.1)
        · rw [if_neg (by omega)]
          exact body (fun x => h0 x.2)
    obtain ⟨K, h⟩ := loop (m + 2) 0 (by omega)
    refine ⟨K + 1, fun k hk step s hs => ?_⟩
    obtain ⟨q, rfl⟩ : ∃ m, k = m + 1 := ⟨k - 1, by omega⟩
    rw [impl_parts.t0, if_neg (by omega)]
    have := h q (by omega) step s hs
    rw [show ((0 : Nat) : Int) - 1 = -1 from rfl] at this
    exact this
theorem parts_tells {S : Type} (a : List Int) (hr : isRuler a) (stp : S → List Int → S) : ∃ K, ∀ k, K ≤ k → ∀ (step : S → List Int → Option S) (s : S), (∀ s xs, xs ∈ genAll a → step s xs = some (stp s xs)) → impl_parts.f step k a s = some ((genAll a).foldl stp s) := by
  obtain ⟨K, h⟩ := parts_run a hr.1 hr.2.2 stp a.length [] 0 (by simp) (by simp)
  refine ⟨K, fun k hk step s hs => ?_⟩
  unfold impl_parts.f
  rw [if_pos (by have := hr.2.2; omega)]
  exact h k hk step s hs
theorem of_l (l : List Int) (t : Int) (hl : l.length ≤ 1000) : ∀ (d k i : Nat) (acc : List Int), i + d = l.length → d + 1 ≤ k → acc.length ≤ i →
    spec_l9Of.l0 k l t acc (i : Int) = some (acc ++ (pf l t d i).map (fun j : Nat => (j : Int))) := by
  intro d
  induction d with
  | zero =>
    intro k i acc hi hk hc
    obtain ⟨m, rfl⟩ : ∃ m, k = m + 1 := ⟨k - 1, by omega⟩
    rw [spec_l9Of.l0, if_neg (by omega)]
    simp [pf]
  | succ d ih =>
    intro k i acc hi hk hc
    obtain ⟨m, rfl⟩ : ∃ m, k = m + 1 := ⟨k - 1, by omega⟩
    rw [spec_l9Of.l0, if_pos (by omega), if_pos (by omega), wrap_nat (n := i) (by omega), pf]
    split
    · rw [if_pos (by omega), ih m (i + 1) _ (by omega) (by omega) (by simp; omega)]
      simp
    · exact ih m (i + 1) acc (by omega) (by omega) (by omega)
theorem of_tells (l : List Int) (t : Int) (hl : l.length ≤ 1000) (k : Nat) (hk : l.length + 1 ≤ k) : spec_l9Of.f k l t = some ((places l t).map (fun j : Nat => (j : Int))) := by
  have := of_l l t hl l.length k 0 [] (by omega) hk (by simp)
  unfold spec_l9Of.f places
  simpa using this
theorem l1three_tells (x y z : Int) (hx : 1 ≤ x ∧ x ≤ 60) (hy : 1 ≤ y ∧ y ≤ 60) (hz : 1 ≤ z ∧ z ≤ 60) : spec_l1Three.f x y z = some (tri x y z) := by
  unfold spec_l1Three.f tri
  rw [show wrap64 (y + z) = y + z by unfold wrap64; omega, show wrap64 (x + z) = x + z by unfold wrap64; omega, show wrap64 (x + y) = x + y by unfold wrap64; omega]
  by_cases h1 : x < y + z
  · rw [if_pos h1, decide_eq_true h1]
    by_cases h2 : y < x + z
    · rw [if_pos h2, decide_eq_true h2]
      rfl
    · rw [if_neg h2, decide_eq_false h2]
      rfl
  · rw [if_neg h1, decide_eq_false h1]
    rfl
/-- No three that is full is wrong. -/
def Good (a l : List Int) (m : Nat) : Prop := ∀ t : Nat, t < m → (places l (t : Int)).length = 3 → three (selOf a l (t : Int)) = true
theorem selOf_app (a l : List Int) (x t : Int) : selOf a (l ++ [x]) t = selOf a l t ++ if x = t then [rd a (l.length : Int)] else [] := by
  unfold selOf
  rw [places_app, List.map_append]
  split <;> rfl
theorem selOf_len (a l : List Int) (t : Int) : (selOf a l t).length = (places l t).length := by simp [selOf]
theorem gen_bad (a : List Int) : ∀ (d : Nat) (l : List Int) (m t : Nat), t < m → (places l (t : Int)).length = 3 → three (selOf a l (t : Int)) = false → gen a d l m = []
  | 0, l, m, t, ht, h3, hb => by
    rw [gen, if_neg]
    intro h
    rw [fits_iff] at h
    rw [h t ht] at hb
    cases hb
  | d + 1, l, m, t, ht, h3, hb => by
    rw [gen, List.flatMap_eq_nil_iff]
    intro e he
    split
    · rfl
    · next hs =>
      have hne : ¬ ((e : Int) - 1 = (t : Int)) := by
        intro h
        refine hs ⟨by rw [h]; exact h3, by omega⟩
      refine gen_bad a d _ _ t (by split <;> omega) ?_ ?_
      · rw [places_app, if_neg hne, List.append_nil]
        exact h3
      · rw [selOf_app, if_neg hne, List.append_nil]
        exact hb
theorem sel_two (a l : List Int) (t : Int) (ha : ∀ x ∈ a, 1 ≤ x ∧ x ≤ 60) (hl : l.length < a.length) (_h9 : a.length ≤ 9) (h : (places l t).length = 2) :
    ∃ p0 p1 : Nat, places l t = [p0, p1] ∧ p0 < a.length ∧ p1 < a.length ∧ selOf a l t ++ [rd a (l.length : Int)] = [rd a p0, rd a p1, rd a (l.length : Int)] ∧ (1 ≤ rd a p0 ∧ rd a p0 ≤ 60) ∧ (1 ≤ rd a p1 ∧ rd a p1 ≤ 60) ∧ (1 ≤ rd a (l.length : Int) ∧ rd a (l.length : Int) ≤ 60) := by
  match hp : places l t, h with
  | [p0, p1], _ =>
    have h0 : p0 < l.length := places_lt (t := t) (by rw [hp]; simp)
    have h1 : p1 < l.length := places_lt (t := t) (by rw [hp]; simp)
    have key : ∀ j : Nat, j < a.length → 1 ≤ rd a (j : Int) ∧ rd a (j : Int) ≤ 60 := fun j hj => by
      rw [rd_at hj]
      exact ha _ (List.getElem_mem hj)
    refine ⟨p0, p1, rfl, by omega, by omega, ?_, key p0 (by omega), key p1 (by omega), key l.length (by omega)⟩
    unfold selOf
    rw [hp]
    rfl
theorem three_len {xs : List Int} (h : three xs = true) : xs.length = 3 := by
  match xs, h with
  | [x, y, z], _ => rfl
theorem l9end_l (a l : List Int) (m : Nat) (hl : l.length ≤ 9) (hm : m ≤ 9) (hg : Good a l m) : ∀ (d k t : Nat), t + d = m → d + 20 ≤ k →
    spec_l9Lists.l0 k l (m : Int) (t : Int) = some (if (List.range' t d).all (fun t => three (selOf a l (t : Int))) = true then [l] else []) := by
  intro d
  induction d with
  | zero =>
    intro k t ht hk
    obtain ⟨q, rfl⟩ : ∃ q, k = q + 1 := ⟨k - 1, by omega⟩
    rw [spec_l9Lists.l0, if_neg (by omega)]
    simp only [Option.bind_some, List.nil_append, List.length_nil]
    rw [if_pos (by omega)]
    rfl
  | succ d ih =>
    intro k t ht hk
    obtain ⟨q, rfl⟩ : ∃ q, k = q + 1 := ⟨k - 1, by omega⟩
    rw [spec_l9Lists.l0, if_pos (by omega), of_tells l t (by omega) q (by omega)]
    simp only [Option.bind_some, List.length_map]
    have hw := wrap_nat (n := t) (by omega)
    have ht' : t + 1 + d = m := by omega
    have hk' : d + 20 ≤ q := by omega
    by_cases h3 : (places l (t : Int)).length = 3
    · rw [if_pos (by omega), hw, ih q (t + 1) ht' hk', List.range'_succ, List.all_cons, hg t (by omega) h3, Bool.true_and]
    · have : three (selOf a l (t : Int)) = false := by
        cases h : three (selOf a l (t : Int)) with
        | true => exact absurd (by rw [← selOf_len a]; exact three_len h) h3
        | false => rfl
      rw [if_neg (by omega), List.range'_succ, List.all_cons, this]
      simp
theorem mx_next {t m : Nat} (h : t ≤ m) : mx (m : Int) ((t + 1 : Nat) : Int) = ((if t + 1 = m + 1 then m + 1 else m : Nat) : Int) := by
  unfold mx
  split <;> split <;> omega
theorem lists_run (a : List Int) (ha : ∀ x ∈ a, 1 ≤ x ∧ x ≤ 60) (h9 : a.length ≤ 9) : ∀ (d : Nat) (l : List Int) (m : Nat), l.length + d = a.length → m ≤ l.length → Good a l m →
    ∃ K, ∀ k, K ≤ k → spec_l9Lists.f k a l (m : Int) = some (gen a d l m)
  | 0, l, m, hd, hm, hg => by
    refine ⟨40, fun k hk => ?_⟩
    obtain ⟨q, rfl⟩ : ∃ m, k = m + 1 := ⟨k - 1, by omega⟩
    have := l9end_l a l m (by omega) (by omega) hg m q 0 (by omega) (by omega)
    rw [spec_l9Lists.f, if_pos (by omega), show (0 : Int) = ((0 : Nat) : Int) from rfl, this, gen]
    unfold fits
    rw [List.range_eq_range']
  | d + 1, l, m, hd, hm, hg => by
    have hP := pow11 (d := d) (by omega)
    have hpos : 0 < 11 ^ d := Nat.pow_pos (by omega)
    have loop : ∀ (c t : Nat), t + 1 + c = m + 2 → ∃ K, ∀ k, K ≤ k → ∀ acc : List (List Int), acc.length ≤ (t + 1) * 11 ^ d →
        spec_l9Lists.l1 k a l (m : Int) (l.length : Int) acc (t : Int) = some (acc ++ (List.range' (t + 1) c).flatMap fun e : Nat => if (places l ((e : Int) - 1)).length = 3 ∧ 0 < e then [] else gen a d (l ++ [(e : Int) - 1]) (if e = m + 1 then m + 1 else m)) := by
      intro c
      induction c with
      | zero =>
        intro t ht
        refine ⟨1, fun k hk acc hacc => ?_⟩
        obtain ⟨q, rfl⟩ : ∃ m, k = m + 1 := ⟨k - 1, by omega⟩
        rw [spec_l9Lists.l1, if_neg (by omega)]
        simp
      | succ c ih =>
        intro t ht
        obtain ⟨K1, h1⟩ := ih (t + 1) (by omega)
        have hE : ((t + 1 : Nat) : Int) - 1 = (t : Int) := by omega
        have hwt := wrap_nat (n := t) (by omega)
        have hlen : ∀ acc : List (List Int), acc.length ≤ (t + 1) * 11 ^ d → acc.length ≤ (t + 1 + 1) * 11 ^ d := fun acc h => Nat.le_trans h (Nat.mul_le_mul_right _ (by omega))
        have hgl := gen_length a d (l ++ [(t : Int)]) (if t + 1 = m + 1 then m + 1 else m) (by split <;> omega)
        have hacc2 : ∀ acc : List (List Int), acc.length ≤ (t + 1) * 11 ^ d → (acc ++ gen a d (l ++ [(t : Int)]) (if t + 1 = m + 1 then m + 1 else m)).length ≤ (t + 1 + 1) * 11 ^ d := fun acc h => by
          rw [List.length_append, Nat.add_mul (t + 1) 1, Nat.one_mul]
          omega
        have hsum : ∀ acc : List (List Int), acc.length ≤ (t + 1) * 11 ^ d → acc.length + (gen a d (l ++ [(t : Int)]) (if t + 1 = m + 1 then m + 1 else m)).length < 5864062014805 := fun acc h => by
          have : (t + 1) * 11 ^ d ≤ 11 * 11 ^ d := Nat.mul_le_mul_right _ (by omega)
          omega
        by_cases hc3 : (places l (t : Int)).length = 3
        · refine ⟨K1 + 20, fun k hk acc hacc => ?_⟩
          obtain ⟨q, rfl⟩ : ∃ m, k = m + 1 := ⟨k - 1, by omega⟩
          rw [spec_l9Lists.l1, if_pos (by omega), of_tells l t (by omega) q (by omega)]
          simp only [Option.bind_some, List.length_map]
          rw [if_pos (by omega), hwt, h1 q (by omega) acc (hlen acc hacc), List.range'_succ, List.flatMap_cons, hE, if_pos ⟨hc3, by omega⟩, List.nil_append]
        · by_cases hbad : (places l (t : Int)).length = 2 ∧ three (selOf a l (t : Int) ++ [rd a (l.length : Int)]) = false
          · have hg0 : gen a d (l ++ [(t : Int)]) (if t + 1 = m + 1 then m + 1 else m) = [] := by
              refine gen_bad a d _ _ t (by split <;> omega) ?_ ?_
              · rw [places_app, if_pos rfl, List.length_append, hbad.1]; rfl
              · rw [selOf_app, if_pos rfl]; exact hbad.2
            refine ⟨K1 + 20, fun k hk acc hacc => ?_⟩
            obtain ⟨q, rfl⟩ : ∃ m, k = m + 1 := ⟨k - 1, by omega⟩
            have hsi := sel_two a l t ha (by omega) (by omega) hbad.1
            obtain ⟨p0, p1, hp, q0, q1, hs, hx, hy, hz⟩ := hsi
            rw [spec_l9Lists.l1, if_pos (by omega), of_tells l t (by omega) q (by omega), hp]
            simp only [Option.bind_some, List.map_cons, List.map_nil, List.length_cons, List.length_nil]
            have e0 : rd [(p0 : Int), (p1 : Int)] 0 = p0 := rfl
            have e1 : rd [(p0 : Int), (p1 : Int)] 1 = p1 := rfl
            rw [if_neg (by decide), if_pos (by decide), if_pos (by decide), e0, e1, if_pos (by omega), if_pos (by omega), if_pos (by decide), if_pos (by omega), if_pos (by omega), if_pos (by omega), if_pos (by omega), l1three_tells _ _ _ hx hy hz]
            simp only [Option.bind_some]
            have hb2 := hbad.2
            rw [hs] at hb2
            rw [show tri (rd a p0) (rd a p1) (rd a (l.length : Int)) = false from hb2, if_neg (by decide), hwt, h1 q (by omega) acc (hlen acc hacc), List.range'_succ, List.flatMap_cons, hE, if_neg (fun x => hc3 x.1), hg0, List.nil_append]
          · have hgood : Good a (l ++ [(t : Int)]) (if t + 1 = m + 1 then m + 1 else m) := by
              intro t' ht' h3
              by_cases htt : t' = t
              · subst htt
                rw [places_app, if_pos rfl, List.length_append, List.length_singleton] at h3
                rw [selOf_app, if_pos rfl]
                cases hh : three (selOf a l (t' : Int) ++ [rd a (l.length : Int)]) with
                | true => rfl
                | false => exact absurd ⟨by omega, hh⟩ hbad
              · have hne : ¬ ((t : Int) = (t' : Int)) := by omega
                rw [places_app, if_neg hne, List.append_nil] at h3
                rw [selOf_app, if_neg hne, List.append_nil]
                exact hg t' (by split at ht' <;> omega) h3
            obtain ⟨K2, h2⟩ := lists_run a ha h9 d (l ++ [(t : Int)]) (if t + 1 = m + 1 then m + 1 else m) (by simp; omega) (by simp; split <;> omega) hgood
            refine ⟨K1 + K2 + 20, fun k hk acc hacc => ?_⟩
            obtain ⟨q, rfl⟩ : ∃ m, k = m + 1 := ⟨k - 1, by omega⟩
            have g2 := h2 q (by omega)
            have g1 := h1 q (by omega) (acc ++ gen a d (l ++ [(t : Int)]) (if t + 1 = m + 1 then m + 1 else m)) (hacc2 acc hacc)
            have gs := hsum acc hacc
            have hlt : l.length < 17592186044416 := by omega
            have fin : ((some (([] : List Int) : List Int)).bind fun y157 => (if y157.length + l.length < 17592186044416 then ((some (y157 ++ l : List Int)).bind fun y160 => (if y160.length < 17592186044416 then ((spec_l9Lists.f q a (y160 ++ [(t : Int)]) (mx (m : Int) (wrap64 ((t : Int) + 1)))).bind fun t166 => (if acc.length + t166.length < 5864062014805 then (spec_l9Lists.l1 q a l (m : Int) (l.length : Int) (acc ++ t166) (wrap64 ((t : Int) + 1))) else (none))) else (none))) else (none))) =
                some (acc ++ (List.range' (t + 1) (c + 1)).flatMap fun e : Nat => if (places l ((e : Int) - 1)).length = 3 ∧ 0 < e then [] else gen a d (l ++ [(e : Int) - 1]) (if e = m + 1 then m + 1 else m)) := by
              simp only [Option.bind_some, List.nil_append, List.length_nil, Nat.zero_add]
              rw [if_pos hlt, if_pos hlt, hwt, mx_next (by omega), g2]
              simp only [Option.bind_some]
              rw [if_pos gs, g1, List.range'_succ, List.flatMap_cons, hE, if_neg (show ¬ ((places l (t : Int)).length = 3 ∧ 0 < t + 1) from fun x => hc3 x.1), List.append_assoc]
            rw [spec_l9Lists.l1, if_pos (by omega), of_tells l t (by omega) q (by omega)]
            simp only [Option.bind_some, List.length_map]
            rw [if_neg (by omega)]
            by_cases hc2 : (places l (t : Int)).length = 2
            · obtain ⟨p0, p1, hp, q0, q1, hs, hx, hy, hz⟩ := sel_two a l t ha (by omega) (by omega) hc2
              rw [if_pos (by omega), hp]
              simp only [List.map_cons, List.map_nil, List.length_cons, List.length_nil]
              have e0 : rd [(p0 : Int), (p1 : Int)] 0 = p0 := rfl
              have e1 : rd [(p0 : Int), (p1 : Int)] 1 = p1 := rfl
              rw [if_pos (by decide), e0, e1, if_pos (by omega), if_pos (by omega), if_pos (by decide), if_pos (by omega), if_pos (by omega), if_pos (by omega), if_pos (by omega), l1three_tells _ _ _ hx hy hz]
              simp only [Option.bind_some]
              have hb2 : tri (rd a p0) (rd a p1) (rd a (l.length : Int)) = true := by
                cases hh : tri (rd a p0) (rd a p1) (rd a (l.length : Int)) with
                | true => rfl
                | false => exact absurd ⟨hc2, by rw [hs]; exact hh⟩ hbad
              rw [hb2, if_pos rfl]
              simp only [Option.bind_some, List.length_nil, Nat.zero_add, List.nil_append] at fin ⊢
              exact fin
            · rw [if_neg (by omega)]
              simp only [Option.bind_some, List.length_nil, Nat.zero_add, List.nil_append] at fin ⊢
              exact fin
    have hgm : Good a (l ++ [-1]) m := by
      intro t' ht' h3
      have hne : ¬ ((-1 : Int) = (t' : Int)) := by omega
      rw [places_app, if_neg hne, List.append_nil] at h3
      rw [selOf_app, if_neg hne, List.append_nil]
      exact hg t' ht' h3
    obtain ⟨K1, h1⟩ := loop (m + 1) 0 (by omega)
    obtain ⟨K2, h2⟩ := lists_run a ha h9 d (l ++ [-1]) m (by simp; omega) (by simp; omega) hgm
    refine ⟨K1 + K2 + 2, fun k hk => ?_⟩
    obtain ⟨q, rfl⟩ : ∃ m, k = m + 1 := ⟨k - 1, by omega⟩
    have g2 := h2 q (by omega)
    have g1 := h1 q (by omega) (gen a d (l ++ [-1]) m) (by have := gen_length a d (l ++ [-1]) m (by omega); omega)
    have hlt : l.length < 17592186044416 := by omega
    rw [spec_l9Lists.f, if_neg (by omega)]
    simp only [Option.bind_some, List.nil_append, List.length_nil, Nat.zero_add]
    rw [if_pos hlt, if_pos hlt, g2]
    simp only [Option.bind_some]
    rw [show ((0 : Nat) : Int) = 0 from rfl] at g1
    have hgen : gen a (d + 1) l m = gen a d (l ++ [-1]) m ++ (List.range' (0 + 1) (m + 1)).flatMap fun e : Nat => if (places l ((e : Int) - 1)).length = 3 ∧ 0 < e then [] else gen a d (l ++ [(e : Int) - 1]) (if e = m + 1 then m + 1 else m) := by
      rw [gen, List.range'_succ, List.flatMap_cons, if_neg (fun x => by have := x.2; omega), if_neg (by omega)]
      rfl
    rw [g1, hgen]
theorem lists_tells (a : List Int) (hr : isRuler a) : ∃ K, ∀ k, K ≤ k → spec_l9Lists.f k a [] 0 = some (genAll a) :=
  lists_run a hr.1 hr.2.2 a.length [] 0 (by simp) (by simp) (fun t ht => by omega)
/-! ### how many threes -/
def thr (xs : List Int) : Int := xs.foldl (fun n x => mx n (x + 1)) 0
theorem mx_le (a b : Int) : a ≤ mx a b ∧ b ≤ mx a b ∧ (mx a b = a ∨ mx a b = b) := by
  unfold mx
  split <;> omega
theorem foldl_mx_ge : ∀ (xs : List Int) (n : Int), n ≤ xs.foldl (fun n x => mx n (x + 1)) n
  | [], n => Int.le_refl _
  | x :: xs, n => by
    have := foldl_mx_ge xs (mx n (x + 1))
    have := mx_le n (x + 1)
    rw [List.foldl_cons]
    omega
theorem thr_nonneg (xs : List Int) : 0 ≤ thr xs := foldl_mx_ge xs 0
theorem thr_shift : ∀ (xs : List Int) (y : Int), xs.foldl (fun n x => mx n (x + 1)) (y + 1) = xs.foldl mx y + 1
  | [], y => rfl
  | x :: xs, y => by
    rw [List.foldl_cons, List.foldl_cons, ← thr_shift xs (mx y x)]
    congr 1
    unfold mx
    split <;> split <;> omega
theorem thr_max (x : Int) (xs : List Int) (h : -1 ≤ x) : thr (x :: xs) = xs.foldl mx x + 1 := by
  unfold thr
  rw [List.foldl_cons, ← thr_shift, show mx 0 (x + 1) = x + 1 by unfold mx; split <;> omega]
theorem foldl_mx_in : ∀ (xs : List Int) (y B : Int), y ≤ B → (∀ x ∈ xs, x ≤ B) → xs.foldl mx y ≤ B
  | [], y, B, h, _ => h
  | x :: xs, y, B, h, hx => by
    rw [List.foldl_cons]
    refine foldl_mx_in xs _ B ?_ (fun z hz => hx z (List.mem_cons_of_mem _ hz))
    have := mx_le y x
    have := hx x List.mem_cons_self
    omega
theorem foldl_mx_le : ∀ (xs : List Int) (y : Int), y ≤ xs.foldl mx y
  | [], y => Int.le_refl _
  | x :: xs, y => by
    have := foldl_mx_le xs (mx y x)
    have := mx_le y x
    rw [List.foldl_cons]
    omega
theorem mem_all_in {a x : List Int} (h9 : a.length ≤ 9) (h : x ∈ genAll a) : x.length = a.length ∧ ∀ y ∈ x, -1 ≤ y ∧ y ≤ 8 := by
  have h1 := mem_gen_len a _ _ _ x h
  obtain ⟨m', h2, h3, h4, _⟩ := mem_gen_in a _ _ _ x h (by simp)
  refine ⟨by simpa using h1, fun y hy => ?_⟩
  have := h4 y hy
  omega
theorem gen_ne (a : List Int) : ∀ (d n : Nat), gen a d (List.replicate n (-1)) 0 ≠ []
  | 0, n => by
    rw [gen, if_pos (by rw [fits_iff]; intro t ht; omega)]
    simp
  | d + 1, n => by
    rw [gen]
    intro h
    rw [List.flatMap_eq_nil_iff] at h
    have := h 0 (by simp)
    rw [if_neg (by omega), if_neg (by omega)] at this
    refine gen_ne a d (n + 1) ?_
    rw [List.replicate_succ']
    exact this
theorem genAll_ne (a : List Int) : genAll a ≠ [] := gen_ne a a.length 0
theorem sthr_l (xs : List Int) (hx : ∀ y ∈ xs, -1 ≤ y ∧ y ≤ 8) (hl : xs.length ≤ 1000) : ∀ (d k i : Nat) (n : Int), i + d = xs.length → d + 1 ≤ k → spec_l9Threes.l0 k xs n (i : Int) = some ((xs.drop i).foldl (fun n x => mx n (x + 1)) n) := by
  intro d
  induction d with
  | zero =>
    intro k i n hi hk
    obtain ⟨m, rfl⟩ : ∃ m, k = m + 1 := ⟨k - 1, by omega⟩
    rw [spec_l9Threes.l0, if_neg (by omega), List.drop_eq_nil_of_le (by omega)]
    rfl
  | succ d ih =>
    intro k i n hi hk
    obtain ⟨m, rfl⟩ : ∃ m, k = m + 1 := ⟨k - 1, by omega⟩
    have hil : i < xs.length := by omega
    have := hx _ (List.getElem_mem hil)
    rw [spec_l9Threes.l0, if_pos (by omega), if_pos (by omega), rd_at hil, show wrap64 (xs[i] + 1) = xs[i] + 1 by unfold wrap64; omega, wrap_nat (by omega), ih m (i + 1) _ (by omega) (by omega), List.drop_eq_getElem_cons hil]
    rfl
theorem sthr_tells (xs : List Int) (hx : ∀ y ∈ xs, -1 ≤ y ∧ y ≤ 8) (hl : xs.length ≤ 1000) (k : Nat) (hk : xs.length + 1 ≤ k) : spec_l9Threes.f k xs = some (thr xs) := by
  have := sthr_l xs hx hl xs.length k 0 0 (by omega) hk
  unfold spec_l9Threes.f
  rw [show ((0 : Nat) : Int) = 0 from rfl, List.drop_zero] at this
  exact this
/-- The first one with most threes. -/
def bestOf : List (List Int) → List Int → List Int
  | [], b => b
  | x :: r, b => bestOf r (if thr x > thr b then x else b)
theorem bestOf_mem : ∀ (r : List (List Int)) (b : List Int), bestOf r b = b ∨ bestOf r b ∈ r
  | [], b => .inl rfl
  | x :: r, b => by
    rw [bestOf]
    rcases bestOf_mem r (if thr x > thr b then x else b) with h | h
    · rw [h]
      split
      · exact .inr List.mem_cons_self
      · exact .inl rfl
    · exact .inr (List.mem_cons_of_mem _ h)
theorem bestOf_thr : ∀ (r : List (List Int)) (b : List Int), thr (bestOf r b) = r.foldl (fun s x => mx s (thr x)) (thr b)
  | [], b => rfl
  | x :: r, b => by
    rw [bestOf, bestOf_thr r, List.foldl_cons]
    congr 1
    unfold mx
    split <;> rfl
theorem best_l (ls : List (List Int)) (hb : ∀ x ∈ ls, x.length ≤ 9 ∧ ∀ y ∈ x, -1 ≤ y ∧ y ≤ 8) (hn : ls.length < 4000000000) : ∀ (d k i : Nat) (b : List Int), b ∈ ls → i + d = ls.length → d + 20 ≤ k →
    spec_l9Best.l0 k ls b (i : Int) = some (bestOf (ls.drop i) b) := by
  intro d
  induction d with
  | zero =>
    intro k i b hbm hi hk
    obtain ⟨m, rfl⟩ : ∃ m, k = m + 1 := ⟨k - 1, by omega⟩
    rw [spec_l9Best.l0, if_neg (by omega), List.drop_eq_nil_of_le (by omega)]
    rfl
  | succ d ih =>
    intro k i b hbm hi hk
    obtain ⟨m, rfl⟩ : ∃ m, k = m + 1 := ⟨k - 1, by omega⟩
    have hil : i < ls.length := by omega
    have hr : rd_L1 ls (i : Int) = ls[i] := by
      unfold rd_L1
      rw [Int.toNat_natCast, List.getD_eq_getElem?_getD, List.getElem?_eq_getElem hil]
      rfl
    have h1 := hb _ (List.getElem_mem hil)
    have h2 := hb _ hbm
    have hw := wrap_nat (n := i) (by omega)
    have e1 : i + 1 + d = ls.length := by omega
    have e2 : d + 20 ≤ m := by omega
    rw [spec_l9Best.l0, if_pos (by omega), if_pos (by omega), hr, sthr_tells _ h1.2 (by omega) m (by omega), List.drop_eq_getElem_cons hil, bestOf]
    simp only [Option.bind_some]
    rw [sthr_tells _ h2.2 (by omega) m (by omega)]
    simp only [Option.bind_some]
    rw [hw]
    split
    · exact ih m (i + 1) _ (List.getElem_mem hil) e1 e2
    · exact ih m (i + 1) b hbm e1 e2
theorem best_tells (a : List Int) (hr : isRuler a) : ∃ x r, genAll a = x :: r ∧ ∃ K, ∀ k, K ≤ k → spec_l9Best.f k a = some (bestOf r x) := by
  match hg : genAll a with
  | [] => exact absurd hg (genAll_ne a)
  | x :: r =>
    refine ⟨x, r, rfl, ?_⟩
    obtain ⟨K, h⟩ := lists_tells a hr
    have hlen : (genAll a).length ≤ 11 ^ a.length := gen_length a a.length [] 0 (by have := hr.2.2; omega)
    have hp := pow11 hr.2.2
    have hin : ∀ y ∈ genAll a, y.length ≤ 9 ∧ ∀ z ∈ y, -1 ≤ z ∧ z ≤ 8 := fun y hy => by
      have := mem_all_in hr.2.2 hy
      have h9 := hr.2.2
      exact ⟨by omega, this.2⟩
    rw [hg] at hlen hin
    refine ⟨K + r.length + 100, fun k hk => ?_⟩
    unfold spec_l9Best.f
    have := best_l (x :: r) hin (by omega) r.length k 1 x List.mem_cons_self (by simp; omega) (by omega)
    rw [h k (by omega), hg]
    simp only [Option.bind_some]
    rw [if_pos (by simp)]
    exact this
theorem imax_l (xs : List Int) (hl : xs.length ≤ 1000) : ∀ (d k i : Nat) (n : Int), i + d = xs.length → d + 1 ≤ k → slices_Max_int_int.l0 k xs n (i : Int) = some ((xs.drop i).foldl mx n) := by
  intro d
  induction d with
  | zero =>
    intro k i n hi hk
    obtain ⟨m, rfl⟩ : ∃ m, k = m + 1 := ⟨k - 1, by omega⟩
    rw [slices_Max_int_int.l0, if_neg (by omega), List.drop_eq_nil_of_le (by omega)]
    rfl
  | succ d ih =>
    intro k i n hi hk
    obtain ⟨m, rfl⟩ : ∃ m, k = m + 1 := ⟨k - 1, by omega⟩
    have hil : i < xs.length := by omega
    rw [slices_Max_int_int.l0, if_pos (by omega), if_pos (by omega), rd_at hil, wrap_nat (by omega), ih m (i + 1) _ (by omega) (by omega), List.drop_eq_getElem_cons hil]
    rfl
theorem imax_tells (x : Int) (xs : List Int) (hl : xs.length ≤ 900) (k : Nat) (hk : xs.length + 2 ≤ k) : slices_Max_int_int.f k (x :: xs) = some (xs.foldl mx x) := by
  have := imax_l (x :: xs) (by simp; omega) xs.length k 1 x (by simp; omega) (by omega)
  unfold slices_Max_int_int.f
  rw [if_pos (by simp)]
  exact this
/-- What the program takes for the number of threes. -/
theorem imax_thr (xs : List Int) (h1 : 1 ≤ xs.length) (hl : xs.length ≤ 900) (hx : ∀ y ∈ xs, -1 ≤ y ∧ y ≤ 8) (k : Nat) (hk : xs.length + 2 ≤ k) : ∃ M, slices_Max_int_int.f k xs = some M ∧ wrap64 (M + 1) = thr xs ∧ -1 ≤ M ∧ M ≤ 8 := by
  match xs, h1, hl, hx, hk with
  | x :: r, _, hl, hx, hk =>
    have h0 := hx x List.mem_cons_self
    refine ⟨_, imax_tells x r (by simp at hl; omega) k (by simp at hk; omega), ?_, ?_, ?_⟩
    · have h2 := foldl_mx_in r x 8 (by omega) (fun z hz => (hx z (List.mem_cons_of_mem _ hz)).2)
      have h3 := foldl_mx_le r x
      rw [thr_max x r (by omega)]
      unfold wrap64
      omega
    · have h3 := foldl_mx_le r x
      omega
    · exact foldl_mx_in r x 8 (by omega) (fun z hz => (hx z (List.mem_cons_of_mem _ hz)).2)
def mostOf (l : List Int) : Int × Bool := if isBundle l then ((genAll l).foldl (fun s x => mx s (thr x)) 0, true) else (0, false)
theorem most_impl (l : List Int) (hl : l.length ≤ 1048576) : ∃ K, ∀ k, K ≤ k → impl_PartMost.f k l = some (mostOf l) := by
  by_cases hb : isBundle l
  · obtain ⟨K, h⟩ := parts_tells l hb.1 (fun s x => mx s (thr x))
    refine ⟨K + l.length + 100, fun k hk => ?_⟩
    unfold impl_PartMost.f mostOf
    rw [impl_bundle l hl k (by omega), decide_eq_true hb, if_pos hb]
    simp only [Option.bind_some]
    rw [if_pos trivial, h k (by omega) (impl_PartMost.step k) 0 (fun s xs hx => ?_)]
    · rfl
    · have h9 := hb.1.2
      have hin := mem_all_in h9.2 hx
      obtain ⟨M, e1, e2, _⟩ := imax_thr xs (by omega) (by omega) hin.2 k (by omega)
      unfold impl_PartMost.step
      rw [e1]
      simp only [Option.bind_some]
      rw [e2]
  · refine ⟨l.length + 100, fun k hk => ?_⟩
    unfold impl_PartMost.f mostOf
    rw [impl_bundle l hl k (by omega), decide_eq_false hb, if_neg hb]
    simp only [Option.bind_some]
    rw [if_neg (by decide)]
theorem most_spec (l : List Int) (hl : l.length ≤ 1048576) : ∃ K, ∀ k, K ≤ k → spec_PartMost.f k l = some (mostOf l) := by
  by_cases hb : isBundle l
  · obtain ⟨x, r, hg, K, h⟩ := best_tells l hb.1
    refine ⟨K + l.length + 100, fun k hk => ?_⟩
    unfold spec_PartMost.f mostOf
    rw [spec_bundle l hl k (by omega), decide_eq_true hb, if_pos hb]
    simp only [Option.bind_some]
    rw [if_pos trivial, h k (by omega)]
    simp only [Option.bind_some]
    have h9 := hb.1.2
    have hm : bestOf r x ∈ genAll l := by
      rw [hg]
      rcases bestOf_mem r x with e | e
      · rw [e]; exact List.mem_cons_self
      · exact List.mem_cons_of_mem _ e
    have hin := mem_all_in h9.2 hm
    rw [sthr_tells _ hin.2 (by omega) k (by omega)]
    simp only [Option.bind_some]
    rw [bestOf_thr, hg, List.foldl_cons, show mx 0 (thr x) = thr x by have := thr_nonneg x; unfold mx; split <;> omega]
  · refine ⟨l.length + 100, fun k hk => ?_⟩
    unfold spec_PartMost.f mostOf
    rw [spec_bundle l hl k (by omega), decide_eq_false hb, if_neg hb]
    simp only [Option.bind_some]
    rw [if_neg (by decide)]
/-! ### what a part list is -/
def rg : List Int → Nat → Option Nat
  | [], m => some m
  | x :: l, m => if -1 ≤ x ∧ x ≤ (m : Int) then rg l (if x = (m : Int) then m + 1 else m) else none
theorem rg_le : ∀ (l : List Int) (m m' : Nat), rg l m = some m' → m ≤ m' ∧ m' ≤ m + l.length
  | [], m, m', h => by
    rw [rg] at h
    injection h with h
    subst h
    exact ⟨Nat.le_refl _, by simp⟩
  | x :: l, m, m', h => by
    rw [rg] at h
    split at h
    · have := rg_le l _ m' h
      rw [List.length_cons]
      split at this <;> omega
    · cases h
theorem places_mono (t : Int) : ∀ (y l : List Int), (places l t).length ≤ (places (l ++ y) t).length
  | [], l => by rw [List.append_nil]; exact Nat.le_refl _
  | x :: y, l => by
    have h := places_mono t y (l ++ [x])
    rw [List.append_assoc, List.singleton_append] at h
    rw [places_app, List.length_append] at h
    omega
theorem gen_iff (a : List Int) : ∀ (d : Nat) (l : List Int) (m : Nat) (x : List Int), x ∈ gen a d l m ↔ ∃ y m', x = l ++ y ∧ y.length = d ∧ rg y m = some m' ∧ fits a x m' = true
  | 0, l, m, x => by
    rw [gen]
    constructor
    · intro h
      split at h
      · next hf =>
        rw [List.mem_singleton] at h
        subst h
        exact ⟨[], m, by simp, rfl, rfl, hf⟩
      · cases h
    · rintro ⟨y, m', rfl, h2, h3, h4⟩
      have : y = [] := List.length_eq_zero_iff.mp h2
      subst this
      rw [rg] at h3
      injection h3 with h3
      subst h3
      rw [List.append_nil] at h4 ⊢
      rw [if_pos h4]
      exact List.mem_singleton.mpr rfl
  | d + 1, l, m, x => by
    rw [gen, List.mem_flatMap]
    constructor
    · rintro ⟨e, he, h⟩
      rw [List.mem_range'_1] at he
      split at h
      · cases h
      · obtain ⟨y, m', h1, h2, h3, h4⟩ := (gen_iff a d _ _ x).mp h
        refine ⟨((e : Int) - 1) :: y, m', by rw [h1, List.append_assoc]; rfl, by rw [List.length_cons, h2], ?_, h4⟩
        rw [rg, if_pos (by omega), ← h3]
        congr 1
        split <;> split <;> omega
    · rintro ⟨y, m', h1, h2, h3, h4⟩
      match y, h1, h2, h3 with
      | z :: y, h1, h2, h3 =>
        rw [rg] at h3
        split at h3
        · next hz =>
          obtain ⟨e, rfl⟩ : ∃ e : Nat, z = (e : Int) - 1 := ⟨(z + 1).toNat, by omega⟩
          refine ⟨e, by rw [List.mem_range'_1]; omega, ?_⟩
          have hle := rg_le _ _ _ h3
          rw [if_neg]
          · refine (gen_iff a d _ _ x).mpr ⟨y, m', by rw [h1, List.append_assoc]; rfl, by simpa using h2, ?_, h4⟩
            rw [← h3]
            congr 1
            split <;> split <;> omega
          · rintro ⟨q1, q2⟩
            rw [fits_iff] at h4
            have h5 := three_len (h4 (e - 1) (by split at hle <;> omega))
            rw [selOf_len, show ((e - 1 : Nat) : Int) = (e : Int) - 1 by omega, h1, show l ++ ((e : Int) - 1) :: y = (l ++ [(e : Int) - 1]) ++ y by rw [List.append_assoc]; rfl] at h5
            have h6 := places_mono ((e : Int) - 1) y (l ++ [(e : Int) - 1])
            rw [places_app, if_pos rfl, List.length_append, List.length_singleton] at h6
            omega
        · cases h3
theorem all_iff (a x : List Int) : x ∈ genAll a ↔ x.length = a.length ∧ ∃ m, rg x 0 = some m ∧ fits a x m = true := by
  unfold genAll
  rw [gen_iff]
  constructor
  · rintro ⟨y, m, rfl, h2, h3, h4⟩
    exact ⟨h2, m, h3, h4⟩
  · rintro ⟨h2, m, h3, h4⟩
    exact ⟨x, m, rfl, h2, h3, h4⟩
/-- How many sticks are in the first classes. -/
def inN (x : List Int) : Nat → Nat
  | 0 => 0
  | m + 1 => inN x m + (places x (m : Int)).length
theorem inN_app (x : List Int) (y : Int) : ∀ m, inN (x ++ [y]) m = inN x m + if 0 ≤ y ∧ y < m then 1 else 0
  | 0 => by rw [inN, inN, if_neg (by omega)]
  | m + 1 => by
    rw [inN, inN, inN_app x y m, places_app, List.length_append]
    by_cases h : y = (m : Int)
    · rw [if_pos h, if_neg (by omega), if_pos (by omega)]
      simp only [List.length_singleton]
      omega
    · rw [if_neg h]
      simp only [List.length_nil]
      by_cases h2 : 0 ≤ y ∧ y < (m : Int)
      · rw [if_pos h2, if_pos (by omega)]
        omega
      · rw [if_neg h2, if_neg (by omega)]
        omega
theorem inN_nil : ∀ m, inN [] m = 0
  | 0 => rfl
  | m + 1 => by rw [inN, inN_nil m]; rfl
theorem inN_le (m : Nat) : ∀ (n : Nat) (x : List Int), x.length = n → inN x m ≤ n
  | 0, x, h => by rw [List.length_eq_zero_iff.mp h, inN_nil]; exact Nat.le_refl _
  | n + 1, x, h => by
    rcases List.eq_nil_or_concat x with rfl | ⟨y, z, rfl⟩
    · simp at h
    · rw [List.concat_eq_append] at h ⊢
      have := inN_le m n y (by simpa using h)
      rw [inN_app]
      split <;> omega
theorem inN_fits (a x : List Int) : ∀ m, fits a x m = true → inN x m = 3 * m
  | 0, _ => rfl
  | m + 1, h => by
    rw [fits_iff] at h
    have h1 := inN_fits a x m (fits_iff.mpr fun t ht => h t (by omega))
    have h2 := three_len (h m (by omega))
    rw [selOf_len] at h2
    rw [inN, h1, h2]
    omega
def noNeg (x : List Int) : Bool := decide ((-1 : Int) ∉ x)
theorem rg_thr : ∀ (l : List Int) (m m' : Nat), rg l m = some m' → l.foldl (fun n x => mx n (x + 1)) (m : Int) = (m' : Int)
  | [], m, m', h => by
    rw [rg] at h
    injection h with h
    subst h
    rfl
  | x :: l, m, m', h => by
    rw [rg] at h
    split at h
    · next hx =>
      rw [List.foldl_cons, ← rg_thr l _ m' h]
      congr 1
      unfold mx
      split <;> split <;> omega
    · cases h
theorem rg_in (l : List Int) (m m' : Nat) (h : rg l m = some m') : ∀ y ∈ l, -1 ≤ y ∧ y < m' := by
  induction l generalizing m with
  | nil => intro y hy; cases hy
  | cons x l ih =>
    rw [rg] at h
    split at h
    · next hx =>
      have hle := rg_le _ _ _ h
      intro y hy
      rcases List.mem_cons.mp hy with rfl | hy
      · split at hle <;> omega
      · exact ih _ h y hy
    · cases h
theorem thr_third {a xs : List Int} (hxs : xs ∈ genAll a) : ∃ m, rg xs 0 = some m ∧ fits a xs m = true ∧ thr xs = (m : Int) ∧ 3 * m ≤ a.length := by
  obtain ⟨q1, m, hm, hf⟩ := (all_iff a xs).mp hxs
  have hthr : thr xs = (m : Int) := rg_thr xs 0 m hm
  have h3 := inN_fits a xs m hf
  have h4 := inN_le m xs.length xs rfl
  exact ⟨m, hm, hf, hthr, by omega⟩
theorem fold_ge {α : Type} (f : α → Int) : ∀ (ls : List α) (n : Int), n ≤ ls.foldl (fun s x => mx s (f x)) n ∧ ∀ x ∈ ls, f x ≤ ls.foldl (fun s x => mx s (f x)) n
  | [], n => ⟨Int.le_refl _, fun x hx => by cases hx⟩
  | z :: ls, n => by
    obtain ⟨h1, h2⟩ := fold_ge f ls (mx n (f z))
    have h3 := mx_le n (f z)
    rw [List.foldl_cons]
    refine ⟨by omega, fun x hx => ?_⟩
    rcases List.mem_cons.mp hx with rfl | hx
    · omega
    · exact h2 x hx
theorem fold_at {α : Type} (f : α → Int) : ∀ (ls : List α) (n : Int), ls.foldl (fun s x => mx s (f x)) n = n ∨ ∃ x ∈ ls, ls.foldl (fun s x => mx s (f x)) n = f x
  | [], n => .inl rfl
  | z :: ls, n => by
    rw [List.foldl_cons]
    have h3 := mx_le n (f z)
    rcases fold_at f ls (mx n (f z)) with h | ⟨x, hx, h⟩
    · rcases h3.2.2 with e | e
      · exact .inl (h.trans e)
      · exact .inr ⟨z, List.mem_cons_self, h.trans e⟩
    · exact .inr ⟨x, List.mem_cons_of_mem _ hx, h⟩
/-! ### all three places -/
def trZ (n x y z d : Nat) : List (Nat × Nat × Nat) := (List.range' z d).map fun z => (x, y, z)
def trY (n x y d : Nat) : List (Nat × Nat × Nat) := (List.range' y d).flatMap fun y => trZ n x y (y + 1) (n - (y + 1))
def trX (n x d : Nat) : List (Nat × Nat × Nat) := (List.range' x d).flatMap fun x => trY n x (x + 1) (n - (x + 1))
def triples (n : Nat) : List (Nat × Nat × Nat) := trX n 0 n
theorem mem_triples {n : Nat} {t : Nat × Nat × Nat} : t ∈ triples n ↔ t.1 < t.2.1 ∧ t.2.1 < t.2.2 ∧ t.2.2 < n := by
  obtain ⟨x, y, z⟩ := t
  unfold triples trX trY trZ
  simp only [List.mem_flatMap, List.mem_map, List.mem_range'_1, Prod.mk.injEq]
  constructor
  · rintro ⟨a, h1, b, h2, c, h3, rfl, rfl, rfl⟩
    omega
  · intro h
    exact ⟨x, by omega, y, by omega, z, by omega, rfl, rfl, rfl⟩
section
variable {S : Type} (step : S → Int → Int → Int → Option S) (g : S → Nat × Nat × Nat → S) (a : List Int)
theorem lz_fold (ha : a.length ≤ 1000) (hst : ∀ s (x y z : Nat), x < y → y < z → z < a.length → step s (x : Int) (y : Int) (z : Int) = some (g s (x, y, z))) (x y : Nat) (hxy : x < y) : ∀ (d k z : Nat) (s : S), z + d = a.length → y < z → d + 1 ≤ k → impl_threes.lz step k a (x : Int) (y : Int) (z : Int) s = some ((trZ a.length x y z d).foldl g s) := by
  intro d
  induction d with
  | zero =>
    intro k z s hz hy hk
    obtain ⟨m, rfl⟩ : ∃ m, k = m + 1 := ⟨k - 1, by omega⟩
    rw [impl_threes.lz, if_neg (by omega)]
    rfl
  | succ d ih =>
    intro k z s hz hy hk
    obtain ⟨m, rfl⟩ : ∃ m, k = m + 1 := ⟨k - 1, by omega⟩
    rw [impl_threes.lz, if_pos (by omega), hst s x y z hxy hy (by omega), Option.bind_some, wrap_nat (by omega), ih m (z + 1) _ (by omega) (by omega) (by omega)]
    unfold trZ
    rw [List.range'_succ, List.map_cons, List.foldl_cons]
theorem ly_fold (ha : a.length ≤ 1000) (hst : ∀ s (x y z : Nat), x < y → y < z → z < a.length → step s (x : Int) (y : Int) (z : Int) = some (g s (x, y, z))) (x : Nat) : ∀ (d k y : Nat) (s : S), y + d = a.length → x < y → a.length + d + 3 ≤ k → impl_threes.ly step k a (x : Int) (y : Int) s = some ((trY a.length x y d).foldl g s) := by
  intro d
  induction d with
  | zero =>
    intro k y s hy hx hk
    obtain ⟨m, rfl⟩ : ∃ m, k = m + 1 := ⟨k - 1, by omega⟩
    rw [impl_threes.ly, if_neg (by omega)]
    rfl
  | succ d ih =>
    intro k y s hy hx hk
    obtain ⟨m, rfl⟩ : ∃ m, k = m + 1 := ⟨k - 1, by omega⟩
    rw [impl_threes.ly, if_pos (by omega), wrap_nat (by omega), lz_fold step g a ha hst x y hx (a.length - (y + 1)) m (y + 1) s (by omega) (by omega) (by omega), Option.bind_some, ih m (y + 1) _ (by omega) (by omega) (by omega)]
    unfold trY
    rw [List.range'_succ, List.flatMap_cons, List.foldl_append]
theorem lx_fold (ha : a.length ≤ 1000) (hst : ∀ s (x y z : Nat), x < y → y < z → z < a.length → step s (x : Int) (y : Int) (z : Int) = some (g s (x, y, z))) : ∀ (d k x : Nat) (s : S), x + d = a.length → 2 * a.length + d + 5 ≤ k → impl_threes.lx step k a (x : Int) s = some ((trX a.length x d).foldl g s) := by
  intro d
  induction d with
  | zero =>
    intro k x s hx hk
    obtain ⟨m, rfl⟩ : ∃ m, k = m + 1 := ⟨k - 1, by omega⟩
    rw [impl_threes.lx, if_neg (by omega)]
    rfl
  | succ d ih =>
    intro k x s hx hk
    obtain ⟨m, rfl⟩ : ∃ m, k = m + 1 := ⟨k - 1, by omega⟩
    rw [impl_threes.lx, if_pos (by omega), wrap_nat (by omega), ly_fold step g a ha hst x (a.length - (x + 1)) m (x + 1) s (by omega) (by omega) (by omega), Option.bind_some, ih m (x + 1) _ (by omega) (by omega)]
    unfold trX
    rw [List.range'_succ, List.flatMap_cons, List.foldl_append]
theorem threes_fold (ha : a.length ≤ 1000) (hst : ∀ s (x y z : Nat), x < y → y < z → z < a.length → step s (x : Int) (y : Int) (z : Int) = some (g s (x, y, z))) (k : Nat) (hk : 3 * a.length + 5 ≤ k) (s : S) : impl_threes.f step k a s = some ((triples a.length).foldl g s) :=
  lx_fold step g a ha hst a.length k 0 s (by omega) (by omega)
end
def triOf (a : List Int) (t : Nat × Nat × Nat) : Bool := decide (rd a (t.2.2 : Int) < rd a (t.1 : Int) + rd a (t.2.1 : Int))
def sumT (a : List Int) (t : Nat × Nat × Nat) : Int := rd a (t.1 : Int) + rd a (t.2.1 : Int) + rd a (t.2.2 : Int)
theorem asc_le {a : List Int} (h : asc a) : ∀ (d i : Nat), i + d < a.length → rd a (i : Int) ≤ rd a ((i + d : Nat) : Int)
  | 0, i, _ => Int.le_refl _
  | d + 1, i, hd => by
    have h1 := asc_le h d i (by omega)
    have h2 := h (i + d + 1) (by omega) (by omega)
    rw [show i + d + 1 - 1 = i + d by omega] at h2
    rw [show i + (d + 1) = i + d + 1 by omega]
    omega
theorem tri_asc {a : List Int} (hb : isBundle a) {x y z : Nat} (hxy : x < y) (hyz : y < z) (hz : z < a.length) : tri (rd a (x : Int)) (rd a (y : Int)) (rd a (z : Int)) = triOf a (x, y, z) := by
  have h1 := asc_le hb.2 (y - x) x (by omega)
  have h2 := asc_le hb.2 (z - y) y (by omega)
  rw [show x + (y - x) = y by omega] at h1
  rw [show y + (z - y) = z by omega] at h2
  have hx := hb.1.1 _ (List.getElem_mem (show x < a.length by omega))
  have hy := hb.1.1 _ (List.getElem_mem (show y < a.length by omega))
  rw [← rd_at (show x < a.length by omega)] at hx
  rw [← rd_at (show y < a.length by omega)] at hy
  unfold tri triOf
  simp only
  generalize rd a (x : Int) = p at *
  generalize rd a (y : Int) = q at *
  generalize rd a (z : Int) = r at *
  rw [Bool.eq_iff_iff]
  simp only [Bool.and_eq_true, decide_eq_true_eq]
  omega
/-! ### one three alone -/
def oneL (x y z n : Nat) : List Int := (List.range n).map fun i => if i = x ∨ i = y ∨ i = z then 0 else -1
def oneOk (n x y z : Nat) : Bool := !decide (x < y) || (!decide (y < z) || (decide ((oneL x y z n).length = n) && (decide (rg (oneL x y z n) 0 = some 1) && decide (places (oneL x y z n) 0 = [x, y, z]))))
set_option maxRecDepth 100000 in
theorem one_ok : ((List.range 10).all fun n => (List.range n).all fun x => (List.range n).all fun y => (List.range n).all fun z => oneOk n x y z) = true := by decide +kernel
theorem one_all (n : Nat) (hn : n < 10) (x : Nat) (hx : x < n) (y : Nat) (hy : y < n) (z : Nat) (hz : z < n) (hxy : x < y) (hyz : y < z) : (oneL x y z n).length = n ∧ rg (oneL x y z n) 0 = some 1 ∧ places (oneL x y z n) 0 = [x, y, z] := by
  have h := one_ok
  rw [List.all_eq_true] at h
  have h := h n (List.mem_range.mpr hn)
  rw [List.all_eq_true] at h
  have h := h x (List.mem_range.mpr hx)
  rw [List.all_eq_true] at h
  have h := h y (List.mem_range.mpr hy)
  rw [List.all_eq_true] at h
  have h := h z (List.mem_range.mpr hz)
  unfold oneOk at h
  rw [decide_eq_true hxy, decide_eq_true hyz, Bool.not_true, Bool.false_or, Bool.false_or, Bool.and_eq_true, Bool.and_eq_true, decide_eq_true_eq, decide_eq_true_eq, decide_eq_true_eq] at h
  exact h
theorem one_in {a : List Int} (hb : isBundle a) {x y z : Nat} (hxy : x < y) (hyz : y < z) (hz : z < a.length) (ht : triOf a (x, y, z) = true) : oneL x y z a.length ∈ genAll a := by
  have h9 := hb.1.2.2
  obtain ⟨h1, h2, h3⟩ := one_all a.length (by omega) x (by omega) y (by omega) z (by omega) hxy hyz
  rw [all_iff]
  refine ⟨h1, 1, h2, ?_⟩
  rw [fits_iff]
  intro t htt
  have h0 : t = 0 := by omega
  subst h0
  unfold selOf
  rw [show ((0 : Nat) : Int) = 0 from rfl, h3]
  show tri (rd a (x : Int)) (rd a (y : Int)) (rd a (z : Int)) = true
  rw [tri_asc hb hxy hyz hz, ht]
theorem pf_asc (l : List Int) (t : Int) : ∀ d i, (∀ j ∈ pf l t d i, i ≤ j) ∧ (pf l t d i).Pairwise (· < ·)
  | 0, i => ⟨fun j hj => by simp [pf] at hj, List.Pairwise.nil⟩
  | d + 1, i => by
    obtain ⟨h1, h2⟩ := pf_asc l t d (i + 1)
    rw [pf]
    split
    · refine ⟨fun j hj => ?_, List.pairwise_cons.mpr ⟨fun j hj => ?_, h2⟩⟩
      · rcases List.mem_cons.mp hj with rfl | hj
        · exact Nat.le_refl _
        · have := h1 j hj
          omega
      · have := h1 j hj
        omega
    · exact ⟨fun j hj => by have := h1 j hj; omega, h2⟩
/-- Whatever part list has a three shows three places. -/
theorem has_three {a xs : List Int} (hb : isBundle a) (hxs : xs ∈ genAll a) {m : Nat} (hm : rg xs 0 = some m) (hf : fits a xs m = true) (h0 : 0 < m) : ∃ t, t ∈ triples a.length ∧ triOf a t = true := by
  have hin := mem_all_in hb.1.2.2 hxs
  have h3 := fits_iff.mp hf 0 h0
  have hl := three_len h3
  rw [selOf_len] at hl
  have hs := (pf_asc xs ((0 : Nat) : Int) xs.length 0).2
  have hs : (places xs ((0 : Nat) : Int)).Pairwise (· < ·) := hs
  have hlt : ∀ j ∈ places xs ((0 : Nat) : Int), j < a.length := fun j hj => by
    have := places_lt hj
    omega
  unfold selOf at h3
  match hp : places xs ((0 : Nat) : Int), hl with
  | [x, y, z], _ =>
    rw [hp] at hs hlt h3
    have e1 : x < y := by
      have := (List.pairwise_cons.mp hs).1 y (by simp)
      exact this
    have e2 : y < z := by
      have := (List.pairwise_cons.mp (List.pairwise_cons.mp hs).2).1 z (by simp)
      exact this
    have e3 := hlt z (by simp)
    refine ⟨(x, y, z), mem_triples.mpr ⟨e1, e2, e3⟩, ?_⟩
    rw [← tri_asc hb e1 e2 e3]
    exact h3
/-! ### spec.l1Sort: the same numbers -/
theorem sort_l1 (a out : List Int) (i : Int) (hl : out.length ≤ 1000) : ∀ (j k : Nat), j ≤ out.length → j + 1 ≤ k → ∃ j' : Nat, spec_l1Sort.l1 k a out i (j : Int) = some (j' : Int) ∧ j' ≤ j := by
  intro j
  induction j with
  | zero =>
    intro k h1 h2
    obtain ⟨m, rfl⟩ : ∃ m, k = m + 1 := ⟨k - 1, by omega⟩
    rw [spec_l1Sort.l1, if_neg (by omega)]
    exact ⟨0, rfl, Nat.le_refl _⟩
  | succ j ih =>
    intro k h1 h2
    obtain ⟨m, rfl⟩ : ∃ m, k = m + 1 := ⟨k - 1, by omega⟩
    rw [spec_l1Sort.l1, if_pos (by omega), show wrap64 (((j + 1 : Nat) : Int) - 1) = (j : Int) by unfold wrap64; omega, if_pos (by omega), if_pos (by omega)]
    split
    · obtain ⟨j', h3, h4⟩ := ih m (by omega) (by omega)
      exact ⟨j', h3, by omega⟩
    · exact ⟨j + 1, rfl, Nat.le_refl _⟩
theorem take_grow (a : List Int) (i : Nat) (h : i < a.length) : a.take (i + 1) = a.take i ++ [rd a (i : Int)] := by
  rw [List.take_succ_eq_append_getElem h]
  congr 2
  unfold rd
  rw [List.getD_eq_getElem?_getD, Int.toNat_natCast, List.getElem?_eq_getElem h]
  rfl
theorem sort_l0 (a : List Int) (hl : a.length ≤ 900) : ∀ (d k i : Nat) (out : List Int), i + d = a.length → out.length = i → a.length + d + 2 ≤ k → out.Perm (a.take i) → ∃ r, spec_l1Sort.l0 k a out (i : Int) = some r ∧ r.Perm a := by
  intro d
  induction d with
  | zero =>
    intro k i out h1 h2 h3 h4
    obtain ⟨m, rfl⟩ : ∃ m, k = m + 1 := ⟨k - 1, by omega⟩
    rw [spec_l1Sort.l0, if_neg (by omega)]
    exact ⟨out, rfl, by rw [List.take_of_length_le (by omega)] at h4; exact h4⟩
  | succ d ih =>
    intro k i out h1 h2 h3 h4
    obtain ⟨m, rfl⟩ : ∃ m, k = m + 1 := ⟨k - 1, by omega⟩
    rw [spec_l1Sort.l0, if_pos (by omega), if_pos (by omega)]
    obtain ⟨j, h5, h6⟩ := sort_l1 a out i (by omega) out.length m (Nat.le_refl _) (by omega)
    rw [h5]
    simp only [Option.bind_some]
    rw [if_pos (by omega), if_pos (by omega), if_pos (by omega), show wrap64 ((i : Int) + 1) = ((i + 1 : Nat) : Int) by unfold wrap64; omega]
    refine ih m (i + 1) _ (by omega) ?_ (by omega) ?_
    · rw [Int.toNat_natCast]
      simp only [List.length_append, List.length_take, List.length_drop, List.length_nil, List.length_cons]
      omega
    · rw [Int.toNat_natCast, List.nil_append, take_grow a i (by omega)]
      refine List.Perm.trans (List.perm_append_right_iff _ |>.mpr List.perm_append_comm) ?_
      rw [List.append_assoc, List.take_append_drop]
      exact List.perm_append_comm.trans (h4.append_right _)
theorem sort_tells (a : List Int) (hl : a.length ≤ 900) (k : Nat) (hk : 2 * a.length + 2 ≤ k) : ∃ r, spec_l1Sort.f k a = some r ∧ r.Perm a := by
  unfold spec_l1Sort.f
  exact sort_l0 a hl a.length k 0 [] (by omega) rfl (by omega) (by simp)
/-! ### spec.l1Sort sorts -/
theorem sorted_l1 (a out : List Int) (i : Int) (hl : out.length ≤ 1000) : ∀ (j k : Nat), j ≤ out.length → j + 1 ≤ k → (∀ t : Nat, j ≤ t → t < out.length → rd a i < rd out (t : Int)) → ∃ j' : Nat, spec_l1Sort.l1 k a out i (j : Int) = some (j' : Int) ∧ j' ≤ j ∧ (∀ t : Nat, j' ≤ t → t < out.length → rd a i < rd out (t : Int)) ∧ (0 < j' → rd out ((j' - 1 : Nat) : Int) ≤ rd a i) := by
  intro j
  induction j with
  | zero =>
    intro k h1 h2 h3
    obtain ⟨m, rfl⟩ : ∃ m, k = m + 1 := ⟨k - 1, by omega⟩
    rw [spec_l1Sort.l1, if_neg (by omega)]
    exact ⟨0, rfl, Nat.le_refl _, h3, fun h => absurd h (by omega)⟩
  | succ j ih =>
    intro k h1 h2 h3
    obtain ⟨m, rfl⟩ : ∃ m, k = m + 1 := ⟨k - 1, by omega⟩
    rw [spec_l1Sort.l1, if_pos (by omega), show wrap64 (((j + 1 : Nat) : Int) - 1) = (j : Int) by unfold wrap64; omega, if_pos (by omega), if_pos (by omega)]
    split
    · next hc =>
      obtain ⟨j', h4, h5, h6⟩ := ih m (by omega) (by omega) (fun t ht ht2 => by
        by_cases h : t = j
        · rw [h]
          exact hc
        · exact h3 t (by omega) ht2)
      exact ⟨j', h4, by omega, h6⟩
    · next hc => exact ⟨j + 1, rfl, Nat.le_refl _, h3, fun _ => by rw [Nat.add_sub_cancel]; omega⟩
def Asc (l : List Int) : Prop := l.Pairwise (· ≤ ·)
theorem asc_insert {out : List Int} {v : Int} {j : Nat} (hs : Asc out) (h1 : ∀ x ∈ out.take j, x ≤ v) (h2 : ∀ x ∈ out.drop j, v ≤ x) : Asc ((([] ++ out.take j) ++ [v]) ++ out.drop j) := by
  unfold Asc at hs ⊢
  rw [List.nil_append, List.append_assoc, List.pairwise_append]
  refine ⟨hs.sublist (List.take_sublist _ _), ?_, ?_⟩
  · rw [List.singleton_append, List.pairwise_cons]
    exact ⟨h2, hs.sublist (List.drop_sublist _ _)⟩
  · intro x hx y hy
    rw [List.singleton_append] at hy
    rcases List.mem_cons.mp hy with rfl | hy
    · exact h1 x hx
    · exact Int.le_trans (h1 x hx) (h2 y hy)
theorem asc_at {l : List Int} (h : Asc l) {i j : Nat} (hij : i < j) (hj : j < l.length) : rd l (i : Int) ≤ rd l (j : Int) := by
  rw [rd_at (by omega), rd_at hj]
  exact List.pairwise_iff_getElem.mp h i j (by omega) hj hij
theorem asc_asc {l : List Int} (h : Asc l) : asc l := fun j hj h0 => asc_at h (by omega) hj
theorem asc_of {l : List Int} (h : asc l) : Asc l := by
  refine List.pairwise_iff_getElem.mpr (fun i j hi hj hij => ?_)
  have key : ∀ (d i : Nat), i + d < l.length → rd l (i : Int) ≤ rd l ((i + d : Nat) : Int) := by
    intro d
    induction d with
    | zero => intro i _; exact Int.le_refl _
    | succ d ih =>
      intro i hd
      have h1 := ih i (by omega)
      have h2 := h (i + d + 1) (by omega) (by omega)
      rw [show i + d + 1 - 1 = i + d by omega] at h2
      rw [show i + (d + 1) = i + d + 1 by omega]
      omega
  have := key (j - i) i (by omega)
  rw [show i + (j - i) = j by omega, rd_at hi, rd_at hj] at this
  exact this
theorem sorted_l0 (a : List Int) (hl : a.length ≤ 900) : ∀ (d k i : Nat) (out : List Int), i + d = a.length → out.length = i → a.length + d + 2 ≤ k → out.Perm (a.take i) → Asc out → ∃ r, spec_l1Sort.l0 k a out (i : Int) = some r ∧ r.Perm a ∧ Asc r := by
  intro d
  induction d with
  | zero =>
    intro k i out h1 h2 h3 h4 hs
    obtain ⟨m, rfl⟩ : ∃ m, k = m + 1 := ⟨k - 1, by omega⟩
    rw [spec_l1Sort.l0, if_neg (by omega)]
    exact ⟨out, rfl, by rw [List.take_of_length_le (by omega)] at h4; exact h4, hs⟩
  | succ d ih =>
    intro k i out h1 h2 h3 h4 hs
    obtain ⟨m, rfl⟩ : ∃ m, k = m + 1 := ⟨k - 1, by omega⟩
    rw [spec_l1Sort.l0, if_pos (by omega), if_pos (by omega)]
    obtain ⟨j, h5, h6, h7, h8⟩ := sorted_l1 a out i (by omega) out.length m (Nat.le_refl _) (by omega) (fun t ht ht2 => by omega)
    rw [h5]
    simp only [Option.bind_some]
    rw [if_pos (by omega), if_pos (by omega), if_pos (by omega), show wrap64 ((i : Int) + 1) = ((i + 1 : Nat) : Int) by unfold wrap64; omega]
    refine ih m (i + 1) _ (by omega) ?_ (by omega) ?_ ?_
    · rw [Int.toNat_natCast]
      simp only [List.length_append, List.length_take, List.length_drop, List.length_nil, List.length_cons]
      omega
    · rw [Int.toNat_natCast, List.nil_append, take_grow a i (by omega)]
      refine List.Perm.trans (List.perm_append_right_iff _ |>.mpr List.perm_append_comm) ?_
      rw [List.append_assoc, List.take_append_drop]
      exact List.perm_append_comm.trans (h4.append_right _)
    · rw [Int.toNat_natCast]
      refine asc_insert hs (fun x hx => ?_) (fun x hx => ?_)
      · obtain ⟨t, ht, rfl⟩ := List.mem_iff_getElem.mp hx
        rw [List.length_take] at ht
        rw [List.getElem_take]
        have hj0 : 0 < j := by omega
        have h9 := h8 hj0
        have e : rd out (t : Int) = out[t] := rd_at (by omega)
        rw [← e]
        by_cases htj : t = j - 1
        · rw [htj]
          exact h9
        · exact Int.le_trans (asc_at hs (show t < j - 1 by omega) (by omega)) h9
      · obtain ⟨t, ht, rfl⟩ := List.mem_iff_getElem.mp hx
        rw [List.length_drop] at ht
        rw [List.getElem_drop]
        have := h7 (j + t) (by omega) (by omega)
        rw [rd_at (show j + t < out.length by omega)] at this
        omega
def sortL (a : List Int) : List Int := a.mergeSort (fun x y => decide (x ≤ y))
theorem sortL_perm (a : List Int) : (sortL a).Perm a := List.mergeSort_perm _ _
theorem sortL_asc (a : List Int) : Asc (sortL a) := by
  have h := List.pairwise_mergeSort (le := fun (x y : Int) => decide (x ≤ y)) (fun x y z h1 h2 => by
    rw [decide_eq_true_eq] at *
    omega) (fun x y => by
    rw [Bool.or_eq_true, decide_eq_true_eq, decide_eq_true_eq]
    omega) a
  exact h.imp (fun h => of_decide_eq_true h)
theorem asc_one {l r : List Int} (hp : l.Perm r) (h1 : Asc l) (h2 : Asc r) : l = r :=
  List.Perm.eq_of_pairwise (le := fun (x y : Int) => x ≤ y) (fun x y _ _ h1 h2 => Int.le_antisymm h1 h2) h1 h2 hp
theorem sort_eq (a : List Int) (hl : a.length ≤ 900) (k : Nat) (hk : 2 * a.length + 2 ≤ k) : spec_l1Sort.f k a = some (sortL a) := by
  unfold spec_l1Sort.f
  obtain ⟨r, h1, h2, h3⟩ := sorted_l0 a hl a.length k 0 [] (by omega) rfl (by omega) (by simp) List.Pairwise.nil
  have h1 : spec_l1Sort.l0 k a [] 0 = some r := h1
  rw [h1, asc_one (h2.trans (sortL_perm a).symm) h3 (sortL_asc a)]
theorem ruler_perm {l r : List Int} (hp : l.Perm r) (h : isRuler l) : isRuler r := ⟨fun x hx => h.1 x (hp.mem_iff.mpr hx), by rw [← hp.length_eq]; exact h.2.1, by rw [← hp.length_eq]; exact h.2.2⟩
def sortOf (a : List Int) : List Int × Bool := if isRuler a then (sortL a, true) else ([], false)
theorem sort_bundle {a : List Int} (h : isRuler a) : isBundle (sortL a) := ⟨ruler_perm (sortL_perm a).symm h, asc_asc (sortL_asc a)⟩
theorem sort_go (a : List Int) (hl : a.length ≤ 1048576) (k : Nat) (hk : a.length + 10 ≤ k) : impl_StickSort.f k a = some (sortOf a) := by
  unfold impl_StickSort.f sortOf
  rw [impl_ruler a hl k (by omega), Option.bind_some]
  by_cases hr : isRuler a
  · have h9 := hr.2.2
    have h1 := hr.2.1
    rw [decide_eq_true hr, if_pos rfl, if_pos hr]
    unfold slices_Clone_int_int.f
    rw [if_pos (by omega), if_pos (by omega), Option.bind_some, List.nil_append]
    rfl
  · rw [decide_eq_false hr, if_neg (by decide), if_neg hr]
/-! ### the reader of draws -/
theorem wrap_id {x : Int} (h0 : -9223372036854775808 ≤ x) (h1 : x ≤ 9223372036854775807) : wrap64 x = x := by unfold wrap64; omega
theorem wf_u8 {l : List Int} (h : ∀ x ∈ l, (Lit.int .u8 x).wf = true) : ∀ x ∈ l, 0 ≤ x ∧ x ≤ 255 := by
  intro x hx
  have := h x hx
  simp [Lit.wf, IntKind.min, IntKind.max, IntKind.bits, IntKind.signed] at this
  omega
theorem rd_u8 {b : List Int} (hb : ∀ x ∈ b, 0 ≤ x ∧ x ≤ 255) (i : Int) (h0 : 0 ≤ i) (h1 : i < b.length) : 0 ≤ rd b i ∧ rd b i ≤ 255 := by
  have hl : i.toNat < b.length := by omega
  have : rd b i = b[i.toNat] := by
    unfold rd
    rw [List.getD_eq_getElem?_getD, List.getElem?_eq_getElem hl]
    rfl
  rw [this]
  exact hb _ (List.getElem_mem hl)
theorem xor_i64 (a b : Nat) (ha : a < 4611686018427387904) (hb : b < 4611686018427387904) : Go.bits .xor .i64 (a : Int) (b : Int) = ((a ^^^ b : Nat) : Int) := by
  have hx : a ^^^ b < 2 ^ 62 := Nat.xor_lt_two_pow (by omega) (by omega)
  have h1 : (BitVec.ofInt 64 (a : Int)).toNat = a := by
    rw [BitVec.ofInt_natCast, BitVec.toNat_ofNat]; exact Nat.mod_eq_of_lt (by omega)
  have h2 : (BitVec.ofInt 64 (b : Int)).toNat = b := by
    rw [BitVec.ofInt_natCast, BitVec.toNat_ofNat]; exact Nat.mod_eq_of_lt (by omega)
  show IntKind.i64.wrap ((BitVec.ofInt 64 (a : Int) ^^^ BitVec.ofInt 64 (b : Int)).toNat : Int) = _
  rw [BitVec.toNat_xor, h1, h2]
  generalize a ^^^ b = c at hx
  simp [IntKind.wrap, IntKind.bits, IntKind.signed]
  omega
theorem tmod_in {x n : Int} (hx : 0 ≤ x) (hn : 1 ≤ n) : 0 ≤ Int.tmod x n ∧ Int.tmod x n < n := by
  rw [Int.tmod_eq_emod_of_nonneg hx]
  exact ⟨Int.emod_nonneg _ (by omega), Int.emod_lt_of_pos _ (by omega)⟩
theorem tdiv_in {x n : Int} (hx : 0 ≤ x) (hn : 1 ≤ n) : 0 ≤ Int.tdiv x n ∧ Int.tdiv x n ≤ x := by
  rw [Int.tdiv_eq_ediv_of_nonneg hx]
  exact ⟨Int.ediv_nonneg hx (by omega), Int.ediv_le_self _ hx⟩
theorem pick_tells (b : List Int) (hb : ∀ x ∈ b, 0 ≤ x ∧ x ≤ 255) (hl : b.length ≤ 2000) (p n : Int) (hp : 0 ≤ p) (hp2 : p ≤ 1000000) (hn : 1 ≤ n) (hn2 : n ≤ 1000000) (k : Nat) (hk : 1 ≤ k) :
    ∃ r, spec_l6Rd_pick.f k b p n = some (r, p + 1) ∧ 0 ≤ r ∧ r < n := by
  obtain ⟨m, rfl⟩ : ∃ m, k = m + 1 := ⟨k - 1, by omega⟩
  unfold spec_l6Rd_pick.f
  have e0 : wrap64 (p + 1) = p + 1 := wrap_id (by omega) (by omega)
  have e1 : wrap64 (p + 1 - 1) = p := by rw [show p + 1 - 1 = p by omega]; exact wrap_id (by omega) (by omega)
  rw [if_neg (by omega), spec_l6Rd_pick.j0, e0, e1]
  by_cases hz : b.length = 0
  · rw [if_pos (by simp [hz])]
    exact ⟨0, rfl, by omega, by omega⟩
  · have hz2 : ((b.length : Int) == 0) = false := by rw [beq_eq_false_iff_ne]; omega
    rw [hz2, if_neg (by decide)]
    by_cases h : p < b.length
    · rw [if_pos h, if_pos hp, if_neg (by omega)]
      have hr := rd_u8 hb p hp h
      rw [wrap_id (x := rd b p) (by omega) (by omega)]
      exact ⟨_, rfl, tmod_in hr.1 hn⟩
    · rw [if_neg h, if_neg (by omega)]
      have hlen : (1 : Int) ≤ b.length := by omega
      have q1 := tmod_in hp hlen
      have e7 : wrap64 (p * 7) = p * 7 := wrap_id (by omega) (by omega)
      have e8 : wrap64 (p * 7 + 3) = p * 7 + 3 := wrap_id (by omega) (by omega)
      rw [e7, e8]
      have q2 := tmod_in (show (0 : Int) ≤ p * 7 + 3 by omega) hlen
      rw [if_pos q1.1, if_pos q1.2, if_pos q2.1, if_pos q2.2, if_neg (by omega)]
      have r1 := rd_u8 hb _ q1.1 q1.2
      have r2 := rd_u8 hb _ q2.1 q2.2
      have q3 := tdiv_in hp hlen
      generalize rd b (Int.tmod p b.length) = x1 at r1
      generalize rd b (Int.tmod (p * 7 + 3) b.length) = x2 at r2
      generalize Int.tdiv p b.length = x3 at q3
      rw [wrap_id (x := x1) (by omega) (by omega), wrap_id (x := x2) (by omega) (by omega), wrap_id (x := x3) (by omega) (by omega), wrap_id (x := x1 * 131) (by omega) (by omega), wrap_id (x := x2 * 1117) (by omega) (by omega),
        wrap_id (x := x1 * 131 + x2 * 1117) (by omega) (by omega), wrap_id (x := p * 29) (by omega) (by omega), wrap_id (x := x1 * 131 + x2 * 1117 + p * 29) (by omega) (by omega), wrap_id (x := x3 * 53) (by omega) (by omega),
        wrap_id (x := x1 * 131 + x2 * 1117 + p * 29 + x3 * 53) (by omega) (by omega)]
      obtain ⟨X, hX⟩ : ∃ X : Nat, x1 * 131 + x2 * 1117 + p * 29 + x3 * 53 = X := ⟨(x1 * 131 + x2 * 1117 + p * 29 + x3 * 53).toNat, by omega⟩
      rw [hX]
      have hXb : X < 1000000000 := by omega
      have q4 := tdiv_in (show (0 : Int) ≤ (X : Int) by omega) (show (1 : Int) ≤ 64 by omega)
      rw [wrap_id (x := Int.tdiv X 64) (by omega) (by omega)]
      obtain ⟨Y, hY⟩ : ∃ Y : Nat, Int.tdiv X 64 = Y := ⟨(Int.tdiv X 64).toNat, by omega⟩
      rw [hY, xor_i64 X Y (by omega) (by omega)]
      exact ⟨_, rfl, tmod_in (by omega) hn⟩
/-- The bytes that the reader takes. -/
theorem open_tells (l : List Int) (h : ∀ x ∈ l, 0 ≤ x ∧ x ≤ 255) : ∃ b, spec_l6Open.f l = some (b, 0) ∧ b.length ≤ 2000 ∧ ∀ x ∈ b, 0 ≤ x ∧ x ≤ 255 := by
  unfold spec_l6Open.f
  by_cases hl : (l.length : Int) > 2000
  · rw [if_pos hl, if_pos (by omega)]
    exact ⟨_, rfl, by rw [List.length_take]; omega, fun x hx => h x (List.mem_of_mem_take hx)⟩
  · rw [if_neg hl]
    exact ⟨_, rfl, by omega, h⟩
/-! ### a bundle that is drawn -/
theorem length_draw (b : List Int) (hb : ∀ x ∈ b, 0 ≤ x ∧ x ≤ 255) (hl : b.length ≤ 2000) (p : Int) (hp : 0 ≤ p) (hp2 : p ≤ 900000) (k : Nat) (hk : 1 ≤ k) :
    ∃ r q, spec_l91Length.f k b p = some (r, q) ∧ p ≤ q ∧ q ≤ p + 3 := by
  unfold spec_l91Length.f
  obtain ⟨r1, h1, _⟩ := pick_tells b hb hl p 12 hp (by omega) (by omega) (by omega) k hk
  obtain ⟨r2, h2, _⟩ := pick_tells b hb hl (p + 1) 6 (by omega) (by omega) (by omega) (by omega) k hk
  obtain ⟨r3, h3, _⟩ := pick_tells b hb hl (p + 1 + 1) 48 (by omega) (by omega) (by omega) (by omega) k hk
  rw [h1]
  simp only [Option.bind_some]
  rw [h2]
  simp only [Option.bind_some]
  rw [h3]
  simp only [Option.bind_some]
  exact ⟨_, _, rfl, by omega, by omega⟩
theorem sticks_draw_l (b : List Int) (hb : ∀ x ∈ b, 0 ≤ x ∧ x ≤ 255) (hl : b.length ≤ 2000) (n : Nat) (hn9 : n ≤ 9) : ∀ (d k i : Nat) (out : List Int) (p : Int), i + d = n → d + 30 ≤ k → out.length = i → 0 ≤ p → p ≤ 1000 + 3 * i →
    ∃ a q, spec_l91Sticks.l0 k (n : Int) out (i : Int) b p = some (a, q) ∧ a.length ≤ n + 1 ∧ 0 ≤ q ∧ q ≤ 1003 + 3 * n := by
  intro d
  induction d with
  | zero =>
    intro k i out p hi hk ho hp hp2
    obtain ⟨m, rfl⟩ : ∃ m, k = m + 1 := ⟨k - 1, by omega⟩
    rw [spec_l91Sticks.l0, if_neg (by omega)]
    obtain ⟨r, g1, g2⟩ := sort_tells out (by omega) m (by omega)
    have g3 := g2.length_eq
    rw [g1]
    simp only [Option.bind_some]
    obtain ⟨r1, h1, _⟩ := pick_tells b hb hl p 40 hp (by omega) (by omega) (by omega) m (by omega)
    rw [h1]
    simp only [Option.bind_some]
    split
    · rw [if_pos (by omega)]
      exact ⟨_, _, rfl, by rw [List.length_append]; simp; omega, by omega, by omega⟩
    · split
      · rw [if_pos (by simp; omega)]
        exact ⟨_, _, rfl, by rw [List.length_append]; simp; omega, by omega, by omega⟩
      · exact ⟨_, _, rfl, by omega, by omega, by omega⟩
  | succ d ih =>
    intro k i out p hi hk ho hp hp2
    obtain ⟨m, rfl⟩ : ∃ m, k = m + 1 := ⟨k - 1, by omega⟩
    rw [spec_l91Sticks.l0, if_pos (by omega)]
    obtain ⟨r, q, h1, h2, h3⟩ := length_draw b hb hl p hp (by omega) m (by omega)
    rw [h1]
    simp only [Option.bind_some]
    rw [if_pos (by omega), show wrap64 ((i : Int) + 1) = ((i + 1 : Nat) : Int) by unfold wrap64; omega]
    exact ih m (i + 1) _ q (by omega) (by omega) (by rw [List.length_append]; simp; omega) (by omega) (by omega)
theorem bundle_draw (b : List Int) (hb : ∀ x ∈ b, 0 ≤ x ∧ x ≤ 255) (hl : b.length ≤ 2000) (k : Nat) (hk : 60 ≤ k) :
    ∃ a q, spec_l91Bundle.f k b 0 = some (a, q) ∧ a.length ≤ 10 ∧ 0 ≤ q ∧ q ≤ 1100 := by
  unfold spec_l91Bundle.f
  obtain ⟨r, h, g1, g2⟩ := pick_tells b hb hl 0 9 (by omega) (by omega) (by omega) (by omega) k (by omega)
  rw [h]
  simp only [Option.bind_some]
  obtain ⟨n, hn⟩ : ∃ n : Nat, r = n := ⟨r.toNat, by omega⟩
  subst hn
  unfold spec_l91Sticks.f
  rw [show wrap64 (1 + (n : Int)) = ((n + 1 : Nat) : Int) by unfold wrap64; omega]
  obtain ⟨a, q, h1, h2, h3, h4⟩ := sticks_draw_l b hb hl (n + 1) (by omega) (n + 1) k 0 [] (0 + 1) (by omega) (by omega) rfl (by omega) (by omega)
  have h1 : spec_l91Sticks.l0 k ((n + 1 : Nat) : Int) [] 0 b (0 + 1) = some (a, q) := h1
  rw [h1]
  exact ⟨a, q, rfl, by omega, h3, by omega⟩
/-! ### a bundle to part, drawn -/
theorem bundle_draw_at (b : List Int) (hb : ∀ x ∈ b, 0 ≤ x ∧ x ≤ 255) (hl : b.length ≤ 2000) (p : Int) (hp : 0 ≤ p) (hp2 : p ≤ 900) (k : Nat) (hk : 60 ≤ k) :
    ∃ a q, spec_l91Bundle.f k b p = some (a, q) ∧ a.length ≤ 10 ∧ 0 ≤ q ∧ q ≤ 5000 := by
  unfold spec_l91Bundle.f
  obtain ⟨r, h, g1, g2⟩ := pick_tells b hb hl p 9 (by omega) (by omega) (by omega) (by omega) k (by omega)
  rw [h]
  simp only [Option.bind_some]
  obtain ⟨n, hn⟩ : ∃ n : Nat, r = n := ⟨r.toNat, by omega⟩
  subst hn
  unfold spec_l91Sticks.f
  rw [show wrap64 (1 + (n : Int)) = ((n + 1 : Nat) : Int) by unfold wrap64; omega]
  obtain ⟨a, q, h1, h2, h3, h4⟩ := sticks_draw_l b hb hl (n + 1) (by omega) (n + 1) k 0 [] (p + 1) (by omega) (by omega) rfl (by omega) (by omega)
  have h1 : spec_l91Sticks.l0 k ((n + 1 : Nat) : Int) [] 0 b (p + 1) = some (a, q) := h1
  rw [h1]
  exact ⟨a, q, rfl, by omega, h3, by omega⟩
theorem few_l (b : List Int) (hb : ∀ x ∈ b, 0 ≤ x ∧ x ≤ 255) (hl : b.length ≤ 2000) (n : Nat) (hn9 : n ≤ 9) : ∀ (d k i : Nat) (out : List Int) (p : Int), i + d = n → d + 30 ≤ k → out.length = i → 0 ≤ p → p ≤ 1000 + i →
    ∃ a q, spec_l92Few.l0 k out (n : Int) (i : Int) b p = some (a, q) ∧ a.length ≤ 10 ∧ 0 ≤ q ∧ q ≤ 5000 := by
  intro d
  induction d with
  | zero =>
    intro k i out p hi hk ho hp hp2
    obtain ⟨m, rfl⟩ : ∃ m, k = m + 1 := ⟨k - 1, by omega⟩
    rw [spec_l92Few.l0, if_neg (by omega)]
    obtain ⟨r, g1, g2⟩ := sort_tells out (by omega) m (by omega)
    have g3 := g2.length_eq
    rw [g1]
    exact ⟨r, p, rfl, by omega, by omega, by omega⟩
  | succ d ih =>
    intro k i out p hi hk ho hp hp2
    obtain ⟨m, rfl⟩ : ∃ m, k = m + 1 := ⟨k - 1, by omega⟩
    rw [spec_l92Few.l0, if_pos (by omega)]
    obtain ⟨r, h1, h2, h3⟩ := pick_tells b hb hl p 6 hp (by omega) (by omega) (by omega) m (by omega)
    rw [h1]
    simp only [Option.bind_some]
    rw [if_pos (by omega), show wrap64 ((i : Int) + 1) = ((i + 1 : Nat) : Int) by unfold wrap64; omega]
    exact ih m (i + 1) _ (p + 1) (by omega) (by omega) (by rw [List.length_append]; simp; omega) (by omega) (by omega)
theorem few_j (b : List Int) (hb : ∀ x ∈ b, 0 ≤ x ∧ x ≤ 255) (hl : b.length ≤ 2000) (n : Int) (h0 : 0 ≤ n) (hn9 : n ≤ 9) (k : Nat) (hk : 60 ≤ k) (p : Int) (hp : 0 ≤ p) (hp2 : p ≤ 100) :
    ∃ a q, spec_l92Few.j0 k [] n b p = some (a, q) ∧ a.length ≤ 10 ∧ 0 ≤ q ∧ q ≤ 5000 := by
  obtain ⟨m, rfl⟩ : ∃ m, k = m + 1 := ⟨k - 1, by omega⟩
  obtain ⟨n, rfl⟩ : ∃ j : Nat, n = j := ⟨n.toNat, by omega⟩
  rw [spec_l92Few.j0]
  exact few_l b hb hl n (by omega) n m 0 [] p (by omega) (by omega) rfl hp (by omega)
theorem few_tells (b : List Int) (hb : ∀ x ∈ b, 0 ≤ x ∧ x ≤ 255) (hl : b.length ≤ 2000) (k : Nat) (hk : 60 ≤ k) : ∃ a q, spec_l92Few.f k b 0 = some (a, q) ∧ a.length ≤ 10 ∧ 0 ≤ q ∧ q ≤ 5000 := by
  unfold spec_l92Few.f
  obtain ⟨r0, h0, _⟩ := pick_tells b hb hl 0 3 (by omega) (by omega) (by omega) (by omega) k (by omega)
  rw [h0]
  simp only [Option.bind_some]
  split
  · obtain ⟨a, q, h1, h2⟩ := bundle_draw_at b hb hl (0 + 1) (by omega) (by omega) k hk
    rw [h1]
    exact ⟨a, q, rfl, h2⟩
  · obtain ⟨r1, h1, g1, g2⟩ := pick_tells b hb hl (0 + 1) 3 (by omega) (by omega) (by omega) (by omega) k (by omega)
    obtain ⟨r2, h2, _⟩ := pick_tells b hb hl (0 + 1 + 1) 4 (by omega) (by omega) (by omega) (by omega) k (by omega)
    rw [h1]
    simp only [Option.bind_some]
    rw [h2]
    simp only [Option.bind_some]
    split
    · obtain ⟨r3, h3, g3, g4⟩ := pick_tells b hb hl (0 + 1 + 1 + 1) 9 (by omega) (by omega) (by omega) (by omega) k (by omega)
      rw [h3]
      simp only [Option.bind_some]
      exact few_j b hb hl _ (by unfold wrap64; omega) (by unfold wrap64; omega) k hk _ (by omega) (by omega)
    · rw [show wrap64 (1 + r1) = 1 + r1 by unfold wrap64; omega, show wrap64 (3 * (1 + r1)) = 3 * (1 + r1) by unfold wrap64; omega]
      exact few_j b hb hl _ (by omega) (by omega) k hk _ (by omega) (by omega)
theorem parted_tells (l : List Int) (hb : ∀ x ∈ l, 0 ≤ x ∧ x ≤ 255) (k : Nat) (hk : 60 ≤ k) : ∃ a, spec_l92Parted.f k l = some a ∧ a.length ≤ 10 := by
  unfold spec_l92Parted.f
  obtain ⟨b, h1, h2, h3⟩ := open_tells l hb
  rw [h1]
  simp only [Option.bind_some]
  obtain ⟨a, q, h4, h5⟩ := few_tells b h3 h2 k hk
  rw [h4]
  exact ⟨a, rfl, h5.1⟩
theorem parted_same (l : List Int) (hb : ∀ x ∈ l, 0 ≤ x ∧ x ≤ 255) : ∃ a, (∀ k, 60 ≤ k → spec_l92Parted.f k l = some a) ∧ a.length ≤ 10 := by
  obtain ⟨a, h1, h2⟩ := parted_tells l hb 60 (Nat.le_refl _)
  exact ⟨a, fun k hk => at_rounds (fun k => spec_l92Parted.mono l k) hk h1, h2⟩
theorem count_fold {α : Type} (c : α → Bool) (N : Nat) : ∀ (ls : List α) (s : Nat), s + ls.length < N → N ≤ 4611686018427387904 → ls.foldl (fun (s : Int) t => if c t = true then wrap64 (s + 1) else s) (s : Int) = ((s + ls.countP c : Nat) : Int)
  | [], s, _, _ => by simp
  | x :: ls, s, h, hN => by
    rw [List.length_cons] at h
    rw [List.foldl_cons, List.countP_cons]
    by_cases hx : c x = true
    · rw [if_pos hx, if_pos hx, wrap_nat (by omega), count_fold c N ls (s + 1) (by omega) hN]
      congr 1
      omega
    · rw [if_neg hx, if_neg hx, count_fold c N ls s (by omega) hN]
      rfl
theorem flat_le {α β : Type} (f : α → List β) (B : Nat) : ∀ l : List α, (∀ x ∈ l, (f x).length ≤ B) → (l.flatMap f).length ≤ l.length * B
  | [], _ => by simp
  | x :: l, h => by
    have h1 := h x List.mem_cons_self
    have h2 := flat_le f B l (fun y hy => h y (List.mem_cons_of_mem _ hy))
    rw [List.flatMap_cons, List.length_append, List.length_cons, Nat.succ_mul]
    omega
theorem triples_len {n : Nat} (hn : n ≤ 9) : (triples n).length ≤ 729 := by
  unfold triples trX
  have h1 : ∀ x ∈ List.range' 0 n, (trY n x (x + 1) (n - (x + 1))).length ≤ 81 := fun x _ => by
    unfold trY
    have h2 : ∀ y ∈ List.range' (x + 1) (n - (x + 1)), (trZ n x y (y + 1) (n - (y + 1))).length ≤ 9 := fun y _ => by
      unfold trZ
      rw [List.length_map, List.length_range']
      omega
    have h3 := flat_le _ 9 _ h2
    rw [List.length_range'] at h3
    omega
  have h3 := flat_le _ 81 _ h1
  rw [List.length_range'] at h3
  omega
def manyOf (a : List Int) : Nat := (triples a.length).countP (triOf a)
theorem many_impl (l : List Int) (hb : isBundle l) (k : Nat) (hk : l.length + 100 ≤ k) : impl_StickMany.f k l = some ((manyOf l : Int), true) := by
  have h9 := hb.1.2.2
  have hl : l.length ≤ 1048576 := by omega
  unfold impl_StickMany.f
  rw [impl_bundle l hl k (by omega), decide_eq_true hb, Option.bind_some, if_pos rfl, threes_fold (impl_StickMany.step l) (fun s t => if triOf l t = true then wrap64 (s + 1) else s) l (by omega) (fun s x y z hxy hyz hz => ?_) k (by omega) 0, Option.bind_some]
  · have ht := triples_len h9
    have := count_fold (triOf l) 4000000000 (triples l.length) 0 (by omega) (by omega)
    rw [Nat.zero_add] at this
    rw [show (0 : Int) = ((0 : Nat) : Int) from rfl, this]
    rfl
  · have hx := hb.1.1 _ (List.getElem_mem (show x < l.length by omega))
    have hy := hb.1.1 _ (List.getElem_mem (show y < l.length by omega))
    unfold impl_StickMany.step triOf
    simp only
    rw [if_pos (by omega), if_pos (by omega), if_pos (by omega), if_pos (by omega), if_pos (by omega), if_pos (by omega), rd_at (show x < l.length by omega), rd_at (show y < l.length by omega)]
    generalize l[x] = p at hx
    generalize l[y] = q at hy
    rw [show wrap64 (p + q) = p + q by unfold wrap64; omega]
    by_cases h : rd l (z : Int) < p + q
    · rw [if_pos h, decide_eq_true h, if_pos rfl]
    · rw [if_neg h, decide_eq_false h, if_neg (by decide)]
theorem free_impl (l : List Int) (hb : isBundle l) (k : Nat) (hk : l.length + 100 ≤ k) : impl_StickFree.f k l = some (decide (manyOf l = 0)) := by
  unfold impl_StickFree.f
  rw [many_impl l hb k hk, Option.bind_some]
  show (if (true = true) then some ((manyOf l : Int) == 0) else _) = _
  rw [if_pos rfl]
  congr 1
  rw [Bool.eq_iff_iff, beq_iff_eq, decide_eq_true_eq]
  omega
theorem pf_shift (l : List Int) (x t : Int) : ∀ d i, i + d = l.length → pf (x :: l) t d (i + 1) = (pf l t d i).map (· + 1)
  | 0, i, _ => rfl
  | d + 1, i, h => by
    have e : rd (x :: l) ((i + 1 : Nat) : Int) = rd l (i : Int) := by
      rw [rd_at (by rw [List.length_cons]; omega), rd_at (by omega), List.getElem_cons_succ]
    rw [pf, pf, e, pf_shift l x t d (i + 1) (by omega)]
    split <;> rfl
theorem places_shift (l : List Int) (t : Int) (ht : t ≠ -1) : places ((-1) :: l) t = (places l t).map (· + 1) := by
  unfold places
  rw [List.length_cons, pf]
  have e : rd ((-1) :: l) ((0 : Nat) : Int) = -1 := rfl
  rw [e, if_neg (fun h => ht h.symm), pf_shift l (-1) t l.length 0 (by omega)]
theorem sel_shift (a l : List Int) (v t : Int) (ht : t ≠ -1) (hl : l.length ≤ a.length) : selOf (v :: a) ((-1) :: l) t = selOf a l t := by
  unfold selOf
  rw [places_shift l t ht, List.map_map]
  apply List.map_congr_left
  intro j hj
  have := places_lt hj
  show rd (v :: a) ((j + 1 : Nat) : Int) = rd a (j : Int)
  rw [rd_at (by rw [List.length_cons]; omega), rd_at (by omega), List.getElem_cons_succ]
theorem put_in {a xs : List Int} (v : Int) (h : xs ∈ genAll a) : ((-1) :: xs) ∈ genAll (v :: a) ∧ thr ((-1) :: xs) = thr xs := by
  obtain ⟨q1, m, hm, hf⟩ := (all_iff a xs).mp h
  refine ⟨(all_iff _ _).mpr ⟨by rw [List.length_cons, List.length_cons, q1], m, ?_, ?_⟩, ?_⟩
  · rw [rg, if_pos (by omega), if_neg (by omega)]
    exact hm
  · rw [fits_iff] at hf ⊢
    intro t ht
    rw [sel_shift a xs v (t : Int) (by omega) (by omega)]
    exact hf t ht
  · unfold thr
    rw [List.foldl_cons]
    rfl
theorem put_sorted {a : List Int} (hb : isBundle a) : sortL (a ++ [1]) = 1 :: a := by
  refine asc_one ((sortL_perm _).trans List.perm_append_comm) (sortL_asc _) ?_
  unfold Asc
  rw [List.pairwise_cons]
  exact ⟨fun x hx => (hb.1.1 x hx).1, asc_of hb.2⟩
theorem put_impl (a : List Int) (hb : isBundle a) (k : Nat) (hk : a.length + 100 ≤ k) : impl_StickPut.f k a 1 = some (if a.length ≤ 8 then (1 :: a, true) else ([], false)) := by
  have h9 := hb.1.2.2
  have h1 := hb.1.2.1
  unfold impl_StickPut.f
  rw [impl_bundle a (by omega) k (by omega), decide_eq_true hb, Option.bind_some, if_pos rfl]
  unfold slices_Clone_int_int.f
  rw [if_pos (by omega), if_pos (by omega), Option.bind_some, List.nil_append, if_pos (by omega), sort_go (a ++ [1]) (by simp; omega) k (by simp; omega), Option.bind_some]
  unfold sortOf
  have e : isRuler (a ++ [1]) ↔ a.length ≤ 8 := by
    constructor
    · intro h
      have := h.2.2
      rw [List.length_append, List.length_singleton] at this
      omega
    · intro h
      refine ⟨fun x hx => ?_, by rw [List.length_append, List.length_singleton]; omega, by rw [List.length_append, List.length_singleton]; omega⟩
      rcases List.mem_append.mp hx with hx | hx
      · exact hb.1.1 x hx
      · rw [List.mem_singleton] at hx
        omega
  by_cases h8 : a.length ≤ 8
  · rw [if_pos (e.mpr h8), if_pos h8, put_sorted hb]
  · rw [if_neg (fun h => h8 (e.mp h)), if_neg h8]
theorem one_bundle {a : List Int} (hb : isBundle a) (h8 : a.length ≤ 8) : isBundle (1 :: a) := by
  refine ⟨⟨fun x hx => ?_, by rw [List.length_cons]; omega, by rw [List.length_cons]; omega⟩, ?_⟩
  · rcases List.mem_cons.mp hx with rfl | hx
    · omega
    · exact hb.1.1 x hx
  · refine asc_asc ?_
    unfold Asc
    rw [List.pairwise_cons]
    exact ⟨fun x hx => (hb.1.1 x hx).1, asc_of hb.2⟩
def mostN (a : List Int) : Int := (genAll a).foldl (fun s x => mx s (thr x)) 0
theorem most_at {a : List Int} (hb : isBundle a) : mostOf a = (mostN a, true) := by unfold mostOf; rw [if_pos hb]; rfl
theorem most_facts {a : List Int} (hb : isBundle a) : ∃ m : Nat, mostN a = (m : Int) ∧ 3 * m ≤ a.length ∧ (m = 0 ↔ manyOf a = 0) := by
  have key : ∃ m : Nat, mostN a = (m : Int) ∧ 3 * m ≤ a.length ∧ (0 < m → ∃ t, t ∈ triples a.length ∧ triOf a t = true) := by
    unfold mostN
    rcases fold_at thr (genAll a) 0 with e | ⟨y, hy, e⟩
    · exact ⟨0, by rw [e]; rfl, by omega, fun h => absurd h (by omega)⟩
    · obtain ⟨m, k1, k2, h1, h2⟩ := thr_third hy
      exact ⟨m, by rw [e, h1], h2, fun h => has_three hb hy k1 k2 h⟩
  obtain ⟨m, e1, e2, e3⟩ := key
  refine ⟨m, e1, e2, ?_⟩
  have hc : manyOf a = 0 ↔ ∀ t ∈ triples a.length, ¬ triOf a t = true := by
    unfold manyOf
    exact List.countP_eq_zero
  rw [hc]
  constructor
  · intro h t ht hct
    obtain ⟨x, y, z⟩ := t
    obtain ⟨h1, h2, h3⟩ := mem_triples.mp ht
    have h1 : x < y := h1
    have h2 : y < z := h2
    have h3 : z < a.length := h3
    have h9 := hb.1.2.2
    have hin := one_in hb h1 h2 h3 hct
    obtain ⟨p1, p2, p3⟩ := one_all a.length (by omega) x (by omega) y (by omega) z (by omega) h1 h2
    have h4 := (fold_ge thr (genAll a) 0).2 _ hin
    have h5 : thr (oneL x y z a.length) = ((1 : Nat) : Int) := rg_thr _ 0 1 p2
    have h6 : thr (oneL x y z a.length) ≤ mostN a := h4
    rw [h5, e1, h] at h6
    omega
  · intro h
    rcases Nat.eq_zero_or_pos m with h0 | h0
    · exact h0
    · obtain ⟨t, ht, hct⟩ := e3 h0
      exact absurd hct (h t ht)
theorem put_most {a : List Int} (v : Int) : mostN a ≤ mostN (v :: a) := by
  have h0 := (fold_ge thr (genAll (v :: a)) 0).1
  rcases fold_at thr (genAll a) 0 with e | ⟨y, hy, e⟩
  · unfold mostN
    rw [e]
    exact h0
  · obtain ⟨h1, h2⟩ := put_in v hy
    have h3 := (fold_ge thr (genAll (v :: a)) 0).2 _ h1
    unfold mostN
    rw [e, ← h2]
    exact h3
theorem pm_ar {m n : Nat} (h : 3 * m ≤ n) (hn : n ≤ 9) : wrap64 (3 * (m : Int)) ≤ (n : Int) := by unfold wrap64; omega
theorem pm_j0 (K : Nat) (a : List Int) (m : Nat) (x : List Int × Bool) (y : Int × Bool) (n : Nat) (hP : impl_StickPut.f K a 1 = some x) (hM : impl_PartMost.f K x.1 = some y) (hF : impl_StickFree.f K a = some (decide (n = 0))) (hw : wrap64 (3 * (m : Int)) ≤ (a.length : Int)) (hz : m = 0 ↔ n = 0) (hxy : x.2 = true → y.2 = true ∧ (m : Int) ≤ y.1) : laws_FnPartMost.j0 (K + 1) a (m : Int) true (m : Int) true false = some true := by
  rw [laws_FnPartMost.j0, if_neg (by decide), hP, Option.bind_some, hM, Option.bind_some, if_pos hw, hF, Option.bind_some]
  have hb : (((m : Int) == 0) == decide (n = 0)) = true := by
    by_cases h : n = 0
    · have h2 := hz.mpr h
      rw [decide_eq_true h, show ((m : Int) == 0) = true by rw [beq_iff_eq]; omega]
      rfl
    · have h2 : ¬ m = 0 := fun q => h (hz.mp q)
      rw [decide_eq_false h, show ((m : Int) == 0) = false by rw [beq_eq_false_iff_ne]; omega]
      rfl
  rw [if_pos hb]
  by_cases hx : x.2 = true
  · obtain ⟨h1, h2⟩ := hxy hx
    rw [if_pos hx, if_pos h1, decide_eq_true h2]
  · rw [if_neg hx]
theorem pm_law (a : List Int) (h10 : a.length ≤ 10) : ∃ K, ∀ k, K ≤ k → laws_FnPartMost.j0 (k + 1) a (mostOf a).1 (mostOf a).2 (mostOf a).1 (mostOf a).2 (!(mostOf a).2) = some true := by
  by_cases hb : isBundle a
  · obtain ⟨m, e1, e2, e3⟩ := most_facts hb
    have hw := pm_ar e2 hb.1.2.2
    have e4 : mostOf a = ((m : Int), true) := by rw [most_at hb, e1]
    by_cases h8 : a.length ≤ 8
    · have hb1 := one_bundle hb h8
      obtain ⟨K, g⟩ := most_impl (1 :: a) (by rw [List.length_cons]; omega)
      have hle := put_most (a := a) 1
      rw [e1] at hle
      refine ⟨K + a.length + 100, fun k hk => ?_⟩
      have k1 : K ≤ k := by omega
      have k2 : a.length + 100 ≤ k := by omega
      have hP := put_impl a hb k k2
      rw [if_pos h8] at hP
      have hM := g k k1
      rw [most_at hb1] at hM
      rw [e4]
      exact pm_j0 k a m (1 :: a, true) (mostN (1 :: a), true) (manyOf a) hP hM (free_impl a hb k k2) hw e3 (fun _ => ⟨rfl, hle⟩)
    · obtain ⟨K, g⟩ := most_impl [] (by simp)
      refine ⟨K + a.length + 100, fun k hk => ?_⟩
      have k1 : K ≤ k := by omega
      have k2 : a.length + 100 ≤ k := by omega
      have hP := put_impl a hb k k2
      rw [if_neg h8] at hP
      rw [e4]
      exact pm_j0 k a m ([], false) (mostOf []) (manyOf a) hP (g k k1) (free_impl a hb k k2) hw e3 (fun h => absurd h (by decide))
  · have e1 : mostOf a = (0, false) := by unfold mostOf; rw [if_neg hb]
    refine ⟨0, fun k hk => ?_⟩
    rw [e1]
    show laws_FnPartMost.j0 (k + 1) a 0 false 0 false true = some true
    rw [laws_FnPartMost.j0, if_pos rfl, if_pos (by decide)]
    rfl
theorem FnPartMost : laws_FnPartMost.Pure := by
  intro l h1 h2 h3
  by_cases hl : (l.length : Int) > 1048576
  · exact ⟨0, by unfold laws_FnPartMost.f; rw [if_pos hl]⟩
  · obtain ⟨a, p1, p2⟩ : ∃ a : List Int, (∀ k, 60 ≤ k → spec_l92Parted.f k l = some a) ∧ a.length ≤ 10 := parted_same l (wf_u8 h3)
    obtain ⟨K1, g1⟩ := most_impl a (by omega)
    obtain ⟨K2, g2⟩ := most_spec a (by omega)
    obtain ⟨K3, g3⟩ := pm_law a p2
    refine ⟨K1 + K2 + K3 + 100 + 1, ?_⟩
    unfold laws_FnPartMost.f spec_DrawPartMost.f
    rw [if_neg hl, p1 _ (by omega), Option.bind_some, Option.bind_some, g1 _ (by omega), Option.bind_some, g2 _ (by omega), Option.bind_some, if_neg (by simp), if_pos rfl]
    exact g3 _ (by omega)

end Go.Proofs.Ythgphegpkjngaaa.Pure
