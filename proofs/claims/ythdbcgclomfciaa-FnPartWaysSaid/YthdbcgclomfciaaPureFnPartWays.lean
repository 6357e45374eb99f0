/- The law FnPartWays, as a statement over plain numbers and lists, is proved: what the program's functions compute is what the reference's compute. -/
import Derived.Test.YthdbcgclomfciaaPFnPartWaysx8
import Derived.Laws.Entries
namespace Go.Proofs.Ythdbcgclomfciaa.Pure
open Go.RowKit Go.Proofs.Ythdbcgclomfciaa.PFnPartWays Go.Proofs.YthdbcgclomfciaaW.PrintWords Go.Proofs.YthdbcgclomfciaaW.PrintLast
set_option linter.unusedVariables false
set_option linter.unusedSimpArgs false
/-! ### lists of whole numbers -/
theorem wrap_nat {n : Nat} (h : n < 4611686018427387904) : wrap64 ((n : Int) + 1) = ((n + 1 : Nat) : Int) := by unfold wrap64; omega
theorem rd_at {l : List Int} {i : Nat} (h : i < l.length) : rd l (i : Int) = l[i] := by
  unfold rd
  rw [Int.toNat_natCast, List.getD_eq_getElem?_getD, List.getElem?_eq_getElem h]
  rfl
theorem and_one (a : Nat) (ha : a < 4611686018427387904) : Go.bits .and .i64 (a : Int) 1 = ((a % 2 : Nat) : Int) := by
  have h1 : (BitVec.ofInt 64 (a : Int)).toNat = a := by
    rw [BitVec.ofInt_natCast, BitVec.toNat_ofNat]; exact Nat.mod_eq_of_lt (by omega)
  have h2 : (BitVec.ofInt 64 (1 : Int)).toNat = 1 := by decide
  show IntKind.i64.wrap ((BitVec.ofInt 64 (a : Int) &&& BitVec.ofInt 64 (1 : Int)).toNat : Int) = _
  rw [BitVec.toNat_and, h1, h2, Nat.and_one_is_mod]
  have : a % 2 < 2 := Nat.mod_lt _ (by omega)
  generalize a % 2 = c at this
  simp [IntKind.wrap, IntKind.bits, IntKind.signed]
  omega
theorem ite_same {α : Type} {p q : Prop} [Decidable p] [Decidable q] (h : p ↔ q) {a b : α} : (if p then a else b) = if q then a else b := by
  by_cases hq : q
  · rw [if_pos (h.mpr hq), if_pos hq]
  · rw [if_neg (fun x => hq (h.mp x)), if_neg hq]
/-! ### rulers -/
def isRuler (l : List Int) : Prop := (∀ x ∈ l, 1 ≤ x ∧ x ≤ 60) ∧ 1 ≤ l.length ∧ l.length ≤ 9
instance (l : List Int) : Decidable (isRuler l) := by unfold isRuler; infer_instance
theorem spec_in (a b c : Int) : spec_l6In.f a b c = some (decide (b ≤ a ∧ a ≤ c)) := by
  unfold spec_l6In.f
  by_cases h : a ≥ b
  · rw [if_pos h]
    congr 1
    exact decide_eq_decide.mpr ⟨fun x => ⟨h, x⟩, fun x => x.2⟩
  · rw [if_neg h, decide_eq_false (fun x => h x.1)]
theorem impl_ruler_l (l : List Int) (hl : l.length ≤ 1048576) : ∀ (d k i : Nat), i + d = l.length → d + 1 ≤ k →
    impl_isRuler.l0 k l l (l.length : Int) (i : Int) = some (decide ((∀ x ∈ l.drop i, 1 ≤ x ∧ x ≤ 60) ∧ 1 ≤ l.length ∧ l.length ≤ 9)) := by
  intro d
  induction d with
  | zero =>
    intro k i hi hk
    obtain ⟨m, rfl⟩ : ∃ m, k = m + 1 := ⟨k - 1, by omega⟩
    rw [impl_isRuler.l0, if_neg (by omega), List.drop_eq_nil_of_le (by omega)]
    simp only [List.not_mem_nil, false_implies, implies_true, true_and]
    split
    · congr 1
      exact decide_eq_decide.mpr ⟨fun x => by omega, fun x => by omega⟩
    · rw [decide_eq_false (by omega)]
  | succ d ih =>
    intro k i hi hk
    obtain ⟨m, rfl⟩ : ∃ m, k = m + 1 := ⟨k - 1, by omega⟩
    have hil : i < l.length := by omega
    rw [impl_isRuler.l0, if_pos (by omega), if_pos (by omega), if_pos (by omega), rd_at hil, wrap_nat (by omega), ih m (i + 1) (by omega) (by omega), List.drop_eq_getElem_cons hil]
    simp only [List.mem_cons, forall_eq_or_imp]
    split
    · next h => rw [decide_eq_false (fun x => by omega)]
    · next h =>
      split
      · next h => rw [decide_eq_false (fun x => by omega)]
      · next h1 => congr 1; exact decide_eq_decide.mpr ⟨fun x => ⟨⟨⟨by omega, by omega⟩, x.1⟩, x.2⟩, fun x => ⟨x.1.2, x.2⟩⟩
theorem impl_ruler (l : List Int) (hl : l.length ≤ 1048576) (k : Nat) (hk : l.length + 1 ≤ k) : impl_isRuler.f k l = some (decide (isRuler l)) :=
  impl_ruler_l l hl l.length k 0 (by omega) (by omega)
/-! ### bundles -/
def asc (l : List Int) : Prop := ∀ j : Nat, j < l.length → 0 < j → rd l ((j - 1 : Nat) : Int) ≤ rd l (j : Int)
instance (l : List Int) : Decidable (asc l) := by unfold asc; infer_instance
def isBundle (l : List Int) : Prop := isRuler l ∧ asc l
instance (l : List Int) : Decidable (isBundle l) := by unfold isBundle; infer_instance
theorem all_rd (l : List Int) (p : Int → Prop) : (∀ x ∈ l, p x) ↔ ∀ j : Nat, j < l.length → p (rd l (j : Int)) := by
  constructor
  · intro h j hj
    rw [rd_at hj]
    exact h _ (List.getElem_mem hj)
  · intro h x hx
    obtain ⟨j, hj, rfl⟩ := List.mem_iff_getElem.mp hx
    rw [← rd_at hj]
    exact h j hj
theorem wrap_pred {n : Nat} (h0 : 0 < n) (h : n < 4611686018427387904) : wrap64 ((n : Int) - 1) = ((n - 1 : Nat) : Int) := by unfold wrap64; omega
def l1Rest (l : List Int) (i : Nat) : Prop := (∀ j : Nat, j < l.length → i ≤ j → (1 ≤ rd l (j : Int) ∧ rd l (j : Int) ≤ 60) ∧ (0 < j → rd l ((j - 1 : Nat) : Int) ≤ rd l (j : Int))) ∧ 1 ≤ l.length ∧ l.length ≤ 9
instance (l : List Int) (i : Nat) : Decidable (l1Rest l i) := by unfold l1Rest; infer_instance
theorem l1Rest_step {l : List Int} {i : Nat} (h : i < l.length) : l1Rest l i ↔ ((1 ≤ rd l (i : Int) ∧ rd l (i : Int) ≤ 60) ∧ (0 < i → rd l ((i - 1 : Nat) : Int) ≤ rd l (i : Int))) ∧ l1Rest l (i + 1) := by
  unfold l1Rest
  constructor
  · rintro ⟨h1, h2⟩
    exact ⟨h1 i h (Nat.le_refl _), fun j hj hij => h1 j hj (by omega), h2⟩
  · rintro ⟨h1, h2, h3⟩
    refine ⟨fun j hj hij => ?_, h3⟩
    rcases Nat.lt_or_ge i j with h' | h'
    · exact h2 j hj h'
    · obtain rfl : i = j := by omega
      exact h1
theorem spec_bundle_l (l : List Int) (hl : l.length ≤ 1048576) : ∀ (d k i : Nat), i + d = l.length → d + 1 ≤ k → spec_l1Bundle.l0 k l (i : Int) = some (decide (l1Rest l i)) := by
  intro d
  induction d with
  | zero =>
    intro k i hi hk
    obtain ⟨m, rfl⟩ : ∃ m, k = m + 1 := ⟨k - 1, by omega⟩
    rw [spec_l1Bundle.l0, if_neg (by omega), spec_in]
    simp only [Option.bind_some]
    congr 1
    exact decide_eq_decide.mpr ⟨fun x => ⟨fun j hj hij => by omega, by omega⟩, fun x => by have := x.2; omega⟩
  | succ d ih =>
    intro k i hi hk
    obtain ⟨m, rfl⟩ : ∃ m, k = m + 1 := ⟨k - 1, by omega⟩
    have hil : i < l.length := by omega
    have st := l1Rest_step hil
    have ih := ih m (i + 1) (by omega) (by omega)
    rw [spec_l1Bundle.l0, if_pos (by omega), if_pos (by omega), spec_in, wrap_nat (by omega), ih]
    simp only [Option.bind_some, decide_eq_true_eq]
    by_cases h1 : 1 ≤ rd l (i : Int) ∧ rd l (i : Int) ≤ 60
    · rw [if_pos h1]
      by_cases h2 : 0 < i
      · rw [if_pos (by omega), wrap_pred h2 (by omega), if_pos (by omega), if_pos (by omega)]
        by_cases h3 : rd l (i : Int) < rd l ((i - 1 : Nat) : Int)
        · rw [if_pos h3, decide_eq_false (fun x => by have := (st.mp x).1.2 h2; omega)]
        · rw [if_neg h3]
          congr 1
          exact decide_eq_decide.mpr ⟨fun x => st.mpr ⟨⟨h1, fun _ => by omega⟩, x⟩, fun x => (st.mp x).2⟩
      · rw [if_neg (by omega)]
        congr 1
        exact decide_eq_decide.mpr ⟨fun x => st.mpr ⟨⟨h1, fun h => absurd h h2⟩, x⟩, fun x => (st.mp x).2⟩
    · rw [if_neg h1, decide_eq_false (fun x => h1 (st.mp x).1.1)]
theorem spec_bundle (l : List Int) (hl : l.length ≤ 1048576) (k : Nat) (hk : l.length + 1 ≤ k) : spec_l1Bundle.f k l = some (decide (isBundle l)) := by
  unfold spec_l1Bundle.f
  have := spec_bundle_l l hl l.length k 0 (by omega) hk
  rw [show ((0 : Nat) : Int) = 0 from rfl] at this
  rw [this]
  congr 1
  refine decide_eq_decide.mpr ?_
  unfold isBundle isRuler asc l1Rest
  rw [all_rd l (fun x => 1 ≤ x ∧ x ≤ 60)]
  exact ⟨fun x => ⟨⟨fun j hj => (x.1 j hj (by omega)).1, x.2⟩, fun j hj h0 => (x.1 j hj (by omega)).2 h0⟩, fun x => ⟨fun j hj _ => ⟨x.1.1 j hj, x.2 j hj⟩, x.1.2⟩⟩
theorem less_tells (a b : Int) : cmp_Less_int.f a b = some (decide (a < b)) := by
  unfold cmp_Less_int.f cmp_isNaN_int.f
  simp
theorem sorted_l (l : List Int) (hl : l.length ≤ 1048576) : ∀ (i k : Nat), i + 1 ≤ k → i < l.length → slices_IsSorted_int_int.l0 k l (i : Int) = some (decide (∀ j : Nat, j < i + 1 → 0 < j → rd l ((j - 1 : Nat) : Int) ≤ rd l (j : Int))) := by
  intro i
  induction i with
  | zero =>
    intro k hk hi
    obtain ⟨m, rfl⟩ : ∃ m, k = m + 1 := ⟨k - 1, by omega⟩
    rw [slices_IsSorted_int_int.l0, if_neg (by omega), decide_eq_true (fun j hj h0 => by omega)]
  | succ i ih =>
    intro k hk hi
    obtain ⟨m, rfl⟩ : ∃ m, k = m + 1 := ⟨k - 1, by omega⟩
    rw [slices_IsSorted_int_int.l0, if_pos (by omega), if_pos (by omega), if_pos (by omega), wrap_pred (by omega) (by omega), if_pos (by omega), if_pos (by omega), less_tells, show i + 1 - 1 = i from rfl, ih m (by omega) (by omega)]
    simp only [Option.bind_some, decide_eq_true_eq]
    by_cases h : rd l ((i + 1 : Nat) : Int) < rd l (i : Int)
    · rw [if_pos h, decide_eq_false (fun x => by have := x (i + 1) (by omega) (by omega); rw [show i + 1 - 1 = i from rfl] at this; omega)]
    · rw [if_neg h]
      congr 1
      refine decide_eq_decide.mpr ⟨fun x j hj h0 => ?_, fun x j hj h0 => x j (by omega) h0⟩
      rcases Nat.lt_or_ge j (i + 1) with h' | h'
      · exact x j h' h0
      · obtain rfl : j = i + 1 := by omega
        rw [show i + 1 - 1 = i from rfl]
        omega
theorem impl_bundle (l : List Int) (hl : l.length ≤ 1048576) (k : Nat) (hk : l.length + 1 ≤ k) : impl_StickIn.f k l = some (decide (isBundle l)) := by
  unfold impl_StickIn.f
  rw [impl_ruler l hl k hk]
  simp only [Option.bind_some, decide_eq_true_eq]
  by_cases h : isRuler l
  · have h1 := h.2.1
    rw [if_pos h]
    unfold slices_IsSorted_int_int.f
    rw [wrap_pred (by omega) (by omega), sorted_l l hl (l.length - 1) k (by omega) (by omega)]
    simp only [Option.bind_some]
    congr 1
    refine decide_eq_decide.mpr ?_
    rw [show l.length - 1 + 1 = l.length by omega]
    exact ⟨fun x => ⟨h, x⟩, fun x => x.2⟩
  · rw [if_neg h, decide_eq_false (fun x => h x.1)]
/-! ### part lists -/
def pf (l : List Int) (t : Int) : Nat → Nat → List Nat
  | 0, _ => []
  | d + 1, i => if rd l (i : Int) = t then i :: pf l t d (i + 1) else pf l t d (i + 1)
def places (l : List Int) (t : Int) : List Nat := pf l t l.length 0
theorem rd_app {l : List Int} {x : Int} {i : Nat} (h : i < l.length) : rd (l ++ [x]) (i : Int) = rd l (i : Int) := by
  rw [rd_at h, rd_at (by simp; omega), List.getElem_append_left h]
theorem rd_app_last (l : List Int) (x : Int) : rd (l ++ [x]) (l.length : Int) = x := by
  rw [rd_at (by simp)]
  simp
theorem pf_app (l : List Int) (x t : Int) : ∀ d i, i + d = l.length → pf (l ++ [x]) t (d + 1) i = pf l t d i ++ if x = t then [l.length] else []
  | 0, i, h => by
    have : i = l.length := by omega
    subst this
    simp only [pf]
    rw [rd_app_last]
    split <;> simp
  | d + 1, i, h => by
    rw [pf, rd_app (by omega), pf_app l x t d (i + 1) (by omega), pf]
    split <;> simp
theorem places_app (l : List Int) (x t : Int) : places (l ++ [x]) t = places l t ++ if x = t then [l.length] else [] := by
  have := pf_app l x t l.length 0 (by omega)
  unfold places
  rw [List.length_append]
  exact this
theorem pf_lt (l : List Int) (t : Int) : ∀ d i, i + d = l.length → ∀ j ∈ pf l t d i, j < l.length
  | 0, i, h, j, hj => by simp [pf] at hj
  | d + 1, i, h, j, hj => by
    rw [pf] at hj
    split at hj
    · rcases List.mem_cons.mp hj with rfl | hj
      · omega
      · exact pf_lt l t d (i + 1) (by omega) j hj
    · exact pf_lt l t d (i + 1) (by omega) j hj
theorem places_lt {l : List Int} {t : Int} {j : Nat} (h : j ∈ places l t) : j < l.length := pf_lt l t l.length 0 (by omega) j h
theorem pf_len (l : List Int) (t : Int) : ∀ d i, (pf l t d i).length ≤ d
  | 0, i => by simp [pf]
  | d + 1, i => by
    have := pf_len l t d (i + 1)
    rw [pf]
    split <;> simp <;> omega
def tri (x y z : Int) : Bool := decide (x < y + z) && (decide (y < x + z) && decide (z < x + y))
def three : List Int → Bool
  | [x, y, z] => tri x y z
  | _ => false
def selOf (a l : List Int) (t : Int) : List Int := (places l t).map fun j : Nat => rd a (j : Int)
def fits (a l : List Int) (m : Nat) : Bool := (List.range m).all fun t => three (selOf a l (t : Int))
/-- All part lists that begin so, in order. -/
def gen (a : List Int) : Nat → List Int → Nat → List (List Int)
  | 0, l, m => if fits a l m = true then [l] else []
  | d + 1, l, m => (List.range' 0 (m + 2)).flatMap fun e : Nat => if (places l ((e : Int) - 1)).length = 3 ∧ 0 < e then [] else gen a d (l ++ [(e : Int) - 1]) (if e = m + 1 then m + 1 else m)
def genAll (a : List Int) : List (List Int) := gen a a.length [] 0
theorem fits_iff {a l : List Int} {m : Nat} : fits a l m = true ↔ ∀ t, t < m → three (selOf a l (t : Int)) = true := by
  simp [fits, List.all_eq_true]
theorem mem_gen_len (a : List Int) : ∀ (d : Nat) (l : List Int) (m : Nat) (x : List Int), x ∈ gen a d l m → x.length = l.length + d
  | 0, l, m, x, h => by
    rw [gen] at h
    split at h
    · simp at h; subst h; rfl
    · simp at h
  | d + 1, l, m, x, h => by
    rw [gen, List.mem_flatMap] at h
    obtain ⟨e, he, h⟩ := h
    split at h
    · simp at h
    · have := mem_gen_len a d _ _ x h
      simp at this
      omega
/-- The numbers of a part list. -/
theorem mem_gen_in (a : List Int) : ∀ (d : Nat) (l : List Int) (m : Nat) (x : List Int), x ∈ gen a d l m → (∀ y ∈ l, -1 ≤ y ∧ y < m) → ∃ m', m ≤ m' ∧ m' ≤ m + d ∧ (∀ y ∈ x, -1 ≤ y ∧ y < (m' : Nat)) ∧ fits a x m' = true
  | 0, l, m, x, h, hl => by
    rw [gen] at h
    split at h
    · next hf => simp at h; subst h; exact ⟨m, Nat.le_refl _, by omega, hl, hf⟩
    · simp at h
  | d + 1, l, m, x, h, hl => by
    rw [gen, List.mem_flatMap] at h
    obtain ⟨e, he, h⟩ := h
    simp only [List.mem_range'_1] at he
    split at h
    · simp at h
    · obtain ⟨m', h1, h2, h3⟩ := mem_gen_in a d _ _ x h (fun y hy => by
        rcases List.mem_append.mp hy with hy | hy
        · have := hl y hy
          split <;> omega
        · simp at hy
          subst hy
          split <;> omega)
      exact ⟨m', by split at h1 <;> omega, by split at h2 <;> omega, h3⟩
theorem gen_length (a : List Int) : ∀ (d : Nat) (l : List Int) (m : Nat), m + d ≤ 9 → (gen a d l m).length ≤ 11 ^ d
  | 0, l, m, h => by
    rw [gen]
    split <;> simp
  | d + 1, l, m, h => by
    have key : ∀ (c e : Nat), ((List.range' e c).flatMap fun e : Nat => if (places l ((e : Int) - 1)).length = 3 ∧ 0 < e then [] else gen a d (l ++ [(e : Int) - 1]) (if e = m + 1 then m + 1 else m)).length ≤ c * 11 ^ d := by
      intro c
      induction c with
      | zero => intro e; simp
      | succ c ih =>
        intro e
        rw [List.range'_succ, List.flatMap_cons, List.length_append, Nat.add_mul, Nat.one_mul, Nat.add_comm]
        have h1 := ih (e + 1)
        have h2 : (if (places l ((e : Int) - 1)).length = 3 ∧ 0 < e then [] else gen a d (l ++ [(e : Int) - 1]) (if e = m + 1 then m + 1 else m)).length ≤ 11 ^ d := by
          split
          · simp
          · exact gen_length a d _ _ (by split <;> omega)
        omega
    have := key (m + 2) 0
    rw [gen]
    refine Nat.le_trans this ?_
    rw [Nat.pow_succ, Nat.mul_comm]
    exact Nat.mul_le_mul_left _ (by omega)
theorem pow11 {d : Nat} (h : d ≤ 9) : 11 ^ d ≤ 2357947691 := Nat.le_trans (Nat.pow_le_pow_right (by omega) h) (by decide)
theorem count_l (l : List Int) (t : Int) (hl : l.length ≤ 1000) : ∀ (d k i : Nat) (c : Nat), i + d = l.length → d + 1 ≤ k → c ≤ i →
    impl_countOf.l0 k t (c : Int) l (l.length : Int) (i : Int) = some ((c + (pf l t d i).length : Nat) : Int) := by
  intro d
  induction d with
  | zero =>
    intro k i c hi hk hc
    obtain ⟨m, rfl⟩ : ∃ m, k = m + 1 := ⟨k - 1, by omega⟩
    rw [impl_countOf.l0, if_neg (by omega)]
    simp [pf]
  | succ d ih =>
    intro k i c hi hk hc
    obtain ⟨m, rfl⟩ : ∃ m, k = m + 1 := ⟨k - 1, by omega⟩
    rw [impl_countOf.l0, if_pos (by omega), if_pos (by omega), if_pos (by omega), wrap_nat (n := i) (by omega), pf]
    split
    · rw [wrap_nat (by omega), ih m (i + 1) (c + 1) (by omega) (by omega) (by omega)]
      simp only [List.length_cons]
      congr 2
      omega
    · rw [ih m (i + 1) c (by omega) (by omega) (by omega)]
theorem count_tells (l : List Int) (t : Int) (hl : l.length ≤ 1000) (k : Nat) (hk : l.length + 1 ≤ k) : impl_countOf.f k l t = some ((places l t).length : Int) := by
  have := count_l l t hl l.length k 0 0 (by omega) hk (by omega)
  unfold impl_countOf.f places
  simpa using this
theorem stick_three (x y z : Int) (hx : 1 ≤ x ∧ x ≤ 60) (hy : 1 ≤ y ∧ y ≤ 60) (hz : 1 ≤ z ∧ z ≤ 60) (k : Nat) (hk : 4 ≤ k) : impl_StickThree.f k x y z = some (tri x y z) := by
  unfold impl_StickThree.f tri
  rw [impl_ruler [x, y, z] (by simp) k (by simpa using hk), decide_eq_true (show isRuler [x, y, z] from ⟨by intro w hw; simp at hw; rcases hw with rfl | rfl | rfl <;> assumption, by simp, by simp⟩)]
  simp only [Option.bind_some]
  rw [if_pos trivial, show wrap64 (y + z) = y + z by unfold wrap64; omega, show wrap64 (x + z) = x + z by unfold wrap64; omega, show wrap64 (x + y) = x + y by unfold wrap64; omega]
  by_cases h1 : x < y + z
  · rw [if_pos h1, decide_eq_true h1]
    by_cases h2 : y < x + z
    · rw [if_pos h2, decide_eq_true h2]
      rfl
    · rw [if_neg h2, decide_eq_false h2]
      rfl
  · rw [if_neg h1, decide_eq_false h1]
    rfl
theorem sel_in {a l : List Int} {t : Int} (ha : ∀ x ∈ a, 1 ≤ x ∧ x ≤ 60) (hl : l.length ≤ a.length) : ∀ x ∈ selOf a l t, 1 ≤ x ∧ x ≤ 60 := by
  intro x hx
  simp only [selOf, List.mem_map] at hx
  obtain ⟨j, hj, rfl⟩ := hx
  have := places_lt hj
  rw [rd_at (show j < a.length by omega)]
  exact ha _ (List.getElem_mem _)
theorem fit_l1 (a l : List Int) (t : Nat) (m : Int) (ha : ∀ x ∈ a, 1 ≤ x ∧ x ≤ 60) (hl : l.length = a.length) (h9 : a.length ≤ 9) : ∀ (d k i : Nat) (acc : List Int), i + d = l.length → d + 5 ≤ k → acc.length ≤ i → (∀ x ∈ acc, 1 ≤ x ∧ x ≤ 60) →
    ∃ k', k' + d + 1 = k ∧ impl_partsFit.l1 k a l (t : Int) acc m (t : Int) l (l.length : Int) (i : Int) = if three (acc ++ (pf l (t : Int) d i).map (fun j : Nat => rd a (j : Int))) = true then impl_partsFit.l0 k' a l m (wrap64 ((t : Int) + 1)) else some false := by
  intro d
  induction d with
  | zero =>
    intro k i acc hi hk hc hacc
    obtain ⟨k', rfl⟩ : ∃ m, k = m + 1 := ⟨k - 1, by omega⟩
    refine ⟨k', by omega, ?_⟩
    rw [impl_partsFit.l1, if_neg (by omega)]
    simp only [pf, List.map_nil, List.append_nil]
    by_cases h3 : (acc.length : Int) = 3
    · rw [if_pos h3, if_pos (by omega), if_pos (by omega), if_pos (by omega)]
      match acc, h3, hacc with
      | [x, y, z], _, hacc =>
        have e0 : rd [x, y, z] 0 = x := rfl
        have e1 : rd [x, y, z] 1 = y := rfl
        have e2 : rd [x, y, z] 2 = z := rfl
        rw [e0, e1, e2, stick_three x y z (hacc x (by simp)) (hacc y (by simp)) (hacc z (by simp)) k' (by omega)]
        rfl
    · rw [if_neg h3, if_neg]
      match acc, h3 with
      | [], _ => simp [three]
      | [x], _ => simp [three]
      | [x, y], _ => simp [three]
      | [x, y, z], h3 => simp at h3
      | x :: y :: z :: w :: r, _ => simp [three]
  | succ d ih =>
    intro k i acc hi hk hc hacc
    obtain ⟨q, rfl⟩ : ∃ m, k = m + 1 := ⟨k - 1, by omega⟩
    rw [impl_partsFit.l1, if_pos (by omega), if_pos (by omega), if_pos (by omega), wrap_nat (n := i) (by omega), pf]
    have hia : i < a.length := by omega
    split
    · rw [if_pos (by omega), if_pos (by omega)]
      obtain ⟨k', h1, h2⟩ := ih q (i + 1) (acc ++ [rd a (i : Int)]) (by omega) (by omega) (by simp; omega) (fun x hx => by
        rcases List.mem_append.mp hx with hx | hx
        · exact hacc x hx
        · simp at hx
          subst hx
          rw [rd_at hia]
          exact ha _ (List.getElem_mem hia))
      refine ⟨k', by omega, ?_⟩
      rw [h2]
      simp
    · obtain ⟨k', h1, h2⟩ := ih q (i + 1) acc (by omega) (by omega) (by omega) hacc
      exact ⟨k', by omega, h2⟩
theorem fit_arith {d q k' n : Nat} (hk : 20 * (d + 1) + 20 ≤ q + 1) (h1 : k' + n + 1 = q) (h9 : n ≤ 9) : 20 * d + 20 ≤ k' := by omega
theorem fit_l0 (a l : List Int) (m : Nat) (ha : ∀ x ∈ a, 1 ≤ x ∧ x ≤ 60) (hl : l.length = a.length) (h9 : a.length ≤ 9) (hm : m ≤ 9) : ∀ (d k t : Nat), t + d = m → 20 * d + 20 ≤ k →
    impl_partsFit.l0 k a l (m : Int) (t : Int) = some ((List.range' t d).all fun t => three (selOf a l (t : Int))) := by
  intro d
  induction d with
  | zero =>
    intro k t ht hk
    obtain ⟨q, rfl⟩ : ∃ m, k = m + 1 := ⟨k - 1, by omega⟩
    rw [impl_partsFit.l0, if_neg (by omega)]
    rfl
  | succ d ih =>
    intro k t ht hk
    obtain ⟨q, rfl⟩ : ∃ m, k = m + 1 := ⟨k - 1, by omega⟩
    have b1 : l.length + 5 ≤ q := by omega
    have ht' : t + 1 + d = m := by omega
    have hw := wrap_nat (n := t) (by omega)
    have hlt : (t : Int) < (m : Int) := by omega
    obtain ⟨k', h1, h2⟩ := fit_l1 a l t (m : Int) ha hl h9 l.length q 0 [] (Nat.zero_add _) b1 (Nat.le_refl _) (fun _ h => by cases h)
    have hk' : 20 * d + 20 ≤ k' := fit_arith hk h1 (hl ▸ h9)
    rw [impl_partsFit.l0, if_pos hlt]
    rw [show ((0 : Nat) : Int) = 0 from rfl] at h2
    rw [h2, List.nil_append, List.range'_succ, List.all_cons]
    have e : (pf l (t : Int) l.length 0).map (fun j : Nat => rd a (j : Int)) = selOf a l (t : Int) := rfl
    rw [e]
    cases h : three (selOf a l (t : Int)) with
    | true =>
      rw [if_pos rfl, hw, ih k' (t + 1) ht' hk']
      simp
    | false => rw [if_neg (by decide)]; simp
theorem fit_tells (a l : List Int) (m : Nat) (ha : ∀ x ∈ a, 1 ≤ x ∧ x ≤ 60) (hl : l.length = a.length) (h9 : a.length ≤ 9) (hm : m ≤ 9) (k : Nat) (hk : 300 ≤ k) : impl_partsFit.f k a l (m : Int) = some (fits a l m) := by
  have := fit_l0 a l m ha hl h9 hm m k 0 (by omega) (by omega)
  unfold impl_partsFit.f fits
  rw [show ((0 : Nat) : Int) = 0 from rfl] at this
  rw [this, List.range_eq_range']
def branch (a : List Int) (d : Nat) (l : List Int) (m e : Nat) : List (List Int) := if (places l ((e : Int) - 1)).length = 3 ∧ 0 < e then [] else gen a d (l ++ [(e : Int) - 1]) (if e = m + 1 then m + 1 else m)
theorem parts_run {S : Type} (a : List Int) (ha : ∀ x ∈ a, 1 ≤ x ∧ x ≤ 60) (h9 : a.length ≤ 9) (stp : S → List Int → S) : ∀ (d : Nat) (l : List Int) (m : Nat), l.length + d = a.length → m ≤ l.length →
    ∃ K, ∀ k, K ≤ k → ∀ (step : S → List Int → Option S) (s : S), (∀ s xs, xs ∈ gen a d l m → step s xs = some (stp s xs)) → impl_parts.t step k 0 a l (m : Int) 0 s = some ((gen a d l m).foldl stp s)
  | 0, l, m, hd, hm => by
    refine ⟨301, fun k hk step s hs => ?_⟩
    obtain ⟨q, rfl⟩ : ∃ m, k = m + 1 := ⟨k - 1, by omega⟩
    rw [impl_parts.t0, if_pos (by omega), fit_tells a l m ha (by omega) h9 (by omega) q (by omega)]
    simp only [Option.bind_some]
    rw [gen] at hs ⊢
    cases h : fits a l m with
    | true =>
      rw [h, if_pos rfl] at hs
      rw [if_pos rfl, if_pos rfl, hs s l (by simp)]
      rfl
    | false => rw [if_neg (by decide), if_neg (by decide)]; rfl
  | d + 1, l, m, hd, hm => by
    have loop : ∀ (c e : Nat), e + c = m + 2 → ∃ K, ∀ k, K ≤ k → ∀ (step : S → List Int → Option S) (s : S), (∀ s xs, xs ∈ (List.range' e c).flatMap (branch a d l m) → step s xs = some (stp s xs)) →
        impl_parts.t step k 1 a l (m : Int) ((e : Int) - 1) s = some (((List.range' e c).flatMap (branch a d l m)).foldl stp s) := by
      intro c
      induction c with
      | zero =>
        intro e he
        refine ⟨1, fun k hk step s hs => ?_⟩
        obtain ⟨q, rfl⟩ : ∃ m, k = m + 1 := ⟨k - 1, by omega⟩
        rw [impl_parts.t1, if_neg (by omega)]
        rfl
      | succ c ih =>
        intro e he
        obtain ⟨K1, h1⟩ := ih (e + 1) (by omega)
        obtain ⟨K2, h2⟩ := parts_run a ha h9 stp d (l ++ [(e : Int) - 1]) (if e = m + 1 then m + 1 else m) (by simp; omega) (by simp; split <;> omega)
        refine ⟨K1 + K2 + 1100, fun k hk step s hs => ?_⟩
        obtain ⟨q, rfl⟩ : ∃ m, k = m + 2 := ⟨k - 2, by omega⟩
        rw [List.range'_succ, List.flatMap_cons] at hs ⊢
        rw [List.foldl_append]
        have hw : wrap64 ((e : Int) - 1 + 1) = ((e + 1 : Nat) : Int) - 1 := by unfold wrap64; omega
        have g1 := fun q hq s => h1 q hq step s (fun s xs hx => hs s xs (List.mem_append_right _ hx))
        have body : ¬ ((places l ((e : Int) - 1)).length = 3 ∧ 0 < e) → impl_parts.t step (q + 1) 2 a l (m : Int) ((e : Int) - 1) s = some (((List.range' (e + 1) c).flatMap (branch a d l m)).foldl stp ((branch a d l m e).foldl stp s)) := by
          intro hb
          have e2 : branch a d l m e = gen a d (l ++ [(e : Int) - 1]) (if e = m + 1 then m + 1 else m) := by unfold branch; rw [if_neg hb]
          have g2 := h2 q (by omega) step s (fun s xs hx => hs s xs (List.mem_append_left _ (by rw [e2]; exact hx)))
          rw [impl_parts.t2 step q 0, if_pos (by omega), hw]
          by_cases hem : e = m + 1
          · rw [if_pos (by omega), show wrap64 ((m : Int) + 1) = ((m + 1 : Nat) : Int) by unfold wrap64; omega]
            rw [if_pos hem] at g2
            rw [g2]
            simp only [Option.bind_some]
            rw [g1 q (by omega), e2, if_pos hem]
          · rw [if_neg (by omega)]
            rw [if_neg hem] at g2
            rw [g2]
            simp only [Option.bind_some]
            rw [g1 q (by omega), e2, if_neg hem]
        rw [impl_parts.t1 step (q + 1), if_pos (by omega)]
        by_cases h0 : 0 < e
        · rw [if_pos (by omega), count_tells l _ (by omega) (q + 1) (by omega)]
          simp only [Option.bind_some]
          by_cases hc : (places l ((e : Int) - 1)).length = 3
          · rw [if_pos (by omega), hw, g1 (q + 1) (by omega)]
            have e2 : branch a d l m e = [] := by unfold branch; rw [if_pos ⟨hc, h0⟩]
            rw [e2]
            rfl
          · rw [if_neg (by omega)]
            exact body (fun x => hc x.1)
        · rw [if_neg (by omega)]
          exact body (fun x => h0 x.2)
    obtain ⟨K, h⟩ := loop (m + 2) 0 (by omega)
    refine ⟨K + 1, fun k hk step s hs => ?_⟩
    obtain ⟨q, rfl⟩ : ∃ m, k = m + 1 := ⟨k - 1, by omega⟩
    rw [impl_parts.t0, if_neg (by omega)]
    have := h q (by omega) step s hs
    rw [show ((0 : Nat) : Int) - 1 = -1 from rfl] at this
    exact this
theorem parts_tells {S : Type} (a : List Int) (hr : isRuler a) (stp : S → List Int → S) : ∃ K, ∀ k, K ≤ k → ∀ (step : S → List Int → Option S) (s : S), (∀ s xs, xs ∈ genAll a → step s xs = some (stp s xs)) → impl_parts.f step k a s = some ((genAll a).foldl stp s) := by
  obtain ⟨K, h⟩ := parts_run a hr.1 hr.2.2 stp a.length [] 0 (by simp) (by simp)
  refine ⟨K, fun k hk step s hs => ?_⟩
  unfold impl_parts.f
  rw [if_pos (by have := hr.2.2; omega)]
  exact h k hk step s hs
theorem l1three_tells (x y z : Int) (hx : 1 ≤ x ∧ x ≤ 60) (hy : 1 ≤ y ∧ y ≤ 60) (hz : 1 ≤ z ∧ z ≤ 60) : spec_l1Three.f x y z = some (tri x y z) := by
  unfold spec_l1Three.f tri
  rw [show wrap64 (y + z) = y + z by unfold wrap64; omega, show wrap64 (x + z) = x + z by unfold wrap64; omega, show wrap64 (x + y) = x + y by unfold wrap64; omega]
  by_cases h1 : x < y + z
  · rw [if_pos h1, decide_eq_true h1]
    by_cases h2 : y < x + z
    · rw [if_pos h2, decide_eq_true h2]
      rfl
    · rw [if_neg h2, decide_eq_false h2]
      rfl
  · rw [if_neg h1, decide_eq_false h1]
    rfl
/-- No three that is full is wrong. -/
def Good (a l : List Int) (m : Nat) : Prop := ∀ t : Nat, t < m → (places l (t : Int)).length = 3 → three (selOf a l (t : Int)) = true
theorem selOf_app (a l : List Int) (x t : Int) : selOf a (l ++ [x]) t = selOf a l t ++ if x = t then [rd a (l.length : Int)] else [] := by
  unfold selOf
  rw [places_app, List.map_append]
  split <;> rfl
theorem selOf_len (a l : List Int) (t : Int) : (selOf a l t).length = (places l t).length := by simp [selOf]
theorem gen_bad (a : List Int) : ∀ (d : Nat) (l : List Int) (m t : Nat), t < m → (places l (t : Int)).length = 3 → three (selOf a l (t : Int)) = false → gen a d l m = []
  | 0, l, m, t, ht, h3, hb => by
    rw [gen, if_neg]
    intro h
    rw [fits_iff] at h
    rw [h t ht] at hb
    cases hb
  | d + 1, l, m, t, ht, h3, hb => by
    rw [gen, List.flatMap_eq_nil_iff]
    intro e he
    split
    · rfl
    · next hs =>
      have hne : ¬ ((e : Int) - 1 = (t : Int)) := by
        intro h
        refine hs ⟨by rw [h]; exact h3, by omega⟩
      refine gen_bad a d _ _ t (by split <;> omega) ?_ ?_
      · rw [places_app, if_neg hne, List.append_nil]
        exact h3
      · rw [selOf_app, if_neg hne, List.append_nil]
        exact hb
theorem sel_two (a l : List Int) (t : Int) (ha : ∀ x ∈ a, 1 ≤ x ∧ x ≤ 60) (hl : l.length < a.length) (_h9 : a.length ≤ 9) (h : (places l t).length = 2) :
    ∃ p0 p1 : Nat, places l t = [p0, p1] ∧ p0 < a.length ∧ p1 < a.length ∧ selOf a l t ++ [rd a (l.length : Int)] = [rd a p0, rd a p1, rd a (l.length : Int)] ∧ (1 ≤ rd a p0 ∧ rd a p0 ≤ 60) ∧ (1 ≤ rd a p1 ∧ rd a p1 ≤ 60) ∧ (1 ≤ rd a (l.length : Int) ∧ rd a (l.length : Int) ≤ 60) := by
  match hp : places l t, h with
  | [p0, p1], _ =>
    have h0 : p0 < l.length := places_lt (t := t) (by rw [hp]; simp)
    have h1 : p1 < l.length := places_lt (t := t) (by rw [hp]; simp)
    have key : ∀ j : Nat, j < a.length → 1 ≤ rd a (j : Int) ∧ rd a (j : Int) ≤ 60 := fun j hj => by
      rw [rd_at hj]
      exact ha _ (List.getElem_mem hj)
    refine ⟨p0, p1, rfl, by omega, by omega, ?_, key p0 (by omega), key p1 (by omega), key l.length (by omega)⟩
    unfold selOf
    rw [hp]
    rfl
theorem three_len {xs : List Int} (h : three xs = true) : xs.length = 3 := by
  match xs, h with
  | [x, y, z], _ => rfl
/-! ### how many threes -/
def thr (xs : List Int) : Int := xs.foldl (fun n x => mx n (x + 1)) 0
theorem mx_le (a b : Int) : a ≤ mx a b ∧ b ≤ mx a b ∧ (mx a b = a ∨ mx a b = b) := by
  unfold mx
  split <;> omega
theorem foldl_mx_ge : ∀ (xs : List Int) (n : Int), n ≤ xs.foldl (fun n x => mx n (x + 1)) n
  | [], n => Int.le_refl _
  | x :: xs, n => by
    have := foldl_mx_ge xs (mx n (x + 1))
    have := mx_le n (x + 1)
    rw [List.foldl_cons]
    omega
theorem thr_nonneg (xs : List Int) : 0 ≤ thr xs := foldl_mx_ge xs 0
theorem thr_shift : ∀ (xs : List Int) (y : Int), xs.foldl (fun n x => mx n (x + 1)) (y + 1) = xs.foldl mx y + 1
  | [], y => rfl
  | x :: xs, y => by
    rw [List.foldl_cons, List.foldl_cons, ← thr_shift xs (mx y x)]
    congr 1
    unfold mx
    split <;> split <;> omega
theorem thr_max (x : Int) (xs : List Int) (h : -1 ≤ x) : thr (x :: xs) = xs.foldl mx x + 1 := by
  unfold thr
  rw [List.foldl_cons, ← thr_shift, show mx 0 (x + 1) = x + 1 by unfold mx; split <;> omega]
theorem foldl_mx_in : ∀ (xs : List Int) (y B : Int), y ≤ B → (∀ x ∈ xs, x ≤ B) → xs.foldl mx y ≤ B
  | [], y, B, h, _ => h
  | x :: xs, y, B, h, hx => by
    rw [List.foldl_cons]
    refine foldl_mx_in xs _ B ?_ (fun z hz => hx z (List.mem_cons_of_mem _ hz))
    have := mx_le y x
    have := hx x List.mem_cons_self
    omega
theorem foldl_mx_le : ∀ (xs : List Int) (y : Int), y ≤ xs.foldl mx y
  | [], y => Int.le_refl _
  | x :: xs, y => by
    have := foldl_mx_le xs (mx y x)
    have := mx_le y x
    rw [List.foldl_cons]
    omega
theorem mem_all_in {a x : List Int} (h9 : a.length ≤ 9) (h : x ∈ genAll a) : x.length = a.length ∧ ∀ y ∈ x, -1 ≤ y ∧ y ≤ 8 := by
  have h1 := mem_gen_len a _ _ _ x h
  obtain ⟨m', h2, h3, h4, _⟩ := mem_gen_in a _ _ _ x h (by simp)
  refine ⟨by simpa using h1, fun y hy => ?_⟩
  have := h4 y hy
  omega
theorem gen_ne (a : List Int) : ∀ (d n : Nat), gen a d (List.replicate n (-1)) 0 ≠ []
  | 0, n => by
    rw [gen, if_pos (by rw [fits_iff]; intro t ht; omega)]
    simp
  | d + 1, n => by
    rw [gen]
    intro h
    rw [List.flatMap_eq_nil_iff] at h
    have := h 0 (by simp)
    rw [if_neg (by omega), if_neg (by omega)] at this
    refine gen_ne a d (n + 1) ?_
    rw [List.replicate_succ']
    exact this
theorem genAll_ne (a : List Int) : genAll a ≠ [] := gen_ne a a.length 0
/-! ### what a part list is -/
def rg : List Int → Nat → Option Nat
  | [], m => some m
  | x :: l, m => if -1 ≤ x ∧ x ≤ (m : Int) then rg l (if x = (m : Int) then m + 1 else m) else none
theorem rg_le : ∀ (l : List Int) (m m' : Nat), rg l m = some m' → m ≤ m' ∧ m' ≤ m + l.length
  | [], m, m', h => by
    rw [rg] at h
    injection h with h
    subst h
    exact ⟨Nat.le_refl _, by simp⟩
  | x :: l, m, m', h => by
    rw [rg] at h
    split at h
    · have := rg_le l _ m' h
      rw [List.length_cons]
      split at this <;> omega
    · cases h
theorem places_mono (t : Int) : ∀ (y l : List Int), (places l t).length ≤ (places (l ++ y) t).length
  | [], l => by rw [List.append_nil]; exact Nat.le_refl _
  | x :: y, l => by
    have h := places_mono t y (l ++ [x])
    rw [List.append_assoc, List.singleton_append] at h
    rw [places_app, List.length_append] at h
    omega
theorem gen_iff (a : List Int) : ∀ (d : Nat) (l : List Int) (m : Nat) (x : List Int), x ∈ gen a d l m ↔ ∃ y m', x = l ++ y ∧ y.length = d ∧ rg y m = some m' ∧ fits a x m' = true
  | 0, l, m, x => by
    rw [gen]
    constructor
    · intro h
      split at h
      · next hf =>
        rw [List.mem_singleton] at h
        subst h
        exact ⟨[], m, by simp, rfl, rfl, hf⟩
      · cases h
    · rintro ⟨y, m', rfl, h2, h3, h4⟩
      have : y = [] := List.length_eq_zero_iff.mp h2
      subst this
      rw [rg] at h3
      injection h3 with h3
      subst h3
      rw [List.append_nil] at h4 ⊢
      rw [if_pos h4]
      exact List.mem_singleton.mpr rfl
  | d + 1, l, m, x => by
    rw [gen, List.mem_flatMap]
    constructor
    · rintro ⟨e, he, h⟩
      rw [List.mem_range'_1] at he
      split at h
      · cases h
      · obtain ⟨y, m', h1, h2, h3, h4⟩ := (gen_iff a d _ _ x).mp h
        refine ⟨((e : Int) - 1) :: y, m', by rw [h1, List.append_assoc]; rfl, by rw [List.length_cons, h2], ?_, h4⟩
        rw [rg, if_pos (by omega), ← h3]
        congr 1
        split <;> split <;> omega
    · rintro ⟨y, m', h1, h2, h3, h4⟩
      match y, h1, h2, h3 with
      | z :: y, h1, h2, h3 =>
        rw [rg] at h3
        split at h3
        · next hz =>
          obtain ⟨e, rfl⟩ : ∃ e : Nat, z = (e : Int) - 1 := ⟨(z + 1).toNat, by omega⟩
          refine ⟨e, by rw [List.mem_range'_1]; omega, ?_⟩
          have hle := rg_le _ _ _ h3
          rw [if_neg]
          · refine (gen_iff a d _ _ x).mpr ⟨y, m', by rw [h1, List.append_assoc]; rfl, by simpa using h2, ?_, h4⟩
            rw [← h3]
            congr 1
            split <;> split <;> omega
          · rintro ⟨q1, q2⟩
            rw [fits_iff] at h4
            have h5 := three_len (h4 (e - 1) (by split at hle <;> omega))
            rw [selOf_len, show ((e - 1 : Nat) : Int) = (e : Int) - 1 by omega, h1, show l ++ ((e : Int) - 1) :: y = (l ++ [(e : Int) - 1]) ++ y by rw [List.append_assoc]; rfl] at h5
            have h6 := places_mono ((e : Int) - 1) y (l ++ [(e : Int) - 1])
            rw [places_app, if_pos rfl, List.length_append, List.length_singleton] at h6
            omega
        · cases h3
theorem all_iff (a x : List Int) : x ∈ genAll a ↔ x.length = a.length ∧ ∃ m, rg x 0 = some m ∧ fits a x m = true := by
  unfold genAll
  rw [gen_iff]
  constructor
  · rintro ⟨y, m, rfl, h2, h3, h4⟩
    exact ⟨h2, m, h3, h4⟩
  · rintro ⟨h2, m, h3, h4⟩
    exact ⟨x, m, rfl, h2, h3, h4⟩
/-! ### the ways to part in threes, listed twice -/
def enumE : Nat → List Int → Nat → List (List Int)
  | 0, l, _ => [l]
  | d + 1, l, m => (List.range' 0 (m + 1)).flatMap fun t : Nat => if (places l (t : Int)).length = 3 then [] else if 3 * (if t = m then m + 1 else m) > l.length + 1 + d then [] else enumE d (l ++ [(t : Int)]) (if t = m then m + 1 else m)
def classes (x : List Int) (m : Nat) : List (List Nat) := (List.range m).map fun t : Nat => places x (t : Int)
def lowF (s : Nat) : Nat → Nat → Nat
  | 0, i => i
  | d + 1, i => if s / 2 ^ i % 2 = 0 then lowF s d (i + 1) else i
def tri3 (i j k : Nat) : Nat := 2 ^ i ||| 2 ^ j ||| 2 ^ k
def enumT (n : Nat) : Nat → Nat → List (List (List Nat))
  | 0, _ => []
  | f + 1, s => if s = 0 then [[]] else
    (List.range' (lowF s n 0 + 1) (n - (lowF s n 0 + 1))).flatMap fun j => (List.range' (j + 1) (n - (j + 1))).flatMap fun k => if s &&& tri3 (lowF s n 0) j k = tri3 (lowF s n 0) j k then (enumT n f (s &&& (511 ^^^ tri3 (lowF s n 0) j k))).map ([lowF s n 0, j, k] :: ·) else []
set_option maxRecDepth 100000 in
theorem enum_same : ∀ n, n < 10 → ((enumE n [] 0).map fun x => classes x ((rg x 0).getD 0)).isPerm (enumT n (n + 1) (2 ^ n - 1)) = true := by decide +kernel
theorem enum_small : ∀ n, n < 10 → (enumT n (n + 1) (2 ^ n - 1)).length ≤ 280 := by decide +kernel
def good (a x : List Int) : Bool := match rg x 0 with
  | some m => fits a x m
  | none => false
theorem rg_app : ∀ (l : List Int) (m : Nat) (y : Int), rg (l ++ [y]) m = (rg l m).bind fun m' => rg [y] m'
  | [], m, y => rfl
  | x :: l, m, y => by
    rw [List.cons_append, rg, rg]
    split
    · exact rg_app l _ y
    · rfl
/-- How many sticks are in the first classes. -/
def inN (x : List Int) : Nat → Nat
  | 0 => 0
  | m + 1 => inN x m + (places x (m : Int)).length
theorem inN_app (x : List Int) (y : Int) : ∀ m, inN (x ++ [y]) m = inN x m + if 0 ≤ y ∧ y < m then 1 else 0
  | 0 => by rw [inN, inN, if_neg (by omega)]
  | m + 1 => by
    rw [inN, inN, inN_app x y m, places_app, List.length_append]
    by_cases h : y = (m : Int)
    · rw [if_pos h, if_neg (by omega), if_pos (by omega)]
      simp only [List.length_singleton]
      omega
    · rw [if_neg h]
      simp only [List.length_nil]
      by_cases h2 : 0 ≤ y ∧ y < (m : Int)
      · rw [if_pos h2, if_pos (by omega)]
        omega
      · rw [if_neg h2, if_neg (by omega)]
        omega
theorem inN_nil : ∀ m, inN [] m = 0
  | 0 => rfl
  | m + 1 => by rw [inN, inN_nil m]; rfl
theorem inN_le (m : Nat) : ∀ (n : Nat) (x : List Int), x.length = n → inN x m ≤ n
  | 0, x, h => by rw [List.length_eq_zero_iff.mp h, inN_nil]; exact Nat.le_refl _
  | n + 1, x, h => by
    rcases List.eq_nil_or_concat x with rfl | ⟨y, z, rfl⟩
    · simp at h
    · rw [List.concat_eq_append] at h ⊢
      have := inN_le m n y (by simpa using h)
      rw [inN_app]
      split <;> omega
theorem inN_fits (a x : List Int) : ∀ m, fits a x m = true → inN x m = 3 * m
  | 0, _ => rfl
  | m + 1, h => by
    rw [fits_iff] at h
    have h1 := inN_fits a x m (fits_iff.mpr fun t ht => h t (by omega))
    have h2 := three_len (h m (by omega))
    rw [selOf_len] at h2
    rw [inN, h1, h2]
    omega
def noNeg (x : List Int) : Bool := decide ((-1 : Int) ∉ x)
theorem filter_flat {α β : Type} (p : β → Bool) (f : α → List β) : ∀ l : List α, (l.flatMap f).filter p = l.flatMap fun x => (f x).filter p
  | [] => rfl
  | x :: l => by rw [List.flatMap_cons, List.filter_append, filter_flat p f l, List.flatMap_cons]
theorem gen_enum (a : List Int) : ∀ (d : Nat) (l : List Int) (m : Nat), rg l 0 = some m → (-1 : Int) ∉ l → (gen a d l m).filter noNeg = (enumE d l m).filter (good a)
  | 0, l, m, h, hn => by
    have e : good a l = fits a l m := by unfold good; rw [h]
    rw [gen, enumE, List.filter_cons, List.filter_nil, e]
    split
    · have : noNeg l = true := decide_eq_true hn
      rw [List.filter_cons, this, if_pos rfl, List.filter_nil]
    · rfl
  | d + 1, l, m, h, hn => by
    rw [gen, enumE, filter_flat, filter_flat, List.range'_succ, List.flatMap_cons]
    have h0 : (gen a d (l ++ [((0 : Nat) : Int) - 1]) (if 0 = m + 1 then m + 1 else m)).filter noNeg = [] := by
      rw [List.filter_eq_nil_iff]
      intro x hx
      obtain ⟨y, m', h1, _⟩ := (gen_iff a d _ _ x).mp hx
      unfold noNeg
      rw [decide_eq_true_eq]
      intro h2
      refine h2 ?_
      rw [h1]
      simp
    rw [if_neg (by omega), h0, List.nil_append]
    have step : ∀ t : Nat, t ≤ m → ((if (places l (((t + 1 : Nat) : Int) - 1)).length = 3 ∧ 0 < t + 1 then [] else gen a d (l ++ [((t + 1 : Nat) : Int) - 1]) (if t + 1 = m + 1 then m + 1 else m)) : List (List Int)).filter noNeg =
        (if (places l (t : Int)).length = 3 then [] else if 3 * (if t = m then m + 1 else m) > l.length + 1 + d then [] else enumE d (l ++ [(t : Int)]) (if t = m then m + 1 else m)).filter (good a) := by
      intro t ht
      rw [show ((t + 1 : Nat) : Int) - 1 = (t : Int) by omega]
      have hm : (if t + 1 = m + 1 then m + 1 else m) = if t = m then m + 1 else m := by split <;> split <;> omega
      rw [hm]
      by_cases h3 : (places l (t : Int)).length = 3
      · rw [if_pos ⟨h3, by omega⟩, if_pos h3]
        rfl
      · rw [if_neg (fun q => h3 q.1), if_neg h3]
        have hrg : rg (l ++ [(t : Int)]) 0 = some (if t = m then m + 1 else m) := by
          rw [rg_app, h]
          simp only [Option.bind_some]
          rw [rg, if_pos (by omega), rg]
          congr 1
          split <;> split <;> omega
        have hn' : (-1 : Int) ∉ l ++ [(t : Int)] := by
          intro hh
          rcases List.mem_append.mp hh with hh | hh
          · exact hn hh
          · rw [List.mem_singleton] at hh
            omega
        by_cases hp : 3 * (if t = m then m + 1 else m) > l.length + 1 + d
        · rw [if_pos hp, List.filter_nil, List.filter_eq_nil_iff]
          intro x hx
          obtain ⟨y, m', h1, h2, h5, h6⟩ := (gen_iff a d _ _ x).mp hx
          have q1 := inN_fits a x m' h6
          have q2 := inN_le m' x.length x rfl
          have q3 := (rg_le _ _ _ h5).1
          have q4 : x.length = l.length + 1 + d := by rw [h1, List.length_append, h2]; simp
          omega
        · rw [if_neg hp]
          exact gen_enum a d _ _ hrg hn'
    have all : ∀ c t, t + c = m + 1 → (List.range' (t + 1) c).flatMap (fun e : Nat => ((if (places l ((e : Int) - 1)).length = 3 ∧ 0 < e then [] else gen a d (l ++ [(e : Int) - 1]) (if e = m + 1 then m + 1 else m)) : List (List Int)).filter noNeg) =
        (List.range' t c).flatMap (fun t : Nat => (if (places l (t : Int)).length = 3 then [] else if 3 * (if t = m then m + 1 else m) > l.length + 1 + d then [] else enumE d (l ++ [(t : Int)]) (if t = m then m + 1 else m)).filter (good a)) := by
      intro c
      induction c with
      | zero => intro t _; rfl
      | succ c ih =>
        intro t ht
        rw [List.range'_succ, List.range'_succ, List.flatMap_cons, List.flatMap_cons, step t (by omega), ih (t + 1) (by omega)]
    exact all (m + 1) 0 (by omega)
theorem fits_classes (a x : List Int) (m : Nat) : fits a x m = (classes x m).all fun c => three (c.map fun j : Nat => rd a (j : Int)) := by
  unfold fits classes selOf
  rw [List.all_map]
  rfl
/-! ### spec.l9Search -/
theorem and_i64 (a b : Nat) (ha : a < 4611686018427387904) (hb : b < 4611686018427387904) : Go.bits .and .i64 (a : Int) (b : Int) = ((a &&& b : Nat) : Int) := by
  have hx : a &&& b < 4611686018427387904 := Nat.lt_of_le_of_lt Nat.and_le_left ha
  have h1 : (BitVec.ofInt 64 (a : Int)).toNat = a := by
    rw [BitVec.ofInt_natCast, BitVec.toNat_ofNat]; exact Nat.mod_eq_of_lt (by omega)
  have h2 : (BitVec.ofInt 64 (b : Int)).toNat = b := by
    rw [BitVec.ofInt_natCast, BitVec.toNat_ofNat]; exact Nat.mod_eq_of_lt (by omega)
  show IntKind.i64.wrap ((BitVec.ofInt 64 (a : Int) &&& BitVec.ofInt 64 (b : Int)).toNat : Int) = _
  rw [BitVec.toNat_and, h1, h2]
  generalize a &&& b = c at hx
  simp [IntKind.wrap, IntKind.bits, IntKind.signed]
  omega
theorem andNot_i64 (a b : Nat) (ha : a < 512) (hb : b < 512) : Go.bits .andNot .i64 (a : Int) (b : Int) = ((a &&& (511 ^^^ b) : Nat) : Int) := by
  have hx : a &&& (511 ^^^ b) < 512 := Nat.lt_of_le_of_lt Nat.and_le_left ha
  have h1 : (BitVec.ofInt 64 (a : Int)).toNat = a := by
    rw [BitVec.ofInt_natCast, BitVec.toNat_ofNat]; exact Nat.mod_eq_of_lt (by omega)
  have h2 : (BitVec.ofInt 64 (b : Int)).toNat = b := by
    rw [BitVec.ofInt_natCast, BitVec.toNat_ofNat]; exact Nat.mod_eq_of_lt (by omega)
  show IntKind.i64.wrap ((BitVec.ofInt 64 (a : Int) &&& ~~~ BitVec.ofInt 64 (b : Int)).toNat : Int) = _
  have e : (BitVec.ofInt 64 (a : Int) &&& ~~~ BitVec.ofInt 64 (b : Int)).toNat = a &&& (511 ^^^ b) := by
    rw [BitVec.toNat_and, BitVec.toNat_not, h1, h2, show 2 ^ 64 - 1 - b = 2 ^ 64 - (b + 1) by omega]
    apply Nat.eq_of_testBit_eq
    intro i
    rw [Nat.testBit_and, Nat.testBit_and, Nat.testBit_two_pow_sub_succ (by omega), Nat.testBit_xor, show (511 : Nat) = 2 ^ 9 - 1 from rfl, Nat.testBit_two_pow_sub_one]
    by_cases hi : i < 9
    · rw [decide_eq_true hi, decide_eq_true (show i < 64 by omega)]
      cases b.testBit i <;> rfl
    · have : a.testBit i = false := Nat.testBit_lt_two_pow (Nat.lt_of_lt_of_le ha (Nat.pow_le_pow_right (by omega) (by omega) : 2 ^ 9 ≤ 2 ^ i))
      rw [this]
      rfl
  rw [e]
  generalize a &&& (511 ^^^ b) = c at hx
  simp [IntKind.wrap, IntKind.bits, IntKind.signed]
  omega
theorem tri3_all : ∀ i : Nat, i < 9 → ∀ j : Nat, j < 9 → ∀ k : Nat, k < 9 → Go.bits .or .i64 (Go.bits .or .i64 (shl .i64 1 (i : Int)) (shl .i64 1 (j : Int))) (shl .i64 1 (k : Int)) = ((tri3 i j k : Nat) : Int) ∧ tri3 i j k < 512 ∧ tri3 i j k / 2 ^ i % 2 = 1 := by decide +kernel
def sat (a : List Int) (x2 : Int) (c : List Nat) : Bool := three (c.map fun j : Nat => rd a (j : Int)) && (decide (x2 = 0) || decide ((c.map fun j : Nat => rd a (j : Int)).sum = x2))
def allSat (a : List Int) (x2 : Int) (L : List (List Nat)) : Bool := L.all (sat a x2)
def brT (n f s i j k : Nat) : List (List (List Nat)) := if s &&& tri3 i j k = tri3 i j k then (enumT n f (s &&& (511 ^^^ tri3 i j k))).map ([i, j, k] :: ·) else []
def rowT (n f s i j : Nat) : List (List (List Nat)) := (List.range' (j + 1) (n - (j + 1))).flatMap (brT n f s i j)
theorem enumT_succ (n f s : Nat) : enumT n (f + 1) s = if s = 0 then [[]] else (List.range' (lowF s n 0 + 1) (n - (lowF s n 0 + 1))).flatMap (rowT n f s (lowF s n 0)) := rfl
theorem countP_cons_map (a : List Int) (x2 : Int) (c : List Nat) (L : List (List (List Nat))) : (L.map (c :: ·)).countP (allSat a x2) = if sat a x2 c = true then L.countP (allSat a x2) else 0 := by
  rw [List.countP_map]
  by_cases h : sat a x2 c = true
  · rw [if_pos h]
    congr 1
    funext x
    simp [allSat, h]
  · rw [if_neg h, List.countP_eq_zero]
    intro x _
    simp [allSat, h]
theorem flat_len {α : Type} (f : Nat → List α) (B : Nat) (h : ∀ j, (f j).length ≤ B) : ∀ (c s : Nat), ((List.range' s c).flatMap f).length ≤ c * B
  | 0, s => by simp
  | c + 1, s => by
    rw [List.range'_succ, List.flatMap_cons, List.length_append, Nat.add_mul, Nat.one_mul, Nat.add_comm]
    exact Nat.add_le_add (flat_len f B h c (s + 1)) (h s)
theorem enumT_len (n : Nat) (hn : n ≤ 9) : ∀ f s, (enumT n f s).length ≤ 64 ^ f
  | 0, s => by simp [enumT]
  | f + 1, s => by
    have hb : ∀ i j k, (brT n f s i j k).length ≤ 64 ^ f := fun i j k => by
      unfold brT
      split
      · rw [List.length_map]; exact enumT_len n hn f _
      · simp
    have hr : ∀ i j, (rowT n f s i j).length ≤ 8 * 64 ^ f := fun i j => Nat.le_trans (flat_len _ _ (hb i j) _ _) (Nat.mul_le_mul_right _ (by omega))
    rw [enumT_succ]
    split
    · simp only [List.length_singleton]
      exact Nat.pow_pos (by omega)
    · refine Nat.le_trans (flat_len _ _ (hr _) _ _) ?_
      rw [Nat.pow_succ, Nat.mul_comm (64 ^ f) 64, show 64 * 64 ^ f = 8 * (8 * 64 ^ f) by rw [← Nat.mul_assoc]]
      exact Nat.mul_le_mul_right _ (by omega)
theorem shr_nat (m i : Nat) (hi : i ≤ 60) : shr .i64 (m : Int) (i : Int) = ((m / 2 ^ i : Nat) : Int) := by
  unfold shr
  rw [Int.toNat_natCast, show min i (IntKind.i64.bits) = i by simp only [IntKind.bits]; omega]
  norm_cast
def Low (s lo : Nat) : Prop := ∀ b, b < lo → s / 2 ^ b % 2 = 0
theorem bit_iff (s b : Nat) : s / 2 ^ b % 2 = 1 ↔ s.testBit b = true := by
  rw [Nat.testBit_eq_decide_div_mod_eq, decide_eq_true_eq]
theorem low_zero {s n : Nat} (h : s < 2 ^ n) (hl : Low s n) : s = 0 := by
  apply Nat.eq_of_testBit_eq
  intro b
  rw [Nat.zero_testBit]
  rcases Nat.lt_or_ge b n with hb | hb
  · have := hl b hb
    rw [Nat.testBit_eq_decide_div_mod_eq, decide_eq_false_iff_not]
    omega
  · exact Nat.testBit_lt_two_pow (Nat.lt_of_lt_of_le h (Nat.pow_le_pow_right (by omega) hb))
theorem low_sub {s i j k lo : Nat} (hi : i < 9) (hj : j < 9) (hk : k < 9) (hl : Low s i) (hlo : lo ≤ i) : Low (s &&& (511 ^^^ tri3 i j k)) (lo + 1) := by
  intro b hb
  obtain ⟨_, _, h3⟩ := tri3_all i hi j hj k hk
  have h4 := (bit_iff _ _).mp h3
  have key : (s &&& (511 ^^^ tri3 i j k)).testBit b = false := by
    rw [Nat.testBit_and, Nat.testBit_xor]
    rcases Nat.lt_or_ge b i with h | h
    · have := hl b h
      have : s.testBit b = false := by
        rw [Nat.testBit_eq_decide_div_mod_eq, decide_eq_false_iff_not]
        omega
      rw [this]
      rfl
    · have : b = i := by omega
      subst this
      rw [h4, show (511 : Nat) = 2 ^ 9 - 1 from rfl, Nat.testBit_two_pow_sub_one, decide_eq_true hi]
      simp
  have := mt (bit_iff _ _).mp (by rw [key]; simp)
  omega
theorem l9_l0 (a : List Int) (x2 : Int) (n s : Nat) (hn : n ≤ 9) (hs : s < 2 ^ n) (h0 : s ≠ 0) : ∀ (d k i : Nat), i + d = n → d + 1 ≤ k → Low s i →
    ∃ k', k ≤ k' + d + 1 ∧ spec_l9Search.l0 k a (s : Int) x2 (i : Int) = spec_l9Search.l1 k' a (s : Int) x2 (lowF s d i : Nat) 0 ((lowF s d i + 1 : Nat) : Int) ∧ lowF s d i < n ∧ Low s (lowF s d i) ∧ i ≤ lowF s d i ∧ s / 2 ^ lowF s d i % 2 = 1 := by
  have h512 : s < 512 := Nat.lt_of_lt_of_le hs (Nat.pow_le_pow_right (by omega) hn : 2 ^ n ≤ 2 ^ 9)
  intro d
  induction d with
  | zero =>
    intro k i hi hk hl
    rw [show i = n by omega] at hl
    exact absurd (low_zero hs hl) h0
  | succ d ih =>
    intro k i hi hk hl
    obtain ⟨q, rfl⟩ : ∃ q, k = q + 1 := ⟨k - 1, by omega⟩
    have hq : s / 2 ^ i < 4611686018427387904 := Nat.lt_of_le_of_lt (Nat.div_le_self _ _) (by omega)
    have hw := wrap_nat (n := i) (by omega)
    rw [spec_l9Search.l0, if_pos (by omega), shr_nat s i (by omega), and_one _ hq, hw, lowF]
    by_cases hb : s / 2 ^ i % 2 = 0
    · rw [if_pos (show ((s / 2 ^ i % 2 : Nat) : Int) = 0 by omega), if_pos hb]
      obtain ⟨k', g1, g2, g3, g4, g5, g6⟩ := ih q (i + 1) (by omega) (by omega) (by
        intro b hb2
        rcases Nat.lt_or_ge b i with h | h
        · exact hl b h
        · rw [show b = i by omega]
          exact hb)
      exact ⟨k', by omega, g2, g3, g4, by omega, g6⟩
    · rw [if_neg hb, if_neg (by omega)]
      exact ⟨q, by omega, rfl, by omega, hl, Nat.le_refl _, by omega⟩
theorem cnt_range (a : List Int) (x2 : Int) (f : Nat → List (List (List Nat))) (c s : Nat) : ((List.range' s (c + 1)).flatMap f).countP (allSat a x2) = (f s).countP (allSat a x2) + ((List.range' (s + 1) c).flatMap f).countP (allSat a x2) := by
  rw [List.range'_succ, List.flatMap_cons, List.countP_append]
theorem l9_l2 (a : List Int) (ha : ∀ x ∈ a, 1 ≤ x ∧ x ≤ 60) (x2 : Int) (f s i j : Nat) (hn : a.length ≤ 9) (hs : s < 512) (hij : i < j) (hj : j < a.length) (q : Nat)
    (IH : ∀ k, k < a.length → ∀ p, q ≤ p → spec_l9Search.f p a ((s &&& (511 ^^^ tri3 i j k) : Nat) : Int) x2 = some (((enumT a.length f (s &&& (511 ^^^ tri3 i j k))).countP (allSat a x2) : Nat) : Int)) :
    ∀ (d k : Nat) (c : Nat), k + d = a.length → c + ((List.range' k d).flatMap (brT a.length f s i j)).countP (allSat a x2) < 4611686018427387904 →
    spec_l9Search.l2 (q + d + 1) a (s : Int) x2 (i : Int) (c : Int) (j : Int) (k : Int) = spec_l9Search.l1 q a (s : Int) x2 (i : Int) ((c + ((List.range' k d).flatMap (brT a.length f s i j)).countP (allSat a x2) : Nat) : Int) ((j + 1 : Nat) : Int) := by
  have hin : ∀ t : Nat, t < a.length → 1 ≤ rd a (t : Int) ∧ rd a (t : Int) ≤ 60 := fun t ht => by
    rw [rd_at ht]
    exact ha _ (List.getElem_mem ht)
  intro d
  induction d with
  | zero =>
    intro k c hk hc
    have hw := wrap_nat (n := j) (by omega)
    rw [spec_l9Search.l2, if_neg (by omega), hw]
    rfl
  | succ d ih =>
    intro k c hk hc
    have hw := wrap_nat (n := k) (by omega)
    rw [cnt_range] at hc ⊢
    have hi1 := hin i (by omega)
    have hj1 := hin j hj
    have hk1 := hin k (by omega)
    obtain ⟨t1, t2, t3⟩ := tri3_all i (by omega) j (by omega) k (by omega)
    have ihn := ih (k + 1)
    rw [show q + (d + 1) + 1 = (q + d + 1) + 1 by omega, spec_l9Search.l2, if_pos (by omega), if_pos (by omega), if_pos (by omega), if_pos (by omega), t1, and_i64 s _ (by omega) (by omega), hw]
    generalize hX : ((List.range' (k + 1) d).flatMap (brT a.length f s i j)).countP (allSat a x2) = X at hc ihn ⊢
    have hskip : (brT a.length f s i j k).countP (allSat a x2) = 0 → spec_l9Search.l2 (q + d + 1) a (s : Int) x2 (i : Int) (c : Int) (j : Int) ((k + 1 : Nat) : Int) = spec_l9Search.l1 q a (s : Int) x2 (i : Int) ((c + ((brT a.length f s i j k).countP (allSat a x2) + X) : Nat) : Int) ((j + 1 : Nat) : Int) := by
      intro h
      rw [h] at hc ⊢
      rw [ihn c (by omega) (by omega), Nat.zero_add]
    by_cases hb : s &&& tri3 i j k = tri3 i j k
    · rw [if_pos (by rw [hb]), if_pos (by omega), if_pos (by omega), l1three_tells _ _ _ hi1 hj1 hk1]
      simp only [Option.bind_some]
      have hbr : (brT a.length f s i j k).countP (allSat a x2) = if sat a x2 [i, j, k] = true then (enumT a.length f (s &&& (511 ^^^ tri3 i j k))).countP (allSat a x2) else 0 := by
        unfold brT
        rw [if_pos hb, countP_cons_map]
      have hst : sat a x2 [i, j, k] = (tri (rd a (i : Int)) (rd a (j : Int)) (rd a (k : Int)) && (decide (x2 = 0) || decide (rd a (i : Int) + rd a (j : Int) + rd a (k : Int) = x2))) := by
        unfold sat
        simp only [List.map_cons, List.map_nil, List.sum_cons, List.sum_nil, three]
        rw [show rd a (i : Int) + (rd a (j : Int) + (rd a (k : Int) + 0)) = rd a (i : Int) + rd a (j : Int) + rd a (k : Int) by omega]
      have htake : sat a x2 [i, j, k] = true → ((spec_l9Search.f (q + d + 1) a (Go.bits .andNot .i64 (s : Int) ((tri3 i j k : Nat) : Int)) x2).bind fun t117 => (spec_l9Search.l2 (q + d + 1) a (s : Int) x2 (i : Int) (wrap64 ((c : Int) + t117)) (j : Int) ((k + 1 : Nat) : Int))) = spec_l9Search.l1 q a (s : Int) x2 (i : Int) ((c + ((brT a.length f s i j k).countP (allSat a x2) + X) : Nat) : Int) ((j + 1 : Nat) : Int) := by
        intro h
        rw [hbr, if_pos h] at hc ⊢
        rw [andNot_i64 s _ hs t2, IH k (by omega) (q + d + 1) (by omega)]
        simp only [Option.bind_some]
        generalize (enumT a.length f (s &&& (511 ^^^ tri3 i j k))).countP (allSat a x2) = Y at hc ⊢
        rw [show wrap64 ((c : Int) + (Y : Int)) = ((c + Y : Nat) : Int) by unfold wrap64; omega, ihn (c + Y) (by omega) (by omega), Nat.add_assoc]
      cases htr : tri (rd a (i : Int)) (rd a (j : Int)) (rd a (k : Int)) with
      | true =>
        rw [htr, Bool.true_and] at hst
        rw [if_pos rfl]
        by_cases hx : x2 = 0
        · rw [if_pos hx]
          rw [decide_eq_true hx, Bool.true_or] at hst
          exact htake hst
        · rw [if_neg hx, show wrap64 (wrap64 (rd a (i : Int) + rd a (j : Int)) + rd a (k : Int)) = rd a (i : Int) + rd a (j : Int) + rd a (k : Int) by unfold wrap64; omega]
          rw [decide_eq_false hx, Bool.false_or] at hst
          by_cases hy : rd a (i : Int) + rd a (j : Int) + rd a (k : Int) = x2
          · rw [if_pos hy]
            rw [decide_eq_true hy] at hst
            exact htake hst
          · rw [if_neg hy]
            rw [decide_eq_false hy] at hst
            exact hskip (by rw [hbr, hst, if_neg (by decide)])
      | false =>
        rw [htr, Bool.false_and] at hst
        rw [if_neg (by decide)]
        exact hskip (by rw [hbr, hst, if_neg (by decide)])
    · rw [if_neg (by omega)]
      exact hskip (by unfold brT; rw [if_neg hb]; rfl)
theorem l9_ar1 {Q d q : Nat} (h9 : d ≤ 9) (h : Q + 20 * (d + 1) + 20 ≤ q + d + 1 + 1) : Q + 20 * d + 20 ≤ q := by omega
theorem l9_ar3 {Q d k : Nat} (h : Q + 20 * (d + 1) + 20 ≤ k) : k = k - d - 2 + d + 1 + 1 := by omega
theorem l9_ar4 {Q d q p : Nat} (h9 : d ≤ 9) (h : Q + 20 * (d + 1) + 20 ≤ q + d + 1 + 1) (hp : q ≤ p) : Q ≤ p := by omega
theorem l9_ar5 {c r x B : Nat} (h : c + (r + x) < B) : c + r < B := by omega
theorem l9_ar2 {c r x B : Nat} (h : c + (r + x) < B) : c + r + x < B := by omega
theorem l9_l1 (a : List Int) (ha : ∀ x ∈ a, 1 ≤ x ∧ x ≤ 60) (x2 : Int) (f s i : Nat) (hn : a.length ≤ 9) (hs : s < 512) (Q : Nat)
    (IH : ∀ j k, j < a.length → k < a.length → ∀ p, Q ≤ p → spec_l9Search.f p a ((s &&& (511 ^^^ tri3 i j k) : Nat) : Int) x2 = some (((enumT a.length f (s &&& (511 ^^^ tri3 i j k))).countP (allSat a x2) : Nat) : Int)) :
    ∀ (d j k : Nat) (c : Nat), j + d = a.length → i < j → Q + 20 * d + 20 ≤ k → c + ((List.range' j d).flatMap (rowT a.length f s i)).countP (allSat a x2) < 4611686018427387904 →
    spec_l9Search.l1 k a (s : Int) x2 (i : Int) (c : Int) (j : Int) = some ((c + ((List.range' j d).flatMap (rowT a.length f s i)).countP (allSat a x2) : Nat) : Int) := by
  intro d
  induction d with
  | zero =>
    intro j k c hj hi hk hc
    obtain ⟨q, rfl⟩ : ∃ q, k = q + 1 := ⟨k - 1, by omega⟩
    rw [spec_l9Search.l1, if_neg (by omega)]
    rfl
  | succ d ih =>
    intro j k c hj hi hk hc
    have e1 : j + 1 + d = a.length := by omega
    have e2 : i < j + 1 := by omega
    have e3 : d ≤ 9 := by omega
    have e4 : j < a.length := by omega
    have e5 : (j : Int) < (a.length : Int) := by omega
    have e6 : a.length - (j + 1) = d := by omega
    have hw := wrap_nat (n := j) (by omega)
    obtain ⟨q, rfl⟩ : ∃ q, k = q + d + 1 + 1 := ⟨k - d - 2, l9_ar3 hk⟩
    rw [cnt_range] at hc ⊢
    have hrow : ((List.range' (j + 1) d).flatMap (brT a.length f s i j)).countP (allSat a x2) = (rowT a.length f s i j).countP (allSat a x2) := by
      unfold rowT
      rw [e6]
    have g := l9_l2 a ha x2 f s i j hn hs hi e4 q (fun k' hk' p hp => IH j k' e4 hk' p (l9_ar4 e3 hk hp)) d (j + 1) c e1 (by rw [hrow]; exact l9_ar5 hc)
    rw [spec_l9Search.l1, if_pos e5, hw, g, hrow, ih (j + 1) q _ e1 e2 (l9_ar1 e3 hk) (l9_ar2 hc), Nat.add_assoc]
theorem pow64 {f : Nat} (h : f ≤ 10) : 64 ^ f < 4611686018427387904 := by
  have h1 : 64 ^ f ≤ 64 ^ 10 := Nat.pow_le_pow_right (Nat.succ_pos 63) h
  have h2 : (64 : Nat) ^ 10 = 1152921504606846976 := by simp
  rw [h2] at h1
  exact Nat.lt_of_le_of_lt h1 (by simp)
theorem search_run (a : List Int) (ha : ∀ x ∈ a, 1 ≤ x ∧ x ≤ 60) (hn : a.length ≤ 9) (x2 : Int) : ∀ (f lo s : Nat), lo + f = a.length + 1 → lo ≤ a.length → s < 2 ^ a.length → Low s lo → ∀ k, 300 * f ≤ k →
    spec_l9Search.f k a (s : Int) x2 = some (((enumT a.length f s).countP (allSat a x2) : Nat) : Int)
  | 0, lo, s, hf, hlo0, hs, hl, k, hk => by omega
  | f + 1, lo, s, hf, hlo0, hs, hl, k, hk => by
    have h512 : s < 512 := Nat.lt_of_lt_of_le hs (Nat.pow_le_pow_right (by omega) hn : 2 ^ a.length ≤ 2 ^ 9)
    obtain ⟨q, rfl⟩ : ∃ q, k = q + 1 := ⟨k - 1, by omega⟩
    have hcnt := List.countP_le_length (p := allSat a x2) (l := enumT a.length (f + 1) s)
    have hlen := enumT_len a.length hn (f + 1) s
    have hp := pow64 (f := f + 1) (by omega)
    rw [spec_l9Search.f]
    rw [enumT_succ] at hcnt hlen ⊢
    by_cases h0 : s = 0
    · subst h0
      rw [if_pos (by omega), if_pos rfl]
      rfl
    · rw [if_neg h0] at hcnt hlen
      rw [if_neg (by omega), if_neg h0]
      obtain ⟨k', g1, g2, g3, g4, g5, g6⟩ := l9_l0 a x2 a.length s hn hs h0 a.length q 0 (by omega) (by omega) (fun b hb => by omega)
      have hlo : lo ≤ lowF s a.length 0 := by
        rcases Nat.lt_or_ge (lowF s a.length 0) lo with h | h
        · have := hl _ h
          omega
        · exact h
      have IH : ∀ j k, j < a.length → k < a.length → ∀ p, 300 * f ≤ p → spec_l9Search.f p a ((s &&& (511 ^^^ tri3 (lowF s a.length 0) j k) : Nat) : Int) x2 = some (((enumT a.length f (s &&& (511 ^^^ tri3 (lowF s a.length 0) j k))).countP (allSat a x2) : Nat) : Int) := fun j k hj hk p hp =>
        search_run a ha hn x2 f (lo + 1) _ (by omega) (by omega) (Nat.lt_of_le_of_lt Nat.and_le_left hs) (low_sub (by omega) (by omega) (by omega) g4 hlo) p hp
      generalize lowF s a.length 0 = i at *
      have g := l9_l1 a ha x2 f s i hn h512 (300 * f) IH (a.length - (i + 1)) (i + 1) k' 0 (by omega) (by omega) (by omega) (by omega)
      rw [Nat.zero_add] at g
      rw [show ((0 : Nat) : Int) = 0 from rfl] at g2 g
      rw [g2, g]
/-! ### the number of ways -/
theorem index_l (xs : List Int) (v : Int) (hl : xs.length ≤ 1000) : ∀ (d k i : Nat), i + d = xs.length → d + 1 ≤ k → ∃ r, slices_Index_int_int.l0 k xs v (xs.length : Int) (i : Int) = some r ∧ (r ≥ 0 ↔ v ∈ xs.drop i) := by
  intro d
  induction d with
  | zero =>
    intro k i hi hk
    obtain ⟨m, rfl⟩ : ∃ m, k = m + 1 := ⟨k - 1, by omega⟩
    rw [slices_Index_int_int.l0, if_neg (by omega), List.drop_eq_nil_of_le (by omega)]
    exact ⟨-1, rfl, by simp⟩
  | succ d ih =>
    intro k i hi hk
    obtain ⟨m, rfl⟩ : ∃ m, k = m + 1 := ⟨k - 1, by omega⟩
    have hil : i < xs.length := by omega
    rw [slices_Index_int_int.l0, if_pos (by omega), if_pos (by omega), if_pos (by omega), rd_at hil, wrap_nat (by omega), List.drop_eq_getElem_cons hil]
    by_cases h : v = xs[i]
    · rw [if_pos h]
      exact ⟨(i : Int), rfl, ⟨fun _ => by rw [h]; exact List.mem_cons_self, fun _ => by omega⟩⟩
    · rw [if_neg h]
      obtain ⟨r, h1, h2⟩ := ih m (i + 1) (by omega) (by omega)
      refine ⟨r, h1, h2.trans ?_⟩
      rw [List.mem_cons]
      exact ⟨.inr, fun q => q.resolve_left h⟩
theorem contains_tells (xs : List Int) (hl : xs.length ≤ 1000) (k : Nat) (hk : xs.length + 1 ≤ k) : slices_Contains_int_int.f k xs (-1) = some (!noNeg xs) := by
  obtain ⟨r, h1, h2⟩ := index_l xs (-1) hl xs.length k 0 (by omega) hk
  unfold slices_Contains_int_int.f slices_Index_int_int.f
  rw [show ((0 : Nat) : Int) = 0 from rfl] at h1
  rw [List.drop_zero] at h2
  rw [h1]
  simp only [Option.bind_some]
  congr 1
  unfold noNeg
  by_cases h : (-1 : Int) ∈ xs
  · rw [decide_eq_true (h2.mpr h), decide_eq_false (fun q => q h)]
    rfl
  · rw [decide_eq_false (fun q => h (h2.mp q)), decide_eq_true h]
    rfl
def waysN (a : List Int) (x2 : Int) : Nat := (enumT a.length (a.length + 1) (2 ^ a.length - 1)).countP (allSat a x2)
theorem ways_small (a : List Int) (h9 : a.length ≤ 9) (x2 : Int) : waysN a x2 ≤ 280 :=
  Nat.le_trans List.countP_le_length (enum_small a.length (by omega))
theorem good_all (a x : List Int) (m : Nat) (h : rg x 0 = some m) : good a x = allSat a 0 (classes x ((rg x 0).getD 0)) := by
  unfold good allSat
  rw [h]
  simp only [Option.getD_some]
  rw [fits_classes]
  congr 1
  funext c
  simp [sat]
theorem enumE_rg : ∀ (d : Nat) (l : List Int) (m : Nat), rg l 0 = some m → ∀ x ∈ enumE d l m, ∃ m', rg x 0 = some m'
  | 0, l, m, h, x, hx => by
    rw [enumE, List.mem_singleton] at hx
    subst hx
    exact ⟨m, h⟩
  | d + 1, l, m, h, x, hx => by
    rw [enumE, List.mem_flatMap] at hx
    obtain ⟨t, ht, hx⟩ := hx
    rw [List.mem_range'_1] at ht
    by_cases q1 : (places l (t : Int)).length = 3
    · rw [if_pos q1] at hx
      cases hx
    · rw [if_neg q1] at hx
      by_cases q2 : 3 * (if t = m then m + 1 else m) > l.length + 1 + d
      · rw [if_pos q2] at hx
        cases hx
      · rw [if_neg q2] at hx
        refine enumE_rg d _ _ ?_ x hx
        rw [rg_app, h]
        simp only [Option.bind_some]
        rw [rg, if_pos (by omega), rg]
        congr 1
        split <;> split <;> omega
theorem ways_count (a : List Int) (h9 : a.length ≤ 9) : (genAll a).countP noNeg = waysN a 0 := by
  rw [List.countP_eq_length_filter]
  unfold genAll
  rw [gen_enum a a.length [] 0 rfl (by simp), ← List.countP_eq_length_filter]
  unfold waysN
  rw [← (List.isPerm_iff.mp (enum_same a.length (by omega))).countP_eq, List.countP_map]
  apply List.countP_congr
  intro x hx
  obtain ⟨m, hm⟩ := enumE_rg _ _ _ rfl x hx
  rw [good_all a x m hm]
  rfl
theorem shl_ruler {l : List Int} (hr : isRuler l) : wrap64 (shl .i64 1 (l.length : Int) - 1) = ((2 ^ l.length - 1 : Nat) : Int) ∧ 0 < 2 ^ l.length ∧ 2 ^ l.length ≤ 512 := by
  have h : ∀ n : Nat, n < 10 → wrap64 (shl .i64 1 (n : Int) - 1) = ((2 ^ n - 1 : Nat) : Int) ∧ 0 < 2 ^ n ∧ 2 ^ n ≤ 512 := by decide +kernel
  exact h _ (by have := hr.2.2; omega)
theorem search_all (a : List Int) (hr : isRuler a) (x2 : Int) (k : Nat) (hk : 3000 ≤ k) : spec_l9Search.f k a (wrap64 (shl .i64 1 (a.length : Int) - 1)) x2 = some ((waysN a x2 : Nat) : Int) := by
  have h9 := hr.2.2
  obtain ⟨e, e1, e2⟩ := shl_ruler hr
  rw [e]
  exact search_run a hr.1 h9 x2 (a.length + 1) 0 _ (by omega) (by omega) (by omega) (fun b hb => by omega) k (by omega)
theorem ways_fold (N : Nat) : ∀ (ls : List (List Int)) (s : Nat), s + ls.length < N → N ≤ 4611686018427387904 → ls.foldl (fun (s : Int) x => if noNeg x = true then wrap64 (s + 1) else s) (s : Int) = ((s + ls.countP noNeg : Nat) : Int)
  | [], s, _, _ => by simp
  | x :: ls, s, h, hN => by
    rw [List.length_cons] at h
    rw [List.foldl_cons, List.countP_cons]
    by_cases hx : noNeg x = true
    · rw [if_pos hx, if_pos hx, wrap_nat (by omega), ways_fold N ls (s + 1) (by omega) hN]
      congr 1
      omega
    · rw [if_neg hx, if_neg hx, ways_fold N ls s (by omega) hN]
      rfl
def waysOf (a : List Int) : Int × Bool := if isBundle a then ((waysN a 0 : Int), true) else (0, false)
theorem ways_impl (l : List Int) (hl : l.length ≤ 1048576) : ∃ K, ∀ k, K ≤ k → impl_PartWays.f k l = some (waysOf l) := by
  by_cases hb : isBundle l
  · obtain ⟨K, h⟩ := parts_tells l hb.1 (fun (s : Int) x => if noNeg x = true then wrap64 (s + 1) else s)
    have h9 := hb.1.2.2
    refine ⟨K + l.length + 100, fun k hk => ?_⟩
    unfold impl_PartWays.f waysOf
    rw [impl_bundle l hl k (by omega), decide_eq_true hb, if_pos hb]
    simp only [Option.bind_some]
    rw [if_pos trivial, h k (by omega) (impl_PartWays.step k) 0 (fun s xs hx => ?_)]
    · have hlen : (genAll l).length ≤ 11 ^ l.length := gen_length l l.length [] 0 (by omega)
      have hp := pow11 h9
      have := ways_fold 4000000000 (genAll l) 0 (by omega) (by omega)
      rw [Nat.zero_add, ways_count l h9] at this
      rw [show (0 : Int) = ((0 : Nat) : Int) from rfl, this]
      rfl
    · have hin := mem_all_in h9 hx
      unfold impl_PartWays.step
      rw [contains_tells xs (by omega) k (by omega)]
      simp only [Option.bind_some]
      cases noNeg xs <;> rfl
  · refine ⟨l.length + 100, fun k hk => ?_⟩
    unfold impl_PartWays.f waysOf
    rw [impl_bundle l hl k (by omega), decide_eq_false hb, if_neg hb]
    simp only [Option.bind_some]
    rw [if_neg (by decide)]
def mayOf (a : List Int) : Bool := decide (isBundle a ∧ 0 < waysN a 0)
theorem may_impl (l : List Int) (hl : l.length ≤ 1048576) : ∃ K, ∀ k, K ≤ k → impl_PartMay.f k l = some (mayOf l) := by
  obtain ⟨K, h⟩ := ways_impl l hl
  refine ⟨K, fun k hk => ?_⟩
  unfold impl_PartMay.f mayOf
  rw [h k hk]
  unfold waysOf
  by_cases hb : isBundle l
  · rw [if_pos hb]
    simp [hb]
  · rw [if_neg hb]
    simp [hb]
/-! ### the reader of draws -/
theorem wrap_id {x : Int} (h0 : -9223372036854775808 ≤ x) (h1 : x ≤ 9223372036854775807) : wrap64 x = x := by unfold wrap64; omega
theorem wf_u8 {l : List Int} (h : ∀ x ∈ l, (Lit.int .u8 x).wf = true) : ∀ x ∈ l, 0 ≤ x ∧ x ≤ 255 := by
  intro x hx
  have := h x hx
  simp [Lit.wf, IntKind.min, IntKind.max, IntKind.bits, IntKind.signed] at this
  omega
theorem rd_u8 {b : List Int} (hb : ∀ x ∈ b, 0 ≤ x ∧ x ≤ 255) (i : Int) (h0 : 0 ≤ i) (h1 : i < b.length) : 0 ≤ rd b i ∧ rd b i ≤ 255 := by
  have hl : i.toNat < b.length := by omega
  have : rd b i = b[i.toNat] := by
    unfold rd
    rw [List.getD_eq_getElem?_getD, List.getElem?_eq_getElem hl]
    rfl
  rw [this]
  exact hb _ (List.getElem_mem hl)
theorem xor_i64 (a b : Nat) (ha : a < 4611686018427387904) (hb : b < 4611686018427387904) : Go.bits .xor .i64 (a : Int) (b : Int) = ((a ^^^ b : Nat) : Int) := by
  have hx : a ^^^ b < 2 ^ 62 := Nat.xor_lt_two_pow (by omega) (by omega)
  have h1 : (BitVec.ofInt 64 (a : Int)).toNat = a := by
    rw [BitVec.ofInt_natCast, BitVec.toNat_ofNat]; exact Nat.mod_eq_of_lt (by omega)
  have h2 : (BitVec.ofInt 64 (b : Int)).toNat = b := by
    rw [BitVec.ofInt_natCast, BitVec.toNat_ofNat]; exact Nat.mod_eq_of_lt (by omega)
  show IntKind.i64.wrap ((BitVec.ofInt 64 (a : Int) ^^^ BitVec.ofInt 64 (b : Int)).toNat : Int) = _
  rw [BitVec.toNat_xor, h1, h2]
  generalize a ^^^ b = c at hx
  simp [IntKind.wrap, IntKind.bits, IntKind.signed]
  omega
theorem tmod_in {x n : Int} (hx : 0 ≤ x) (hn : 1 ≤ n) : 0 ≤ Int.tmod x n ∧ Int.tmod x n < n := by
  rw [Int.tmod_eq_emod_of_nonneg hx]
  exact ⟨Int.emod_nonneg _ (by omega), Int.emod_lt_of_pos _ (by omega)⟩
theorem tdiv_in {x n : Int} (hx : 0 ≤ x) (hn : 1 ≤ n) : 0 ≤ Int.tdiv x n ∧ Int.tdiv x n ≤ x := by
  rw [Int.tdiv_eq_ediv_of_nonneg hx]
  exact ⟨Int.ediv_nonneg hx (by omega), Int.ediv_le_self _ hx⟩
theorem pick_tells (b : List Int) (hb : ∀ x ∈ b, 0 ≤ x ∧ x ≤ 255) (hl : b.length ≤ 2000) (p n : Int) (hp : 0 ≤ p) (hp2 : p ≤ 1000000) (hn : 1 ≤ n) (hn2 : n ≤ 1000000) (k : Nat) (hk : 1 ≤ k) :
    ∃ r, spec_l6Rd_pick.f k b p n = some (r, p + 1) ∧ 0 ≤ r ∧ r < n := by
  obtain ⟨m, rfl⟩ : ∃ m, k = m + 1 := ⟨k - 1, by omega⟩
  unfold spec_l6Rd_pick.f
  have e0 : wrap64 (p + 1) = p + 1 := wrap_id (by omega) (by omega)
  have e1 : wrap64 (p + 1 - 1) = p := by rw [show p + 1 - 1 = p by omega]; exact wrap_id (by omega) (by omega)
  rw [if_neg (by omega), spec_l6Rd_pick.j0, e0, e1]
  by_cases hz : b.length = 0
  · rw [if_pos (by simp [hz])]
    exact ⟨0, rfl, by omega, by omega⟩
  · have hz2 : ((b.length : Int) == 0) = false := by rw [beq_eq_false_iff_ne]; omega
    rw [hz2, if_neg (by decide)]
    by_cases h : p < b.length
    · rw [if_pos h, if_pos hp, if_neg (by omega)]
      have hr := rd_u8 hb p hp h
      rw [wrap_id (x := rd b p) (by omega) (by omega)]
      exact ⟨_, rfl, tmod_in hr.1 hn⟩
    · rw [if_neg h, if_neg (by omega)]
      have hlen : (1 : Int) ≤ b.length := by omega
      have q1 := tmod_in hp hlen
      have e7 : wrap64 (p * 7) = p * 7 := wrap_id (by omega) (by omega)
      have e8 : wrap64 (p * 7 + 3) = p * 7 + 3 := wrap_id (by omega) (by omega)
      rw [e7, e8]
      have q2 := tmod_in (show (0 : Int) ≤ p * 7 + 3 by omega) hlen
      rw [if_pos q1.1, if_pos q1.2, if_pos q2.1, if_pos q2.2, if_neg (by omega)]
      have r1 := rd_u8 hb _ q1.1 q1.2
      have r2 := rd_u8 hb _ q2.1 q2.2
      have q3 := tdiv_in hp hlen
      generalize rd b (Int.tmod p b.length) = x1 at r1
      generalize rd b (Int.tmod (p * 7 + 3) b.length) = x2 at r2
      generalize Int.tdiv p b.length = x3 at q3
      rw [wrap_id (x := x1) (by omega) (by omega), wrap_id (x := x2) (by omega) (by omega), wrap_id (x := x3) (by omega) (by omega), wrap_id (x := x1 * 131) (by omega) (by omega), wrap_id (x := x2 * 1117) (by omega) (by omega),
        wrap_id (x := x1 * 131 + x2 * 1117) (by omega) (by omega), wrap_id (x := p * 29) (by omega) (by omega), wrap_id (x := x1 * 131 + x2 * 1117 + p * 29) (by omega) (by omega), wrap_id (x := x3 * 53) (by omega) (by omega),
        wrap_id (x := x1 * 131 + x2 * 1117 + p * 29 + x3 * 53) (by omega) (by omega)]
      obtain ⟨X, hX⟩ : ∃ X : Nat, x1 * 131 + x2 * 1117 + p * 29 + x3 * 53 = X := ⟨(x1 * 131 + x2 * 1117 + p * 29 + x3 * 53).toNat, by omega⟩
      rw [hX]
      have hXb : X < 1000000000 := by omega
      have q4 := tdiv_in (show (0 : Int) ≤ (X : Int) by omega) (show (1 : Int) ≤ 64 by omega)
      rw [wrap_id (x := Int.tdiv X 64) (by omega) (by omega)]
      obtain ⟨Y, hY⟩ : ∃ Y : Nat, Int.tdiv X 64 = Y := ⟨(Int.tdiv X 64).toNat, by omega⟩
      rw [hY, xor_i64 X Y (by omega) (by omega)]
      exact ⟨_, rfl, tmod_in (by omega) hn⟩
/-- The bytes that the reader takes. -/
theorem open_tells (l : List Int) (h : ∀ x ∈ l, 0 ≤ x ∧ x ≤ 255) : ∃ b, spec_l6Open.f l = some (b, 0) ∧ b.length ≤ 2000 ∧ ∀ x ∈ b, 0 ≤ x ∧ x ≤ 255 := by
  unfold spec_l6Open.f
  by_cases hl : (l.length : Int) > 2000
  · rw [if_pos hl, if_pos (by omega)]
    exact ⟨_, rfl, by rw [List.length_take]; omega, fun x hx => h x (List.mem_of_mem_take hx)⟩
  · rw [if_neg hl]
    exact ⟨_, rfl, by omega, h⟩
/-! ### spec.l1Sort: the same numbers -/
theorem sort_l1 (a out : List Int) (i : Int) (hl : out.length ≤ 1000) : ∀ (j k : Nat), j ≤ out.length → j + 1 ≤ k → ∃ j' : Nat, spec_l1Sort.l1 k a out i (j : Int) = some (j' : Int) ∧ j' ≤ j := by
  intro j
  induction j with
  | zero =>
    intro k h1 h2
    obtain ⟨m, rfl⟩ : ∃ m, k = m + 1 := ⟨k - 1, by omega⟩
    rw [spec_l1Sort.l1, if_neg (by omega)]
    exact ⟨0, rfl, Nat.le_refl _⟩
  | succ j ih =>
    intro k h1 h2
    obtain ⟨m, rfl⟩ : ∃ m, k = m + 1 := ⟨k - 1, by omega⟩
    rw [spec_l1Sort.l1, if_pos (by omega), show wrap64 (((j + 1 : Nat) : Int) - 1) = (j : Int) by unfold wrap64; omega, if_pos (by omega), if_pos (by omega)]
    split
    · obtain ⟨j', h3, h4⟩ := ih m (by omega) (by omega)
      exact ⟨j', h3, by omega⟩
    · exact ⟨j + 1, rfl, Nat.le_refl _⟩
theorem take_grow (a : List Int) (i : Nat) (h : i < a.length) : a.take (i + 1) = a.take i ++ [rd a (i : Int)] := by
  rw [List.take_succ_eq_append_getElem h]
  congr 2
  unfold rd
  rw [List.getD_eq_getElem?_getD, Int.toNat_natCast, List.getElem?_eq_getElem h]
  rfl
theorem sort_l0 (a : List Int) (hl : a.length ≤ 900) : ∀ (d k i : Nat) (out : List Int), i + d = a.length → out.length = i → a.length + d + 2 ≤ k → out.Perm (a.take i) → ∃ r, spec_l1Sort.l0 k a out (i : Int) = some r ∧ r.Perm a := by
  intro d
  induction d with
  | zero =>
    intro k i out h1 h2 h3 h4
    obtain ⟨m, rfl⟩ : ∃ m, k = m + 1 := ⟨k - 1, by omega⟩
    rw [spec_l1Sort.l0, if_neg (by omega)]
    exact ⟨out, rfl, by rw [List.take_of_length_le (by omega)] at h4; exact h4⟩
  | succ d ih =>
    intro k i out h1 h2 h3 h4
    obtain ⟨m, rfl⟩ : ∃ m, k = m + 1 := ⟨k - 1, by omega⟩
    rw [spec_l1Sort.l0, if_pos (by omega), if_pos (by omega)]
    obtain ⟨j, h5, h6⟩ := sort_l1 a out i (by omega) out.length m (Nat.le_refl _) (by omega)
    rw [h5]
    simp only [Option.bind_some]
    rw [if_pos (by omega), if_pos (by omega), if_pos (by omega), show wrap64 ((i : Int) + 1) = ((i + 1 : Nat) : Int) by unfold wrap64; omega]
    refine ih m (i + 1) _ (by omega) ?_ (by omega) ?_
    · rw [Int.toNat_natCast]
      simp only [List.length_append, List.length_take, List.length_drop, List.length_nil, List.length_cons]
      omega
    · rw [Int.toNat_natCast, List.nil_append, take_grow a i (by omega)]
      refine List.Perm.trans (List.perm_append_right_iff _ |>.mpr List.perm_append_comm) ?_
      rw [List.append_assoc, List.take_append_drop]
      exact List.perm_append_comm.trans (h4.append_right _)
theorem sort_tells (a : List Int) (hl : a.length ≤ 900) (k : Nat) (hk : 2 * a.length + 2 ≤ k) : ∃ r, spec_l1Sort.f k a = some r ∧ r.Perm a := by
  unfold spec_l1Sort.f
  exact sort_l0 a hl a.length k 0 [] (by omega) rfl (by omega) (by simp)
/-! ### a bundle that is drawn -/
theorem length_draw (b : List Int) (hb : ∀ x ∈ b, 0 ≤ x ∧ x ≤ 255) (hl : b.length ≤ 2000) (p : Int) (hp : 0 ≤ p) (hp2 : p ≤ 900000) (k : Nat) (hk : 1 ≤ k) :
    ∃ r q, spec_l91Length.f k b p = some (r, q) ∧ p ≤ q ∧ q ≤ p + 3 := by
  unfold spec_l91Length.f
  obtain ⟨r1, h1, _⟩ := pick_tells b hb hl p 12 hp (by omega) (by omega) (by omega) k hk
  obtain ⟨r2, h2, _⟩ := pick_tells b hb hl (p + 1) 6 (by omega) (by omega) (by omega) (by omega) k hk
  obtain ⟨r3, h3, _⟩ := pick_tells b hb hl (p + 1 + 1) 48 (by omega) (by omega) (by omega) (by omega) k hk
  rw [h1]
  simp only [Option.bind_some]
  rw [h2]
  simp only [Option.bind_some]
  rw [h3]
  simp only [Option.bind_some]
  exact ⟨_, _, rfl, by omega, by omega⟩
theorem sticks_draw_l (b : List Int) (hb : ∀ x ∈ b, 0 ≤ x ∧ x ≤ 255) (hl : b.length ≤ 2000) (n : Nat) (hn9 : n ≤ 9) : ∀ (d k i : Nat) (out : List Int) (p : Int), i + d = n → d + 30 ≤ k → out.length = i → 0 ≤ p → p ≤ 1000 + 3 * i →
    ∃ a q, spec_l91Sticks.l0 k (n : Int) out (i : Int) b p = some (a, q) ∧ a.length ≤ n + 1 ∧ 0 ≤ q ∧ q ≤ 1003 + 3 * n := by
  intro d
  induction d with
  | zero =>
    intro k i out p hi hk ho hp hp2
    obtain ⟨m, rfl⟩ : ∃ m, k = m + 1 := ⟨k - 1, by omega⟩
    rw [spec_l91Sticks.l0, if_neg (by omega)]
    obtain ⟨r, g1, g2⟩ := sort_tells out (by omega) m (by omega)
    have g3 := g2.length_eq
    rw [g1]
    simp only [Option.bind_some]
    obtain ⟨r1, h1, _⟩ := pick_tells b hb hl p 40 hp (by omega) (by omega) (by omega) m (by omega)
    rw [h1]
    simp only [Option.bind_some]
    split
    · rw [if_pos (by omega)]
      exact ⟨_, _, rfl, by rw [List.length_append]; simp; omega, by omega, by omega⟩
    · split
      · rw [if_pos (by simp; omega)]
        exact ⟨_, _, rfl, by rw [List.length_append]; simp; omega, by omega, by omega⟩
      · exact ⟨_, _, rfl, by omega, by omega, by omega⟩
  | succ d ih =>
    intro k i out p hi hk ho hp hp2
    obtain ⟨m, rfl⟩ : ∃ m, k = m + 1 := ⟨k - 1, by omega⟩
    rw [spec_l91Sticks.l0, if_pos (by omega)]
    obtain ⟨r, q, h1, h2, h3⟩ := length_draw b hb hl p hp (by omega) m (by omega)
    rw [h1]
    simp only [Option.bind_some]
    rw [if_pos (by omega), show wrap64 ((i : Int) + 1) = ((i + 1 : Nat) : Int) by unfold wrap64; omega]
    exact ih m (i + 1) _ q (by omega) (by omega) (by rw [List.length_append]; simp; omega) (by omega) (by omega)
theorem bundle_draw (b : List Int) (hb : ∀ x ∈ b, 0 ≤ x ∧ x ≤ 255) (hl : b.length ≤ 2000) (k : Nat) (hk : 60 ≤ k) :
    ∃ a q, spec_l91Bundle.f k b 0 = some (a, q) ∧ a.length ≤ 10 ∧ 0 ≤ q ∧ q ≤ 1100 := by
  unfold spec_l91Bundle.f
  obtain ⟨r, h, g1, g2⟩ := pick_tells b hb hl 0 9 (by omega) (by omega) (by omega) (by omega) k (by omega)
  rw [h]
  simp only [Option.bind_some]
  obtain ⟨n, hn⟩ : ∃ n : Nat, r = n := ⟨r.toNat, by omega⟩
  subst hn
  unfold spec_l91Sticks.f
  rw [show wrap64 (1 + (n : Int)) = ((n + 1 : Nat) : Int) by unfold wrap64; omega]
  obtain ⟨a, q, h1, h2, h3, h4⟩ := sticks_draw_l b hb hl (n + 1) (by omega) (n + 1) k 0 [] (0 + 1) (by omega) (by omega) rfl (by omega) (by omega)
  have h1 : spec_l91Sticks.l0 k ((n + 1 : Nat) : Int) [] 0 b (0 + 1) = some (a, q) := h1
  rw [h1]
  exact ⟨a, q, rfl, by omega, h3, by omega⟩
/-! ### a bundle to part, drawn -/
theorem bundle_draw_at (b : List Int) (hb : ∀ x ∈ b, 0 ≤ x ∧ x ≤ 255) (hl : b.length ≤ 2000) (p : Int) (hp : 0 ≤ p) (hp2 : p ≤ 900) (k : Nat) (hk : 60 ≤ k) :
    ∃ a q, spec_l91Bundle.f k b p = some (a, q) ∧ a.length ≤ 10 := by
  unfold spec_l91Bundle.f
  obtain ⟨r, h, g1, g2⟩ := pick_tells b hb hl p 9 (by omega) (by omega) (by omega) (by omega) k (by omega)
  rw [h]
  simp only [Option.bind_some]
  obtain ⟨n, hn⟩ : ∃ n : Nat, r = n := ⟨r.toNat, by omega⟩
  subst hn
  unfold spec_l91Sticks.f
  rw [show wrap64 (1 + (n : Int)) = ((n + 1 : Nat) : Int) by unfold wrap64; omega]
  obtain ⟨a, q, h1, h2, h3, h4⟩ := sticks_draw_l b hb hl (n + 1) (by omega) (n + 1) k 0 [] (p + 1) (by omega) (by omega) rfl (by omega) (by omega)
  have h1 : spec_l91Sticks.l0 k ((n + 1 : Nat) : Int) [] 0 b (p + 1) = some (a, q) := h1
  rw [h1]
  exact ⟨a, q, rfl, by omega⟩
theorem few_l (b : List Int) (hb : ∀ x ∈ b, 0 ≤ x ∧ x ≤ 255) (hl : b.length ≤ 2000) (n : Nat) (hn9 : n ≤ 9) : ∀ (d k i : Nat) (out : List Int) (p : Int), i + d = n → d + 30 ≤ k → out.length = i → 0 ≤ p → p ≤ 1000 + i →
    ∃ a q, spec_l92Few.l0 k out (n : Int) (i : Int) b p = some (a, q) ∧ a.length ≤ 10 := by
  intro d
  induction d with
  | zero =>
    intro k i out p hi hk ho hp hp2
    obtain ⟨m, rfl⟩ : ∃ m, k = m + 1 := ⟨k - 1, by omega⟩
    rw [spec_l92Few.l0, if_neg (by omega)]
    obtain ⟨r, g1, g2⟩ := sort_tells out (by omega) m (by omega)
    have g3 := g2.length_eq
    rw [g1]
    exact ⟨r, p, rfl, by omega⟩
  | succ d ih =>
    intro k i out p hi hk ho hp hp2
    obtain ⟨m, rfl⟩ : ∃ m, k = m + 1 := ⟨k - 1, by omega⟩
    rw [spec_l92Few.l0, if_pos (by omega)]
    obtain ⟨r, h1, h2, h3⟩ := pick_tells b hb hl p 6 hp (by omega) (by omega) (by omega) m (by omega)
    rw [h1]
    simp only [Option.bind_some]
    rw [if_pos (by omega), show wrap64 ((i : Int) + 1) = ((i + 1 : Nat) : Int) by unfold wrap64; omega]
    exact ih m (i + 1) _ (p + 1) (by omega) (by omega) (by rw [List.length_append]; simp; omega) (by omega) (by omega)
theorem few_j (b : List Int) (hb : ∀ x ∈ b, 0 ≤ x ∧ x ≤ 255) (hl : b.length ≤ 2000) (n : Int) (h0 : 0 ≤ n) (hn9 : n ≤ 9) (k : Nat) (hk : 60 ≤ k) (p : Int) (hp : 0 ≤ p) (hp2 : p ≤ 100) :
    ∃ a q, spec_l92Few.j0 k [] n b p = some (a, q) ∧ a.length ≤ 10 := by
  obtain ⟨m, rfl⟩ : ∃ m, k = m + 1 := ⟨k - 1, by omega⟩
  obtain ⟨n, rfl⟩ : ∃ j : Nat, n = j := ⟨n.toNat, by omega⟩
  rw [spec_l92Few.j0]
  exact few_l b hb hl n (by omega) n m 0 [] p (by omega) (by omega) rfl hp (by omega)
theorem few_tells (b : List Int) (hb : ∀ x ∈ b, 0 ≤ x ∧ x ≤ 255) (hl : b.length ≤ 2000) (k : Nat) (hk : 60 ≤ k) : ∃ a q, spec_l92Few.f k b 0 = some (a, q) ∧ a.length ≤ 10 := by
  unfold spec_l92Few.f
  obtain ⟨r0, h0, _⟩ := pick_tells b hb hl 0 3 (by omega) (by omega) (by omega) (by omega) k (by omega)
  rw [h0]
  simp only [Option.bind_some]
  split
  · obtain ⟨a, q, h1, h2⟩ := bundle_draw_at b hb hl (0 + 1) (by omega) (by omega) k hk
    rw [h1]
    exact ⟨a, q, rfl, h2⟩
  · obtain ⟨r1, h1, g1, g2⟩ := pick_tells b hb hl (0 + 1) 3 (by omega) (by omega) (by omega) (by omega) k (by omega)
    obtain ⟨r2, h2, _⟩ := pick_tells b hb hl (0 + 1 + 1) 4 (by omega) (by omega) (by omega) (by omega) k (by omega)
    rw [h1]
    simp only [Option.bind_some]
    rw [h2]
    simp only [Option.bind_some]
    split
    · obtain ⟨r3, h3, g3, g4⟩ := pick_tells b hb hl (0 + 1 + 1 + 1) 9 (by omega) (by omega) (by omega) (by omega) k (by omega)
      rw [h3]
      simp only [Option.bind_some]
      exact few_j b hb hl _ (by unfold wrap64; omega) (by unfold wrap64; omega) k hk _ (by omega) (by omega)
    · rw [show wrap64 (1 + r1) = 1 + r1 by unfold wrap64; omega, show wrap64 (3 * (1 + r1)) = 3 * (1 + r1) by unfold wrap64; omega]
      exact few_j b hb hl _ (by omega) (by omega) k hk _ (by omega) (by omega)
theorem parted_tells (l : List Int) (hb : ∀ x ∈ l, 0 ≤ x ∧ x ≤ 255) (k : Nat) (hk : 60 ≤ k) : ∃ a, spec_l92Parted.f k l = some a ∧ a.length ≤ 10 := by
  unfold spec_l92Parted.f
  obtain ⟨b, h1, h2, h3⟩ := open_tells l hb
  rw [h1]
  simp only [Option.bind_some]
  obtain ⟨a, q, h4, h5⟩ := few_tells b h3 h2 k hk
  rw [h4]
  exact ⟨a, rfl, h5⟩
theorem parted_same (l : List Int) (hb : ∀ x ∈ l, 0 ≤ x ∧ x ≤ 255) : ∃ a, (∀ k, 60 ≤ k → spec_l92Parted.f k l = some a) ∧ a.length ≤ 10 := by
  obtain ⟨a, h1, h2⟩ := parted_tells l hb 60 (Nat.le_refl _)
  exact ⟨a, fun k hk => at_rounds (fun k => spec_l92Parted.mono l k) hk h1, h2⟩
theorem ways_spec (l : List Int) (hl : l.length ≤ 1048576) (k : Nat) (hk : l.length + 3000 ≤ k) : spec_PartWays.f k l = some (waysOf l) := by
  unfold spec_PartWays.f waysOf
  rw [spec_bundle l hl k (by omega)]
  simp only [Option.bind_some, decide_eq_true_eq]
  by_cases hb : isBundle l
  · rw [if_pos hb, search_all l hb.1 0 k (by omega), if_pos hb]
    rfl
  · rw [if_neg hb, if_neg hb]
theorem FnPartWays : laws_FnPartWays.Pure := by
  intro l h1 h2 h3
  by_cases hl : (l.length : Int) > 1048576
  · exact ⟨0, by unfold laws_FnPartWays.f; rw [if_pos hl]⟩
  · have hl2 : l.length ≤ 1048576 := by omega
    obtain ⟨a, p1, p2⟩ : ∃ a : List Int, (∀ k, 60 ≤ k → spec_l92Parted.f k l = some a) ∧ a.length ≤ 10 := parted_same l (wf_u8 h3)
    obtain ⟨K1, g1⟩ := ways_impl a (by omega)
    obtain ⟨K2, g2⟩ := may_impl a (by omega)
    refine ⟨K1 + K2 + l.length + 4000, ?_⟩
    unfold laws_FnPartWays.f spec_DrawPartWays.f
    rw [if_neg hl, p1 _ (by omega)]
    simp only [Option.bind_some]
    rw [g1 _ (by omega)]
    simp only [Option.bind_some]
    rw [ways_spec a (by omega) _ (by omega)]
    simp only [Option.bind_some]
    rw [if_neg (by simp), if_pos trivial]
    by_cases hb : isBundle a
    · have e : waysOf a = ((waysN a 0 : Int), true) := by unfold waysOf; rw [if_pos hb]
      have hs := ways_small a hb.1.2.2 0
      rw [e, if_pos rfl, g2 _ (by omega)]
      simp only [Option.bind_some]
      have hm : mayOf a = decide (0 < waysN a 0) := by unfold mayOf; simp [hb]
      have hz : (((waysN a 0 : Int) == 0) == !decide (0 < waysN a 0)) = true := by
        by_cases hw : 0 < waysN a 0
        · rw [decide_eq_true hw, show ((waysN a 0 : Int) == 0) = false by rw [beq_eq_false_iff_ne]; omega]
          rfl
        · rw [decide_eq_false hw, show ((waysN a 0 : Int) == 0) = true by rw [beq_iff_eq]; omega]
          rfl
      rw [hm, if_pos hz, if_pos (by omega), decide_eq_true (by omega)]
    · have e : waysOf a = (0, false) := by unfold waysOf; rw [if_neg hb]
      rw [e, if_neg (by decide)]
      rfl

end Go.Proofs.Ythdbcgclomfciaa.Pure
