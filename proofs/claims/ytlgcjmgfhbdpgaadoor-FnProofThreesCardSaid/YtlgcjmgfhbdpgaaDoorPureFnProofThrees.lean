/- The law FnProofThrees, as a statement over plain numbers and lists, is proved: what the program's functions compute is what the reference's compute. -/
import Derived.Test.YtlgcjmgfhbdpgaaDoorPFnProofThreesx9
import Derived.Laws.Entries
import Derived.Lib.AtoiAll
import Derived.Lib.SplitLaws
namespace Go.Proofs.YtlgcjmgfhbdpgaaDoor.Pure
open Go.RowKit Go.Proofs.YtlgcjmgfhbdpgaaDoor.PFnProofThrees Go.Proofs.YtlgcjmgfhbdpgaaDoorW.PrintWords Go.Proofs.YtlgcjmgfhbdpgaaDoorW.PrintLast
set_option linter.unusedVariables false
set_option linter.unusedSimpArgs false
/-! ### lists of whole numbers -/
theorem wrap_nat {n : Nat} (h : n < 4611686018427387904) : wrap64 ((n : Int) + 1) = ((n + 1 : Nat) : Int) := by unfold wrap64; omega
theorem rd_at {l : List Int} {i : Nat} (h : i < l.length) : rd l (i : Int) = l[i] := by
  unfold rd
  rw [Int.toNat_natCast, List.getD_eq_getElem?_getD, List.getElem?_eq_getElem h]
  rfl
theorem and_one (a : Nat) (ha : a < 4611686018427387904) : Go.bits .and .i64 (a : Int) 1 = ((a % 2 : Nat) : Int) := by
  have h1 : (BitVec.ofInt 64 (a : Int)).toNat = a := by
    rw [BitVec.ofInt_natCast, BitVec.toNat_ofNat]; exact Nat.mod_eq_of_lt (by omega)
  have h2 : (BitVec.ofInt 64 (1 : Int)).toNat = 1 := by decide
  show IntKind.i64.wrap ((BitVec.ofInt 64 (a : Int) &&& BitVec.ofInt 64 (1 : Int)).toNat : Int) = _
  rw [BitVec.toNat_and, h1, h2, Nat.and_one_is_mod]
  have : a % 2 < 2 := Nat.mod_lt _ (by omega)
  generalize a % 2 = c at this
  simp [IntKind.wrap, IntKind.bits, IntKind.signed]
  omega
theorem ite_same {α : Type} {p q : Prop} [Decidable p] [Decidable q] (h : p ↔ q) {a b : α} : (if p then a else b) = if q then a else b := by
  by_cases hq : q
  · rw [if_pos (h.mpr hq), if_pos hq]
  · rw [if_neg (fun x => hq (h.mp x)), if_neg hq]
/-! ### rulers -/
def isRuler (l : List Int) : Prop := (∀ x ∈ l, 1 ≤ x ∧ x ≤ 60) ∧ 1 ≤ l.length ∧ l.length ≤ 9
instance (l : List Int) : Decidable (isRuler l) := by unfold isRuler; infer_instance
theorem spec_in (a b c : Int) : spec_l6In.f a b c = some (decide (b ≤ a ∧ a ≤ c)) := by
  unfold spec_l6In.f
  by_cases h : a ≥ b
  · rw [if_pos h]
    congr 1
    exact decide_eq_decide.mpr ⟨fun x => ⟨h, x⟩, fun x => x.2⟩
  · rw [if_neg h, decide_eq_false (fun x => h x.1)]
theorem impl_ruler_l (l : List Int) (hl : l.length ≤ 1048576) : ∀ (d k i : Nat), i + d = l.length → d + 1 ≤ k →
    impl_isRuler.l0 k l l (l.length : Int) (i : Int) = some (decide ((∀ x ∈ l.drop i, 1 ≤ x ∧ x ≤ 60) ∧ 1 ≤ l.length ∧ l.length ≤ 9)) := by
  intro d
  induction d with
  | zero =>
    intro k i hi hk
    obtain ⟨m, rfl⟩ : ∃ m, k = m + 1 := ⟨k - 1, by omega⟩
    rw [impl_isRuler.l0, if_neg (by omega), List.drop_eq_nil_of_le (by omega)]
    simp only [List.not_mem_nil, false_implies, implies_true, true_and]
    split
    · congr 1
      exact decide_eq_decide.mpr ⟨fun x => by omega, fun x => by omega⟩
    · rw [decide_eq_false (by omega)]
  | succ d ih =>
    intro k i hi hk
    obtain ⟨m, rfl⟩ : ∃ m, k = m + 1 := ⟨k - 1, by omega⟩
    have hil : i < l.length := by omega
    rw [impl_isRuler.l0, if_pos (by omega), if_pos (by omega), if_pos (by omega), rd_at hil, wrap_nat (by omega), ih m (i + 1) (by omega) (by omega), List.drop_eq_getElem_cons hil]
    simp only [List.mem_cons, forall_eq_or_imp]
    split
    · next h => rw [decide_eq_false (fun x => by omega)]
    · next h =>
      split
      · next h => rw [decide_eq_false (fun x => by omega)]
      · next h1 => congr 1; exact decide_eq_decide.mpr ⟨fun x => ⟨⟨⟨by omega, by omega⟩, x.1⟩, x.2⟩, fun x => ⟨x.1.2, x.2⟩⟩
theorem impl_ruler (l : List Int) (hl : l.length ≤ 1048576) (k : Nat) (hk : l.length + 1 ≤ k) : impl_isRuler.f k l = some (decide (isRuler l)) :=
  impl_ruler_l l hl l.length k 0 (by omega) (by omega)
/-! ### bundles -/
def asc (l : List Int) : Prop := ∀ j : Nat, j < l.length → 0 < j → rd l ((j - 1 : Nat) : Int) ≤ rd l (j : Int)
instance (l : List Int) : Decidable (asc l) := by unfold asc; infer_instance
def isBundle (l : List Int) : Prop := isRuler l ∧ asc l
instance (l : List Int) : Decidable (isBundle l) := by unfold isBundle; infer_instance
theorem all_rd (l : List Int) (p : Int → Prop) : (∀ x ∈ l, p x) ↔ ∀ j : Nat, j < l.length → p (rd l (j : Int)) := by
  constructor
  · intro h j hj
    rw [rd_at hj]
    exact h _ (List.getElem_mem hj)
  · intro h x hx
    obtain ⟨j, hj, rfl⟩ := List.mem_iff_getElem.mp hx
    rw [← rd_at hj]
    exact h j hj
theorem wrap_pred {n : Nat} (h0 : 0 < n) (h : n < 4611686018427387904) : wrap64 ((n : Int) - 1) = ((n - 1 : Nat) : Int) := by unfold wrap64; omega
def l1Rest (l : List Int) (i : Nat) : Prop := (∀ j : Nat, j < l.length → i ≤ j → (1 ≤ rd l (j : Int) ∧ rd l (j : Int) ≤ 60) ∧ (0 < j → rd l ((j - 1 : Nat) : Int) ≤ rd l (j : Int))) ∧ 1 ≤ l.length ∧ l.length ≤ 9
instance (l : List Int) (i : Nat) : Decidable (l1Rest l i) := by unfold l1Rest; infer_instance
theorem l1Rest_step {l : List Int} {i : Nat} (h : i < l.length) : l1Rest l i ↔ ((1 ≤ rd l (i : Int) ∧ rd l (i : Int) ≤ 60) ∧ (0 < i → rd l ((i - 1 : Nat) : Int) ≤ rd l (i : Int))) ∧ l1Rest l (i + 1) := by
  unfold l1Rest
  constructor
  · rintro ⟨h1, h2⟩
    exact ⟨h1 i h (Nat.le_refl _), fun j hj hij => h1 j hj (by omega), h2⟩
  · rintro ⟨h1, h2, h3⟩
    refine ⟨fun j hj hij => ?_, h3⟩
    rcases Nat.lt_or_ge i j with h' | h'
    · exact h2 j hj h'
    · obtain rfl : i = j := by omega
      exact h1
theorem spec_bundle_l (l : List Int) (hl : l.length ≤ 1048576) : ∀ (d k i : Nat), i + d = l.length → d + 1 ≤ k → spec_l1Bundle.l0 k l (i : Int) = some (decide (l1Rest l i)) := by
  intro d
  induction d with
  | zero =>
    intro k i hi hk
    obtain ⟨m, rfl⟩ : ∃ m, k = m + 1 := ⟨k - 1, by omega⟩
    rw [spec_l1Bundle.l0, if_neg (by omega), spec_in]
    simp only [Option.bind_some]
    congr 1
    exact decide_eq_decide.mpr ⟨fun x => ⟨fun j hj hij => by omega, by omega⟩, fun x => by have := x.2; omega⟩
  | succ d ih =>
    intro k i hi hk
    obtain ⟨m, rfl⟩ : ∃ m, k = m + 1 := ⟨k - 1, by omega⟩
    have hil : i < l.length := by omega
    have st := l1Rest_step hil
    have ih := ih m (i + 1) (by omega) (by omega)
    rw [spec_l1Bundle.l0, if_pos (by omega), if_pos (by omega), spec_in, wrap_nat (by omega), ih]
    simp only [Option.bind_some, decide_eq_true_eq]
    by_cases h1 : 1 ≤ rd l (i : Int) ∧ rd l (i : Int) ≤ 60
    · rw [if_pos h1]
      by_cases h2 : 0 < i
      · rw [if_pos (by omega), wrap_pred h2 (by omega), if_pos (by omega), if_pos (by omega)]
        by_cases h3 : rd l (i : Int) < rd l ((i - 1 : Nat) : Int)
        · rw [if_pos h3, decide_eq_false (fun x => by have := (st.mp x).1.2 h2; omega)]
        · rw [if_neg h3]
          congr 1
          exact decide_eq_decide.mpr ⟨fun x => st.mpr ⟨⟨h1, fun _ => by omega⟩, x⟩, fun x => (st.mp x).2⟩
      · rw [if_neg (by omega)]
        congr 1
        exact decide_eq_decide.mpr ⟨fun x => st.mpr ⟨⟨h1, fun h => absurd h h2⟩, x⟩, fun x => (st.mp x).2⟩
    · rw [if_neg h1, decide_eq_false (fun x => h1 (st.mp x).1.1)]
theorem spec_bundle (l : List Int) (hl : l.length ≤ 1048576) (k : Nat) (hk : l.length + 1 ≤ k) : spec_l1Bundle.f k l = some (decide (isBundle l)) := by
  unfold spec_l1Bundle.f
  have := spec_bundle_l l hl l.length k 0 (by omega) hk
  rw [show ((0 : Nat) : Int) = 0 from rfl] at this
  rw [this]
  congr 1
  refine decide_eq_decide.mpr ?_
  unfold isBundle isRuler asc l1Rest
  rw [all_rd l (fun x => 1 ≤ x ∧ x ≤ 60)]
  exact ⟨fun x => ⟨⟨fun j hj => (x.1 j hj (by omega)).1, x.2⟩, fun j hj h0 => (x.1 j hj (by omega)).2 h0⟩, fun x => ⟨fun j hj _ => ⟨x.1.1 j hj, x.2 j hj⟩, x.1.2⟩⟩
theorem less_tells (a b : Int) : cmp_Less_int.f a b = some (decide (a < b)) := by
  unfold cmp_Less_int.f cmp_isNaN_int.f
  simp
theorem sorted_l (l : List Int) (hl : l.length ≤ 1048576) : ∀ (i k : Nat), i + 1 ≤ k → i < l.length → slices_IsSorted_int_int.l0 k l (i : Int) = some (decide (∀ j : Nat, j < i + 1 → 0 < j → rd l ((j - 1 : Nat) : Int) ≤ rd l (j : Int))) := by
  intro i
  induction i with
  | zero =>
    intro k hk hi
    obtain ⟨m, rfl⟩ : ∃ m, k = m + 1 := ⟨k - 1, by omega⟩
    rw [slices_IsSorted_int_int.l0, if_neg (by omega), decide_eq_true (fun j hj h0 => by omega)]
  | succ i ih =>
    intro k hk hi
    obtain ⟨m, rfl⟩ : ∃ m, k = m + 1 := ⟨k - 1, by omega⟩
    rw [slices_IsSorted_int_int.l0, if_pos (by omega), if_pos (by omega), if_pos (by omega), wrap_pred (by omega) (by omega), if_pos (by omega), if_pos (by omega), less_tells, show i + 1 - 1 = i from rfl, ih m (by omega) (by omega)]
    simp only [Option.bind_some, decide_eq_true_eq]
    by_cases h : rd l ((i + 1 : Nat) : Int) < rd l (i : Int)
    · rw [if_pos h, decide_eq_false (fun x => by have := x (i + 1) (by omega) (by omega); rw [show i + 1 - 1 = i from rfl] at this; omega)]
    · rw [if_neg h]
      congr 1
      refine decide_eq_decide.mpr ⟨fun x j hj h0 => ?_, fun x j hj h0 => x j (by omega) h0⟩
      rcases Nat.lt_or_ge j (i + 1) with h' | h'
      · exact x j h' h0
      · obtain rfl : j = i + 1 := by omega
        rw [show i + 1 - 1 = i from rfl]
        omega
theorem impl_bundle (l : List Int) (hl : l.length ≤ 1048576) (k : Nat) (hk : l.length + 1 ≤ k) : impl_StickIn.f k l = some (decide (isBundle l)) := by
  unfold impl_StickIn.f
  rw [impl_ruler l hl k hk]
  simp only [Option.bind_some, decide_eq_true_eq]
  by_cases h : isRuler l
  · have h1 := h.2.1
    rw [if_pos h]
    unfold slices_IsSorted_int_int.f
    rw [wrap_pred (by omega) (by omega), sorted_l l hl (l.length - 1) k (by omega) (by omega)]
    simp only [Option.bind_some]
    congr 1
    refine decide_eq_decide.mpr ?_
    rw [show l.length - 1 + 1 = l.length by omega]
    exact ⟨fun x => ⟨h, x⟩, fun x => x.2⟩
  · rw [if_neg h, decide_eq_false (fun x => h x.1)]
/-! ### part lists -/
def pf (l : List Int) (t : Int) : Nat → Nat → List Nat
  | 0, _ => []
  | d + 1, i => if rd l (i : Int) = t then i :: pf l t d (i + 1) else pf l t d (i + 1)
def places (l : List Int) (t : Int) : List Nat := pf l t l.length 0
theorem rd_app {l : List Int} {x : Int} {i : Nat} (h : i < l.length) : rd (l ++ [x]) (i : Int) = rd l (i : Int) := by
  rw [rd_at h, rd_at (by simp; omega), List.getElem_append_left h]
theorem rd_app_last (l : List Int) (x : Int) : rd (l ++ [x]) (l.length : Int) = x := by
  rw [rd_at (by simp)]
  simp
theorem pf_app (l : List Int) (x t : Int) : ∀ d i, i + d = l.length → pf (l ++ [x]) t (d + 1) i = pf l t d i ++ if x = t then [l.length] else []
  | 0, i, h => by
    have : i = l.length := by omega
    subst this
    simp only [pf]
    rw [rd_app_last]
    split <;> simp
  | d + 1, i, h => by
    rw [pf, rd_app (by omega), pf_app l x t d (i + 1) (by omega), pf]
    split <;> simp
theorem places_app (l : List Int) (x t : Int) : places (l ++ [x]) t = places l t ++ if x = t then [l.length] else [] := by
  have := pf_app l x t l.length 0 (by omega)
  unfold places
  rw [List.length_append]
  exact this
theorem pf_lt (l : List Int) (t : Int) : ∀ d i, i + d = l.length → ∀ j ∈ pf l t d i, j < l.length
  | 0, i, h, j, hj => by simp [pf] at hj
  | d + 1, i, h, j, hj => by
    rw [pf] at hj
    split at hj
    · rcases List.mem_cons.mp hj with rfl | hj
      · omega
      · exact pf_lt l t d (i + 1) (by omega) j hj
    · exact pf_lt l t d (i + 1) (by omega) j hj
theorem places_lt {l : List Int} {t : Int} {j : Nat} (h : j ∈ places l t) : j < l.length := pf_lt l t l.length 0 (by omega) j h
theorem pf_len (l : List Int) (t : Int) : ∀ d i, (pf l t d i).length ≤ d
  | 0, i => by simp [pf]
  | d + 1, i => by
    have := pf_len l t d (i + 1)
    rw [pf]
    split <;> simp <;> omega
def tri (x y z : Int) : Bool := decide (x < y + z) && (decide (y < x + z) && decide (z < x + y))
def three : List Int → Bool
  | [x, y, z] => tri x y z
  | _ => false
def selOf (a l : List Int) (t : Int) : List Int := (places l t).map fun j : Nat => rd a (j : Int)
def fits (a l : List Int) (m : Nat) : Bool := (List.range m).all fun t => three (selOf a l (t : Int))
/-- All part lists that begin so, in order. -/
def gen (a : List Int) : Nat → List Int → Nat → List (List Int)
  | 0, l, m => if fits a l m = true then [l] else []
  | d + 1, l, m => (List.range' 0 (m + 2)).flatMap fun e : Nat => if (places l ((e : Int) - 1)).length = 3 ∧ 0 < e then [] else gen a d (l ++ [(e : Int) - 1]) (if e = m + 1 then m + 1 else m)
def genAll (a : List Int) : List (List Int) := gen a a.length [] 0
theorem fits_iff {a l : List Int} {m : Nat} : fits a l m = true ↔ ∀ t, t < m → three (selOf a l (t : Int)) = true := by
  simp [fits, List.all_eq_true]
theorem mem_gen_len (a : List Int) : ∀ (d : Nat) (l : List Int) (m : Nat) (x : List Int), x ∈ gen a d l m → x.length = l.length + d
  | 0, l, m, x, h => by
    rw [gen] at h
    split at h
    · simp at h; subst h; rfl
    · simp at h
  | d + 1, l, m, x, h => by
    rw [gen, List.mem_flatMap] at h
    obtain ⟨e, he, h⟩ := h
    split at h
    · simp at h
    · have := mem_gen_len a d _ _ x h
      simp at this
      omega
/-- The numbers of a part list. -/
theorem mem_gen_in (a : List Int) : ∀ (d : Nat) (l : List Int) (m : Nat) (x : List Int), x ∈ gen a d l m → (∀ y ∈ l, -1 ≤ y ∧ y < m) → ∃ m', m ≤ m' ∧ m' ≤ m + d ∧ (∀ y ∈ x, -1 ≤ y ∧ y < (m' : Nat)) ∧ fits a x m' = true
  | 0, l, m, x, h, hl => by
    rw [gen] at h
    split at h
    · next hf => simp at h; subst h; exact ⟨m, Nat.le_refl _, by omega, hl, hf⟩
    · simp at h
  | d + 1, l, m, x, h, hl => by
    rw [gen, List.mem_flatMap] at h
    obtain ⟨e, he, h⟩ := h
    simp only [List.mem_range'_1] at he
    split at h
    · simp at h
    · obtain ⟨m', h1, h2, h3⟩ := mem_gen_in a d _ _ x h (fun y hy => by
        rcases List.mem_append.mp hy with hy | hy
        · have := hl y hy
          split <;> omega
        · simp at hy
          subst hy
          split <;> omega)
      exact ⟨m', by split at h1 <;> omega, by split at h2 <;> omega, h3⟩
theorem gen_length (a : List Int) : ∀ (d : Nat) (l : List Int) (m : Nat), m + d ≤ 9 → (gen a d l m).length ≤ 11 ^ d
  | 0, l, m, h => by
    rw [gen]
    split <;> simp
  | d + 1, l, m, h => by
    have key : ∀ (c e : Nat), ((List.range' e c).flatMap fun e : Nat => if (places l ((e : Int) - 1)).length = 3 ∧ 0 < e then [] else gen a d (l ++ [(e : Int) - 1]) (if e = m + 1 then m + 1 else m)).length ≤ c * 11 ^ d := by
      intro c
      induction c with
      | zero => intro e; simp
      | succ c ih =>
        intro e
        rw [List.range'_succ, List.flatMap_cons, List.length_append, Nat.add_mul, Nat.one_mul, Nat.add_comm]
        have h1 := ih (e + 1)
        have h2 : (if (places l ((e : Int) - 1)).length = 3 ∧ 0 < e then [] else gen a d (l ++ [(e : Int) - 1]) (if e = m + 1 then m + 1 else m)).length ≤ 11 ^ d := by
          split
          · simp
          · exact gen_length a d _ _ (by split <;> omega)
        omega
    have := key (m + 2) 0
    rw [gen]
    refine Nat.le_trans this ?_
    rw [Nat.pow_succ, Nat.mul_comm]
    exact Nat.mul_le_mul_left _ (by omega)
theorem pow11 {d : Nat} (h : d ≤ 9) : 11 ^ d ≤ 2357947691 := Nat.le_trans (Nat.pow_le_pow_right (by omega) h) (by decide)
theorem count_l (l : List Int) (t : Int) (hl : l.length ≤ 1000) : ∀ (d k i : Nat) (c : Nat), i + d = l.length → d + 1 ≤ k → c ≤ i →
    impl_countOf.l0 k t (c : Int) l (l.length : Int) (i : Int) = some ((c + (pf l t d i).length : Nat) : Int) := by
  intro d
  induction d with
  | zero =>
    intro k i c hi hk hc
    obtain ⟨m, rfl⟩ : ∃ m, k = m + 1 := ⟨k - 1, by omega⟩
    rw [impl_countOf.l0, if_neg (by omega)]
    simp [pf]
  | succ d ih =>
    intro k i c hi hk hc
    obtain ⟨m, rfl⟩ : ∃ m, k = m + 1 := ⟨k - 1, by omega⟩
    rw [impl_countOf.l0, if_pos (by omega), if_pos (by omega), if_pos (by omega), wrap_nat (n := i) (by omega), pf]
    split
    · rw [wrap_nat (by omega), ih m (i + 1) (c + 1) (by omega) (by omega) (by omega)]
      simp only [List.length_cons]
      congr 2
      omega
    · rw [ih m (i + 1) c (by omega) (by omega) (by omega)]
theorem count_tells (l : List Int) (t : Int) (hl : l.length ≤ 1000) (k : Nat) (hk : l.length + 1 ≤ k) : impl_countOf.f k l t = some ((places l t).length : Int) := by
  have := count_l l t hl l.length k 0 0 (by omega) hk (by omega)
  unfold impl_countOf.f places
  simpa using this
theorem stick_three (x y z : Int) (hx : 1 ≤ x ∧ x ≤ 60) (hy : 1 ≤ y ∧ y ≤ 60) (hz : 1 ≤ z ∧ z ≤ 60) (k : Nat) (hk : 4 ≤ k) : impl_StickThree.f k x y z = some (tri x y z) := by
  unfold impl_StickThree.f tri
  rw [impl_ruler [x, y, z] (by simp) k (by simpa using hk), decide_eq_true (show isRuler [x, y, z] from ⟨by intro w hw; simp at hw; rcases hw with rfl | rfl | rfl <;> assumption, by simp, by simp⟩)]
  simp only [Option.bind_some]
  rw [if_pos trivial, show wrap64 (y + z) = y + z by unfold wrap64; omega, show wrap64 (x + z) = x + z by unfold wrap64; omega, show wrap64 (x + y) = x + y by unfold wrap64; omega]
  by_cases h1 : x < y + z
  · rw [if_pos h1, decide_eq_true h1]
    by_cases h2 : y < x + z
    · rw [if_pos h2, decide_eq_true h2]
      rfl
    · rw [if_neg h2, decide_eq_false h2]
      rfl
  · rw [if_neg h1, decide_eq_false h1]
    rfl
theorem sel_in {a l : List Int} {t : Int} (ha : ∀ x ∈ a, 1 ≤ x ∧ x ≤ 60) (hl : l.length ≤ a.length) : ∀ x ∈ selOf a l t, 1 ≤ x ∧ x ≤ 60 := by
  intro x hx
  simp only [selOf, List.mem_map] at hx
  obtain ⟨j, hj, rfl⟩ := hx
  have := places_lt hj
  rw [rd_at (show j < a.length by omega)]
  exact ha _ (List.getElem_mem _)
theorem fit_l1 (a l : List Int) (t : Nat) (m : Int) (ha : ∀ x ∈ a, 1 ≤ x ∧ x ≤ 60) (hl : l.length = a.length) (h9 : a.length ≤ 9) : ∀ (d k i : Nat) (acc : List Int), i + d = l.length → d + 5 ≤ k → acc.length ≤ i → (∀ x ∈ acc, 1 ≤ x ∧ x ≤ 60) →
    ∃ k', k' + d + 1 = k ∧ impl_partsFit.l1 k a l (t : Int) acc m (t : Int) l (l.length : Int) (i : Int) = if three (acc ++ (pf l (t : Int) d i).map (fun j : Nat => rd a (j : Int))) = true then impl_partsFit.l0 k' a l m (wrap64 ((t : Int) + 1)) else some false := by
  intro d
  induction d with
  | zero =>
    intro k i acc hi hk hc hacc
    obtain ⟨k', rfl⟩ : ∃ m, k = m + 1 := ⟨k - 1, by omega⟩
    refine ⟨k', by omega, ?_⟩
    rw [impl_partsFit.l1, if_neg (by omega)]
    simp only [pf, List.map_nil, List.append_nil]
    by_cases h3 : (acc.length : Int) = 3
    · rw [if_pos h3, if_pos (by omega), if_pos (by omega), if_pos (by omega)]
      match acc, h3, hacc with
      | [x, y, z], _, hacc =>
        have e0 : rd [x, y, z] 0 = x := rfl
        have e1 : rd [x, y, z] 1 = y := rfl
        have e2 : rd [x, y, z] 2 = z := rfl
        rw [e0, e1, e2, stick_three x y z (hacc x (by simp)) (hacc y (by simp)) (hacc z (by simp)) k' (by omega)]
        rfl
    · rw [if_neg h3, if_neg]
      match acc, h3 with
      | [], _ => simp [three]
      | [x], _ => simp [three]
      | [x, y], _ => simp [three]
      | [x, y, z], h3 => simp at h3
      | x :: y :: z :: w :: r, _ => simp [three]
  | succ d ih =>
    intro k i acc hi hk hc hacc
    obtain ⟨q, rfl⟩ : ∃ m, k = m + 1 := ⟨k - 1, by omega⟩
    rw [impl_partsFit.l1, if_pos (by omega), if_pos (by omega), if_pos (by omega), wrap_nat (n := i) (by omega), pf]
    have hia : i < a.length := by omega
    split
    · rw [if_pos (by omega), if_pos (by omega)]
      obtain ⟨k', h1, h2⟩ := ih q (i + 1) (acc ++ [rd a (i : Int)]) (by omega) (by omega) (by simp; omega) (fun x hx => by
        rcases List.mem_append.mp hx with hx | hx
        · exact hacc x hx
        · simp at hx
          subst hx
          rw [rd_at hia]
          exact ha _ (List.getElem_mem hia))
      refine ⟨k', by omega, ?_⟩
      rw [h2]
      simp
    · obtain ⟨k', h1, h2⟩ := ih q (i + 1) acc (by omega) (by omega) (by omega) hacc
      exact ⟨k', by omega, h2⟩
theorem fit_arith {d q k' n : Nat} (hk : 20 * (d + 1) + 20 ≤ q + 1) (h1 : k' + n + 1 = q) (h9 : n ≤ 9) : 20 * d + 20 ≤ k' := by omega
theorem fit_l0 (a l : List Int) (m : Nat) (ha : ∀ x ∈ a, 1 ≤ x ∧ x ≤ 60) (hl : l.length = a.length) (h9 : a.length ≤ 9) (hm : m ≤ 9) : ∀ (d k t : Nat), t + d = m → 20 * d + 20 ≤ k →
    impl_partsFit.l0 k a l (m : Int) (t : Int) = some ((List.range' t d).all fun t => three (selOf a l (t : Int))) := by
  intro d
  induction d with
  | zero =>
    intro k t ht hk
    obtain ⟨q, rfl⟩ : ∃ m, k = m + 1 := ⟨k - 1, by omega⟩
    rw [impl_partsFit.l0, if_neg (by omega)]
    rfl
  | succ d ih =>
    intro k t ht hk
    obtain ⟨q, rfl⟩ : ∃ m, k = m + 1 := ⟨k - 1, by omega⟩
    have b1 : l.length + 5 ≤ q := by omega
    have ht' : t + 1 + d = m := by omega
    have hw := wrap_nat (n := t) (by omega)
    have hlt : (t : Int) < (m : Int) := by omega
    obtain ⟨k', h1, h2⟩ := fit_l1 a l t (m : Int) ha hl h9 l.length q 0 [] (Nat.zero_add _) b1 (Nat.le_refl _) (fun _ h => by cases h)
    have hk' : 20 * d + 20 ≤ k' := fit_arith hk h1 (hl ▸ h9)
    rw [impl_partsFit.l0, if_pos hlt]
    rw [show ((0 : Nat) : Int) = 0 from rfl] at h2
    rw [h2, List.nil_append, List.range'_succ, List.all_cons]
    have e : (pf l (t : Int) l.length 0).map (fun j : Nat => rd a (j : Int)) = selOf a l (t : Int) := rfl
    rw [e]
    cases h : three (selOf a l (t : Int)) with
    | true =>
      rw [if_pos rfl, hw, ih k' (t + 1) ht' hk']
      simp
    | false => rw [if_neg (by decide)]; simp
theorem fit_tells (a l : List Int) (m : Nat) (ha : ∀ x ∈ a, 1 ≤ x ∧ x ≤ 60) (hl : l.length = a.length) (h9 : a.length ≤ 9) (hm : m ≤ 9) (k : Nat) (hk : 300 ≤ k) : impl_partsFit.f k a l (m : Int) = some (fits a l m) := by
  have := fit_l0 a l m ha hl h9 hm m k 0 (by omega) (by omega)
  unfold impl_partsFit.f fits
  rw [show ((0 : Nat) : Int) = 0 from rfl] at this
  rw [this, List.range_eq_range']
def branch (a : List Int) (d : Nat) (l : List Int) (m e : Nat) : List (List Int) := if (places l ((e : Int) - 1)).length = 3 ∧ 0 < e then [] else gen a d (l ++ [(e : Int) - 1]) (if e = m + 1 then m + 1 else m)
theorem parts_run {S : Type} (a : List Int) (ha : ∀ x ∈ a, 1 ≤ x ∧ x ≤ 60) (h9 : a.length ≤ 9) (stp : S → List Int → S) : ∀ (d : Nat) (l : List Int) (m : Nat), l.length + d = a.length → m ≤ l.length →
    ∃ K, ∀ k, K ≤ k → ∀ (step : S → List Int → Option S) (s : S), (∀ s xs, xs ∈ gen a d l m → step s xs = some (stp s xs)) → impl_parts.t step k 0 a l (m : Int) 0 s = some ((gen a d l m).foldl stp s)
  | 0, l, m, hd, hm => by
    refine ⟨301, fun k hk step s hs => ?_⟩
    obtain ⟨q, rfl⟩ : ∃ m, k = m + 1 := ⟨k - 1, by omega⟩
    rw [impl_parts.t0, if_pos (by omega), fit_tells a l m ha (by omega) h9 (by omega) q (by omega)]
    simp only [Option.bind_some]
    rw [gen] at hs ⊢
    cases h : fits a l m with
    | true =>
      rw [h, if_pos rfl] at hs
      rw [if_pos rfl, if_pos rfl, hs s l (by simp)]
      rfl
    | false => rw [if_neg (by decide), if_neg (by decide)]; rfl
  | d + 1, l, m, hd, hm => by
    have loop : ∀ (c e : Nat), e + c = m + 2 → ∃ K, ∀ k, K ≤ k → ∀ (step : S → List Int → Option S) (s : S), (∀ s xs, xs ∈ (List.range' e c).flatMap (branch a d l m) → step s xs = some (stp s xs)) →
        impl_parts.t step k 1 a l (m : Int) ((e : Int) - 1) s = some (((List.range' e c).flatMap (branch a d l m)).foldl stp s) := by
      intro c
      induction c with
      | zero =>
        intro e he
        refine ⟨1, fun k hk step s hs => ?_⟩
        obtain ⟨q, rfl⟩ : ∃ m, k = m + 1 := ⟨k - 1, by omega⟩
        rw [impl_parts.t1, if_neg (by omega)]
        rfl
      | succ c ih =>
        intro e he
        obtain ⟨K1, h1⟩ := ih (e + 1) (by omega)
        obtain ⟨K2, h2⟩ := parts_run a ha h9 stp d (l ++ [(e : Int) - 1]) (if e = m + 1 then m + 1 else m) (by simp; omega) (by simp; split <;> omega)
        refine ⟨K1 + K2 + 1100, fun k hk step s hs => ?_⟩
        obtain ⟨q, rfl⟩ : ∃ m, k = m + 2 := ⟨k - 2, by omega⟩
        rw [List.range'_succ, List.flatMap_cons] at hs ⊢
        rw [List.foldl_append]
        have hw : wrap64 ((e : Int) - 1 + 1) = ((e + 1 : Nat) : Int) - 1 := by unfold wrap64; omega
        have g1 := fun q hq s => h1 q hq step s (fun s xs hx => hs s xs (List.mem_append_right _ hx))
        have body : ¬ ((places l ((e : Int) - 1)).length = 3 ∧ 0 < e) → impl_parts.t step (q + 1) 2 a l (m : Int) ((e : Int) - 1) s = some (((List.range' (e + 1) c).flatMap (branch a d l m)).foldl stp ((branch a d l m e).foldl stp s)) := by
          intro hb
          have e2 : branch a d l m e = gen a d (l ++ [(e : Int) - 1]) (if e = m + 1 then m + 1 else m) := by unfold branch; rw [if_neg hb]
          have g2 := h2 q (by omega) step s (fun s xs hx => hs s xs (List.mem_append_left _ (by rw [e2]; exact hx)))
          rw [impl_parts.t2 step q 0, if_pos (by omega), hw]
          by_cases hem : e = m + 1
          · rw [if_pos (by omega), show wrap64 ((m : Int) + 1) = ((m + 1 : Nat) : Int) by unfold wrap64; omega]
            rw [if_pos hem] at g2
            rw [g2]
            simp only [Option.bind_some]
            rw [g1 q (by omega), e2, if_pos hem]
          · rw [if_neg (by omega)]
            rw [if_neg hem] at g2
            rw [g2]
            simp only [Option.bind_some]
            rw [g1 q (by omega), e2, if_neg hem]
        rw [impl_parts.t1 step (q + 1), if_pos (by omega)]
        by_cases h0 : 0 < e
        · rw [if_pos (by omega), count_tells l _ (by omega) (q + 1) (by omega)]
          simp only [Option.bind_some]
          by_cases hc : (places l ((e : Int) - 1)).length = 3
          · rw [if_pos (by omega), hw, g1 (q + 1) (by omega)]
            have e2 : branch a d l m e = [] := by unfold branch; rw [if_pos ⟨hc, h0⟩]
            rw [e2]
            rfl
          · rw [if_neg (by omega)]
            exact body (fun x => hc x.1)
        · rw [if_neg (by omega)]
          exact body (fun x => h0 x.2)
    obtain ⟨K, h⟩ := loop (m + 2) 0 (by omega)
    refine ⟨K + 1, fun k hk step s hs => ?_⟩
    obtain ⟨q, rfl⟩ : ∃ m, k = m + 1 := ⟨k - 1, by omega⟩
    rw [impl_parts.t0, if_neg (by omega)]
    have := h q (by omega) step s hs
    rw [show ((0 : Nat) : Int) - 1 = -1 from rfl] at this
    exact this
theorem parts_tells {S : Type} (a : List Int) (hr : isRuler a) (stp : S → List Int → S) : ∃ K, ∀ k, K ≤ k → ∀ (step : S → List Int → Option S) (s : S), (∀ s xs, xs ∈ genAll a → step s xs = some (stp s xs)) → impl_parts.f step k a s = some ((genAll a).foldl stp s) := by
  obtain ⟨K, h⟩ := parts_run a hr.1 hr.2.2 stp a.length [] 0 (by simp) (by simp)
  refine ⟨K, fun k hk step s hs => ?_⟩
  unfold impl_parts.f
  rw [if_pos (by have := hr.2.2; omega)]
  exact h k hk step s hs
theorem of_l (l : List Int) (t : Int) (hl : l.length ≤ 1000) : ∀ (d k i : Nat) (acc : List Int), i + d = l.length → d + 1 ≤ k → acc.length ≤ i →
    spec_l9Of.l0 k l t acc (i : Int) = some (acc ++ (pf l t d i).map (fun j : Nat => (j : Int))) := by
  intro d
  induction d with
  | zero =>
    intro k i acc hi hk hc
    obtain ⟨m, rfl⟩ : ∃ m, k = m + 1 := ⟨k - 1, by omega⟩
    rw [spec_l9Of.l0, if_neg (by omega)]
    simp [pf]
  | succ d ih =>
    intro k i acc hi hk hc
    obtain ⟨m, rfl⟩ : ∃ m, k = m + 1 := ⟨k - 1, by omega⟩
    rw [spec_l9Of.l0, if_pos (by omega), if_pos (by omega), wrap_nat (n := i) (by omega), pf]
    split
    · rw [if_pos (by omega), ih m (i + 1) _ (by omega) (by omega) (by simp; omega)]
      simp
    · exact ih m (i + 1) acc (by omega) (by omega) (by omega)
theorem of_tells (l : List Int) (t : Int) (hl : l.length ≤ 1000) (k : Nat) (hk : l.length + 1 ≤ k) : spec_l9Of.f k l t = some ((places l t).map (fun j : Nat => (j : Int))) := by
  have := of_l l t hl l.length k 0 [] (by omega) hk (by simp)
  unfold spec_l9Of.f places
  simpa using this
theorem l1three_tells (x y z : Int) (hx : 1 ≤ x ∧ x ≤ 60) (hy : 1 ≤ y ∧ y ≤ 60) (hz : 1 ≤ z ∧ z ≤ 60) : spec_l1Three.f x y z = some (tri x y z) := by
  unfold spec_l1Three.f tri
  rw [show wrap64 (y + z) = y + z by unfold wrap64; omega, show wrap64 (x + z) = x + z by unfold wrap64; omega, show wrap64 (x + y) = x + y by unfold wrap64; omega]
  by_cases h1 : x < y + z
  · rw [if_pos h1, decide_eq_true h1]
    by_cases h2 : y < x + z
    · rw [if_pos h2, decide_eq_true h2]
      rfl
    · rw [if_neg h2, decide_eq_false h2]
      rfl
  · rw [if_neg h1, decide_eq_false h1]
    rfl
/-- No three that is full is wrong. -/
def Good (a l : List Int) (m : Nat) : Prop := ∀ t : Nat, t < m → (places l (t : Int)).length = 3 → three (selOf a l (t : Int)) = true
theorem selOf_app (a l : List Int) (x t : Int) : selOf a (l ++ [x]) t = selOf a l t ++ if x = t then [rd a (l.length : Int)] else [] := by
  unfold selOf
  rw [places_app, List.map_append]
  split <;> rfl
theorem selOf_len (a l : List Int) (t : Int) : (selOf a l t).length = (places l t).length := by simp [selOf]
theorem gen_bad (a : List Int) : ∀ (d : Nat) (l : List Int) (m t : Nat), t < m → (places l (t : Int)).length = 3 → three (selOf a l (t : Int)) = false → gen a d l m = []
  | 0, l, m, t, ht, h3, hb => by
    rw [gen, if_neg]
    intro h
    rw [fits_iff] at h
    rw [h t ht] at hb
    cases hb
  | d + 1, l, m, t, ht, h3, hb => by
    rw [gen, List.flatMap_eq_nil_iff]
    intro e he
    split
    · rfl
    · next hs =>
      have hne : ¬ ((e : Int) - 1 = (t : Int)) := by
        intro h
        refine hs ⟨by rw [h]; exact h3, by omega⟩
      refine gen_bad a d _ _ t (by split <;> omega) ?_ ?_
      · rw [places_app, if_neg hne, List.append_nil]
        exact h3
      · rw [selOf_app, if_neg hne, List.append_nil]
        exact hb
theorem sel_two (a l : List Int) (t : Int) (ha : ∀ x ∈ a, 1 ≤ x ∧ x ≤ 60) (hl : l.length < a.length) (_h9 : a.length ≤ 9) (h : (places l t).length = 2) :
    ∃ p0 p1 : Nat, places l t = [p0, p1] ∧ p0 < a.length ∧ p1 < a.length ∧ selOf a l t ++ [rd a (l.length : Int)] = [rd a p0, rd a p1, rd a (l.length : Int)] ∧ (1 ≤ rd a p0 ∧ rd a p0 ≤ 60) ∧ (1 ≤ rd a p1 ∧ rd a p1 ≤ 60) ∧ (1 ≤ rd a (l.length : Int) ∧ rd a (l.length : Int) ≤ 60) := by
  match hp : places l t, h with
  | [p0, p1], _ =>
    have h0 : p0 < l.length := places_lt (t := t) (by rw [hp]; simp)
    have h1 : p1 < l.length := places_lt (t := t) (by rw [hp]; simp)
    have key : ∀ j : Nat, j < a.length → 1 ≤ rd a (j : Int) ∧ rd a (j : Int) ≤ 60 := fun j hj => by
      rw [rd_at hj]
      exact ha _ (List.getElem_mem hj)
    refine ⟨p0, p1, rfl, by omega, by omega, ?_, key p0 (by omega), key p1 (by omega), key l.length (by omega)⟩
    unfold selOf
    rw [hp]
    rfl
theorem three_len {xs : List Int} (h : three xs = true) : xs.length = 3 := by
  match xs, h with
  | [x, y, z], _ => rfl
theorem l9end_l (a l : List Int) (m : Nat) (hl : l.length ≤ 9) (hm : m ≤ 9) (hg : Good a l m) : ∀ (d k t : Nat), t + d = m → d + 20 ≤ k →
    spec_l9Lists.l0 k l (m : Int) (t : Int) = some (if (List.range' t d).all (fun t => three (selOf a l (t : Int))) = true then [l] else []) := by
  intro d
  induction d with
  | zero =>
    intro k t ht hk
    obtain ⟨q, rfl⟩ : ∃ q, k = q + 1 := ⟨k - 1, by omega⟩
    rw [spec_l9Lists.l0, if_neg (by omega)]
    simp only [Option.bind_some, List.nil_append, List.length_nil]
    rw [if_pos (by omega)]
    rfl
  | succ d ih =>
    intro k t ht hk
    obtain ⟨q, rfl⟩ : ∃ q, k = q + 1 := ⟨k - 1, by omega⟩
    rw [spec_l9Lists.l0, if_pos (by omega), of_tells l t (by omega) q (by omega)]
    simp only [Option.bind_some, List.length_map]
    have hw := wrap_nat (n := t) (by omega)
    have ht' : t + 1 + d = m := by omega
    have hk' : d + 20 ≤ q := by omega
    by_cases h3 : (places l (t : Int)).length = 3
    · rw [if_pos (by omega), hw, ih q (t + 1) ht' hk', List.range'_succ, List.all_cons, hg t (by omega) h3, Bool.true_and]
    · have : three (selOf a l (t : Int)) = false := by
        cases h : three (selOf a l (t : Int)) with
        | true => exact absurd (by rw [← selOf_len a]; exact three_len h) h3
        | false => rfl
      rw [if_neg (by omega), List.range'_succ, List.all_cons, this]
      simp
theorem mx_next {t m : Nat} (h : t ≤ m) : mx (m : Int) ((t + 1 : Nat) : Int) = ((if t + 1 = m + 1 then m + 1 else m : Nat) : Int) := by
  unfold mx
  split <;> split <;> omega
theorem lists_run (a : List Int) (ha : ∀ x ∈ a, 1 ≤ x ∧ x ≤ 60) (h9 : a.length ≤ 9) : ∀ (d : Nat) (l : List Int) (m : Nat), l.length + d = a.length → m ≤ l.length → Good a l m →
    ∃ K, ∀ k, K ≤ k → spec_l9Lists.f k a l (m : Int) = some (gen a d l m)
  | 0, l, m, hd, hm, hg => by
    refine ⟨40, fun k hk => ?_⟩
    obtain ⟨q, rfl⟩ : ∃ m, k = m + 1 := ⟨k - 1, by omega⟩
    have := l9end_l a l m (by omega) (by omega) hg m q 0 (by omega) (by omega)
    rw [spec_l9Lists.f, if_pos (by omega), show (0 : Int) = ((0 : Nat) : Int) from rfl, this, gen]
    unfold fits
    rw [List.range_eq_range']
  | d + 1, l, m, hd, hm, hg => by
    have hP := pow11 (d := d) (by omega)
    have hpos : 0 < 11 ^ d := Nat.pow_pos (by omega)
    have loop : ∀ (c t : Nat), t + 1 + c = m + 2 → ∃ K, ∀ k, K ≤ k → ∀ acc : List (List Int), acc.length ≤ (t + 1) * 11 ^ d →
        spec_l9Lists.l1 k a l (m : Int) (l.length : Int) acc (t : Int) = some (acc ++ (List.range' (t + 1) c).flatMap fun e : Nat => if (places l ((e : Int) - 1)).length = 3 ∧ 0 < e then [] else gen a d (l ++ [(e : Int) - 1]) (if e = m + 1 then m + 1 else m)) := by
      intro c
      induction c with
      | zero =>
        intro t ht
        refine ⟨1, fun k hk acc hacc => ?_⟩
        obtain ⟨q, rfl⟩ : ∃ m, k = m + 1 := ⟨k - 1, by omega⟩
        rw [spec_l9Lists.l1, if_neg (by omega)]
        simp
      | succ c ih =>
        intro t ht
        obtain ⟨K1, h1⟩ := ih (t + 1) (by omega)
        have hE : ((t + 1 : Nat) : Int) - 1 = (t : Int) := by omega
        have hwt := wrap_nat (n := t) (by omega)
        have hlen : ∀ acc : List (List Int), acc.length ≤ (t + 1) * 11 ^ d → acc.length ≤ (t + 1 + 1) * 11 ^ d := fun acc h => Nat.le_trans h (Nat.mul_le_mul_right _ (by omega))
        have hgl := gen_length a d (l ++ [(t : Int)]) (if t + 1 = m + 1 then m + 1 else m) (by split <;> omega)
        have hacc2 : ∀ acc : List (List Int), acc.length ≤ (t + 1) * 11 ^ d → (acc ++ gen a d (l ++ [(t : Int)]) (if t + 1 = m + 1 then m + 1 else m)).length ≤ (t + 1 + 1) * 11 ^ d := fun acc h => by
          rw [List.length_append, Nat.add_mul (t + 1) 1, Nat.one_mul]
          omega
        have hsum : ∀ acc : List (List Int), acc.length ≤ (t + 1) * 11 ^ d → acc.length + (gen a d (l ++ [(t : Int)]) (if t + 1 = m + 1 then m + 1 else m)).length < 5864062014805 := fun acc h => by
          have : (t + 1) * 11 ^ d ≤ 11 * 11 ^ d := Nat.mul_le_mul_right _ (by omega)
          omega
        by_cases hc3 : (places l (t : Int)).length = 3
        · refine ⟨K1 + 20, fun k hk acc hacc => ?_⟩
          obtain ⟨q, rfl⟩ : ∃ m, k = m + 1 := ⟨k - 1, by omega⟩
          rw [spec_l9Lists.l1, if_pos (by omega), of_tells l t (by omega) q (by omega)]
          simp only [Option.bind_some, List.length_map]
          rw [if_pos (by omega), hwt, h1 q (by omega) acc (hlen acc hacc), List.range'_succ, List.flatMap_cons, hE, if_pos ⟨hc3, by omega⟩, List.nil_append]
        · by_cases hbad : (places l (t : Int)).length = 2 ∧ three (selOf a l (t : Int) ++ [rd a (l.length : Int)]) = false
          · have hg0 : gen a d (l ++ [(t : Int)]) (if t + 1 = m + 1 then m + 1 else m) = [] := by
              refine gen_bad a d _ _ t (by split <;> omega) ?_ ?_
              · rw [places_app, if_pos rfl, List.length_append, hbad.1]; rfl
              · rw [selOf_app, if_pos rfl]; exact hbad.2
            refine ⟨K1 + 20, fun k hk acc hacc => ?_⟩
            obtain ⟨q, rfl⟩ : ∃ m, k = m + 1 := ⟨k - 1, by omega⟩
            have hsi := sel_two a l t ha (by omega) (by omega) hbad.1
            obtain ⟨p0, p1, hp, q0, q1, hs, hx, hy, hz⟩ := hsi
            rw [spec_l9Lists.l1, if_pos (by omega), of_tells l t (by omega) q (by omega), hp]
            simp only [Option.bind_some, List.map_cons, List.map_nil, List.length_cons, List.length_nil]
            have e0 : rd [(p0 : Int), (p1 : Int)] 0 = p0 := rfl
            have e1 : rd [(p0 : Int), (p1 : Int)] 1 = p1 := rfl
            rw [if_neg (by decide), if_pos (by decide), if_pos (by decide), e0, e1, if_pos (by omega), if_pos (by omega), if_pos (by decide), if_pos (by omega), if_pos (by omega), if_pos (by omega), if_pos (by omega), l1three_tells _ _ _ hx hy hz]
            simp only [Option.bind_some]
            have hb2 := hbad.2
            rw [hs] at hb2
            rw [show tri (rd a p0) (rd a p1) (rd a (l.length : Int)) = false from hb2, if_neg (by decide), hwt, h1 q (by omega) acc (hlen acc hacc), List.range'_succ, List.flatMap_cons, hE, if_neg (fun x => hc3 x.1), hg0, List.nil_append]
          · have hgood : Good a (l ++ [(t : Int)]) (if t + 1 = m + 1 then m + 1 else m) := by
              intro t' ht' h3
              by_cases htt : t' = t
              · subst htt
                rw [places_app, if_pos rfl, List.length_append, List.length_singleton] at h3
                rw [selOf_app, if_pos rfl]
                cases hh : three (selOf a l (t' : Int) ++ [rd a (l.length : Int)]) with
                | true => rfl
                | false => exact absurd ⟨by omega, hh⟩ hbad
              · have hne : ¬ ((t : Int) = (t' : Int)) := by omega
                rw [places_app, if_neg hne, List.append_nil] at h3
                rw [selOf_app, if_neg hne, List.append_nil]
                exact hg t' (by split at ht' <;> omega) h3
            obtain ⟨K2, h2⟩ := lists_run a ha h9 d (l ++ [(t : Int)]) (if t + 1 = m + 1 then m + 1 else m) (by simp; omega) (by simp; split <;> omega) hgood
            refine ⟨K1 + K2 + 20, fun k hk acc hacc => ?_⟩
            obtain ⟨q, rfl⟩ : ∃ m, k = m + 1 := ⟨k - 1, by omega⟩
            have g2 := h2 q (by omega)
            have g1 := h1 q (by omega) (acc ++ gen a d (l ++ [(t : Int)]) (if t + 1 = m + 1 then m + 1 else m)) (hacc2 acc hacc)
            have gs := hsum acc hacc
            have hlt : l.length < 17592186044416 := by omega
            have fin : ((some (([] : List Int) : List Int)).bind fun y157 => (if y157.length + l.length < 17592186044416 then ((some (y157 ++ l : List Int)).bind fun y160 => (if y160.length < 17592186044416 then ((spec_l9Lists.f q a (y160 ++ [(t : Int)]) (mx (m : Int) (wrap64 ((t : Int) + 1)))).bind fun t166 => (if acc.length + t166.length < 5864062014805 then (spec_l9Lists.l1 q a l (m : Int) (l.length : Int) (acc ++ t166) (wrap64 ((t : Int) + 1))) else (none))) else (none))) else (none))) =
                some (acc ++ (List.range' (t + 1) (c + 1)).flatMap fun e : Nat => if (places l ((e : Int) - 1)).length = 3 ∧ 0 < e then [] else gen a d (l ++ [(e : Int) - 1]) (if e = m + 1 then m + 1 else m)) := by
              simp only [Option.bind_some, List.nil_append, List.length_nil, Nat.zero_add]
              rw [if_pos hlt, if_pos hlt, hwt, mx_next (by omega), g2]
              simp only [Option.bind_some]
              rw [if_pos gs, g1, List.range'_succ, List.flatMap_cons, hE, if_neg (show ¬ ((places l (t : Int)).length = 3 ∧ 0 < t + 1) from fun x => hc3 x.1), List.append_assoc]
            rw [spec_l9Lists.l1, if_pos (by omega), of_tells l t (by omega) q (by omega)]
            simp only [Option.bind_some, List.length_map]
            rw [if_neg (by omega)]
            by_cases hc2 : (places l (t : Int)).length = 2
            · obtain ⟨p0, p1, hp, q0, q1, hs, hx, hy, hz⟩ := sel_two a l t ha (by omega) (by omega) hc2
              rw [if_pos (by omega), hp]
              simp only [List.map_cons, List.map_nil, List.length_cons, List.length_nil]
              have e0 : rd [(p0 : Int), (p1 : Int)] 0 = p0 := rfl
              have e1 : rd [(p0 : Int), (p1 : Int)] 1 = p1 := rfl
              rw [if_pos (by decide), e0, e1, if_pos (by omega), if_pos (by omega), if_pos (by decide), if_pos (by omega), if_pos (by omega), if_pos (by omega), if_pos (by omega), l1three_tells _ _ _ hx hy hz]
              simp only [Option.bind_some]
              have hb2 : tri (rd a p0) (rd a p1) (rd a (l.length : Int)) = true := by
                cases hh : tri (rd a p0) (rd a p1) (rd a (l.length : Int)) with
                | true => rfl
                | false => exact absurd ⟨hc2, by rw [hs]; exact hh⟩ hbad
              rw [hb2, if_pos rfl]
              simp only [Option.bind_some, List.length_nil, Nat.zero_add, List.nil_append] at fin ⊢
              exact fin
            · rw [if_neg (by omega)]
              simp only [Option.bind_some, List.length_nil, Nat.zero_add, List.nil_append] at fin ⊢
              exact fin
    have hgm : Good a (l ++ [-1]) m := by
      intro t' ht' h3
      have hne : ¬ ((-1 : Int) = (t' : Int)) := by omega
      rw [places_app, if_neg hne, List.append_nil] at h3
      rw [selOf_app, if_neg hne, List.append_nil]
      exact hg t' ht' h3
    obtain ⟨K1, h1⟩ := loop (m + 1) 0 (by omega)
    obtain ⟨K2, h2⟩ := lists_run a ha h9 d (l ++ [-1]) m (by simp; omega) (by simp; omega) hgm
    refine ⟨K1 + K2 + 2, fun k hk => ?_⟩
    obtain ⟨q, rfl⟩ : ∃ m, k = m + 1 := ⟨k - 1, by omega⟩
    have g2 := h2 q (by omega)
    have g1 := h1 q (by omega) (gen a d (l ++ [-1]) m) (by have := gen_length a d (l ++ [-1]) m (by omega); omega)
    have hlt : l.length < 17592186044416 := by omega
    rw [spec_l9Lists.f, if_neg (by omega)]
    simp only [Option.bind_some, List.nil_append, List.length_nil, Nat.zero_add]
    rw [if_pos hlt, if_pos hlt, g2]
    simp only [Option.bind_some]
    rw [show ((0 : Nat) : Int) = 0 from rfl] at g1
    have hgen : gen a (d + 1) l m = gen a d (l ++ [-1]) m ++ (List.range' (0 + 1) (m + 1)).flatMap fun e : Nat => if (places l ((e : Int) - 1)).length = 3 ∧ 0 < e then [] else gen a d (l ++ [(e : Int) - 1]) (if e = m + 1 then m + 1 else m) := by
      rw [gen, List.range'_succ, List.flatMap_cons, if_neg (fun x => by have := x.2; omega), if_neg (by omega)]
      rfl
    rw [g1, hgen]
theorem lists_tells (a : List Int) (hr : isRuler a) : ∃ K, ∀ k, K ≤ k → spec_l9Lists.f k a [] 0 = some (genAll a) :=
  lists_run a hr.1 hr.2.2 a.length [] 0 (by simp) (by simp) (fun t ht => by omega)
/-! ### how many threes -/
def thr (xs : List Int) : Int := xs.foldl (fun n x => mx n (x + 1)) 0
theorem mx_le (a b : Int) : a ≤ mx a b ∧ b ≤ mx a b ∧ (mx a b = a ∨ mx a b = b) := by
  unfold mx
  split <;> omega
theorem foldl_mx_ge : ∀ (xs : List Int) (n : Int), n ≤ xs.foldl (fun n x => mx n (x + 1)) n
  | [], n => Int.le_refl _
  | x :: xs, n => by
    have := foldl_mx_ge xs (mx n (x + 1))
    have := mx_le n (x + 1)
    rw [List.foldl_cons]
    omega
theorem thr_nonneg (xs : List Int) : 0 ≤ thr xs := foldl_mx_ge xs 0
theorem thr_shift : ∀ (xs : List Int) (y : Int), xs.foldl (fun n x => mx n (x + 1)) (y + 1) = xs.foldl mx y + 1
  | [], y => rfl
  | x :: xs, y => by
    rw [List.foldl_cons, List.foldl_cons, ← thr_shift xs (mx y x)]
    congr 1
    unfold mx
    split <;> split <;> omega
theorem thr_max (x : Int) (xs : List Int) (h : -1 ≤ x) : thr (x :: xs) = xs.foldl mx x + 1 := by
  unfold thr
  rw [List.foldl_cons, ← thr_shift, show mx 0 (x + 1) = x + 1 by unfold mx; split <;> omega]
theorem foldl_mx_in : ∀ (xs : List Int) (y B : Int), y ≤ B → (∀ x ∈ xs, x ≤ B) → xs.foldl mx y ≤ B
  | [], y, B, h, _ => h
  | x :: xs, y, B, h, hx => by
    rw [List.foldl_cons]
    refine foldl_mx_in xs _ B ?_ (fun z hz => hx z (List.mem_cons_of_mem _ hz))
    have := mx_le y x
    have := hx x List.mem_cons_self
    omega
theorem foldl_mx_le : ∀ (xs : List Int) (y : Int), y ≤ xs.foldl mx y
  | [], y => Int.le_refl _
  | x :: xs, y => by
    have := foldl_mx_le xs (mx y x)
    have := mx_le y x
    rw [List.foldl_cons]
    omega
theorem mem_all_in {a x : List Int} (h9 : a.length ≤ 9) (h : x ∈ genAll a) : x.length = a.length ∧ ∀ y ∈ x, -1 ≤ y ∧ y ≤ 8 := by
  have h1 := mem_gen_len a _ _ _ x h
  obtain ⟨m', h2, h3, h4, _⟩ := mem_gen_in a _ _ _ x h (by simp)
  refine ⟨by simpa using h1, fun y hy => ?_⟩
  have := h4 y hy
  omega
theorem gen_ne (a : List Int) : ∀ (d n : Nat), gen a d (List.replicate n (-1)) 0 ≠ []
  | 0, n => by
    rw [gen, if_pos (by rw [fits_iff]; intro t ht; omega)]
    simp
  | d + 1, n => by
    rw [gen]
    intro h
    rw [List.flatMap_eq_nil_iff] at h
    have := h 0 (by simp)
    rw [if_neg (by omega), if_neg (by omega)] at this
    refine gen_ne a d (n + 1) ?_
    rw [List.replicate_succ']
    exact this
theorem genAll_ne (a : List Int) : genAll a ≠ [] := gen_ne a a.length 0
theorem sthr_l (xs : List Int) (hx : ∀ y ∈ xs, -1 ≤ y ∧ y ≤ 8) (hl : xs.length ≤ 1000) : ∀ (d k i : Nat) (n : Int), i + d = xs.length → d + 1 ≤ k → spec_l9Threes.l0 k xs n (i : Int) = some ((xs.drop i).foldl (fun n x => mx n (x + 1)) n) := by
  intro d
  induction d with
  | zero =>
    intro k i n hi hk
    obtain ⟨m, rfl⟩ : ∃ m, k = m + 1 := ⟨k - 1, by omega⟩
    rw [spec_l9Threes.l0, if_neg (by omega), List.drop_eq_nil_of_le (by omega)]
    rfl
  | succ d ih =>
    intro k i n hi hk
    obtain ⟨m, rfl⟩ : ∃ m, k = m + 1 := ⟨k - 1, by omega⟩
    have hil : i < xs.length := by omega
    have := hx _ (List.getElem_mem hil)
    rw [spec_l9Threes.l0, if_pos (by omega), if_pos (by omega), rd_at hil, show wrap64 (xs[i] + 1) = xs[i] + 1 by unfold wrap64; omega, wrap_nat (by omega), ih m (i + 1) _ (by omega) (by omega), List.drop_eq_getElem_cons hil]
    rfl
theorem sthr_tells (xs : List Int) (hx : ∀ y ∈ xs, -1 ≤ y ∧ y ≤ 8) (hl : xs.length ≤ 1000) (k : Nat) (hk : xs.length + 1 ≤ k) : spec_l9Threes.f k xs = some (thr xs) := by
  have := sthr_l xs hx hl xs.length k 0 0 (by omega) hk
  unfold spec_l9Threes.f
  rw [show ((0 : Nat) : Int) = 0 from rfl, List.drop_zero] at this
  exact this
/-- The first one with most threes. -/
def bestOf : List (List Int) → List Int → List Int
  | [], b => b
  | x :: r, b => bestOf r (if thr x > thr b then x else b)
theorem bestOf_mem : ∀ (r : List (List Int)) (b : List Int), bestOf r b = b ∨ bestOf r b ∈ r
  | [], b => .inl rfl
  | x :: r, b => by
    rw [bestOf]
    rcases bestOf_mem r (if thr x > thr b then x else b) with h | h
    · rw [h]
      split
      · exact .inr List.mem_cons_self
      · exact .inl rfl
    · exact .inr (List.mem_cons_of_mem _ h)
theorem bestOf_thr : ∀ (r : List (List Int)) (b : List Int), thr (bestOf r b) = r.foldl (fun s x => mx s (thr x)) (thr b)
  | [], b => rfl
  | x :: r, b => by
    rw [bestOf, bestOf_thr r, List.foldl_cons]
    congr 1
    unfold mx
    split <;> rfl
theorem best_l (ls : List (List Int)) (hb : ∀ x ∈ ls, x.length ≤ 9 ∧ ∀ y ∈ x, -1 ≤ y ∧ y ≤ 8) (hn : ls.length < 4000000000) : ∀ (d k i : Nat) (b : List Int), b ∈ ls → i + d = ls.length → d + 20 ≤ k →
    spec_l9Best.l0 k ls b (i : Int) = some (bestOf (ls.drop i) b) := by
  intro d
  induction d with
  | zero =>
    intro k i b hbm hi hk
    obtain ⟨m, rfl⟩ : ∃ m, k = m + 1 := ⟨k - 1, by omega⟩
    rw [spec_l9Best.l0, if_neg (by omega), List.drop_eq_nil_of_le (by omega)]
    rfl
  | succ d ih =>
    intro k i b hbm hi hk
    obtain ⟨m, rfl⟩ : ∃ m, k = m + 1 := ⟨k - 1, by omega⟩
    have hil : i < ls.length := by omega
    have hr : rd_L2 ls (i : Int) = ls[i] := by
      unfold rd_L2
      rw [Int.toNat_natCast, List.getD_eq_getElem?_getD, List.getElem?_eq_getElem hil]
      rfl
    have h1 := hb _ (List.getElem_mem hil)
    have h2 := hb _ hbm
    have hw := wrap_nat (n := i) (by omega)
    have e1 : i + 1 + d = ls.length := by omega
    have e2 : d + 20 ≤ m := by omega
    rw [spec_l9Best.l0, if_pos (by omega), if_pos (by omega), hr, sthr_tells _ h1.2 (by omega) m (by omega), List.drop_eq_getElem_cons hil, bestOf]
    simp only [Option.bind_some]
    rw [sthr_tells _ h2.2 (by omega) m (by omega)]
    simp only [Option.bind_some]
    rw [hw]
    split
    · exact ih m (i + 1) _ (List.getElem_mem hil) e1 e2
    · exact ih m (i + 1) b hbm e1 e2
theorem best_tells (a : List Int) (hr : isRuler a) : ∃ x r, genAll a = x :: r ∧ ∃ K, ∀ k, K ≤ k → spec_l9Best.f k a = some (bestOf r x) := by
  match hg : genAll a with
  | [] => exact absurd hg (genAll_ne a)
  | x :: r =>
    refine ⟨x, r, rfl, ?_⟩
    obtain ⟨K, h⟩ := lists_tells a hr
    have hlen : (genAll a).length ≤ 11 ^ a.length := gen_length a a.length [] 0 (by have := hr.2.2; omega)
    have hp := pow11 hr.2.2
    have hin : ∀ y ∈ genAll a, y.length ≤ 9 ∧ ∀ z ∈ y, -1 ≤ z ∧ z ≤ 8 := fun y hy => by
      have := mem_all_in hr.2.2 hy
      have h9 := hr.2.2
      exact ⟨by omega, this.2⟩
    rw [hg] at hlen hin
    refine ⟨K + r.length + 100, fun k hk => ?_⟩
    unfold spec_l9Best.f
    have := best_l (x :: r) hin (by omega) r.length k 1 x List.mem_cons_self (by simp; omega) (by omega)
    rw [h k (by omega), hg]
    simp only [Option.bind_some]
    rw [if_pos (by simp)]
    exact this
theorem imax_l (xs : List Int) (hl : xs.length ≤ 1000) : ∀ (d k i : Nat) (n : Int), i + d = xs.length → d + 1 ≤ k → slices_Max_int_int.l0 k xs n (i : Int) = some ((xs.drop i).foldl mx n) := by
  intro d
  induction d with
  | zero =>
    intro k i n hi hk
    obtain ⟨m, rfl⟩ : ∃ m, k = m + 1 := ⟨k - 1, by omega⟩
    rw [slices_Max_int_int.l0, if_neg (by omega), List.drop_eq_nil_of_le (by omega)]
    rfl
  | succ d ih =>
    intro k i n hi hk
    obtain ⟨m, rfl⟩ : ∃ m, k = m + 1 := ⟨k - 1, by omega⟩
    have hil : i < xs.length := by omega
    rw [slices_Max_int_int.l0, if_pos (by omega), if_pos (by omega), rd_at hil, wrap_nat (by omega), ih m (i + 1) _ (by omega) (by omega), List.drop_eq_getElem_cons hil]
    rfl
theorem imax_tells (x : Int) (xs : List Int) (hl : xs.length ≤ 900) (k : Nat) (hk : xs.length + 2 ≤ k) : slices_Max_int_int.f k (x :: xs) = some (xs.foldl mx x) := by
  have := imax_l (x :: xs) (by simp; omega) xs.length k 1 x (by simp; omega) (by omega)
  unfold slices_Max_int_int.f
  rw [if_pos (by simp)]
  exact this
/-- What the program takes for the number of threes. -/
theorem imax_thr (xs : List Int) (h1 : 1 ≤ xs.length) (hl : xs.length ≤ 900) (hx : ∀ y ∈ xs, -1 ≤ y ∧ y ≤ 8) (k : Nat) (hk : xs.length + 2 ≤ k) : ∃ M, slices_Max_int_int.f k xs = some M ∧ wrap64 (M + 1) = thr xs ∧ -1 ≤ M ∧ M ≤ 8 := by
  match xs, h1, hl, hx, hk with
  | x :: r, _, hl, hx, hk =>
    have h0 := hx x List.mem_cons_self
    refine ⟨_, imax_tells x r (by simp at hl; omega) k (by simp at hk; omega), ?_, ?_, ?_⟩
    · have h2 := foldl_mx_in r x 8 (by omega) (fun z hz => (hx z (List.mem_cons_of_mem _ hz)).2)
      have h3 := foldl_mx_le r x
      rw [thr_max x r (by omega)]
      unfold wrap64
      omega
    · have h3 := foldl_mx_le r x
      omega
    · exact foldl_mx_in r x 8 (by omega) (fun z hz => (hx z (List.mem_cons_of_mem _ hz)).2)
def mostOf (l : List Int) : Int × Bool := if isBundle l then ((genAll l).foldl (fun s x => mx s (thr x)) 0, true) else (0, false)
theorem most_impl (l : List Int) (hl : l.length ≤ 1048576) : ∃ K, ∀ k, K ≤ k → impl_PartMost.f k l = some (mostOf l) := by
  by_cases hb : isBundle l
  · obtain ⟨K, h⟩ := parts_tells l hb.1 (fun s x => mx s (thr x))
    refine ⟨K + l.length + 100, fun k hk => ?_⟩
    unfold impl_PartMost.f mostOf
    rw [impl_bundle l hl k (by omega), decide_eq_true hb, if_pos hb]
    simp only [Option.bind_some]
    rw [if_pos trivial, h k (by omega) (impl_PartMost.step k) 0 (fun s xs hx => ?_)]
    · rfl
    · have h9 := hb.1.2
      have hin := mem_all_in h9.2 hx
      obtain ⟨M, e1, e2, _⟩ := imax_thr xs (by omega) (by omega) hin.2 k (by omega)
      unfold impl_PartMost.step
      rw [e1]
      simp only [Option.bind_some]
      rw [e2]
  · refine ⟨l.length + 100, fun k hk => ?_⟩
    unfold impl_PartMost.f mostOf
    rw [impl_bundle l hl k (by omega), decide_eq_false hb, if_neg hb]
    simp only [Option.bind_some]
    rw [if_neg (by decide)]
/-! ### what a part list is -/
def rg : List Int → Nat → Option Nat
  | [], m => some m
  | x :: l, m => if -1 ≤ x ∧ x ≤ (m : Int) then rg l (if x = (m : Int) then m + 1 else m) else none
theorem rg_le : ∀ (l : List Int) (m m' : Nat), rg l m = some m' → m ≤ m' ∧ m' ≤ m + l.length
  | [], m, m', h => by
    rw [rg] at h
    injection h with h
    subst h
    exact ⟨Nat.le_refl _, by simp⟩
  | x :: l, m, m', h => by
    rw [rg] at h
    split at h
    · have := rg_le l _ m' h
      rw [List.length_cons]
      split at this <;> omega
    · cases h
theorem places_mono (t : Int) : ∀ (y l : List Int), (places l t).length ≤ (places (l ++ y) t).length
  | [], l => by rw [List.append_nil]; exact Nat.le_refl _
  | x :: y, l => by
    have h := places_mono t y (l ++ [x])
    rw [List.append_assoc, List.singleton_append] at h
    rw [places_app, List.length_append] at h
    omega
theorem gen_iff (a : List Int) : ∀ (d : Nat) (l : List Int) (m : Nat) (x : List Int), x ∈ gen a d l m ↔ ∃ y m', x = l ++ y ∧ y.length = d ∧ rg y m = some m' ∧ fits a x m' = true
  | 0, l, m, x => by
    rw [gen]
    constructor
    · intro h
      split at h
      · next hf =>
        rw [List.mem_singleton] at h
        subst h
        exact ⟨[], m, by simp, rfl, rfl, hf⟩
      · cases h
    · rintro ⟨y, m', rfl, h2, h3, h4⟩
      have : y = [] := List.length_eq_zero_iff.mp h2
      subst this
      rw [rg] at h3
      injection h3 with h3
      subst h3
      rw [List.append_nil] at h4 ⊢
      rw [if_pos h4]
      exact List.mem_singleton.mpr rfl
  | d + 1, l, m, x => by
    rw [gen, List.mem_flatMap]
    constructor
    · rintro ⟨e, he, h⟩
      rw [List.mem_range'_1] at he
      split at h
      · cases h
      · obtain ⟨y, m', h1, h2, h3, h4⟩ := (gen_iff a d _ _ x).mp h
        refine ⟨((e : Int) - 1) :: y, m', by rw [h1, List.append_assoc]; rfl, by rw [List.length_cons, h2], ?_, h4⟩
        rw [rg, if_pos (by omega), ← h3]
        congr 1
        split <;> split <;> omega
    · rintro ⟨y, m', h1, h2, h3, h4⟩
      match y, h1, h2, h3 with
      | z :: y, h1, h2, h3 =>
        rw [rg] at h3
        split at h3
        · next hz =>
          obtain ⟨e, rfl⟩ : ∃ e : Nat, z = (e : Int) - 1 := ⟨(z + 1).toNat, by omega⟩
          refine ⟨e, by rw [List.mem_range'_1]; omega, ?_⟩
          have hle := rg_le _ _ _ h3
          rw [if_neg]
          · refine (gen_iff a d _ _ x).mpr ⟨y, m', by rw [h1, List.append_assoc]; rfl, by simpa using h2, ?_, h4⟩
            rw [← h3]
            congr 1
            split <;> split <;> omega
          · rintro ⟨q1, q2⟩
            rw [fits_iff] at h4
            have h5 := three_len (h4 (e - 1) (by split at hle <;> omega))
            rw [selOf_len, show ((e - 1 : Nat) : Int) = (e : Int) - 1 by omega, h1, show l ++ ((e : Int) - 1) :: y = (l ++ [(e : Int) - 1]) ++ y by rw [List.append_assoc]; rfl] at h5
            have h6 := places_mono ((e : Int) - 1) y (l ++ [(e : Int) - 1])
            rw [places_app, if_pos rfl, List.length_append, List.length_singleton] at h6
            omega
        · cases h3
theorem all_iff (a x : List Int) : x ∈ genAll a ↔ x.length = a.length ∧ ∃ m, rg x 0 = some m ∧ fits a x m = true := by
  unfold genAll
  rw [gen_iff]
  constructor
  · rintro ⟨y, m, rfl, h2, h3, h4⟩
    exact ⟨h2, m, h3, h4⟩
  · rintro ⟨h2, m, h3, h4⟩
    exact ⟨x, m, rfl, h2, h3, h4⟩
/-- How many sticks are in the first classes. -/
def inN (x : List Int) : Nat → Nat
  | 0 => 0
  | m + 1 => inN x m + (places x (m : Int)).length
theorem inN_app (x : List Int) (y : Int) : ∀ m, inN (x ++ [y]) m = inN x m + if 0 ≤ y ∧ y < m then 1 else 0
  | 0 => by rw [inN, inN, if_neg (by omega)]
  | m + 1 => by
    rw [inN, inN, inN_app x y m, places_app, List.length_append]
    by_cases h : y = (m : Int)
    · rw [if_pos h, if_neg (by omega), if_pos (by omega)]
      simp only [List.length_singleton]
      omega
    · rw [if_neg h]
      simp only [List.length_nil]
      by_cases h2 : 0 ≤ y ∧ y < (m : Int)
      · rw [if_pos h2, if_pos (by omega)]
        omega
      · rw [if_neg h2, if_neg (by omega)]
        omega
theorem inN_nil : ∀ m, inN [] m = 0
  | 0 => rfl
  | m + 1 => by rw [inN, inN_nil m]; rfl
theorem inN_le (m : Nat) : ∀ (n : Nat) (x : List Int), x.length = n → inN x m ≤ n
  | 0, x, h => by rw [List.length_eq_zero_iff.mp h, inN_nil]; exact Nat.le_refl _
  | n + 1, x, h => by
    rcases List.eq_nil_or_concat x with rfl | ⟨y, z, rfl⟩
    · simp at h
    · rw [List.concat_eq_append] at h ⊢
      have := inN_le m n y (by simpa using h)
      rw [inN_app]
      split <;> omega
theorem inN_fits (a x : List Int) : ∀ m, fits a x m = true → inN x m = 3 * m
  | 0, _ => rfl
  | m + 1, h => by
    rw [fits_iff] at h
    have h1 := inN_fits a x m (fits_iff.mpr fun t ht => h t (by omega))
    have h2 := three_len (h m (by omega))
    rw [selOf_len] at h2
    rw [inN, h1, h2]
    omega
def noNeg (x : List Int) : Bool := decide ((-1 : Int) ∉ x)
theorem rg_thr : ∀ (l : List Int) (m m' : Nat), rg l m = some m' → l.foldl (fun n x => mx n (x + 1)) (m : Int) = (m' : Int)
  | [], m, m', h => by
    rw [rg] at h
    injection h with h
    subst h
    rfl
  | x :: l, m, m', h => by
    rw [rg] at h
    split at h
    · next hx =>
      rw [List.foldl_cons, ← rg_thr l _ m' h]
      congr 1
      unfold mx
      split <;> split <;> omega
    · cases h
theorem rg_in (l : List Int) (m m' : Nat) (h : rg l m = some m') : ∀ y ∈ l, -1 ≤ y ∧ y < m' := by
  induction l generalizing m with
  | nil => intro y hy; cases hy
  | cons x l ih =>
    rw [rg] at h
    split at h
    · next hx =>
      have hle := rg_le _ _ _ h
      intro y hy
      rcases List.mem_cons.mp hy with rfl | hy
      · split at hle <;> omega
      · exact ih _ h y hy
    · cases h
theorem thr_third {a xs : List Int} (hxs : xs ∈ genAll a) : ∃ m, rg xs 0 = some m ∧ fits a xs m = true ∧ thr xs = (m : Int) ∧ 3 * m ≤ a.length := by
  obtain ⟨q1, m, hm, hf⟩ := (all_iff a xs).mp hxs
  have hthr : thr xs = (m : Int) := rg_thr xs 0 m hm
  have h3 := inN_fits a xs m hf
  have h4 := inN_le m xs.length xs rfl
  exact ⟨m, hm, hf, hthr, by omega⟩
theorem equal_l (x l : List Int) (hl : x.length = l.length) (h9 : x.length ≤ 1000) : ∀ (d k i : Nat), i + d = x.length → d + 1 ≤ k →
    slices_Equal_int_int.l0 k x l (x.length : Int) (i : Int) = some (decide (x.drop i = l.drop i)) := by
  intro d
  induction d with
  | zero =>
    intro k i hi hk
    obtain ⟨m, rfl⟩ : ∃ m, k = m + 1 := ⟨k - 1, by omega⟩
    rw [slices_Equal_int_int.l0, if_neg (by omega), List.drop_eq_nil_of_le (by omega), List.drop_eq_nil_of_le (by omega)]
    rfl
  | succ d ih =>
    intro k i hi hk
    obtain ⟨m, rfl⟩ : ∃ m, k = m + 1 := ⟨k - 1, by omega⟩
    have h1 : i < x.length := by omega
    have h2 : i < l.length := by omega
    rw [slices_Equal_int_int.l0, if_pos (by omega), if_pos (by omega), if_pos (by omega), if_pos (by omega), rd_at h1, rd_at h2, wrap_nat (by omega), List.drop_eq_getElem_cons h1, List.drop_eq_getElem_cons h2, ih m (i + 1) (by omega) (by omega)]
    by_cases h : x[i] = l[i]
    · rw [if_pos h, h]
      congr 1
      rw [decide_eq_decide]
      simp only [List.cons.injEq, true_and]
    · rw [if_neg h]
      symm
      congr 1
      rw [decide_eq_false_iff_not]
      intro hh
      injection hh with hh _
      exact h hh
theorem equal_tells (x l : List Int) (hl : x.length = l.length) (h9 : x.length ≤ 1000) (k : Nat) (hk : x.length + 1 ≤ k) : slices_Equal_int_int.f k x l = some (decide (x = l)) := by
  have := equal_l x l hl h9 x.length k 0 (by omega) hk
  unfold slices_Equal_int_int.f
  rw [if_pos (by omega)]
  simpa using this
theorem foldl_any (l : List Int) : ∀ (ls : List (List Int)) (s : Bool), ls.foldl (fun s x => if s = true then true else decide (x = l)) s = (s || decide (l ∈ ls))
  | [], s => by simp
  | x :: ls, s => by
    rw [List.foldl_cons, foldl_any l ls]
    cases s with
    | true => simp
    | false =>
      by_cases h : x = l
      · subst h
        simp
      · rw [if_neg (by decide), decide_eq_false h]
        simp only [Bool.false_or, List.mem_cons, decide_eq_decide]
        constructor
        · exact .inr
        · rintro (h' | h')
          · exact absurd h'.symm h
          · exact h'
def isOf (a l : List Int) : Bool := decide (isBundle a ∧ l.length = a.length ∧ l ∈ genAll a)
theorem is_impl (a l : List Int) (ha : a.length ≤ 1048576) (hl : l.length ≤ 1048576) : ∃ K, ∀ k, K ≤ k → impl_PartIs.f k a l = some (isOf a l) := by
  by_cases hb : isBundle a
  · obtain ⟨K, h⟩ := parts_tells a hb.1 (fun s x => if s = true then true else decide (x = l))
    refine ⟨K + a.length + l.length + 100, fun k hk => ?_⟩
    have h9 := hb.1.2.2
    unfold impl_PartIs.f isOf
    rw [impl_bundle a ha k (by omega), decide_eq_true hb]
    simp only [Option.bind_some]
    rw [if_pos trivial]
    by_cases hn : l.length = a.length
    · rw [if_pos (by omega), h k (by omega) (impl_PartIs.step k l) false (fun s xs hx => ?_), foldl_any]
      · simp [hb, hn]
      · have hin := mem_all_in h9 hx
        unfold impl_PartIs.step
        rw [equal_tells xs l (by omega) (by omega) k (by omega)]
        split <;> rfl
    · rw [if_neg (by omega)]
      simp [hn]
  · refine ⟨a.length + 100, fun k hk => ?_⟩
    unfold impl_PartIs.f isOf
    rw [impl_bundle a ha k (by omega), decide_eq_false hb]
    simp only [Option.bind_some]
    rw [if_neg (by decide)]
    simp [hb]
/-! ### the first list with most threes -/
def firstOf (l : List Int) : List Int × Bool := if isBundle l then ((match genAll l with
  | [] => []
  | x :: r => bestOf r x), true) else ([], false)
theorem first_in {l : List Int} (hb : isBundle l) : ∃ x, firstOf l = (x, true) ∧ x ∈ genAll l ∧ thr x = (genAll l).foldl (fun s x => mx s (thr x)) 0 := by
  unfold firstOf
  rw [if_pos hb]
  match hg : genAll l with
  | [] => exact absurd hg (genAll_ne l)
  | x :: r =>
    refine ⟨bestOf r x, rfl, ?_, ?_⟩
    · rcases bestOf_mem r x with e | e
      · rw [e]; exact List.mem_cons_self
      · exact List.mem_cons_of_mem _ e
    · rw [bestOf_thr, List.foldl_cons, show mx 0 (thr x) = thr x by have := thr_nonneg x; unfold mx; split <;> omega]
theorem best_find : ∀ (r : List (List Int)) (b : List Int), (b :: r).find? (fun x => decide (thr x = thr (bestOf r b))) = some (bestOf r b)
  | [], b => by
    rw [bestOf, List.find?_cons, decide_eq_true rfl]
  | x :: r, b => by
    have hge : ∀ (r : List (List Int)) (b : List Int), thr b ≤ thr (bestOf r b) := fun r b => by
      rw [bestOf_thr]
      have : ∀ (ls : List (List Int)) (n : Int), n ≤ ls.foldl (fun s x => mx s (thr x)) n := by
        intro ls
        induction ls with
        | nil => intro n; exact Int.le_refl _
        | cons y ls ih =>
          intro n
          have h1 := ih (mx n (thr y))
          have h2 := mx_le n (thr y)
          rw [List.foldl_cons]
          omega
      exact this r (thr b)
    rw [bestOf]
    by_cases h : thr x > thr b
    · rw [if_pos h]
      have h1 := best_find r x
      have h2 := hge r x
      rw [List.find?_cons, decide_eq_false (by omega)]
      exact h1
    · rw [if_neg h]
      have h1 := best_find r b
      have h2 := hge r b
      by_cases hb : thr b = thr (bestOf r b)
      · rw [List.find?_cons, decide_eq_true hb] at h1 ⊢
        exact h1
      · rw [List.find?_cons, decide_eq_false hb] at h1 ⊢
        rw [List.find?_cons, decide_eq_false (by omega)]
        exact h1
def firstStep (n : Int) (s x : List Int) : List Int := if s = [] then (if thr x = n then x else s) else s
theorem first_keep (n : Int) : ∀ (ls : List (List Int)) (s : List Int), s ≠ [] → ls.foldl (firstStep n) s = s
  | [], s, _ => rfl
  | x :: ls, s, h => by
    rw [List.foldl_cons]
    have : firstStep n s x = s := by unfold firstStep; rw [if_neg h]
    rw [this]
    exact first_keep n ls s h
theorem first_fold (n : Int) : ∀ (ls : List (List Int)), (∀ x ∈ ls, x ≠ []) → ls.foldl (firstStep n) [] = (ls.find? (fun x => decide (thr x = n))).getD []
  | [], _ => rfl
  | x :: ls, h => by
    rw [List.foldl_cons, List.find?_cons]
    by_cases hx : thr x = n
    · have e : firstStep n [] x = x := by unfold firstStep; rw [if_pos rfl, if_pos hx]
      rw [decide_eq_true hx, e, first_keep n ls x (h x List.mem_cons_self)]
      rfl
    · have e : firstStep n [] x = [] := by unfold firstStep; rw [if_pos rfl, if_neg hx]
      rw [decide_eq_false hx, e]
      exact first_fold n ls (fun y hy => h y (List.mem_cons_of_mem _ hy))
theorem first_impl (l : List Int) (hl : l.length ≤ 1048576) : ∃ K, ∀ k, K ≤ k → impl_PartFirst.f k l = some (firstOf l) := by
  obtain ⟨K1, g1⟩ := most_impl l hl
  by_cases hb : isBundle l
  · have h9 := hb.1.2.2
    have h1 := hb.1.2.1
    have e1 : mostOf l = ((genAll l).foldl (fun s x => mx s (thr x)) 0, true) := by unfold mostOf; rw [if_pos hb]
    obtain ⟨K, h⟩ := parts_tells l hb.1 (firstStep ((genAll l).foldl (fun s x => mx s (thr x)) 0))
    refine ⟨K1 + K + 100, fun k hk => ?_⟩
    unfold impl_PartFirst.f
    rw [g1 k (by omega), e1, Option.bind_some]
    show (if (true = true) then _ else _) = _
    rw [if_pos rfl]
    generalize hN : (genAll l).foldl (fun s x => mx s (thr x)) 0 = N at h
    rw [h k (by omega) (impl_PartFirst.step k N) [] (fun s xs hx => ?_), Option.bind_some]
    · rw [first_fold N (genAll l) (fun x hx he => by
        have := (mem_all_in h9 hx).1
        rw [he, List.length_nil] at this
        omega)]
      unfold firstOf
      rw [if_pos hb]
      match hg : genAll l with
      | [] => exact absurd hg (genAll_ne l)
      | x :: r =>
        have hn : N = thr (bestOf r x) := by
          rw [← hN, hg, List.foldl_cons, show mx 0 (thr x) = thr x by have := thr_nonneg x; unfold mx; split <;> omega, bestOf_thr]
        rw [hn, best_find r x]
        rfl
    · have hin := mem_all_in h9 hx
      obtain ⟨M, e1, e2, _⟩ := imax_thr xs (by omega) (by omega) hin.2 k (by omega)
      unfold impl_PartFirst.step firstStep
      by_cases hs : s = []
      · rw [if_pos hs, if_pos hs, e1, Option.bind_some, e2]
        by_cases hn : thr xs = N
        · rw [if_pos hn, if_pos hn]
          unfold slices_Clone_int_int.f
          rw [if_pos (by omega), if_pos (by omega), List.nil_append]
        · rw [if_neg hn, if_neg hn]
      · rw [if_neg hs, if_neg hs]
  · have e1 : mostOf l = (0, false) := by unfold mostOf; rw [if_neg hb]
    refine ⟨K1, fun k hk => ?_⟩
    unfold impl_PartFirst.f firstOf
    rw [g1 k hk, e1, Option.bind_some, if_neg hb]
    show (if (false = true) then _ else _) = _
    rw [if_neg (by decide)]
theorem first_len (l : List Int) : (firstOf l).1.length ≤ 9 := by
  by_cases hb : isBundle l
  · obtain ⟨x, h1, h2, _⟩ := first_in hb
    have := mem_all_in hb.1.2.2 h2
    have h9 := hb.1.2.2
    rw [h1]
    show x.length ≤ 9
    omega
  · unfold firstOf
    rw [if_neg hb]
    exact Nat.zero_le _
/-! ### numbers, said with spaces between -/
theorem list_bytes (s : ByteArray) : s = ⟨s.data.toList.toArray⟩ := by
  cases s
  rfl
theorem bytes_eq {a b : ByteArray} (h : a.data.toList = b.data.toList) : a = b := by
  rw [list_bytes a, list_bytes b, h]
theorem dec_four (k : Nat) (hk : 3 ≤ k) (n : Int) (hn : -1 ≤ n ∧ n ≤ 8) : ∃ s, spec_l6Dec.f k n = some s ∧ s.data.toList = Lib.itoa n ∧ s.size ≤ 2 := by
  have key : ∀ m : Nat, m < 10 → ∃ s, spec_l6Dec.f 3 ((m : Int) - 1) = some s ∧ s.data.toList = Lib.itoa ((m : Int) - 1) ∧ s.size ≤ 2 := by
    intro m hm
    have h : m = 0 ∨ m = 1 ∨ m = 2 ∨ m = 3 ∨ m = 4 ∨ m = 5 ∨ m = 6 ∨ m = 7 ∨ m = 8 ∨ m = 9 := by omega
    rcases h with rfl | rfl | rfl | rfl | rfl | rfl | rfl | rfl | rfl | rfl
    · exact ⟨⟨#[45, 49]⟩, by decide +kernel, by decide +kernel, by decide⟩
    · exact ⟨⟨#[48]⟩, by decide +kernel, by decide +kernel, by decide⟩
    · exact ⟨⟨#[49]⟩, by decide +kernel, by decide +kernel, by decide⟩
    · exact ⟨⟨#[50]⟩, by decide +kernel, by decide +kernel, by decide⟩
    · exact ⟨⟨#[51]⟩, by decide +kernel, by decide +kernel, by decide⟩
    · exact ⟨⟨#[52]⟩, by decide +kernel, by decide +kernel, by decide⟩
    · exact ⟨⟨#[53]⟩, by decide +kernel, by decide +kernel, by decide⟩
    · exact ⟨⟨#[54]⟩, by decide +kernel, by decide +kernel, by decide⟩
    · exact ⟨⟨#[55]⟩, by decide +kernel, by decide +kernel, by decide⟩
    · exact ⟨⟨#[56]⟩, by decide +kernel, by decide +kernel, by decide⟩
  obtain ⟨s, h1, h2⟩ := key (n + 1).toNat (by omega)
  rw [show ((n + 1).toNat : Int) - 1 = n by omega] at h1 h2
  exact ⟨s, at_rounds (fun k => spec_l6Dec.mono n k) hk h1, h2⟩
def said (xs : List Int) : List UInt8 := Lib.join (xs.map Lib.itoa) [32]
theorem said_snoc (xs : List Int) (n : Int) (h : xs ≠ []) : said (xs ++ [n]) = said xs ++ [32] ++ Lib.itoa n := by
  match xs, h with
  | x :: r, _ =>
    unfold said
    rw [List.cons_append, List.map_cons, List.map_cons, Lib.join_cons, Lib.join_cons, List.map_append]
    unfold Lib.joinTail
    rw [List.map_append, List.flatten_append]
    simp [List.append_assoc]
theorem said_one (n : Int) : said [n] = Lib.itoa n := by
  unfold said
  rw [List.map_cons, List.map_nil, Lib.join_one]
theorem said_l (xs : List Int) (h9 : xs.length ≤ 9) (hx : ∀ y ∈ xs, -1 ≤ y ∧ y ≤ 8) : ∀ (d k i : Nat) (s : ByteArray), i + d = xs.length → d + 10 ≤ k → s.size ≤ 3 * i → s.data.toList = said (xs.take i) → ∃ r, spec_l11Said.l0 k xs s (i : Int) = some r ∧ r.data.toList = said xs := by
  intro d
  induction d with
  | zero =>
    intro k i s hi hk hs he
    obtain ⟨m, rfl⟩ : ∃ m, k = m + 1 := ⟨k - 1, by omega⟩
    rw [spec_l11Said.l0, if_neg (by omega)]
    exact ⟨s, rfl, by rw [he, List.take_of_length_le (by omega)]⟩
  | succ d ih =>
    intro k i s hi hk hs he
    obtain ⟨m, rfl⟩ : ∃ m, k = m + 1 := ⟨k - 1, by omega⟩
    have hil : i < xs.length := by omega
    obtain ⟨t, t1, t2, t3⟩ := dec_four m (by omega) xs[i] (hx _ (List.getElem_mem hil))
    have hsz : (⟨#[32]⟩ : ByteArray).size = 1 := rfl
    rw [spec_l11Said.l0, if_pos (by omega), rd_at hil, wrap_nat (by omega)]
    by_cases h0 : 0 < i
    · have hne : xs.take i ≠ [] := by
        intro h
        have := congrArg List.length h
        rw [List.length_take, List.length_nil] at this
        omega
      rw [if_pos (by omega), if_pos (by omega), if_pos (by omega), t1, Option.bind_some, if_pos (by rw [ByteArray.size_append, hsz]; omega)]
      refine ih m (i + 1) _ (by omega) (by omega) (by rw [ByteArray.size_append, ByteArray.size_append, hsz]; omega) ?_
      rw [List.take_succ_eq_append_getElem hil, said_snoc _ _ hne, ← he, ← t2]
      simp [ByteArray.data_append]
    · have hi0 : i = 0 := by omega
      subst hi0
      rw [if_neg (by omega), if_pos (by omega), t1, Option.bind_some, if_pos (by omega)]
      refine ih m (0 + 1) _ (by omega) (by omega) (by rw [ByteArray.size_append]; omega) ?_
      rw [List.take_succ_eq_append_getElem hil, List.take_zero, List.nil_append, said_one, ← t2]
      rw [List.take_zero] at he
      have he : s.data.toList = [] := he
      simp [ByteArray.data_append, he]
theorem said_tells (xs : List Int) (h9 : xs.length ≤ 9) (hx : ∀ y ∈ xs, -1 ≤ y ∧ y ≤ 8) (k : Nat) (hk : 30 ≤ k) : spec_l11Said.f k xs = some ⟨(said xs).toArray⟩ := by
  obtain ⟨r, h1, h2⟩ := said_l xs h9 hx xs.length k 0 ⟨#[]⟩ (by omega) (by omega) (by decide) rfl
  unfold spec_l11Said.f
  have h1 : spec_l11Said.l0 k xs ⟨#[]⟩ 0 = some r := h1
  rw [h1, list_bytes r, h2]
theorem itoa_short (n : Int) (hn : -1 ≤ n ∧ n ≤ 8) : (Lib.itoa n).length ≤ 2 := by
  have key : ∀ m : Nat, m < 10 → (Lib.itoa ((m : Int) - 1)).length ≤ 2 := by decide +kernel
  have := key (n + 1).toNat (by omega)
  rw [show ((n + 1).toNat : Int) - 1 = n by omega] at this
  exact this
theorem said_len : ∀ (xs : List Int), (∀ y ∈ xs, -1 ≤ y ∧ y ≤ 8) → (said xs).length ≤ 3 * xs.length
  | [], _ => Nat.zero_le _
  | x :: r, h => by
    unfold said
    rw [List.map_cons, Lib.join_cons, List.length_append]
    have h1 := itoa_short x (h x List.mem_cons_self)
    have h2 : ∀ (r : List Int), (∀ y ∈ r, -1 ≤ y ∧ y ≤ 8) → (Lib.joinTail [32] (r.map Lib.itoa)).length ≤ 3 * r.length := by
      intro r
      induction r with
      | nil => intro _; exact Nat.zero_le _
      | cons z r ih =>
        intro h
        have g1 := itoa_short z (h z List.mem_cons_self)
        have g2 := ih (fun y hy => h y (List.mem_cons_of_mem _ hy))
        unfold Lib.joinTail at g2 ⊢
        rw [List.map_cons, List.map_cons, List.flatten_cons, List.length_append, List.length_append, List.length_cons]
        have h0 : ([] : List UInt8).length = 0 := rfl
        have hz : (z :: r).length = r.length + 1 := rfl
        omega
    have h3 := h2 r (fun y hy => h y (List.mem_cons_of_mem _ hy))
    rw [List.length_cons]
    omega
def proofOf (l : List Int) : ByteArray × Bool := if isBundle l then (⟨(said (firstOf l).1).toArray⟩, true) else (⟨#[]⟩, false)
theorem first_small {l : List Int} (hb : isBundle l) : (firstOf l).2 = true ∧ (firstOf l).1.length ≤ 9 ∧ ∀ y ∈ (firstOf l).1, -1 ≤ y ∧ y ≤ 8 := by
  obtain ⟨x, h1, h2, _⟩ := first_in hb
  have h := mem_all_in hb.1.2.2 h2
  have h9 := hb.1.2.2
  rw [h1]
  exact ⟨rfl, by show x.length ≤ 9; omega, h.2⟩
theorem text_l (xs : List Int) (h9 : xs.length ≤ 9) (hx : ∀ y ∈ xs, -1 ≤ y ∧ y ≤ 8) : ∀ (d k i : Nat) (out : List ByteArray), i + d = xs.length → d + 1 ≤ k → out = (xs.take i).map (fun n => (⟨(Lib.itoa n).toArray⟩ : ByteArray)) →
    impl_numbersText.l0 k (⟨#[32]⟩ : ByteArray) out xs (xs.length : Int) (i : Int) = some ⟨(said xs).toArray⟩ := by
  intro d
  induction d with
  | zero =>
    intro k i out hi hk ho
    obtain ⟨m, rfl⟩ : ∃ m, k = m + 1 := ⟨k - 1, by omega⟩
    rw [List.take_of_length_le (by omega)] at ho
    have e : out.map (·.data.toList) = xs.map Lib.itoa := by
      rw [ho, List.map_map]
      apply List.map_congr_left
      intro n _
      simp
    have hl := said_len xs hx
    have e2 : (⟨#[32]⟩ : ByteArray).data.toList = [32] := rfl
    rw [impl_numbersText.l0, if_neg (by omega)]
    unfold strings_Join.f
    rw [e, e2]
    have e3 : Lib.join (xs.map Lib.itoa) [32] = said xs := rfl
    rw [e3, if_pos ⟨by rw [ho, List.length_map]; omega, by omega⟩, Option.bind_some]
  | succ d ih =>
    intro k i out hi hk ho
    obtain ⟨m, rfl⟩ : ∃ m, k = m + 1 := ⟨k - 1, by omega⟩
    have hil : i < xs.length := by omega
    have h1 := hx _ (List.getElem_mem hil)
    have hol : out.length ≤ 9 := by rw [ho, List.length_map, List.length_take]; omega
    rw [impl_numbersText.l0, if_pos (by omega), if_pos (by omega), if_pos (by omega), rd_at hil, wrap_nat (by omega)]
    unfold strconv_Itoa_27.f
    rw [if_pos (by omega), Option.bind_some, if_pos (by omega)]
    refine ih m (i + 1) _ (by omega) (by omega) ?_
    rw [ho, List.take_succ_eq_append_getElem hil, List.map_append, List.map_cons, List.map_nil]
theorem text_tells (xs : List Int) (h9 : xs.length ≤ 9) (hx : ∀ y ∈ xs, -1 ≤ y ∧ y ≤ 8) (k : Nat) (hk : 30 ≤ k) : impl_numbersText.f k xs (⟨#[32]⟩ : ByteArray) = some ⟨(said xs).toArray⟩ := by
  unfold impl_numbersText.f
  exact text_l xs h9 hx xs.length k 0 [] (by omega) (by omega) rfl
theorem proof_impl (l : List Int) (hl : l.length ≤ 1048576) : ∃ K, ∀ k, K ≤ k → impl_ProofThrees.f k l = some (proofOf l) := by
  obtain ⟨K, g⟩ := first_impl l hl
  refine ⟨K + 100, fun k hk => ?_⟩
  unfold impl_ProofThrees.f proofOf
  rw [g k (by omega), Option.bind_some]
  by_cases hb : isBundle l
  · obtain ⟨h1, h2, h3⟩ := first_small hb
    rw [if_pos h1, text_tells _ h2 h3 k (by omega), Option.bind_some, if_pos hb]
  · have e : firstOf l = ([], false) := by unfold firstOf; rw [if_neg hb]
    rw [e, if_neg (by decide), if_neg hb]
theorem proof_spec (l : List Int) (hl : l.length ≤ 1048576) : ∃ K, ∀ k, K ≤ k → spec_ProofThrees.f k l = some (proofOf l) := by
  by_cases hb : isBundle l
  · obtain ⟨x, r, hg, K, h⟩ := best_tells l hb.1
    obtain ⟨h1, h2, h3⟩ := first_small hb
    have e : firstOf l = (bestOf r x, true) := by unfold firstOf; rw [if_pos hb, hg]
    rw [e] at h2 h3
    refine ⟨K + l.length + 100, fun k hk => ?_⟩
    unfold spec_ProofThrees.f proofOf
    rw [spec_bundle l hl k (by omega), decide_eq_true hb, Option.bind_some, if_pos rfl, h k (by omega), Option.bind_some, said_tells _ h2 h3 k (by omega), Option.bind_some, if_pos hb, e]
  · refine ⟨l.length + 100, fun k hk => ?_⟩
    unfold spec_ProofThrees.f proofOf
    rw [spec_bundle l hl k (by omega), decide_eq_false hb, Option.bind_some, if_neg (by decide), if_neg hb]
/-! ### the reader of draws -/
theorem wrap_id {x : Int} (h0 : -9223372036854775808 ≤ x) (h1 : x ≤ 9223372036854775807) : wrap64 x = x := by unfold wrap64; omega
theorem wf_u8 {l : List Int} (h : ∀ x ∈ l, (Lit.int .u8 x).wf = true) : ∀ x ∈ l, 0 ≤ x ∧ x ≤ 255 := by
  intro x hx
  have := h x hx
  simp [Lit.wf, IntKind.min, IntKind.max, IntKind.bits, IntKind.signed] at this
  omega
theorem rd_u8 {b : List Int} (hb : ∀ x ∈ b, 0 ≤ x ∧ x ≤ 255) (i : Int) (h0 : 0 ≤ i) (h1 : i < b.length) : 0 ≤ rd b i ∧ rd b i ≤ 255 := by
  have hl : i.toNat < b.length := by omega
  have : rd b i = b[i.toNat] := by
    unfold rd
    rw [List.getD_eq_getElem?_getD, List.getElem?_eq_getElem hl]
    rfl
  rw [this]
  exact hb _ (List.getElem_mem hl)
theorem xor_i64 (a b : Nat) (ha : a < 4611686018427387904) (hb : b < 4611686018427387904) : Go.bits .xor .i64 (a : Int) (b : Int) = ((a ^^^ b : Nat) : Int) := by
  have hx : a ^^^ b < 2 ^ 62 := Nat.xor_lt_two_pow (by omega) (by omega)
  have h1 : (BitVec.ofInt 64 (a : Int)).toNat = a := by
    rw [BitVec.ofInt_natCast, BitVec.toNat_ofNat]; exact Nat.mod_eq_of_lt (by omega)
  have h2 : (BitVec.ofInt 64 (b : Int)).toNat = b := by
    rw [BitVec.ofInt_natCast, BitVec.toNat_ofNat]; exact Nat.mod_eq_of_lt (by omega)
  show IntKind.i64.wrap ((BitVec.ofInt 64 (a : Int) ^^^ BitVec.ofInt 64 (b : Int)).toNat : Int) = _
  rw [BitVec.toNat_xor, h1, h2]
  generalize a ^^^ b = c at hx
  simp [IntKind.wrap, IntKind.bits, IntKind.signed]
  omega
theorem tmod_in {x n : Int} (hx : 0 ≤ x) (hn : 1 ≤ n) : 0 ≤ Int.tmod x n ∧ Int.tmod x n < n := by
  rw [Int.tmod_eq_emod_of_nonneg hx]
  exact ⟨Int.emod_nonneg _ (by omega), Int.emod_lt_of_pos _ (by omega)⟩
theorem tdiv_in {x n : Int} (hx : 0 ≤ x) (hn : 1 ≤ n) : 0 ≤ Int.tdiv x n ∧ Int.tdiv x n ≤ x := by
  rw [Int.tdiv_eq_ediv_of_nonneg hx]
  exact ⟨Int.ediv_nonneg hx (by omega), Int.ediv_le_self _ hx⟩
theorem pick_tells (b : List Int) (hb : ∀ x ∈ b, 0 ≤ x ∧ x ≤ 255) (hl : b.length ≤ 2000) (p n : Int) (hp : 0 ≤ p) (hp2 : p ≤ 1000000) (hn : 1 ≤ n) (hn2 : n ≤ 1000000) (k : Nat) (hk : 1 ≤ k) :
    ∃ r, spec_l6Rd_pick.f k b p n = some (r, p + 1) ∧ 0 ≤ r ∧ r < n := by
  obtain ⟨m, rfl⟩ : ∃ m, k = m + 1 := ⟨k - 1, by omega⟩
  unfold spec_l6Rd_pick.f
  have e0 : wrap64 (p + 1) = p + 1 := wrap_id (by omega) (by omega)
  have e1 : wrap64 (p + 1 - 1) = p := by rw [show p + 1 - 1 = p by omega]; exact wrap_id (by omega) (by omega)
  rw [if_neg (by omega), spec_l6Rd_pick.j0, e0, e1]
  by_cases hz : b.length = 0
  · rw [if_pos (by simp [hz])]
    exact ⟨0, rfl, by omega, by omega⟩
  · have hz2 : ((b.length : Int) == 0) = false := by rw [beq_eq_false_iff_ne]; omega
    rw [hz2, if_neg (by decide)]
    by_cases h : p < b.length
    · rw [if_pos h, if_pos hp, if_neg (by omega)]
      have hr := rd_u8 hb p hp h
      rw [wrap_id (x := rd b p) (by omega) (by omega)]
      exact ⟨_, rfl, tmod_in hr.1 hn⟩
    · rw [if_neg h, if_neg (by omega)]
      have hlen : (1 : Int) ≤ b.length := by omega
      have q1 := tmod_in hp hlen
      have e7 : wrap64 (p * 7) = p * 7 := wrap_id (by omega) (by omega)
      have e8 : wrap64 (p * 7 + 3) = p * 7 + 3 := wrap_id (by omega) (by omega)
      rw [e7, e8]
      have q2 := tmod_in (show (0 : Int) ≤ p * 7 + 3 by omega) hlen
      rw [if_pos q1.1, if_pos q1.2, if_pos q2.1, if_pos q2.2, if_neg (by omega)]
      have r1 := rd_u8 hb _ q1.1 q1.2
      have r2 := rd_u8 hb _ q2.1 q2.2
      have q3 := tdiv_in hp hlen
      generalize rd b (Int.tmod p b.length) = x1 at r1
      generalize rd b (Int.tmod (p * 7 + 3) b.length) = x2 at r2
      generalize Int.tdiv p b.length = x3 at q3
      rw [wrap_id (x := x1) (by omega) (by omega), wrap_id (x := x2) (by omega) (by omega), wrap_id (x := x3) (by omega) (by omega), wrap_id (x := x1 * 131) (by omega) (by omega), wrap_id (x := x2 * 1117) (by omega) (by omega),
        wrap_id (x := x1 * 131 + x2 * 1117) (by omega) (by omega), wrap_id (x := p * 29) (by omega) (by omega), wrap_id (x := x1 * 131 + x2 * 1117 + p * 29) (by omega) (by omega), wrap_id (x := x3 * 53) (by omega) (by omega),
        wrap_id (x := x1 * 131 + x2 * 1117 + p * 29 + x3 * 53) (by omega) (by omega)]
      obtain ⟨X, hX⟩ : ∃ X : Nat, x1 * 131 + x2 * 1117 + p * 29 + x3 * 53 = X := ⟨(x1 * 131 + x2 * 1117 + p * 29 + x3 * 53).toNat, by omega⟩
      rw [hX]
      have hXb : X < 1000000000 := by omega
      have q4 := tdiv_in (show (0 : Int) ≤ (X : Int) by omega) (show (1 : Int) ≤ 64 by omega)
      rw [wrap_id (x := Int.tdiv X 64) (by omega) (by omega)]
      obtain ⟨Y, hY⟩ : ∃ Y : Nat, Int.tdiv X 64 = Y := ⟨(Int.tdiv X 64).toNat, by omega⟩
      rw [hY, xor_i64 X Y (by omega) (by omega)]
      exact ⟨_, rfl, tmod_in (by omega) hn⟩
/-- The bytes that the reader takes. -/
theorem open_tells (l : List Int) (h : ∀ x ∈ l, 0 ≤ x ∧ x ≤ 255) : ∃ b, spec_l6Open.f l = some (b, 0) ∧ b.length ≤ 2000 ∧ ∀ x ∈ b, 0 ≤ x ∧ x ≤ 255 := by
  unfold spec_l6Open.f
  by_cases hl : (l.length : Int) > 2000
  · rw [if_pos hl, if_pos (by omega)]
    exact ⟨_, rfl, by rw [List.length_take]; omega, fun x hx => h x (List.mem_of_mem_take hx)⟩
  · rw [if_neg hl]
    exact ⟨_, rfl, by omega, h⟩
/-! ### spec.l1Sort: the same numbers -/
theorem sort_l1 (a out : List Int) (i : Int) (hl : out.length ≤ 1000) : ∀ (j k : Nat), j ≤ out.length → j + 1 ≤ k → ∃ j' : Nat, spec_l1Sort.l1 k a out i (j : Int) = some (j' : Int) ∧ j' ≤ j := by
  intro j
  induction j with
  | zero =>
    intro k h1 h2
    obtain ⟨m, rfl⟩ : ∃ m, k = m + 1 := ⟨k - 1, by omega⟩
    rw [spec_l1Sort.l1, if_neg (by omega)]
    exact ⟨0, rfl, Nat.le_refl _⟩
  | succ j ih =>
    intro k h1 h2
    obtain ⟨m, rfl⟩ : ∃ m, k = m + 1 := ⟨k - 1, by omega⟩
    rw [spec_l1Sort.l1, if_pos (by omega), show wrap64 (((j + 1 : Nat) : Int) - 1) = (j : Int) by unfold wrap64; omega, if_pos (by omega), if_pos (by omega)]
    split
    · obtain ⟨j', h3, h4⟩ := ih m (by omega) (by omega)
      exact ⟨j', h3, by omega⟩
    · exact ⟨j + 1, rfl, Nat.le_refl _⟩
theorem take_grow (a : List Int) (i : Nat) (h : i < a.length) : a.take (i + 1) = a.take i ++ [rd a (i : Int)] := by
  rw [List.take_succ_eq_append_getElem h]
  congr 2
  unfold rd
  rw [List.getD_eq_getElem?_getD, Int.toNat_natCast, List.getElem?_eq_getElem h]
  rfl
theorem sort_l0 (a : List Int) (hl : a.length ≤ 900) : ∀ (d k i : Nat) (out : List Int), i + d = a.length → out.length = i → a.length + d + 2 ≤ k → out.Perm (a.take i) → ∃ r, spec_l1Sort.l0 k a out (i : Int) = some r ∧ r.Perm a := by
  intro d
  induction d with
  | zero =>
    intro k i out h1 h2 h3 h4
    obtain ⟨m, rfl⟩ : ∃ m, k = m + 1 := ⟨k - 1, by omega⟩
    rw [spec_l1Sort.l0, if_neg (by omega)]
    exact ⟨out, rfl, by rw [List.take_of_length_le (by omega)] at h4; exact h4⟩
  | succ d ih =>
    intro k i out h1 h2 h3 h4
    obtain ⟨m, rfl⟩ : ∃ m, k = m + 1 := ⟨k - 1, by omega⟩
    rw [spec_l1Sort.l0, if_pos (by omega), if_pos (by omega)]
    obtain ⟨j, h5, h6⟩ := sort_l1 a out i (by omega) out.length m (Nat.le_refl _) (by omega)
    rw [h5]
    simp only [Option.bind_some]
    rw [if_pos (by omega), if_pos (by omega), if_pos (by omega), show wrap64 ((i : Int) + 1) = ((i + 1 : Nat) : Int) by unfold wrap64; omega]
    refine ih m (i + 1) _ (by omega) ?_ (by omega) ?_
    · rw [Int.toNat_natCast]
      simp only [List.length_append, List.length_take, List.length_drop, List.length_nil, List.length_cons]
      omega
    · rw [Int.toNat_natCast, List.nil_append, take_grow a i (by omega)]
      refine List.Perm.trans (List.perm_append_right_iff _ |>.mpr List.perm_append_comm) ?_
      rw [List.append_assoc, List.take_append_drop]
      exact List.perm_append_comm.trans (h4.append_right _)
theorem sort_tells (a : List Int) (hl : a.length ≤ 900) (k : Nat) (hk : 2 * a.length + 2 ≤ k) : ∃ r, spec_l1Sort.f k a = some r ∧ r.Perm a := by
  unfold spec_l1Sort.f
  exact sort_l0 a hl a.length k 0 [] (by omega) rfl (by omega) (by simp)
/-! ### a bundle that is drawn -/
theorem length_draw (b : List Int) (hb : ∀ x ∈ b, 0 ≤ x ∧ x ≤ 255) (hl : b.length ≤ 2000) (p : Int) (hp : 0 ≤ p) (hp2 : p ≤ 900000) (k : Nat) (hk : 1 ≤ k) :
    ∃ r q, spec_l91Length.f k b p = some (r, q) ∧ p ≤ q ∧ q ≤ p + 3 := by
  unfold spec_l91Length.f
  obtain ⟨r1, h1, _⟩ := pick_tells b hb hl p 12 hp (by omega) (by omega) (by omega) k hk
  obtain ⟨r2, h2, _⟩ := pick_tells b hb hl (p + 1) 6 (by omega) (by omega) (by omega) (by omega) k hk
  obtain ⟨r3, h3, _⟩ := pick_tells b hb hl (p + 1 + 1) 48 (by omega) (by omega) (by omega) (by omega) k hk
  rw [h1]
  simp only [Option.bind_some]
  rw [h2]
  simp only [Option.bind_some]
  rw [h3]
  simp only [Option.bind_some]
  exact ⟨_, _, rfl, by omega, by omega⟩
theorem sticks_draw_l (b : List Int) (hb : ∀ x ∈ b, 0 ≤ x ∧ x ≤ 255) (hl : b.length ≤ 2000) (n : Nat) (hn9 : n ≤ 9) : ∀ (d k i : Nat) (out : List Int) (p : Int), i + d = n → d + 30 ≤ k → out.length = i → 0 ≤ p → p ≤ 1000 + 3 * i →
    ∃ a q, spec_l91Sticks.l0 k (n : Int) out (i : Int) b p = some (a, q) ∧ a.length ≤ n + 1 ∧ 0 ≤ q ∧ q ≤ 1003 + 3 * n := by
  intro d
  induction d with
  | zero =>
    intro k i out p hi hk ho hp hp2
    obtain ⟨m, rfl⟩ : ∃ m, k = m + 1 := ⟨k - 1, by omega⟩
    rw [spec_l91Sticks.l0, if_neg (by omega)]
    obtain ⟨r, g1, g2⟩ := sort_tells out (by omega) m (by omega)
    have g3 := g2.length_eq
    rw [g1]
    simp only [Option.bind_some]
    obtain ⟨r1, h1, _⟩ := pick_tells b hb hl p 40 hp (by omega) (by omega) (by omega) m (by omega)
    rw [h1]
    simp only [Option.bind_some]
    split
    · rw [if_pos (by omega)]
      exact ⟨_, _, rfl, by rw [List.length_append]; simp; omega, by omega, by omega⟩
    · split
      · rw [if_pos (by simp; omega)]
        exact ⟨_, _, rfl, by rw [List.length_append]; simp; omega, by omega, by omega⟩
      · exact ⟨_, _, rfl, by omega, by omega, by omega⟩
  | succ d ih =>
    intro k i out p hi hk ho hp hp2
    obtain ⟨m, rfl⟩ : ∃ m, k = m + 1 := ⟨k - 1, by omega⟩
    rw [spec_l91Sticks.l0, if_pos (by omega)]
    obtain ⟨r, q, h1, h2, h3⟩ := length_draw b hb hl p hp (by omega) m (by omega)
    rw [h1]
    simp only [Option.bind_some]
    rw [if_pos (by omega), show wrap64 ((i : Int) + 1) = ((i + 1 : Nat) : Int) by unfold wrap64; omega]
    exact ih m (i + 1) _ q (by omega) (by omega) (by rw [List.length_append]; simp; omega) (by omega) (by omega)
theorem bundle_draw (b : List Int) (hb : ∀ x ∈ b, 0 ≤ x ∧ x ≤ 255) (hl : b.length ≤ 2000) (k : Nat) (hk : 60 ≤ k) :
    ∃ a q, spec_l91Bundle.f k b 0 = some (a, q) ∧ a.length ≤ 10 ∧ 0 ≤ q ∧ q ≤ 1100 := by
  unfold spec_l91Bundle.f
  obtain ⟨r, h, g1, g2⟩ := pick_tells b hb hl 0 9 (by omega) (by omega) (by omega) (by omega) k (by omega)
  rw [h]
  simp only [Option.bind_some]
  obtain ⟨n, hn⟩ : ∃ n : Nat, r = n := ⟨r.toNat, by omega⟩
  subst hn
  unfold spec_l91Sticks.f
  rw [show wrap64 (1 + (n : Int)) = ((n + 1 : Nat) : Int) by unfold wrap64; omega]
  obtain ⟨a, q, h1, h2, h3, h4⟩ := sticks_draw_l b hb hl (n + 1) (by omega) (n + 1) k 0 [] (0 + 1) (by omega) (by omega) rfl (by omega) (by omega)
  have h1 : spec_l91Sticks.l0 k ((n + 1 : Nat) : Int) [] 0 b (0 + 1) = some (a, q) := h1
  rw [h1]
  exact ⟨a, q, rfl, by omega, h3, by omega⟩
/-! ### a bundle to part, drawn -/
theorem bundle_draw_at (b : List Int) (hb : ∀ x ∈ b, 0 ≤ x ∧ x ≤ 255) (hl : b.length ≤ 2000) (p : Int) (hp : 0 ≤ p) (hp2 : p ≤ 900) (k : Nat) (hk : 60 ≤ k) :
    ∃ a q, spec_l91Bundle.f k b p = some (a, q) ∧ a.length ≤ 10 ∧ 0 ≤ q ∧ q ≤ 5000 := by
  unfold spec_l91Bundle.f
  obtain ⟨r, h, g1, g2⟩ := pick_tells b hb hl p 9 (by omega) (by omega) (by omega) (by omega) k (by omega)
  rw [h]
  simp only [Option.bind_some]
  obtain ⟨n, hn⟩ : ∃ n : Nat, r = n := ⟨r.toNat, by omega⟩
  subst hn
  unfold spec_l91Sticks.f
  rw [show wrap64 (1 + (n : Int)) = ((n + 1 : Nat) : Int) by unfold wrap64; omega]
  obtain ⟨a, q, h1, h2, h3, h4⟩ := sticks_draw_l b hb hl (n + 1) (by omega) (n + 1) k 0 [] (p + 1) (by omega) (by omega) rfl (by omega) (by omega)
  have h1 : spec_l91Sticks.l0 k ((n + 1 : Nat) : Int) [] 0 b (p + 1) = some (a, q) := h1
  rw [h1]
  exact ⟨a, q, rfl, by omega, h3, by omega⟩
theorem few_l (b : List Int) (hb : ∀ x ∈ b, 0 ≤ x ∧ x ≤ 255) (hl : b.length ≤ 2000) (n : Nat) (hn9 : n ≤ 9) : ∀ (d k i : Nat) (out : List Int) (p : Int), i + d = n → d + 30 ≤ k → out.length = i → 0 ≤ p → p ≤ 1000 + i →
    ∃ a q, spec_l92Few.l0 k out (n : Int) (i : Int) b p = some (a, q) ∧ a.length ≤ 10 ∧ 0 ≤ q ∧ q ≤ 5000 := by
  intro d
  induction d with
  | zero =>
    intro k i out p hi hk ho hp hp2
    obtain ⟨m, rfl⟩ : ∃ m, k = m + 1 := ⟨k - 1, by omega⟩
    rw [spec_l92Few.l0, if_neg (by omega)]
    obtain ⟨r, g1, g2⟩ := sort_tells out (by omega) m (by omega)
    have g3 := g2.length_eq
    rw [g1]
    exact ⟨r, p, rfl, by omega, by omega, by omega⟩
  | succ d ih =>
    intro k i out p hi hk ho hp hp2
    obtain ⟨m, rfl⟩ : ∃ m, k = m + 1 := ⟨k - 1, by omega⟩
    rw [spec_l92Few.l0, if_pos (by omega)]
    obtain ⟨r, h1, h2, h3⟩ := pick_tells b hb hl p 6 hp (by omega) (by omega) (by omega) m (by omega)
    rw [h1]
    simp only [Option.bind_some]
    rw [if_pos (by omega), show wrap64 ((i : Int) + 1) = ((i + 1 : Nat) : Int) by unfold wrap64; omega]
    exact ih m (i + 1) _ (p + 1) (by omega) (by omega) (by rw [List.length_append]; simp; omega) (by omega) (by omega)
theorem few_j (b : List Int) (hb : ∀ x ∈ b, 0 ≤ x ∧ x ≤ 255) (hl : b.length ≤ 2000) (n : Int) (h0 : 0 ≤ n) (hn9 : n ≤ 9) (k : Nat) (hk : 60 ≤ k) (p : Int) (hp : 0 ≤ p) (hp2 : p ≤ 100) :
    ∃ a q, spec_l92Few.j0 k [] n b p = some (a, q) ∧ a.length ≤ 10 ∧ 0 ≤ q ∧ q ≤ 5000 := by
  obtain ⟨m, rfl⟩ : ∃ m, k = m + 1 := ⟨k - 1, by omega⟩
  obtain ⟨n, rfl⟩ : ∃ j : Nat, n = j := ⟨n.toNat, by omega⟩
  rw [spec_l92Few.j0]
  exact few_l b hb hl n (by omega) n m 0 [] p (by omega) (by omega) rfl hp (by omega)
theorem few_tells (b : List Int) (hb : ∀ x ∈ b, 0 ≤ x ∧ x ≤ 255) (hl : b.length ≤ 2000) (k : Nat) (hk : 60 ≤ k) : ∃ a q, spec_l92Few.f k b 0 = some (a, q) ∧ a.length ≤ 10 ∧ 0 ≤ q ∧ q ≤ 5000 := by
  unfold spec_l92Few.f
  obtain ⟨r0, h0, _⟩ := pick_tells b hb hl 0 3 (by omega) (by omega) (by omega) (by omega) k (by omega)
  rw [h0]
  simp only [Option.bind_some]
  split
  · obtain ⟨a, q, h1, h2⟩ := bundle_draw_at b hb hl (0 + 1) (by omega) (by omega) k hk
    rw [h1]
    exact ⟨a, q, rfl, h2⟩
  · obtain ⟨r1, h1, g1, g2⟩ := pick_tells b hb hl (0 + 1) 3 (by omega) (by omega) (by omega) (by omega) k (by omega)
    obtain ⟨r2, h2, _⟩ := pick_tells b hb hl (0 + 1 + 1) 4 (by omega) (by omega) (by omega) (by omega) k (by omega)
    rw [h1]
    simp only [Option.bind_some]
    rw [h2]
    simp only [Option.bind_some]
    split
    · obtain ⟨r3, h3, g3, g4⟩ := pick_tells b hb hl (0 + 1 + 1 + 1) 9 (by omega) (by omega) (by omega) (by omega) k (by omega)
      rw [h3]
      simp only [Option.bind_some]
      exact few_j b hb hl _ (by unfold wrap64; omega) (by unfold wrap64; omega) k hk _ (by omega) (by omega)
    · rw [show wrap64 (1 + r1) = 1 + r1 by unfold wrap64; omega, show wrap64 (3 * (1 + r1)) = 3 * (1 + r1) by unfold wrap64; omega]
      exact few_j b hb hl _ (by omega) (by omega) k hk _ (by omega) (by omega)
theorem parted_tells (l : List Int) (hb : ∀ x ∈ l, 0 ≤ x ∧ x ≤ 255) (k : Nat) (hk : 60 ≤ k) : ∃ a, spec_l92Parted.f k l = some a ∧ a.length ≤ 10 := by
  unfold spec_l92Parted.f
  obtain ⟨b, h1, h2, h3⟩ := open_tells l hb
  rw [h1]
  simp only [Option.bind_some]
  obtain ⟨a, q, h4, h5⟩ := few_tells b h3 h2 k hk
  rw [h4]
  exact ⟨a, rfl, h5.1⟩
theorem parted_same (l : List Int) (hb : ∀ x ∈ l, 0 ≤ x ∧ x ≤ 255) : ∃ a, (∀ k, 60 ≤ k → spec_l92Parted.f k l = some a) ∧ a.length ≤ 10 := by
  obtain ⟨a, h1, h2⟩ := parted_tells l hb 60 (Nat.le_refl _)
  exact ⟨a, fun k hk => at_rounds (fun k => spec_l92Parted.mono l k) hk h1, h2⟩
/-! ### a text, cut at its spaces -/
def cut : List UInt8 → List (List UInt8)
  | [] => [[]]
  | b :: r => if b = 32 then [] :: cut r else (match cut r with
    | [] => [[b]]
    | q :: qs => (b :: q) :: qs)
theorem cut_ne : ∀ s, cut s ≠ []
  | [] => by simp [cut]
  | b :: r => by
    unfold cut
    split
    · simp
    · split <;> simp
theorem cut_space (r : List UInt8) : cut (32 :: r) = [] :: cut r := by
  rw [cut, if_pos rfl]
theorem cut_head {b : UInt8} (r : List UInt8) (hb : b ≠ 32) : ∃ q qs, cut r = q :: qs ∧ cut (b :: r) = (b :: q) :: qs := by
  cases h : cut r with
  | nil => exact absurd h (cut_ne r)
  | cons q qs => exact ⟨q, qs, rfl, by rw [cut, if_neg hb, h]⟩
theorem splitK_ne : ∀ (k : Nat) (s : List UInt8), Lib.splitK [32] 0 k s ≠ []
  | 0, s => by simp [Lib.splitK]
  | k + 1, s => by
    unfold Lib.splitK
    split <;> simp
theorem splitK_head {b : UInt8} (hb : b ≠ 32) (r : List UInt8) : ∀ k, ∃ q qs, Lib.splitK [32] 0 k r = q :: qs ∧ Lib.splitK [32] 0 k (b :: r) = (b :: q) :: qs
  | 0 => ⟨r, [], rfl, rfl⟩
  | k + 1 => by
    have hi : Lib.index (b :: r) [32] = if Lib.index r [32] == -1 then -1 else Lib.index r [32] + 1 := by
      rw [Lib.index, if_neg (by simp [List.isPrefixOf]; exact fun h => hb h.symm)]
    unfold Lib.splitK
    by_cases h : Lib.index r [32] = -1
    · rw [hi, h]
      exact ⟨r, [], by simp, by simp⟩
    · have hge : -1 ≤ Lib.index r [32] := by
        rw [Lib.index_one]
        exact Lib.indexByte_ge _ _
      obtain ⟨i, e⟩ : ∃ i : Nat, Lib.index r [32] = (i : Int) := ⟨(Lib.index r [32]).toNat, by omega⟩
      have h1 : (Lib.index r [32] == -1) = false := beq_eq_false_iff_ne.mpr h
      have h2 : (Lib.index (b :: r) [32] == -1) = false := by
        rw [hi, h1, e]
        exact beq_eq_false_iff_ne.mpr (by simp; omega)
      have h3 : Lib.index (b :: r) [32] = ((i + 1 : Nat) : Int) := by rw [hi, h1, e]; simp
      rw [h1, h2, h3, e]
      refine ⟨_, _, rfl, ?_⟩
      simp only [Int.toNat_natCast, Nat.add_zero]
      rfl
theorem split_cut : ∀ s : List UInt8, Lib.splitK [32] 0 (s.count 32) s = cut s
  | [] => rfl
  | b :: r => by
    by_cases hb : b = 32
    · subst hb
      rw [cut_space, ← split_cut r, List.count_cons_self]
      have h0 : Lib.index (32 :: r) [32] = 0 := by rw [Lib.index, if_pos (by simp [List.isPrefixOf])]
      conv => lhs; unfold Lib.splitK
      rw [h0]
      rfl
    · rw [List.count_cons_of_ne hb]
      obtain ⟨q, qs, h1, h2⟩ := splitK_head hb r (r.count 32)
      obtain ⟨q', qs', h3, h4⟩ := cut_head r hb
      rw [split_cut r, h3] at h1
      injection h1 with e1 e2
      rw [h2, h4, e1, e2]
theorem join_cut : ∀ s : List UInt8, Lib.join (cut s) [32] = s
  | [] => rfl
  | b :: r => by
    have ih := join_cut r
    by_cases hb : b = 32
    · subst hb
      rw [cut_space]
      cases h : cut r with
      | nil => exact absurd h (cut_ne r)
      | cons q qs =>
        rw [h, Lib.join_cons] at ih
        rw [Lib.join_cons, List.nil_append]
        unfold Lib.joinTail at ih ⊢
        rw [List.map_cons, List.flatten_cons, List.append_assoc, ih]
        rfl
    · obtain ⟨q, qs, h1, h2⟩ := cut_head r hb
      rw [h1, Lib.join_cons] at ih
      rw [h2, Lib.join_cons, List.cons_append, ih]
theorem cut_app : ∀ (x : List UInt8), (∀ b ∈ x, b ≠ 32) → ∀ t, cut (x ++ 32 :: t) = x :: cut t
  | [], _, t => cut_space t
  | b :: x, h, t => by
    obtain ⟨q, qs, h1, h2⟩ := cut_head (x ++ 32 :: t) (h b (List.mem_cons_self ..))
    rw [cut_app x (fun c hc => h c (List.mem_cons_of_mem _ hc)) t] at h1
    injection h1 with e1 e2
    rw [List.cons_append, h2, e1, e2]
theorem cut_one : ∀ (x : List UInt8), (∀ b ∈ x, b ≠ 32) → cut x = [x]
  | [], _ => rfl
  | b :: x, h => by
    obtain ⟨q, qs, h1, h2⟩ := cut_head x (h b (List.mem_cons_self ..))
    rw [cut_one x (fun c hc => h c (List.mem_cons_of_mem _ hc))] at h1
    injection h1 with e1 e2
    rw [h2, ← e1, ← e2]
theorem cut_join : ∀ (r : List (List UInt8)) (x : List UInt8), (∀ q ∈ x :: r, ∀ b ∈ q, b ≠ 32) → cut (Lib.join (x :: r) [32]) = x :: r
  | [], x, h => by
    rw [Lib.join_one]
    exact cut_one x (h x (List.mem_cons_self ..))
  | y :: r, x, h => by
    have e : Lib.join (x :: y :: r) [32] = x ++ 32 :: Lib.join (y :: r) [32] := by
      rw [Lib.join_cons, Lib.join_cons]
      unfold Lib.joinTail
      rw [List.map_cons, List.flatten_cons, List.append_assoc]
      rfl
    rw [e, cut_app x (h x (List.mem_cons_self ..)), cut_join r y (fun q hq => h q (List.mem_cons_of_mem _ hq))]
/-- The numbers that the reference reads. -/
def tok (p : List UInt8) : Option Int := if p = [45, 49] then some (-1) else if p = [48] then some 0 else if p = [49] then some 1 else if p = [50] then some 2 else none
def toks : List (List UInt8) → Option (List Int)
  | [] => some []
  | p :: r => (tok p).bind fun n => (toks r).bind fun ns => some (n :: ns)
theorem tok_some {p : List UInt8} {n : Int} (h : tok p = some n) : -1 ≤ n ∧ n ≤ 2 ∧ p = Lib.itoa n := by
  unfold tok at h
  split at h
  · next e => obtain rfl := Option.some.inj h; exact ⟨by decide, by decide, by rw [e]; decide +kernel⟩
  · split at h
    · next e => obtain rfl := Option.some.inj h; exact ⟨by decide, by decide, by rw [e]; decide +kernel⟩
    · split at h
      · next e => obtain rfl := Option.some.inj h; exact ⟨by decide, by decide, by rw [e]; decide +kernel⟩
      · split at h
        · next e => obtain rfl := Option.some.inj h; exact ⟨by decide, by decide, by rw [e]; decide +kernel⟩
        · cases h
theorem itoa_four {n : Int} (h : -1 ≤ n ∧ n ≤ 2) : tok (Lib.itoa n) = some n ∧ (∀ b ∈ Lib.itoa n, b ≠ 32) ∧ Lib.atoiAll (Lib.itoa n) = .ok n := by
  have hn : n = -1 ∨ n = 0 ∨ n = 1 ∨ n = 2 := by omega
  rcases hn with rfl | rfl | rfl | rfl
  · rw [show Lib.itoa (-1) = [45, 49] by decide +kernel]; exact ⟨by decide, by decide, by decide +kernel⟩
  · rw [show Lib.itoa 0 = [48] by decide +kernel]; exact ⟨by decide, by decide, by decide +kernel⟩
  · rw [show Lib.itoa 1 = [49] by decide +kernel]; exact ⟨by decide, by decide, by decide +kernel⟩
  · rw [show Lib.itoa 2 = [50] by decide +kernel]; exact ⟨by decide, by decide, by decide +kernel⟩
theorem toks_some : ∀ (ps : List (List UInt8)) (ns : List Int), toks ps = some ns → ps = ns.map Lib.itoa ∧ ∀ n ∈ ns, -1 ≤ n ∧ n ≤ 2
  | [], ns, h => by
    obtain rfl := Option.some.inj h
    exact ⟨rfl, by simp⟩
  | p :: r, ns, h => by
    rw [toks] at h
    obtain ⟨n, h1, h⟩ := Option.bind_eq_some_iff.mp h
    obtain ⟨ms, h2, h⟩ := Option.bind_eq_some_iff.mp h
    obtain rfl := Option.some.inj h
    obtain ⟨a, b, c⟩ := tok_some h1
    obtain ⟨d, e⟩ := toks_some r ms h2
    refine ⟨by rw [List.map_cons, ← c, ← d], ?_⟩
    intro m hm
    rcases List.mem_cons.mp hm with rfl | hm
    · exact ⟨a, b⟩
    · exact e m hm
theorem toks_itoa : ∀ (ns : List Int), (∀ n ∈ ns, -1 ≤ n ∧ n ≤ 2) → toks (ns.map Lib.itoa) = some ns
  | [], _ => rfl
  | n :: ns, h => by
    rw [List.map_cons, toks, (itoa_four (h n (List.mem_cons_self ..))).1, Option.bind_some, toks_itoa ns (fun m hm => h m (List.mem_cons_of_mem _ hm)), Option.bind_some]
def readOf (s : List UInt8) : Option (List Int) := toks (cut s)
theorem cut_itoas {ns : List Int} (hn : ns ≠ []) (h : ∀ n ∈ ns, -1 ≤ n ∧ n ≤ 2) : cut (Lib.join (ns.map Lib.itoa) [32]) = ns.map Lib.itoa := by
  cases ns with
  | nil => exact absurd rfl hn
  | cons x r =>
    rw [List.map_cons]
    refine cut_join _ _ ?_
    intro q hq
    rw [← List.map_cons, List.mem_map] at hq
    obtain ⟨m, hm, rfl⟩ := hq
    exact (itoa_four (h m hm)).2.1
/-! ### proofs of threes, read -/
theorem all_two {a xs : List Int} (h9 : a.length ≤ 9) (h : xs ∈ genAll a) : ∀ y ∈ xs, -1 ≤ y ∧ y ≤ 2 := by
  obtain ⟨m, hm, _, _, h3⟩ := thr_third h
  intro y hy
  have := rg_in xs 0 m hm y hy
  omega
def threesIs (l : List Int) (s : ByteArray) : Int × Bool := match readOf s.data.toList with
  | none => (0, false)
  | some xs => if isOf l xs = true then (thr xs, true) else (0, false)
theorem lens_ge : ∀ qs : List (List UInt8), (∀ q ∈ qs, 1 ≤ q.length) → qs.length ≤ Lib.lens qs
  | [], _ => by simp
  | q :: qs, h => by
    have h1 := lens_ge qs (fun x hx => h x (List.mem_cons_of_mem _ hx))
    have h2 := h q (List.mem_cons_self ..)
    unfold Lib.lens at h1 ⊢
    rw [List.map_cons, List.sum_cons, List.length_cons]
    omega
theorem read_ne {t : List UInt8} {xs : List Int} (h : readOf t = some xs) : xs ≠ [] ∧ (∀ n ∈ xs, -1 ≤ n ∧ n ≤ 2) ∧ cut t = xs.map Lib.itoa ∧ xs.length ≤ t.length := by
  obtain ⟨h1, h2⟩ := toks_some _ _ h
  refine ⟨?_, h2, h1, ?_⟩
  · rintro rfl
    exact cut_ne t h1
  · have hj := join_cut t
    rw [h1] at hj
    cases xs with
    | nil => simp
    | cons x r =>
      have hl := congrArg List.length hj
      rw [List.map_cons, Lib.join_length] at hl
      have hg := lens_ge ((x :: r).map Lib.itoa) (fun q hq => by
        obtain ⟨m, hm, rfl⟩ := List.mem_map.mp hq
        obtain ⟨_, _, _⟩ := itoa_four (h2 m hm)
        have hn : m = -1 ∨ m = 0 ∨ m = 1 ∨ m = 2 := by have := h2 m hm; omega
        rcases hn with rfl | rfl | rfl | rfl <;> decide +kernel)
      rw [List.length_map, List.map_cons] at hg
      omega
theorem is_true {a xs : List Int} (h : isOf a xs = true) : isBundle a ∧ xs.length = a.length ∧ xs ∈ genAll a := of_decide_eq_true h
/-! the program's reading -/
def loopOf (l : List Int) : List ByteArray → List Int → Option (List Int)
  | [], acc => some acc
  | p :: r, acc => match impl_ProofThreesIs.num p with
    | none => none
    | some n => if (⟨(Lib.itoa n).toArray⟩ : ByteArray) = p then (if (acc.length : Int) > (l.length : Int) then none else loopOf l r (acc ++ [n])) else none
theorem loop_l (l : List Int) (hl : l.length ≤ 900) (ps : List ByteArray) (hp : ps.length ≤ 4194304) : ∀ (d k i : Nat) (acc : List Int), i + d = ps.length → d + 1 ≤ k → impl_ProofThreesIs.l0 k l ps acc (i : Int) = some (loopOf l (ps.drop i) acc) := by
  intro d
  induction d with
  | zero =>
    intro k i acc hi hk
    obtain ⟨m, rfl⟩ : ∃ m, k = m + 1 := ⟨k - 1, by omega⟩
    rw [impl_ProofThreesIs.l0, if_neg (by omega), List.drop_eq_nil_of_le (by omega)]
    rfl
  | succ d ih =>
    intro k i acc hi hk
    obtain ⟨m, rfl⟩ : ∃ m, k = m + 1 := ⟨k - 1, by omega⟩
    have hil : i < ps.length := by omega
    have hr : rdOf ByteArray.empty ps (i : Int) = ps[i] := by simp [rdOf, hil]
    rw [impl_ProofThreesIs.l0, if_pos (by omega), if_pos (by omega), hr, List.drop_eq_getElem_cons hil, loopOf]
    cases hn : impl_ProofThreesIs.num ps[i] with
    | none => rfl
    | some n =>
      dsimp only
      by_cases c1 : (⟨(Lib.itoa n).toArray⟩ : ByteArray) = ps[i]
      · rw [if_pos c1, if_pos c1]
        by_cases c2 : (acc.length : Int) > (l.length : Int)
        · rw [if_pos c2, if_pos c2]
        · rw [if_neg c2, if_neg c2, if_pos (by omega), wrap_nat (by omega)]
          exact ih m (i + 1) _ (by omega) (by omega)
      · rw [if_neg c1, if_neg c1]
theorem loop_some (l : List Int) : ∀ (ps : List ByteArray) (acc xs : List Int), loopOf l ps acc = some xs → acc.length ≤ l.length + 1 → (∃ ys, xs = acc ++ ys ∧ ps.map (·.data.toList) = ys.map Lib.itoa) ∧ xs.length ≤ l.length + 1
  | [], acc, xs, h, ha => by
    obtain rfl := Option.some.inj h
    exact ⟨⟨[], by simp, rfl⟩, ha⟩
  | p :: r, acc, xs, h, ha => by
    rw [loopOf] at h
    split at h
    · cases h
    · next n hn =>
      split at h
      · next c1 =>
        split at h
        · cases h
        · next c2 =>
          obtain ⟨⟨ys, h1, h2⟩, h3⟩ := loop_some l r _ xs h (by rw [List.length_append, List.length_singleton]; omega)
          refine ⟨⟨n :: ys, by rw [h1, List.append_assoc]; rfl, ?_⟩, h3⟩
          rw [List.map_cons, List.map_cons, h2, ← c1]
      · cases h
theorem loop_back (l : List Int) : ∀ (ps : List ByteArray) (acc ys : List Int), ps.map (·.data.toList) = ys.map Lib.itoa → (∀ n ∈ ys, -1 ≤ n ∧ n ≤ 2) → acc.length + ys.length ≤ l.length → loopOf l ps acc = some (acc ++ ys)
  | [], acc, ys, h, _, _ => by
    cases ys with
    | nil => rw [loopOf, List.append_nil]
    | cons y ys => simp at h
  | p :: r, acc, ys, h, hy, hl => by
    cases ys with
    | nil => simp at h
    | cons n ys =>
      rw [List.map_cons, List.map_cons] at h
      injection h with h1 h2
      obtain ⟨_, _, h3⟩ := itoa_four (hy n (List.mem_cons_self ..))
      have hn : impl_ProofThreesIs.num p = some n := by
        unfold impl_ProofThreesIs.num
        rw [h1, h3]
      rw [List.length_cons] at hl
      rw [loopOf, hn]
      dsimp only
      rw [if_pos (bytes_eq (show Lib.itoa n = p.data.toList from h1.symm)), if_neg (by omega), loop_back l r (acc ++ [n]) ys h2 (fun m hm => hy m (List.mem_cons_of_mem _ hm)) (by rw [List.length_append, List.length_singleton]; omega), List.append_assoc]
      rfl
theorem cut_size : ∀ (s : List UInt8), (cut s).length ≤ s.length + 1 ∧ ∀ q ∈ cut s, q.length ≤ s.length
  | [] => by simp [cut]
  | b :: r => by
    obtain ⟨h1, h2⟩ := cut_size r
    by_cases hb : b = 32
    · subst hb
      rw [cut_space, List.length_cons, List.length_cons]
      refine ⟨by omega, fun q hq => ?_⟩
      rcases List.mem_cons.mp hq with rfl | hq
      · simp
      · have := h2 q hq
        omega
    · obtain ⟨q, qs, e1, e2⟩ := cut_head r hb
      rw [e1, List.length_cons] at h1
      rw [e2, List.length_cons, List.length_cons]
      refine ⟨by omega, fun x hx => ?_⟩
      rcases List.mem_cons.mp hx with rfl | hx
      · have := h2 q (by rw [e1]; exact List.mem_cons_self ..)
        rw [List.length_cons]
        omega
      · have := h2 x (by rw [e1]; exact List.mem_cons_of_mem _ hx)
        omega
theorem split_tells (s : ByteArray) (hs : s.size ≤ 1048577) : ∃ ps, strings_Split.f s (⟨#[32]⟩ : ByteArray) = some ps ∧ ps.map (·.data.toList) = cut s.data.toList := by
  refine ⟨Lib.splitB ⟨#[32]⟩ 0 (Lib.countB s ⟨#[32]⟩) s, ?_, ?_⟩
  · unfold strings_Split.f
    rw [if_pos ⟨rfl, by omega⟩]
  · rw [Lib.splitB_data]
    show Lib.splitK [32] 0 (Lib.count s.data.toList [32]) s.data.toList = _
    rw [Lib.count_one, split_cut]
theorem is_impl_threes (l : List Int) (s : ByteArray) (hl : l.length ≤ 1048576) (hs : s.size ≤ 1048576) : ∃ K, ∀ k, K ≤ k → impl_ProofThreesIs.f k l s = some (threesIs l s) := by
  by_cases hb : isBundle l
  · have h9 : l.length ≤ 9 := hb.1.2.2
    have h1 : 1 ≤ l.length := hb.1.2.1
    obtain ⟨ps, p1, p2⟩ := split_tells s (by omega)
    have hsz : s.data.toList.length = s.size := by simp
    have c1 := cut_size s.data.toList
    have hpl : ps.length = (cut s.data.toList).length := by rw [← p2, List.length_map]
    have hps : ∀ p ∈ ps, p.size ≤ 4194304 := by
      intro p hp
      have h := c1.2 p.data.toList (by rw [← p2]; exact List.mem_map_of_mem hp)
      have : p.data.toList.length = p.size := by simp
      omega
    have hloop := fun k (hk : ps.length + 1 ≤ k) => loop_l l (by omega) ps (by omega) ps.length k 0 [] (by omega) hk
    rw [List.drop_zero] at hloop
    cases ho : loopOf l ps [] with
    | none =>
      rw [ho] at hloop
      refine ⟨ps.length + l.length + 100, fun k hk => ?_⟩
      unfold impl_ProofThreesIs.f
      rw [impl_bundle l hl k (by omega), Option.bind_some, if_pos (decide_eq_true hb), p1, Option.bind_some, if_pos hps]
      have hh := hloop k (by omega)
      rw [show ((0 : Nat) : Int) = 0 from rfl] at hh
      rw [hh, Option.bind_some]
      show some ((0 : Int), false) = _
      unfold threesIs
      cases hr : readOf s.data.toList with
      | none => rfl
      | some xs =>
        dsimp only
        obtain ⟨r1, r2, r3, r4⟩ := read_ne hr
        rw [if_neg]
        intro hi
        obtain ⟨b1, b2, b3⟩ := is_true hi
        rw [loop_back l ps [] xs (p2.trans r3) r2 (by simp; omega)] at ho
        cases ho
    | some xs =>
      rw [ho] at hloop
      obtain ⟨⟨ys, e1, e2⟩, e3⟩ := loop_some l ps [] xs ho (by simp)
      rw [List.nil_append] at e1
      subst e1
      obtain ⟨K1, g1⟩ := is_impl l xs hl (by omega)
      refine ⟨ps.length + l.length + 100 + K1, fun k hk => ?_⟩
      unfold impl_ProofThreesIs.f
      rw [impl_bundle l hl k (by omega), Option.bind_some, if_pos (decide_eq_true hb), p1, Option.bind_some, if_pos hps]
      have hh := hloop k (by omega)
      rw [show ((0 : Nat) : Int) = 0 from rfl] at hh
      rw [hh, Option.bind_some]
      dsimp only
      rw [g1 k (by omega), Option.bind_some]
      have hcut : cut s.data.toList = xs.map Lib.itoa := p2.symm.trans e2
      by_cases hi : isOf l xs = true
      · obtain ⟨b1, b2, b3⟩ := is_true hi
        have h2 := all_two h9 b3
        have hr : readOf s.data.toList = some xs := by
          unfold readOf
          rw [hcut]
          exact toks_itoa xs h2
        obtain ⟨M, m1, m2, _⟩ := imax_thr xs (by omega) (by omega) (fun y hy => by have := h2 y hy; omega) k (by omega)
        rw [if_pos hi, m1, Option.bind_some, m2]
        unfold threesIs
        rw [hr]
        dsimp only
        rw [if_pos hi]
      · rw [if_neg hi]
        unfold threesIs
        cases hr : readOf s.data.toList with
        | none => rfl
        | some zs =>
          dsimp only
          obtain ⟨r1, r2, r3, r4⟩ := read_ne hr
          have hz : readOf s.data.toList = toks (xs.map Lib.itoa) := by
            unfold readOf
            rw [hcut]
          rw [if_neg]
          intro hi2
          obtain ⟨b1, b2, b3⟩ := is_true hi2
          have := loop_back l ps [] zs (p2.trans r3) r2 (by simp; omega)
          rw [ho] at this
          have e : xs = zs := by simpa using this
          exact hi (by rw [e]; exact hi2)
  · refine ⟨l.length + 100, fun k hk => ?_⟩
    unfold impl_ProofThreesIs.f threesIs
    rw [impl_bundle l hl k (by omega), Option.bind_some, if_neg (by simp [hb])]
    cases hr : readOf s.data.toList with
    | none => rfl
    | some xs =>
      dsimp only
      rw [if_neg]
      intro hi
      exact hb (is_true hi).1
theorem proof_threes (a : List Int) (hb : isBundle a) : threesIs a (proofOf a).1 = mostOf a ∧ (mostOf a).2 = true := by
  obtain ⟨x, e, hx, ht⟩ := first_in hb
  have h9 : a.length ≤ 9 := hb.1.2.2
  have h1 : 1 ≤ a.length := hb.1.2.1
  obtain ⟨hxl, _⟩ := mem_all_in h9 hx
  have h2 := all_two h9 hx
  have hne : x ≠ [] := by
    rintro rfl
    rw [List.length_nil] at hxl
    omega
  have hr : readOf (proofOf a).1.data.toList = some x := by
    unfold proofOf
    rw [if_pos hb, e]
    show readOf (said x) = some x
    unfold readOf said
    rw [cut_itoas hne h2, toks_itoa x h2]
  have hi : isOf a x = true := decide_eq_true ⟨hb, hxl, hx⟩
  unfold threesIs mostOf
  rw [hr, if_pos hb]
  dsimp only
  rw [if_pos hi, ht]
  exact ⟨rfl, rfl⟩
theorem FnProofThrees : laws_FnProofThrees.Pure := by
  intro l h1 h2 h3
  by_cases hl : (l.length : Int) > 1048576
  · exact ⟨0, by unfold laws_FnProofThrees.f; rw [if_pos hl]⟩
  · obtain ⟨a, d1, d2⟩ := parted_same l (wf_u8 h3)
    obtain ⟨K1, g1⟩ := proof_impl a (by omega)
    obtain ⟨K2, g2⟩ := proof_spec a (by omega)
    obtain ⟨K3, g3⟩ := most_impl a (by omega)
    have hs : (proofOf a).1.size ≤ 100 := by
      unfold proofOf
      by_cases hu : isBundle a
      · rw [if_pos hu]
        obtain ⟨q1, q2, q3⟩ := first_small hu
        have := said_len _ q3
        show (said (firstOf a).1).toArray.size ≤ 100
        rw [List.size_toArray]
        omega
      · rw [if_neg hu]
        decide
    obtain ⟨K4, g4⟩ := is_impl_threes a (proofOf a).1 (by omega) (by omega)
    refine ⟨K1 + K2 + K3 + K4 + 100 + 1, ?_⟩
    have hd : spec_DrawProofThrees.f (K1 + K2 + K3 + K4 + 100 + 1) l = some a := by
      unfold spec_DrawProofThrees.f
      rw [d1 _ (by omega)]
      rfl
    unfold laws_FnProofThrees.f
    rw [if_neg hl, hd, Option.bind_some, g1 _ (by omega), Option.bind_some, g2 _ (by omega), Option.bind_some, if_neg (by simp), if_pos rfl, laws_FnProofThrees.j0]
    by_cases hb : isBundle a
    · obtain ⟨m1, m2⟩ := proof_threes a hb
      have hok : (proofOf a).2 = true := by
        unfold proofOf
        rw [if_pos hb]
      rw [if_neg (by rw [hok]; decide), g4 _ (by omega), Option.bind_some, g3 _ (by omega), Option.bind_some, m1, if_pos m2, if_pos m2]
      show some ((mostOf a).1 == (mostOf a).1) = some true
      rw [beq_iff_eq.mpr rfl]
    · have hok : (proofOf a).2 = false := by
        unfold proofOf
        rw [if_neg hb]
      rw [if_pos (by rw [hok]; decide), if_pos (by simp)]
      show some ((proofOf a).1.toList == (proofOf a).1.toList) = some true
      rw [beq_iff_eq.mpr rfl]

end Go.Proofs.YtlgcjmgfhbdpgaaDoor.Pure
