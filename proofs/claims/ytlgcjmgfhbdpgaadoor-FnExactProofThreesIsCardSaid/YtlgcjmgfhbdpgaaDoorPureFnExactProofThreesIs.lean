/- The law FnExactProofThreesIs, as a statement over plain numbers and lists, is proved: what the program's functions compute is what the reference's compute. -/
import Derived.Test.YtlgcjmgfhbdpgaaDoorPFnExactProofThreesIsx6
import Derived.Lib.AtoiAll
import Derived.Lib.SplitLaws
namespace Go.Proofs.YtlgcjmgfhbdpgaaDoor.Pure
open Go.RowKit Go.Proofs.YtlgcjmgfhbdpgaaDoor.PFnExactProofThreesIs Go.Proofs.YtlgcjmgfhbdpgaaDoorW.PrintWords Go.Proofs.YtlgcjmgfhbdpgaaDoorW.PrintLast
set_option linter.unusedVariables false
set_option linter.unusedSimpArgs false
/-! ### lists of whole numbers -/
theorem wrap_nat {n : Nat} (h : n < 4611686018427387904) : wrap64 ((n : Int) + 1) = ((n + 1 : Nat) : Int) := by unfold wrap64; omega
theorem rd_at {l : List Int} {i : Nat} (h : i < l.length) : rd l (i : Int) = l[i] := by
  unfold rd
  rw [Int.toNat_natCast, List.getD_eq_getElem?_getD, List.getElem?_eq_getElem h]
  rfl
theorem and_one (a : Nat) (ha : a < 4611686018427387904) : Go.bits .and .i64 (a : Int) 1 = ((a % 2 : Nat) : Int) := by
  have h1 : (BitVec.ofInt 64 (a : Int)).toNat = a := by
    rw [BitVec.ofInt_natCast, BitVec.toNat_ofNat]; exact Nat.mod_eq_of_lt (by omega)
  have h2 : (BitVec.ofInt 64 (1 : Int)).toNat = 1 := by decide
  show IntKind.i64.wrap ((BitVec.ofInt 64 (a : Int) &&& BitVec.ofInt 64 (1 : Int)).toNat : Int) = _
  rw [BitVec.toNat_and, h1, h2, Nat.and_one_is_mod]
  have : a % 2 < 2 := Nat.mod_lt _ (by omega)
  generalize a % 2 = c at this
  simp [IntKind.wrap, IntKind.bits, IntKind.signed]
  omega
theorem ite_same {α : Type} {p q : Prop} [Decidable p] [Decidable q] (h : p ↔ q) {a b : α} : (if p then a else b) = if q then a else b := by
  by_cases hq : q
  · rw [if_pos (h.mpr hq), if_pos hq]
  · rw [if_neg (fun x => hq (h.mp x)), if_neg hq]
theorem toInt_l (l : List Int) (hl : l.length < 4611686018427387904) : ∀ (d k i : Nat), i + d = l.length → d + 1 ≤ k →
    laws_toIntS.l0 k l (l.take i ++ List.replicate d 0) (i : Int) = some l := by
  intro d
  induction d with
  | zero =>
    intro k i hi hk
    obtain ⟨m, rfl⟩ : ∃ m, k = m + 1 := ⟨k - 1, by omega⟩
    rw [laws_toIntS.l0, if_neg (by omega), List.take_of_length_le (by omega)]
    simp
  | succ d ih =>
    intro k i hi hk
    obtain ⟨m, rfl⟩ : ∃ m, k = m + 1 := ⟨k - 1, by omega⟩
    have hil : i < l.length := by omega
    rw [laws_toIntS.l0, if_pos (by omega), if_pos (by omega), if_pos (by simp; omega), rd_at hil, wrap_nat (by omega)]
    have e : ((l.take i ++ List.replicate (d + 1) 0).set ((i : Nat) : Int).toNat l[i]) = l.take (i + 1) ++ List.replicate d 0 := by
      rw [Int.toNat_natCast, List.set_append_right _ _ (by rw [List.length_take]; omega), List.length_take, show i - min i l.length = 0 by omega, List.replicate_succ, List.set_cons_zero, List.take_succ_eq_append_getElem hil, List.append_assoc]
      rfl
    rw [e]
    exact ih m (i + 1) (by omega) (by omega)
theorem toInt_tells (l : List Int) (hl : l.length ≤ 1048576) (k : Nat) (hk : l.length + 1 ≤ k) : laws_toIntS.f k l = some l := by
  unfold laws_toIntS.f
  rw [if_pos (by omega), if_pos (by omega), Int.toNat_natCast]
  have := toInt_l l (by omega) l.length k 0 (by omega) (by omega)
  simpa using this
theorem eqInt_l (l : List Int) (hl : l.length < 4611686018427387904) : ∀ (d k i : Nat), i + d = l.length → d + 1 ≤ k → laws_eqIntS.l0 k l l (i : Int) = some true := by
  intro d
  induction d with
  | zero =>
    intro k i hi hk
    obtain ⟨m, rfl⟩ : ∃ m, k = m + 1 := ⟨k - 1, by omega⟩
    rw [laws_eqIntS.l0, if_neg (by omega)]
  | succ d ih =>
    intro k i hi hk
    obtain ⟨m, rfl⟩ : ∃ m, k = m + 1 := ⟨k - 1, by omega⟩
    rw [laws_eqIntS.l0, if_pos (by omega), if_pos (by omega), if_pos (by omega), if_pos rfl, wrap_nat (by omega)]
    exact ih m (i + 1) (by omega) (by omega)
theorem eqInt_tells (l : List Int) (hl : l.length ≤ 1048576) (k : Nat) (hk : l.length + 1 ≤ k) : laws_eqIntS.f k l l = some true := by
  unfold laws_eqIntS.f
  rw [if_pos rfl]
  exact eqInt_l l (by omega) l.length k 0 (by omega) (by omega)
/-! ### rulers -/
def isRuler (l : List Int) : Prop := (∀ x ∈ l, 1 ≤ x ∧ x ≤ 60) ∧ 1 ≤ l.length ∧ l.length ≤ 9
instance (l : List Int) : Decidable (isRuler l) := by unfold isRuler; infer_instance
theorem spec_in (a b c : Int) : spec_l6In.f a b c = some (decide (b ≤ a ∧ a ≤ c)) := by
  unfold spec_l6In.f
  by_cases h : a ≥ b
  · rw [if_pos h]
    congr 1
    exact decide_eq_decide.mpr ⟨fun x => ⟨h, x⟩, fun x => x.2⟩
  · rw [if_neg h, decide_eq_false (fun x => h x.1)]
theorem impl_ruler_l (l : List Int) (hl : l.length ≤ 1048576) : ∀ (d k i : Nat), i + d = l.length → d + 1 ≤ k →
    impl_isRuler.l0 k l l (l.length : Int) (i : Int) = some (decide ((∀ x ∈ l.drop i, 1 ≤ x ∧ x ≤ 60) ∧ 1 ≤ l.length ∧ l.length ≤ 9)) := by
  intro d
  induction d with
  | zero =>
    intro k i hi hk
    obtain ⟨m, rfl⟩ : ∃ m, k = m + 1 := ⟨k - 1, by omega⟩
    rw [impl_isRuler.l0, if_neg (by omega), List.drop_eq_nil_of_le (by omega)]
    simp only [List.not_mem_nil, false_implies, implies_true, true_and]
    split
    · congr 1
      exact decide_eq_decide.mpr ⟨fun x => by omega, fun x => by omega⟩
    · rw [decide_eq_false (by omega)]
  | succ d ih =>
    intro k i hi hk
    obtain ⟨m, rfl⟩ : ∃ m, k = m + 1 := ⟨k - 1, by omega⟩
    have hil : i < l.length := by omega
    rw [impl_isRuler.l0, if_pos (by omega), if_pos (by omega), if_pos (by omega), rd_at hil, wrap_nat (by omega), ih m (i + 1) (by omega) (by omega), List.drop_eq_getElem_cons hil]
    simp only [List.mem_cons, forall_eq_or_imp]
    split
    · next h => rw [decide_eq_false (fun x => by omega)]
    · next h =>
      split
      · next h => rw [decide_eq_false (fun x => by omega)]
      · next h1 => congr 1; exact decide_eq_decide.mpr ⟨fun x => ⟨⟨⟨by omega, by omega⟩, x.1⟩, x.2⟩, fun x => ⟨x.1.2, x.2⟩⟩
theorem impl_ruler (l : List Int) (hl : l.length ≤ 1048576) (k : Nat) (hk : l.length + 1 ≤ k) : impl_isRuler.f k l = some (decide (isRuler l)) :=
  impl_ruler_l l hl l.length k 0 (by omega) (by omega)
/-! ### bundles -/
def asc (l : List Int) : Prop := ∀ j : Nat, j < l.length → 0 < j → rd l ((j - 1 : Nat) : Int) ≤ rd l (j : Int)
instance (l : List Int) : Decidable (asc l) := by unfold asc; infer_instance
def isBundle (l : List Int) : Prop := isRuler l ∧ asc l
instance (l : List Int) : Decidable (isBundle l) := by unfold isBundle; infer_instance
theorem all_rd (l : List Int) (p : Int → Prop) : (∀ x ∈ l, p x) ↔ ∀ j : Nat, j < l.length → p (rd l (j : Int)) := by
  constructor
  · intro h j hj
    rw [rd_at hj]
    exact h _ (List.getElem_mem hj)
  · intro h x hx
    obtain ⟨j, hj, rfl⟩ := List.mem_iff_getElem.mp hx
    rw [← rd_at hj]
    exact h j hj
theorem wrap_pred {n : Nat} (h0 : 0 < n) (h : n < 4611686018427387904) : wrap64 ((n : Int) - 1) = ((n - 1 : Nat) : Int) := by unfold wrap64; omega
def l1Rest (l : List Int) (i : Nat) : Prop := (∀ j : Nat, j < l.length → i ≤ j → (1 ≤ rd l (j : Int) ∧ rd l (j : Int) ≤ 60) ∧ (0 < j → rd l ((j - 1 : Nat) : Int) ≤ rd l (j : Int))) ∧ 1 ≤ l.length ∧ l.length ≤ 9
instance (l : List Int) (i : Nat) : Decidable (l1Rest l i) := by unfold l1Rest; infer_instance
theorem l1Rest_step {l : List Int} {i : Nat} (h : i < l.length) : l1Rest l i ↔ ((1 ≤ rd l (i : Int) ∧ rd l (i : Int) ≤ 60) ∧ (0 < i → rd l ((i - 1 : Nat) : Int) ≤ rd l (i : Int))) ∧ l1Rest l (i + 1) := by
  unfold l1Rest
  constructor
  · rintro ⟨h1, h2⟩
    exact ⟨h1 i h (Nat.le_refl _), fun j hj hij => h1 j hj (by omega), h2⟩
  · rintro ⟨h1, h2, h3⟩
    refine ⟨fun j hj hij => ?_, h3⟩
    rcases Nat.lt_or_ge i j with h' | h'
    · exact h2 j hj h'
    · obtain rfl : i = j := by omega
      exact h1
theorem spec_bundle_l (l : List Int) (hl : l.length ≤ 1048576) : ∀ (d k i : Nat), i + d = l.length → d + 1 ≤ k → spec_l1Bundle.l0 k l (i : Int) = some (decide (l1Rest l i)) := by
  intro d
  induction d with
  | zero =>
    intro k i hi hk
    obtain ⟨m, rfl⟩ : ∃ m, k = m + 1 := ⟨k - 1, by omega⟩
    rw [spec_l1Bundle.l0, if_neg (by omega), spec_in]
    simp only [Option.bind_some]
    congr 1
    exact decide_eq_decide.mpr ⟨fun x => ⟨fun j hj hij => by omega, by omega⟩, fun x => by have := x.2; omega⟩
  | succ d ih =>
    intro k i hi hk
    obtain ⟨m, rfl⟩ : ∃ m, k = m + 1 := ⟨k - 1, by omega⟩
    have hil : i < l.length := by omega
    have st := l1Rest_step hil
    have ih := ih m (i + 1) (by omega) (by omega)
    rw [spec_l1Bundle.l0, if_pos (by omega), if_pos (by omega), spec_in, wrap_nat (by omega), ih]
    simp only [Option.bind_some, decide_eq_true_eq]
    by_cases h1 : 1 ≤ rd l (i : Int) ∧ rd l (i : Int) ≤ 60
    · rw [if_pos h1]
      by_cases h2 : 0 < i
      · rw [if_pos (by omega), wrap_pred h2 (by omega), if_pos (by omega), if_pos (by omega)]
        by_cases h3 : rd l (i : Int) < rd l ((i - 1 : Nat) : Int)
        · rw [if_pos h3, decide_eq_false (fun x => by have := (st.mp x).1.2 h2; omega)]
        · rw [if_neg h3]
          congr 1
          exact decide_eq_decide.mpr ⟨fun x => st.mpr ⟨⟨h1, fun _ => by omega⟩, x⟩, fun x => (st.mp x).2⟩
      · rw [if_neg (by omega)]
        congr 1
        exact decide_eq_decide.mpr ⟨fun x => st.mpr ⟨⟨h1, fun h => absurd h h2⟩, x⟩, fun x => (st.mp x).2⟩
    · rw [if_neg h1, decide_eq_false (fun x => h1 (st.mp x).1.1)]
theorem spec_bundle (l : List Int) (hl : l.length ≤ 1048576) (k : Nat) (hk : l.length + 1 ≤ k) : spec_l1Bundle.f k l = some (decide (isBundle l)) := by
  unfold spec_l1Bundle.f
  have := spec_bundle_l l hl l.length k 0 (by omega) hk
  rw [show ((0 : Nat) : Int) = 0 from rfl] at this
  rw [this]
  congr 1
  refine decide_eq_decide.mpr ?_
  unfold isBundle isRuler asc l1Rest
  rw [all_rd l (fun x => 1 ≤ x ∧ x ≤ 60)]
  exact ⟨fun x => ⟨⟨fun j hj => (x.1 j hj (by omega)).1, x.2⟩, fun j hj h0 => (x.1 j hj (by omega)).2 h0⟩, fun x => ⟨fun j hj _ => ⟨x.1.1 j hj, x.2 j hj⟩, x.1.2⟩⟩
theorem less_tells (a b : Int) : cmp_Less_int.f a b = some (decide (a < b)) := by
  unfold cmp_Less_int.f cmp_isNaN_int.f
  simp
theorem sorted_l (l : List Int) (hl : l.length ≤ 1048576) : ∀ (i k : Nat), i + 1 ≤ k → i < l.length → slices_IsSorted_int_int.l0 k l (i : Int) = some (decide (∀ j : Nat, j < i + 1 → 0 < j → rd l ((j - 1 : Nat) : Int) ≤ rd l (j : Int))) := by
  intro i
  induction i with
  | zero =>
    intro k hk hi
    obtain ⟨m, rfl⟩ : ∃ m, k = m + 1 := ⟨k - 1, by omega⟩
    rw [slices_IsSorted_int_int.l0, if_neg (by omega), decide_eq_true (fun j hj h0 => by omega)]
  | succ i ih =>
    intro k hk hi
    obtain ⟨m, rfl⟩ : ∃ m, k = m + 1 := ⟨k - 1, by omega⟩
    rw [slices_IsSorted_int_int.l0, if_pos (by omega), if_pos (by omega), if_pos (by omega), wrap_pred (by omega) (by omega), if_pos (by omega), if_pos (by omega), less_tells, show i + 1 - 1 = i from rfl, ih m (by omega) (by omega)]
    simp only [Option.bind_some, decide_eq_true_eq]
    by_cases h : rd l ((i + 1 : Nat) : Int) < rd l (i : Int)
    · rw [if_pos h, decide_eq_false (fun x => by have := x (i + 1) (by omega) (by omega); rw [show i + 1 - 1 = i from rfl] at this; omega)]
    · rw [if_neg h]
      congr 1
      refine decide_eq_decide.mpr ⟨fun x j hj h0 => ?_, fun x j hj h0 => x j (by omega) h0⟩
      rcases Nat.lt_or_ge j (i + 1) with h' | h'
      · exact x j h' h0
      · obtain rfl : j = i + 1 := by omega
        rw [show i + 1 - 1 = i from rfl]
        omega
theorem impl_bundle (l : List Int) (hl : l.length ≤ 1048576) (k : Nat) (hk : l.length + 1 ≤ k) : impl_StickIn.f k l = some (decide (isBundle l)) := by
  unfold impl_StickIn.f
  rw [impl_ruler l hl k hk]
  simp only [Option.bind_some, decide_eq_true_eq]
  by_cases h : isRuler l
  · have h1 := h.2.1
    rw [if_pos h]
    unfold slices_IsSorted_int_int.f
    rw [wrap_pred (by omega) (by omega), sorted_l l hl (l.length - 1) k (by omega) (by omega)]
    simp only [Option.bind_some]
    congr 1
    refine decide_eq_decide.mpr ?_
    rw [show l.length - 1 + 1 = l.length by omega]
    exact ⟨fun x => ⟨h, x⟩, fun x => x.2⟩
  · rw [if_neg h, decide_eq_false (fun x => h x.1)]
/-! ### part lists -/
def pf (l : List Int) (t : Int) : Nat → Nat → List Nat
  | 0, _ => []
  | d + 1, i => if rd l (i : Int) = t then i :: pf l t d (i + 1) else pf l t d (i + 1)
def places (l : List Int) (t : Int) : List Nat := pf l t l.length 0
theorem rd_app {l : List Int} {x : Int} {i : Nat} (h : i < l.length) : rd (l ++ [x]) (i : Int) = rd l (i : Int) := by
  rw [rd_at h, rd_at (by simp; omega), List.getElem_append_left h]
theorem rd_app_last (l : List Int) (x : Int) : rd (l ++ [x]) (l.length : Int) = x := by
  rw [rd_at (by simp)]
  simp
theorem pf_app (l : List Int) (x t : Int) : ∀ d i, i + d = l.length → pf (l ++ [x]) t (d + 1) i = pf l t d i ++ if x = t then [l.length] else []
  | 0, i, h => by
    have : i = l.length := by omega
    subst this
    simp only [pf]
    rw [rd_app_last]
    split <;> simp
  | d + 1, i, h => by
    rw [pf, rd_app (by omega), pf_app l x t d (i + 1) (by omega), pf]
    split <;> simp
theorem places_app (l : List Int) (x t : Int) : places (l ++ [x]) t = places l t ++ if x = t then [l.length] else [] := by
  have := pf_app l x t l.length 0 (by omega)
  unfold places
  rw [List.length_append]
  exact this
theorem pf_lt (l : List Int) (t : Int) : ∀ d i, i + d = l.length → ∀ j ∈ pf l t d i, j < l.length
  | 0, i, h, j, hj => by simp [pf] at hj
  | d + 1, i, h, j, hj => by
    rw [pf] at hj
    split at hj
    · rcases List.mem_cons.mp hj with rfl | hj
      · omega
      · exact pf_lt l t d (i + 1) (by omega) j hj
    · exact pf_lt l t d (i + 1) (by omega) j hj
theorem places_lt {l : List Int} {t : Int} {j : Nat} (h : j ∈ places l t) : j < l.length := pf_lt l t l.length 0 (by omega) j h
theorem pf_len (l : List Int) (t : Int) : ∀ d i, (pf l t d i).length ≤ d
  | 0, i => by simp [pf]
  | d + 1, i => by
    have := pf_len l t d (i + 1)
    rw [pf]
    split <;> simp <;> omega
def tri (x y z : Int) : Bool := decide (x < y + z) && (decide (y < x + z) && decide (z < x + y))
def three : List Int → Bool
  | [x, y, z] => tri x y z
  | _ => false
def selOf (a l : List Int) (t : Int) : List Int := (places l t).map fun j : Nat => rd a (j : Int)
def fits (a l : List Int) (m : Nat) : Bool := (List.range m).all fun t => three (selOf a l (t : Int))
/-- All part lists that begin so, in order. -/
def gen (a : List Int) : Nat → List Int → Nat → List (List Int)
  | 0, l, m => if fits a l m = true then [l] else []
  | d + 1, l, m => (List.range' 0 (m + 2)).flatMap fun e : Nat => if (places l ((e : Int) - 1)).length = 3 ∧ 0 < e then [] else gen a d (l ++ [(e : Int) - 1]) (if e = m + 1 then m + 1 else m)
def genAll (a : List Int) : List (List Int) := gen a a.length [] 0
theorem fits_iff {a l : List Int} {m : Nat} : fits a l m = true ↔ ∀ t, t < m → three (selOf a l (t : Int)) = true := by
  simp [fits, List.all_eq_true]
theorem mem_gen_len (a : List Int) : ∀ (d : Nat) (l : List Int) (m : Nat) (x : List Int), x ∈ gen a d l m → x.length = l.length + d
  | 0, l, m, x, h => by
    rw [gen] at h
    split at h
    · simp at h; subst h; rfl
    · simp at h
  | d + 1, l, m, x, h => by
    rw [gen, List.mem_flatMap] at h
    obtain ⟨e, he, h⟩ := h
    split at h
    · simp at h
    · have := mem_gen_len a d _ _ x h
      simp at this
      omega
/-- The numbers of a part list. -/
theorem mem_gen_in (a : List Int) : ∀ (d : Nat) (l : List Int) (m : Nat) (x : List Int), x ∈ gen a d l m → (∀ y ∈ l, -1 ≤ y ∧ y < m) → ∃ m', m ≤ m' ∧ m' ≤ m + d ∧ (∀ y ∈ x, -1 ≤ y ∧ y < (m' : Nat)) ∧ fits a x m' = true
  | 0, l, m, x, h, hl => by
    rw [gen] at h
    split at h
    · next hf => simp at h; subst h; exact ⟨m, Nat.le_refl _, by omega, hl, hf⟩
    · simp at h
  | d + 1, l, m, x, h, hl => by
    rw [gen, List.mem_flatMap] at h
    obtain ⟨e, he, h⟩ := h
    simp only [List.mem_range'_1] at he
    split at h
    · simp at h
    · obtain ⟨m', h1, h2, h3⟩ := mem_gen_in a d _ _ x h (fun y hy => by
        rcases List.mem_append.mp hy with hy | hy
        · have := hl y hy
          split <;> omega
        · simp at hy
          subst hy
          split <;> omega)
      exact ⟨m', by split at h1 <;> omega, by split at h2 <;> omega, h3⟩
theorem gen_length (a : List Int) : ∀ (d : Nat) (l : List Int) (m : Nat), m + d ≤ 9 → (gen a d l m).length ≤ 11 ^ d
  | 0, l, m, h => by
    rw [gen]
    split <;> simp
  | d + 1, l, m, h => by
    have key : ∀ (c e : Nat), ((List.range' e c).flatMap fun e : Nat => if (places l ((e : Int) - 1)).length = 3 ∧ 0 < e then [] else gen a d (l ++ [(e : Int) - 1]) (if e = m + 1 then m + 1 else m)).length ≤ c * 11 ^ d := by
      intro c
      induction c with
      | zero => intro e; simp
      | succ c ih =>
        intro e
        rw [List.range'_succ, List.flatMap_cons, List.length_append, Nat.add_mul, Nat.one_mul, Nat.add_comm]
        have h1 := ih (e + 1)
        have h2 : (if (places l ((e : Int) - 1)).length = 3 ∧ 0 < e then [] else gen a d (l ++ [(e : Int) - 1]) (if e = m + 1 then m + 1 else m)).length ≤ 11 ^ d := by
          split
          · simp
          · exact gen_length a d _ _ (by split <;> omega)
        omega
    have := key (m + 2) 0
    rw [gen]
    refine Nat.le_trans this ?_
    rw [Nat.pow_succ, Nat.mul_comm]
    exact Nat.mul_le_mul_left _ (by omega)
theorem pow11 {d : Nat} (h : d ≤ 9) : 11 ^ d ≤ 2357947691 := Nat.le_trans (Nat.pow_le_pow_right (by omega) h) (by decide)
theorem count_l (l : List Int) (t : Int) (hl : l.length ≤ 1000) : ∀ (d k i : Nat) (c : Nat), i + d = l.length → d + 1 ≤ k → c ≤ i →
    impl_countOf.l0 k t (c : Int) l (l.length : Int) (i : Int) = some ((c + (pf l t d i).length : Nat) : Int) := by
  intro d
  induction d with
  | zero =>
    intro k i c hi hk hc
    obtain ⟨m, rfl⟩ : ∃ m, k = m + 1 := ⟨k - 1, by omega⟩
    rw [impl_countOf.l0, if_neg (by omega)]
    simp [pf]
  | succ d ih =>
    intro k i c hi hk hc
    obtain ⟨m, rfl⟩ : ∃ m, k = m + 1 := ⟨k - 1, by omega⟩
    rw [impl_countOf.l0, if_pos (by omega), if_pos (by omega), if_pos (by omega), wrap_nat (n := i) (by omega), pf]
    split
    · rw [wrap_nat (by omega), ih m (i + 1) (c + 1) (by omega) (by omega) (by omega)]
      simp only [List.length_cons]
      congr 2
      omega
    · rw [ih m (i + 1) c (by omega) (by omega) (by omega)]
theorem count_tells (l : List Int) (t : Int) (hl : l.length ≤ 1000) (k : Nat) (hk : l.length + 1 ≤ k) : impl_countOf.f k l t = some ((places l t).length : Int) := by
  have := count_l l t hl l.length k 0 0 (by omega) hk (by omega)
  unfold impl_countOf.f places
  simpa using this
theorem stick_three (x y z : Int) (hx : 1 ≤ x ∧ x ≤ 60) (hy : 1 ≤ y ∧ y ≤ 60) (hz : 1 ≤ z ∧ z ≤ 60) (k : Nat) (hk : 4 ≤ k) : impl_StickThree.f k x y z = some (tri x y z) := by
  unfold impl_StickThree.f tri
  rw [impl_ruler [x, y, z] (by simp) k (by simpa using hk), decide_eq_true (show isRuler [x, y, z] from ⟨by intro w hw; simp at hw; rcases hw with rfl | rfl | rfl <;> assumption, by simp, by simp⟩)]
  simp only [Option.bind_some]
  rw [if_pos trivial, show wrap64 (y + z) = y + z by unfold wrap64; omega, show wrap64 (x + z) = x + z by unfold wrap64; omega, show wrap64 (x + y) = x + y by unfold wrap64; omega]
  by_cases h1 : x < y + z
  · rw [if_pos h1, decide_eq_true h1]
    by_cases h2 : y < x + z
    · rw [if_pos h2, decide_eq_true h2]
      rfl
    · rw [if_neg h2, decide_eq_false h2]
      rfl
  · rw [if_neg h1, decide_eq_false h1]
    rfl
theorem sel_in {a l : List Int} {t : Int} (ha : ∀ x ∈ a, 1 ≤ x ∧ x ≤ 60) (hl : l.length ≤ a.length) : ∀ x ∈ selOf a l t, 1 ≤ x ∧ x ≤ 60 := by
  intro x hx
  simp only [selOf, List.mem_map] at hx
  obtain ⟨j, hj, rfl⟩ := hx
  have := places_lt hj
  rw [rd_at (show j < a.length by omega)]
  exact ha _ (List.getElem_mem _)
theorem fit_l1 (a l : List Int) (t : Nat) (m : Int) (ha : ∀ x ∈ a, 1 ≤ x ∧ x ≤ 60) (hl : l.length = a.length) (h9 : a.length ≤ 9) : ∀ (d k i : Nat) (acc : List Int), i + d = l.length → d + 5 ≤ k → acc.length ≤ i → (∀ x ∈ acc, 1 ≤ x ∧ x ≤ 60) →
    ∃ k', k' + d + 1 = k ∧ impl_partsFit.l1 k a l (t : Int) acc m (t : Int) l (l.length : Int) (i : Int) = if three (acc ++ (pf l (t : Int) d i).map (fun j : Nat => rd a (j : Int))) = true then impl_partsFit.l0 k' a l m (wrap64 ((t : Int) + 1)) else some false := by
  intro d
  induction d with
  | zero =>
    intro k i acc hi hk hc hacc
    obtain ⟨k', rfl⟩ : ∃ m, k = m + 1 := ⟨k - 1, by omega⟩
    refine ⟨k', by omega, ?_⟩
    rw [impl_partsFit.l1, if_neg (by omega)]
    simp only [pf, List.map_nil, List.append_nil]
    by_cases h3 : (acc.length : Int) = 3
    · rw [if_pos h3, if_pos (by omega), if_pos (by omega), if_pos (by omega)]
      match acc, h3, hacc with
      | [x, y, z], _, hacc =>
        have e0 : rd [x, y, z] 0 = x := rfl
        have e1 : rd [x, y, z] 1 = y := rfl
        have e2 : rd [x, y, z] 2 = z := rfl
        rw [e0, e1, e2, stick_three x y z (hacc x (by simp)) (hacc y (by simp)) (hacc z (by simp)) k' (by omega)]
        rfl
    · rw [if_neg h3, if_neg]
      match acc, h3 with
      | [], _ => simp [three]
      | [x], _ => simp [three]
      | [x, y], _ => simp [three]
      | [x, y, z], h3 => simp at h3
      | x :: y :: z :: w :: r, _ => simp [three]
  | succ d ih =>
    intro k i acc hi hk hc hacc
    obtain ⟨q, rfl⟩ : ∃ m, k = m + 1 := ⟨k - 1, by omega⟩
    rw [impl_partsFit.l1, if_pos (by omega), if_pos (by omega), if_pos (by omega), wrap_nat (n := i) (by omega), pf]
    have hia : i < a.length := by omega
    split
    · rw [if_pos (by omega), if_pos (by omega)]
      obtain ⟨k', h1, h2⟩ := ih q (i + 1) (acc ++ [rd a (i : Int)]) (by omega) (by omega) (by simp; omega) (fun x hx => by
        rcases List.mem_append.mp hx with hx | hx
        · exact hacc x hx
        · simp at hx
          subst hx
          rw [rd_at hia]
          exact ha _ (List.getElem_mem hia))
      refine ⟨k', by omega, ?_⟩
      rw [h2]
      simp
    · obtain ⟨k', h1, h2⟩ := ih q (i + 1) acc (by omega) (by omega) (by omega) hacc
      exact ⟨k', by omega, h2⟩
theorem fit_arith {d q k' n : Nat} (hk : 20 * (d + 1) + 20 ≤ q + 1) (h1 : k' + n + 1 = q) (h9 : n ≤ 9) : 20 * d + 20 ≤ k' := by omega
theorem fit_l0 (a l : List Int) (m : Nat) (ha : ∀ x ∈ a, 1 ≤ x ∧ x ≤ 60) (hl : l.length = a.length) (h9 : a.length ≤ 9) (hm : m ≤ 9) : ∀ (d k t : Nat), t + d = m → 20 * d + 20 ≤ k →
    impl_partsFit.l0 k a l (m : Int) (t : Int) = some ((List.range' t d).all fun t => three (selOf a l (t : Int))) := by
  intro d
  induction d with
  | zero =>
    intro k t ht hk
    obtain ⟨q, rfl⟩ : ∃ m, k = m + 1 := ⟨k - 1, by omega⟩
    rw [impl_partsFit.l0, if_neg (by omega)]
    rfl
  | succ d ih =>
    intro k t ht hk
    obtain ⟨q, rfl⟩ : ∃ m, k = m + 1 := ⟨k - 1, by omega⟩
    have b1 : l.length + 5 ≤ q := by omega
    have ht' : t + 1 + d = m := by omega
    have hw := wrap_nat (n := t) (by omega)
    have hlt : (t : Int) < (m : Int) := by omega
    obtain ⟨k', h1, h2⟩ := fit_l1 a l t (m : Int) ha hl h9 l.length q 0 [] (Nat.zero_add _) b1 (Nat.le_refl _) (fun _ h => by cases h)
    have hk' : 20 * d + 20 ≤ k' := fit_arith hk h1 (hl ▸ h9)
    rw [impl_partsFit.l0, if_pos hlt]
    rw [show ((0 : Nat) : Int) = 0 from rfl] at h2
    rw [h2, List.nil_append, List.range'_succ, List.all_cons]
    have e : (pf l (t : Int) l.length 0).map (fun j : Nat => rd a (j : Int)) = selOf a l (t : Int) := rfl
    rw [e]
    cases h : three (selOf a l (t : Int)) with
    | true =>
      rw [if_pos rfl, hw, ih k' (t + 1) ht' hk']
      simp
    | false => rw [if_neg (by decide)]; simp
theorem fit_tells (a l : List Int) (m : Nat) (ha : ∀ x ∈ a, 1 ≤ x ∧ x ≤ 60) (hl : l.length = a.length) (h9 : a.length ≤ 9) (hm : m ≤ 9) (k : Nat) (hk : 300 ≤ k) : impl_partsFit.f k a l (m : Int) = some (fits a l m) := by
  have := fit_l0 a l m ha hl h9 hm m k 0 (by omega) (by omega)
  unfold impl_partsFit.f fits
  rw [show ((0 : Nat) : Int) = 0 from rfl] at this
  rw [this, List.range_eq_range']
def branch (a : List Int) (d : Nat) (l : List Int) (m e : Nat) : List (List Int) := if (places l ((e : Int) - 1)).length = 3 ∧ 0 < e then [] else gen a d (l ++ [(e : Int) - 1]) (if e = m + 1 then m + 1 else m)
theorem parts_run {S : Type} (a : List Int) (ha : ∀ x ∈ a, 1 ≤ x ∧ x ≤ 60) (h9 : a.length ≤ 9) (stp : S → List Int → S) : ∀ (d : Nat) (l : List Int) (m : Nat), l.length + d = a.length → m ≤ l.length →
    ∃ K, ∀ k, K ≤ k → ∀ (step : S → List Int → Option S) (s : S), (∀ s xs, xs ∈ gen a d l m → step s xs = some (stp s xs)) → impl_parts.t step k 0 a l (m : Int) 0 s = some ((gen a d l m).foldl stp s)
  | 0, l, m, hd, hm => by
    refine ⟨301, fun k hk step s hs => ?_⟩
    obtain ⟨q, rfl⟩ : ∃ m, k = m + 1 := ⟨k - 1, by omega⟩
    rw [impl_parts.t0, if_pos (by omega), fit_tells a l m ha (by omega) h9 (by omega) q (by omega)]
    simp only [Option.bind_some]
    rw [gen] at hs ⊢
    cases h : fits a l m with
    | true =>
      rw [h, if_pos rfl] at hs
      rw [if_pos rfl, if_pos rfl, hs s l (by simp)]
      rfl
    | false => rw [if_neg (by decide), if_neg (by decide)]; rfl
  | d + 1, l, m, hd, hm => by
    have loop : ∀ (c e : Nat), e + c = m + 2 → ∃ K, ∀ k, K ≤ k → ∀ (step : S → List Int → Option S) (s : S), (∀ s xs, xs ∈ (List.range' e c).flatMap (branch a d l m) → step s xs = some (stp s xs)) →
        impl_parts.t step k 1 a l (m : Int) ((e : Int) - 1) s = some (((List.range' e c).flatMap (branch a d l m)).foldl stp s) := by
      intro c
      induction c with
      | zero =>
        intro e he
        refine ⟨1, fun k hk step s hs => ?_⟩
        obtain ⟨q, rfl⟩ : ∃ m, k = m + 1 := ⟨k - 1, by omega⟩
        rw [impl_parts.t1, if_neg (by omega)]
        rfl
      | succ c ih =>
        intro e he
        obtain ⟨K1, h1⟩ := ih (e + 1) (by omega)
        obtain ⟨K2, h2⟩ := parts_run a ha h9 stp d (l ++ [(e : Int) - 1]) (if e = m + 1 then m + 1 else m) (by simp; omega) (by simp; split <;> omega)
        refine ⟨K1 + K2 + 1100, fun k hk step s hs => ?_⟩
        obtain ⟨q, rfl⟩ : ∃ m, k = m + 2 := ⟨k - 2, by omega⟩
        rw [List.range'_succ, List.flatMap_cons] at hs ⊢
        rw [List.foldl_append]
        have hw : wrap64 ((e : Int) - 1 + 1) = ((e + 1 : Nat) : Int) - 1 := by unfold wrap64; omega
        have g1 := fun q hq s => h1 q hq step s (fun s xs hx => hs s xs (List.mem_append_right _ hx))
        have body : ¬ ((places l ((e : Int) - 1)).length = 3 ∧ 0 < e) → impl_parts.t step (q + 1) 2 a l (m : Int) ((e : Int) - 1) s = some (((List.range' (e + 1) c).flatMap (branch a d l m)).foldl stp ((branch a d l m e).foldl stp s)) := by
          intro hb
          have e2 : branch a d l m e = gen a d (l ++ [(e : Int) - 1]) (if e = m + 1 then m + 1 else m) := by unfold branch; rw [if_neg hb]
          have g2 := h2 q (by omega) step s (fun s xs hx => hs s xs (List.mem_append_left _ (by rw [e2]; exact hx)))
          rw [impl_parts.t2 step q 0, if_pos (by omega), hw]
          by_cases hem : e = m + 1
          · rw [if_pos (by omega), show wrap64 ((m : Int) + 1) = ((m + 1 : Nat) : Int) by unfold wrap64; omega]
            rw [if_pos hem] at g2
            rw [g2]
            simp only [Option.bind_some]
            rw [g1 q (by omega), e2, if_pos hem]
          · rw [if_neg (by omega)]
            rw [if_neg hem] at g2
            rw [g2]
            simp only [Option.bind_some]
            rw [g1 q (by omega), e2, if_neg hem]
        rw [impl_parts.t1 step (q + 1), if_pos (by omega)]
        by_cases h0 : 0 < e
        · rw [if_pos (by omega), count_tells l _ (by omega) (q + 1) (by omega)]
          simp only [Option.bind_some]
          by_cases hc : (places l ((e : Int) - 1)).length = 3
          · rw [if_pos (by omega), hw, g1 (q + 1) (by omega)]
            have e2 : branch a d l m e = [] := by unfold branch; rw [if_pos ⟨hc, h0⟩]
            rw [e2]
            rfl
          · rw [if_neg (by omega)]
            exact body (fun x => hc x.1)
        · rw [if_neg (by omega)]
          exact body (fun x => h0 x.2)
    obtain ⟨K, h⟩ := loop (m + 2) 0 (by omega)
    refine ⟨K + 1, fun k hk step s hs => ?_⟩
    obtain ⟨q, rfl⟩ : ∃ m, k = m + 1 := ⟨k - 1, by omega⟩
    rw [impl_parts.t0, if_neg (by omega)]
    have := h q (by omega) step s hs
    rw [show ((0 : Nat) : Int) - 1 = -1 from rfl] at this
    exact this
theorem parts_tells {S : Type} (a : List Int) (hr : isRuler a) (stp : S → List Int → S) : ∃ K, ∀ k, K ≤ k → ∀ (step : S → List Int → Option S) (s : S), (∀ s xs, xs ∈ genAll a → step s xs = some (stp s xs)) → impl_parts.f step k a s = some ((genAll a).foldl stp s) := by
  obtain ⟨K, h⟩ := parts_run a hr.1 hr.2.2 stp a.length [] 0 (by simp) (by simp)
  refine ⟨K, fun k hk step s hs => ?_⟩
  unfold impl_parts.f
  rw [if_pos (by have := hr.2.2; omega)]
  exact h k hk step s hs
theorem of_l (l : List Int) (t : Int) (hl : l.length ≤ 1000) : ∀ (d k i : Nat) (acc : List Int), i + d = l.length → d + 1 ≤ k → acc.length ≤ i →
    spec_l9Of.l0 k l t acc (i : Int) = some (acc ++ (pf l t d i).map (fun j : Nat => (j : Int))) := by
  intro d
  induction d with
  | zero =>
    intro k i acc hi hk hc
    obtain ⟨m, rfl⟩ : ∃ m, k = m + 1 := ⟨k - 1, by omega⟩
    rw [spec_l9Of.l0, if_neg (by omega)]
    simp [pf]
  | succ d ih =>
    intro k i acc hi hk hc
    obtain ⟨m, rfl⟩ : ∃ m, k = m + 1 := ⟨k - 1, by omega⟩
    rw [spec_l9Of.l0, if_pos (by omega), if_pos (by omega), wrap_nat (n := i) (by omega), pf]
    split
    · rw [if_pos (by omega), ih m (i + 1) _ (by omega) (by omega) (by simp; omega)]
      simp
    · exact ih m (i + 1) acc (by omega) (by omega) (by omega)
theorem of_tells (l : List Int) (t : Int) (hl : l.length ≤ 1000) (k : Nat) (hk : l.length + 1 ≤ k) : spec_l9Of.f k l t = some ((places l t).map (fun j : Nat => (j : Int))) := by
  have := of_l l t hl l.length k 0 [] (by omega) hk (by simp)
  unfold spec_l9Of.f places
  simpa using this
theorem l1three_tells (x y z : Int) (hx : 1 ≤ x ∧ x ≤ 60) (hy : 1 ≤ y ∧ y ≤ 60) (hz : 1 ≤ z ∧ z ≤ 60) : spec_l1Three.f x y z = some (tri x y z) := by
  unfold spec_l1Three.f tri
  rw [show wrap64 (y + z) = y + z by unfold wrap64; omega, show wrap64 (x + z) = x + z by unfold wrap64; omega, show wrap64 (x + y) = x + y by unfold wrap64; omega]
  by_cases h1 : x < y + z
  · rw [if_pos h1, decide_eq_true h1]
    by_cases h2 : y < x + z
    · rw [if_pos h2, decide_eq_true h2]
      rfl
    · rw [if_neg h2, decide_eq_false h2]
      rfl
  · rw [if_neg h1, decide_eq_false h1]
    rfl
/-- No three that is full is wrong. -/
def Good (a l : List Int) (m : Nat) : Prop := ∀ t : Nat, t < m → (places l (t : Int)).length = 3 → three (selOf a l (t : Int)) = true
theorem selOf_app (a l : List Int) (x t : Int) : selOf a (l ++ [x]) t = selOf a l t ++ if x = t then [rd a (l.length : Int)] else [] := by
  unfold selOf
  rw [places_app, List.map_append]
  split <;> rfl
theorem selOf_len (a l : List Int) (t : Int) : (selOf a l t).length = (places l t).length := by simp [selOf]
theorem gen_bad (a : List Int) : ∀ (d : Nat) (l : List Int) (m t : Nat), t < m → (places l (t : Int)).length = 3 → three (selOf a l (t : Int)) = false → gen a d l m = []
  | 0, l, m, t, ht, h3, hb => by
    rw [gen, if_neg]
    intro h
    rw [fits_iff] at h
    rw [h t ht] at hb
    cases hb
  | d + 1, l, m, t, ht, h3, hb => by
    rw [gen, List.flatMap_eq_nil_iff]
    intro e he
    split
    · rfl
    · next hs =>
      have hne : ¬ ((e : Int) - 1 = (t : Int)) := by
        intro h
        refine hs ⟨by rw [h]; exact h3, by omega⟩
      refine gen_bad a d _ _ t (by split <;> omega) ?_ ?_
      · rw [places_app, if_neg hne, List.append_nil]
        exact h3
      · rw [selOf_app, if_neg hne, List.append_nil]
        exact hb
theorem sel_two (a l : List Int) (t : Int) (ha : ∀ x ∈ a, 1 ≤ x ∧ x ≤ 60) (hl : l.length < a.length) (_h9 : a.length ≤ 9) (h : (places l t).length = 2) :
    ∃ p0 p1 : Nat, places l t = [p0, p1] ∧ p0 < a.length ∧ p1 < a.length ∧ selOf a l t ++ [rd a (l.length : Int)] = [rd a p0, rd a p1, rd a (l.length : Int)] ∧ (1 ≤ rd a p0 ∧ rd a p0 ≤ 60) ∧ (1 ≤ rd a p1 ∧ rd a p1 ≤ 60) ∧ (1 ≤ rd a (l.length : Int) ∧ rd a (l.length : Int) ≤ 60) := by
  match hp : places l t, h with
  | [p0, p1], _ =>
    have h0 : p0 < l.length := places_lt (t := t) (by rw [hp]; simp)
    have h1 : p1 < l.length := places_lt (t := t) (by rw [hp]; simp)
    have key : ∀ j : Nat, j < a.length → 1 ≤ rd a (j : Int) ∧ rd a (j : Int) ≤ 60 := fun j hj => by
      rw [rd_at hj]
      exact ha _ (List.getElem_mem hj)
    refine ⟨p0, p1, rfl, by omega, by omega, ?_, key p0 (by omega), key p1 (by omega), key l.length (by omega)⟩
    unfold selOf
    rw [hp]
    rfl
theorem three_len {xs : List Int} (h : three xs = true) : xs.length = 3 := by
  match xs, h with
  | [x, y, z], _ => rfl
/-! ### how many threes -/
def thr (xs : List Int) : Int := xs.foldl (fun n x => mx n (x + 1)) 0
theorem mx_le (a b : Int) : a ≤ mx a b ∧ b ≤ mx a b ∧ (mx a b = a ∨ mx a b = b) := by
  unfold mx
  split <;> omega
theorem foldl_mx_ge : ∀ (xs : List Int) (n : Int), n ≤ xs.foldl (fun n x => mx n (x + 1)) n
  | [], n => Int.le_refl _
  | x :: xs, n => by
    have := foldl_mx_ge xs (mx n (x + 1))
    have := mx_le n (x + 1)
    rw [List.foldl_cons]
    omega
theorem thr_nonneg (xs : List Int) : 0 ≤ thr xs := foldl_mx_ge xs 0
theorem thr_shift : ∀ (xs : List Int) (y : Int), xs.foldl (fun n x => mx n (x + 1)) (y + 1) = xs.foldl mx y + 1
  | [], y => rfl
  | x :: xs, y => by
    rw [List.foldl_cons, List.foldl_cons, ← thr_shift xs (mx y x)]
    congr 1
    unfold mx
    split <;> split <;> omega
theorem thr_max (x : Int) (xs : List Int) (h : -1 ≤ x) : thr (x :: xs) = xs.foldl mx x + 1 := by
  unfold thr
  rw [List.foldl_cons, ← thr_shift, show mx 0 (x + 1) = x + 1 by unfold mx; split <;> omega]
theorem foldl_mx_in : ∀ (xs : List Int) (y B : Int), y ≤ B → (∀ x ∈ xs, x ≤ B) → xs.foldl mx y ≤ B
  | [], y, B, h, _ => h
  | x :: xs, y, B, h, hx => by
    rw [List.foldl_cons]
    refine foldl_mx_in xs _ B ?_ (fun z hz => hx z (List.mem_cons_of_mem _ hz))
    have := mx_le y x
    have := hx x List.mem_cons_self
    omega
theorem foldl_mx_le : ∀ (xs : List Int) (y : Int), y ≤ xs.foldl mx y
  | [], y => Int.le_refl _
  | x :: xs, y => by
    have := foldl_mx_le xs (mx y x)
    have := mx_le y x
    rw [List.foldl_cons]
    omega
theorem mem_all_in {a x : List Int} (h9 : a.length ≤ 9) (h : x ∈ genAll a) : x.length = a.length ∧ ∀ y ∈ x, -1 ≤ y ∧ y ≤ 8 := by
  have h1 := mem_gen_len a _ _ _ x h
  obtain ⟨m', h2, h3, h4, _⟩ := mem_gen_in a _ _ _ x h (by simp)
  refine ⟨by simpa using h1, fun y hy => ?_⟩
  have := h4 y hy
  omega
theorem gen_ne (a : List Int) : ∀ (d n : Nat), gen a d (List.replicate n (-1)) 0 ≠ []
  | 0, n => by
    rw [gen, if_pos (by rw [fits_iff]; intro t ht; omega)]
    simp
  | d + 1, n => by
    rw [gen]
    intro h
    rw [List.flatMap_eq_nil_iff] at h
    have := h 0 (by simp)
    rw [if_neg (by omega), if_neg (by omega)] at this
    refine gen_ne a d (n + 1) ?_
    rw [List.replicate_succ']
    exact this
theorem genAll_ne (a : List Int) : genAll a ≠ [] := gen_ne a a.length 0
theorem sthr_l (xs : List Int) (hx : ∀ y ∈ xs, -1 ≤ y ∧ y ≤ 8) (hl : xs.length ≤ 1000) : ∀ (d k i : Nat) (n : Int), i + d = xs.length → d + 1 ≤ k → spec_l9Threes.l0 k xs n (i : Int) = some ((xs.drop i).foldl (fun n x => mx n (x + 1)) n) := by
  intro d
  induction d with
  | zero =>
    intro k i n hi hk
    obtain ⟨m, rfl⟩ : ∃ m, k = m + 1 := ⟨k - 1, by omega⟩
    rw [spec_l9Threes.l0, if_neg (by omega), List.drop_eq_nil_of_le (by omega)]
    rfl
  | succ d ih =>
    intro k i n hi hk
    obtain ⟨m, rfl⟩ : ∃ m, k = m + 1 := ⟨k - 1, by omega⟩
    have hil : i < xs.length := by omega
    have := hx _ (List.getElem_mem hil)
    rw [spec_l9Threes.l0, if_pos (by omega), if_pos (by omega), rd_at hil, show wrap64 (xs[i] + 1) = xs[i] + 1 by unfold wrap64; omega, wrap_nat (by omega), ih m (i + 1) _ (by omega) (by omega), List.drop_eq_getElem_cons hil]
    rfl
theorem sthr_tells (xs : List Int) (hx : ∀ y ∈ xs, -1 ≤ y ∧ y ≤ 8) (hl : xs.length ≤ 1000) (k : Nat) (hk : xs.length + 1 ≤ k) : spec_l9Threes.f k xs = some (thr xs) := by
  have := sthr_l xs hx hl xs.length k 0 0 (by omega) hk
  unfold spec_l9Threes.f
  rw [show ((0 : Nat) : Int) = 0 from rfl, List.drop_zero] at this
  exact this
theorem imax_l (xs : List Int) (hl : xs.length ≤ 1000) : ∀ (d k i : Nat) (n : Int), i + d = xs.length → d + 1 ≤ k → slices_Max_int_int.l0 k xs n (i : Int) = some ((xs.drop i).foldl mx n) := by
  intro d
  induction d with
  | zero =>
    intro k i n hi hk
    obtain ⟨m, rfl⟩ : ∃ m, k = m + 1 := ⟨k - 1, by omega⟩
    rw [slices_Max_int_int.l0, if_neg (by omega), List.drop_eq_nil_of_le (by omega)]
    rfl
  | succ d ih =>
    intro k i n hi hk
    obtain ⟨m, rfl⟩ : ∃ m, k = m + 1 := ⟨k - 1, by omega⟩
    have hil : i < xs.length := by omega
    rw [slices_Max_int_int.l0, if_pos (by omega), if_pos (by omega), rd_at hil, wrap_nat (by omega), ih m (i + 1) _ (by omega) (by omega), List.drop_eq_getElem_cons hil]
    rfl
theorem imax_tells (x : Int) (xs : List Int) (hl : xs.length ≤ 900) (k : Nat) (hk : xs.length + 2 ≤ k) : slices_Max_int_int.f k (x :: xs) = some (xs.foldl mx x) := by
  have := imax_l (x :: xs) (by simp; omega) xs.length k 1 x (by simp; omega) (by omega)
  unfold slices_Max_int_int.f
  rw [if_pos (by simp)]
  exact this
/-- What the program takes for the number of threes. -/
theorem imax_thr (xs : List Int) (h1 : 1 ≤ xs.length) (hl : xs.length ≤ 900) (hx : ∀ y ∈ xs, -1 ≤ y ∧ y ≤ 8) (k : Nat) (hk : xs.length + 2 ≤ k) : ∃ M, slices_Max_int_int.f k xs = some M ∧ wrap64 (M + 1) = thr xs ∧ -1 ≤ M ∧ M ≤ 8 := by
  match xs, h1, hl, hx, hk with
  | x :: r, _, hl, hx, hk =>
    have h0 := hx x List.mem_cons_self
    refine ⟨_, imax_tells x r (by simp at hl; omega) k (by simp at hk; omega), ?_, ?_, ?_⟩
    · have h2 := foldl_mx_in r x 8 (by omega) (fun z hz => (hx z (List.mem_cons_of_mem _ hz)).2)
      have h3 := foldl_mx_le r x
      rw [thr_max x r (by omega)]
      unfold wrap64
      omega
    · have h3 := foldl_mx_le r x
      omega
    · exact foldl_mx_in r x 8 (by omega) (fun z hz => (hx z (List.mem_cons_of_mem _ hz)).2)
/-! ### what a part list is -/
def rg : List Int → Nat → Option Nat
  | [], m => some m
  | x :: l, m => if -1 ≤ x ∧ x ≤ (m : Int) then rg l (if x = (m : Int) then m + 1 else m) else none
theorem rg_le : ∀ (l : List Int) (m m' : Nat), rg l m = some m' → m ≤ m' ∧ m' ≤ m + l.length
  | [], m, m', h => by
    rw [rg] at h
    injection h with h
    subst h
    exact ⟨Nat.le_refl _, by simp⟩
  | x :: l, m, m', h => by
    rw [rg] at h
    split at h
    · have := rg_le l _ m' h
      rw [List.length_cons]
      split at this <;> omega
    · cases h
theorem places_mono (t : Int) : ∀ (y l : List Int), (places l t).length ≤ (places (l ++ y) t).length
  | [], l => by rw [List.append_nil]; exact Nat.le_refl _
  | x :: y, l => by
    have h := places_mono t y (l ++ [x])
    rw [List.append_assoc, List.singleton_append] at h
    rw [places_app, List.length_append] at h
    omega
theorem gen_iff (a : List Int) : ∀ (d : Nat) (l : List Int) (m : Nat) (x : List Int), x ∈ gen a d l m ↔ ∃ y m', x = l ++ y ∧ y.length = d ∧ rg y m = some m' ∧ fits a x m' = true
  | 0, l, m, x => by
    rw [gen]
    constructor
    · intro h
      split at h
      · next hf =>
        rw [List.mem_singleton] at h
        subst h
        exact ⟨[], m, by simp, rfl, rfl, hf⟩
      · cases h
    · rintro ⟨y, m', rfl, h2, h3, h4⟩
      have : y = [] := List.length_eq_zero_iff.mp h2
      subst this
      rw [rg] at h3
      injection h3 with h3
      subst h3
      rw [List.append_nil] at h4 ⊢
      rw [if_pos h4]
      exact List.mem_singleton.mpr rfl
  | d + 1, l, m, x => by
    rw [gen, List.mem_flatMap]
    constructor
    · rintro ⟨e, he, h⟩
      rw [List.mem_range'_1] at he
      split at h
      · cases h
      · obtain ⟨y, m', h1, h2, h3, h4⟩ := (gen_iff a d _ _ x).mp h
        refine ⟨((e : Int) - 1) :: y, m', by rw [h1, List.append_assoc]; rfl, by rw [List.length_cons, h2], ?_, h4⟩
        rw [rg, if_pos (by omega), ← h3]
        congr 1
        split <;> split <;> omega
    · rintro ⟨y, m', h1, h2, h3, h4⟩
      match y, h1, h2, h3 with
      | z :: y, h1, h2, h3 =>
        rw [rg] at h3
        split at h3
        · next hz =>
          obtain ⟨e, rfl⟩ : ∃ e : Nat, z = (e : Int) - 1 := ⟨(z + 1).toNat, by omega⟩
          refine ⟨e, by rw [List.mem_range'_1]; omega, ?_⟩
          have hle := rg_le _ _ _ h3
          rw [if_neg]
          · refine (gen_iff a d _ _ x).mpr ⟨y, m', by rw [h1, List.append_assoc]; rfl, by simpa using h2, ?_, h4⟩
            rw [← h3]
            congr 1
            split <;> split <;> omega
          · rintro ⟨q1, q2⟩
            rw [fits_iff] at h4
            have h5 := three_len (h4 (e - 1) (by split at hle <;> omega))
            rw [selOf_len, show ((e - 1 : Nat) : Int) = (e : Int) - 1 by omega, h1, show l ++ ((e : Int) - 1) :: y = (l ++ [(e : Int) - 1]) ++ y by rw [List.append_assoc]; rfl] at h5
            have h6 := places_mono ((e : Int) - 1) y (l ++ [(e : Int) - 1])
            rw [places_app, if_pos rfl, List.length_append, List.length_singleton] at h6
            omega
        · cases h3
theorem all_iff (a x : List Int) : x ∈ genAll a ↔ x.length = a.length ∧ ∃ m, rg x 0 = some m ∧ fits a x m = true := by
  unfold genAll
  rw [gen_iff]
  constructor
  · rintro ⟨y, m, rfl, h2, h3, h4⟩
    exact ⟨h2, m, h3, h4⟩
  · rintro ⟨h2, m, h3, h4⟩
    exact ⟨x, m, rfl, h2, h3, h4⟩
/-- How many sticks are in the first classes. -/
def inN (x : List Int) : Nat → Nat
  | 0 => 0
  | m + 1 => inN x m + (places x (m : Int)).length
theorem inN_app (x : List Int) (y : Int) : ∀ m, inN (x ++ [y]) m = inN x m + if 0 ≤ y ∧ y < m then 1 else 0
  | 0 => by rw [inN, inN, if_neg (by omega)]
  | m + 1 => by
    rw [inN, inN, inN_app x y m, places_app, List.length_append]
    by_cases h : y = (m : Int)
    · rw [if_pos h, if_neg (by omega), if_pos (by omega)]
      simp only [List.length_singleton]
      omega
    · rw [if_neg h]
      simp only [List.length_nil]
      by_cases h2 : 0 ≤ y ∧ y < (m : Int)
      · rw [if_pos h2, if_pos (by omega)]
        omega
      · rw [if_neg h2, if_neg (by omega)]
        omega
theorem inN_nil : ∀ m, inN [] m = 0
  | 0 => rfl
  | m + 1 => by rw [inN, inN_nil m]; rfl
theorem inN_le (m : Nat) : ∀ (n : Nat) (x : List Int), x.length = n → inN x m ≤ n
  | 0, x, h => by rw [List.length_eq_zero_iff.mp h, inN_nil]; exact Nat.le_refl _
  | n + 1, x, h => by
    rcases List.eq_nil_or_concat x with rfl | ⟨y, z, rfl⟩
    · simp at h
    · rw [List.concat_eq_append] at h ⊢
      have := inN_le m n y (by simpa using h)
      rw [inN_app]
      split <;> omega
theorem inN_fits (a x : List Int) : ∀ m, fits a x m = true → inN x m = 3 * m
  | 0, _ => rfl
  | m + 1, h => by
    rw [fits_iff] at h
    have h1 := inN_fits a x m (fits_iff.mpr fun t ht => h t (by omega))
    have h2 := three_len (h m (by omega))
    rw [selOf_len] at h2
    rw [inN, h1, h2]
    omega
def noNeg (x : List Int) : Bool := decide ((-1 : Int) ∉ x)
theorem rg_thr : ∀ (l : List Int) (m m' : Nat), rg l m = some m' → l.foldl (fun n x => mx n (x + 1)) (m : Int) = (m' : Int)
  | [], m, m', h => by
    rw [rg] at h
    injection h with h
    subst h
    rfl
  | x :: l, m, m', h => by
    rw [rg] at h
    split at h
    · next hx =>
      rw [List.foldl_cons, ← rg_thr l _ m' h]
      congr 1
      unfold mx
      split <;> split <;> omega
    · cases h
theorem rg_in (l : List Int) (m m' : Nat) (h : rg l m = some m') : ∀ y ∈ l, -1 ≤ y ∧ y < m' := by
  induction l generalizing m with
  | nil => intro y hy; cases hy
  | cons x l ih =>
    rw [rg] at h
    split at h
    · next hx =>
      have hle := rg_le _ _ _ h
      intro y hy
      rcases List.mem_cons.mp hy with rfl | hy
      · split at hle <;> omega
      · exact ih _ h y hy
    · cases h
theorem thr_third {a xs : List Int} (hxs : xs ∈ genAll a) : ∃ m, rg xs 0 = some m ∧ fits a xs m = true ∧ thr xs = (m : Int) ∧ 3 * m ≤ a.length := by
  obtain ⟨q1, m, hm, hf⟩ := (all_iff a xs).mp hxs
  have hthr : thr xs = (m : Int) := rg_thr xs 0 m hm
  have h3 := inN_fits a xs m hf
  have h4 := inN_le m xs.length xs rfl
  exact ⟨m, hm, hf, hthr, by omega⟩
theorem equal_l (x l : List Int) (hl : x.length = l.length) (h9 : x.length ≤ 1000) : ∀ (d k i : Nat), i + d = x.length → d + 1 ≤ k →
    slices_Equal_int_int.l0 k x l (x.length : Int) (i : Int) = some (decide (x.drop i = l.drop i)) := by
  intro d
  induction d with
  | zero =>
    intro k i hi hk
    obtain ⟨m, rfl⟩ : ∃ m, k = m + 1 := ⟨k - 1, by omega⟩
    rw [slices_Equal_int_int.l0, if_neg (by omega), List.drop_eq_nil_of_le (by omega), List.drop_eq_nil_of_le (by omega)]
    rfl
  | succ d ih =>
    intro k i hi hk
    obtain ⟨m, rfl⟩ : ∃ m, k = m + 1 := ⟨k - 1, by omega⟩
    have h1 : i < x.length := by omega
    have h2 : i < l.length := by omega
    rw [slices_Equal_int_int.l0, if_pos (by omega), if_pos (by omega), if_pos (by omega), if_pos (by omega), rd_at h1, rd_at h2, wrap_nat (by omega), List.drop_eq_getElem_cons h1, List.drop_eq_getElem_cons h2, ih m (i + 1) (by omega) (by omega)]
    by_cases h : x[i] = l[i]
    · rw [if_pos h, h]
      congr 1
      rw [decide_eq_decide]
      simp only [List.cons.injEq, true_and]
    · rw [if_neg h]
      symm
      congr 1
      rw [decide_eq_false_iff_not]
      intro hh
      injection hh with hh _
      exact h hh
theorem equal_tells (x l : List Int) (hl : x.length = l.length) (h9 : x.length ≤ 1000) (k : Nat) (hk : x.length + 1 ≤ k) : slices_Equal_int_int.f k x l = some (decide (x = l)) := by
  have := equal_l x l hl h9 x.length k 0 (by omega) hk
  unfold slices_Equal_int_int.f
  rw [if_pos (by omega)]
  simpa using this
theorem foldl_any (l : List Int) : ∀ (ls : List (List Int)) (s : Bool), ls.foldl (fun s x => if s = true then true else decide (x = l)) s = (s || decide (l ∈ ls))
  | [], s => by simp
  | x :: ls, s => by
    rw [List.foldl_cons, foldl_any l ls]
    cases s with
    | true => simp
    | false =>
      by_cases h : x = l
      · subst h
        simp
      · rw [if_neg (by decide), decide_eq_false h]
        simp only [Bool.false_or, List.mem_cons, decide_eq_decide]
        constructor
        · exact .inr
        · rintro (h' | h')
          · exact absurd h'.symm h
          · exact h'
def isOf (a l : List Int) : Bool := decide (isBundle a ∧ l.length = a.length ∧ l ∈ genAll a)
theorem is_impl (a l : List Int) (ha : a.length ≤ 1048576) (hl : l.length ≤ 1048576) : ∃ K, ∀ k, K ≤ k → impl_PartIs.f k a l = some (isOf a l) := by
  by_cases hb : isBundle a
  · obtain ⟨K, h⟩ := parts_tells a hb.1 (fun s x => if s = true then true else decide (x = l))
    refine ⟨K + a.length + l.length + 100, fun k hk => ?_⟩
    have h9 := hb.1.2.2
    unfold impl_PartIs.f isOf
    rw [impl_bundle a ha k (by omega), decide_eq_true hb]
    simp only [Option.bind_some]
    rw [if_pos trivial]
    by_cases hn : l.length = a.length
    · rw [if_pos (by omega), h k (by omega) (impl_PartIs.step k l) false (fun s xs hx => ?_), foldl_any]
      · simp [hb, hn]
      · have hin := mem_all_in h9 hx
        unfold impl_PartIs.step
        rw [equal_tells xs l (by omega) (by omega) k (by omega)]
        split <;> rfl
    · rw [if_neg (by omega)]
      simp [hn]
  · refine ⟨a.length + 100, fun k hk => ?_⟩
    unfold impl_PartIs.f isOf
    rw [impl_bundle a ha k (by omega), decide_eq_false hb]
    simp only [Option.bind_some]
    rw [if_neg (by decide)]
    simp [hb]
theorem three_places {a l : List Int} {t : Int} (ha : ∀ x ∈ a, 1 ≤ x ∧ x ≤ 60) (hl : l.length = a.length) (h : (places l t).length = 3) :
    ∃ p0 p1 p2 : Nat, places l t = [p0, p1, p2] ∧ p0 < a.length ∧ p1 < a.length ∧ p2 < a.length ∧ selOf a l t = [rd a p0, rd a p1, rd a p2] ∧ (1 ≤ rd a p0 ∧ rd a p0 ≤ 60) ∧ (1 ≤ rd a p1 ∧ rd a p1 ≤ 60) ∧ (1 ≤ rd a p2 ∧ rd a p2 ≤ 60) := by
  match hp : places l t, h with
  | [p0, p1, p2], _ =>
    have h0 : p0 < l.length := places_lt (t := t) (by rw [hp]; simp)
    have h1 : p1 < l.length := places_lt (t := t) (by rw [hp]; simp)
    have h2 : p2 < l.length := places_lt (t := t) (by rw [hp]; simp)
    have key : ∀ j : Nat, j < a.length → 1 ≤ rd a (j : Int) ∧ rd a (j : Int) ≤ 60 := fun j hj => by
      rw [rd_at hj]
      exact ha _ (List.getElem_mem hj)
    refine ⟨p0, p1, p2, rfl, by omega, by omega, by omega, ?_, key p0 (by omega), key p1 (by omega), key p2 (by omega)⟩
    unfold selOf
    rw [hp]
    rfl
theorem sis1 (a l : List Int) (ha : ∀ x ∈ a, 1 ≤ x ∧ x ≤ 60) (h9 : a.length ≤ 9) (hl : l.length = a.length) (m : Nat) (hm : m ≤ 9) : ∀ (d k t : Nat), t + d = m → d + 20 ≤ k →
    spec_PartIs.l1 k a l (m : Int) (t : Int) = some ((List.range' t d).all fun t => three (selOf a l (t : Int))) := by
  intro d
  induction d with
  | zero =>
    intro k t ht hk
    obtain ⟨q, rfl⟩ : ∃ q, k = q + 1 := ⟨k - 1, by omega⟩
    rw [spec_PartIs.l1, if_neg (by omega)]
    rfl
  | succ d ih =>
    intro k t ht hk
    obtain ⟨q, rfl⟩ : ∃ q, k = q + 1 := ⟨k - 1, by omega⟩
    have hw := wrap_nat (n := t) (by omega)
    have ht' : t + 1 + d = m := by omega
    have hk' : d + 20 ≤ q := by omega
    rw [spec_PartIs.l1, if_pos (by omega), of_tells l t (by omega) q (by omega)]
    simp only [Option.bind_some, List.length_map]
    by_cases h3 : (places l (t : Int)).length = 3
    · obtain ⟨p0, p1, p2, hp, q0, q1, q2, hs, hx, hy, hz⟩ := three_places ha hl h3
      have e0 : rd [(p0 : Int), (p1 : Int), (p2 : Int)] 0 = p0 := rfl
      have e1 : rd [(p0 : Int), (p1 : Int), (p2 : Int)] 1 = p1 := rfl
      have e2 : rd [(p0 : Int), (p1 : Int), (p2 : Int)] 2 = p2 := rfl
      rw [hp]
      simp only [List.map_cons, List.map_nil, List.length_cons, List.length_nil]
      rw [if_pos (by decide), if_pos (by decide), e0, e1, e2, if_pos (by omega), if_pos (by omega), if_pos (by decide), if_pos (by omega), if_pos (by omega), if_pos (by decide), if_pos (by omega), if_pos (by omega), l1three_tells _ _ _ hx hy hz, List.range'_succ, List.all_cons, hs]
      simp only [Option.bind_some]
      cases hh : tri (rd a p0) (rd a p1) (rd a p2) with
      | true =>
        rw [if_pos rfl, hw, ih q (t + 1) ht' hk', show three [rd a p0, rd a p1, rd a p2] = true from hh, Bool.true_and]
      | false =>
        rw [if_neg (by decide), show three [rd a p0, rd a p1, rd a p2] = false from hh, Bool.false_and]
    · have : three (selOf a l (t : Int)) = false := by
        cases h : three (selOf a l (t : Int)) with
        | true => exact absurd (by rw [← selOf_len a]; exact three_len h) h3
        | false => rfl
      rw [if_neg (by omega), List.range'_succ, List.all_cons, this, Bool.false_and]
theorem sis0 (a l : List Int) (ha : ∀ x ∈ a, 1 ≤ x ∧ x ≤ 60) (h9 : a.length ≤ 9) (hl : l.length = a.length) : ∀ (d k i m : Nat), i + d = l.length → m ≤ i → d + 50 ≤ k →
    spec_PartIs.l0 k a l (m : Int) (i : Int) = some (match rg (l.drop i) m with | some m' => fits a l m' | none => false) := by
  intro d
  induction d with
  | zero =>
    intro k i m hi hm hk
    obtain ⟨q, rfl⟩ : ∃ q, k = q + 1 := ⟨k - 1, by omega⟩
    have := sis1 a l ha h9 hl m (by omega) m q 0 (by omega) (by omega)
    rw [spec_PartIs.l0, if_neg (by omega), show (0 : Int) = ((0 : Nat) : Int) from rfl, this, List.drop_eq_nil_of_le (by omega), rg]
    simp only [fits, List.range_eq_range']
  | succ d ih =>
    intro k i m hi hm hk
    obtain ⟨q, rfl⟩ : ∃ q, k = q + 1 := ⟨k - 1, by omega⟩
    have hil : i < l.length := by omega
    rw [spec_PartIs.l0, if_pos (by omega), if_pos (by omega), rd_at hil, List.drop_eq_getElem_cons hil, rg]
    generalize l[i] = x
    unfold spec_l6In.f
    by_cases h1 : -1 ≤ x
    · rw [if_pos (show x ≥ -1 from h1)]
      simp only [Option.bind_some, decide_eq_true_eq]
      by_cases h2 : x ≤ (m : Int)
      · rw [if_pos h2, if_pos (show -1 ≤ x ∧ x ≤ (m : Int) from ⟨h1, h2⟩), wrap_nat (n := i) (by omega), wrap_nat (n := m) (by omega)]
        by_cases h3 : x = (m : Int)
        · rw [if_pos h3, if_pos h3]
          exact ih q (i + 1) (m + 1) (by omega) (by omega) (by omega)
        · rw [if_neg h3, if_neg h3]
          exact ih q (i + 1) m (by omega) (by omega) (by omega)
      · rw [if_neg h2, if_neg (show ¬ (-1 ≤ x ∧ x ≤ (m : Int)) from fun h => h2 h.2)]
    · rw [if_neg (show ¬ x ≥ -1 from h1), if_neg (show ¬ (-1 ≤ x ∧ x ≤ (m : Int)) from fun h => h1 h.1)]
      rfl
theorem is_spec (a l : List Int) (ha : a.length ≤ 1048576) (hl : l.length ≤ 1048576) (k : Nat) (hk : a.length + 100 ≤ k) : spec_PartIs.f k a l = some (isOf a l) := by
  unfold spec_PartIs.f isOf
  obtain ⟨q, rfl⟩ : ∃ q, k = q + 1 := ⟨k - 1, by omega⟩
  rw [spec_bundle a ha (q + 1) (by omega)]
  simp only [Option.bind_some, decide_eq_true_eq]
  by_cases hb : isBundle a
  · have h9 := hb.1.2.2
    rw [if_pos hb, spec_PartIs.j0]
    by_cases hn : l.length = a.length
    · have e : ((l.length : Int) != (a.length : Int)) = false := by rw [hn]; simp
      have := sis0 a l hb.1.1 h9 hn l.length q 0 0 (by omega) (by omega) (by omega)
      rw [show ((0 : Nat) : Int) = 0 from rfl, List.drop_zero] at this
      rw [e, if_neg (by decide), this]
      congr 1
      have hi := all_iff a l
      cases hg : rg l 0 with
      | none =>
        symm
        rw [decide_eq_false_iff_not]
        rintro ⟨_, _, h⟩
        obtain ⟨_, m, h2, _⟩ := hi.mp h
        rw [hg] at h2
        cases h2
      | some m' =>
        simp only
        cases hf : fits a l m' with
        | true =>
          symm
          rw [decide_eq_true_eq]
          exact ⟨hb, hn, hi.mpr ⟨hn, m', hg, hf⟩⟩
        | false =>
          symm
          rw [decide_eq_false_iff_not]
          rintro ⟨_, _, h⟩
          obtain ⟨_, m, h2, h3⟩ := hi.mp h
          rw [hg] at h2
          injection h2 with h2
          subst h2
          rw [hf] at h3
          cases h3
    · have e : ((l.length : Int) != (a.length : Int)) = true := by rw [bne_iff_ne]; omega
      rw [e, if_pos rfl]
      simp [hn]
  · rw [if_neg hb, spec_PartIs.j0, if_pos rfl]
    simp [hb]
/-! ### numbers, said with spaces between -/
theorem list_bytes (s : ByteArray) : s = ⟨s.data.toList.toArray⟩ := by
  cases s
  rfl
theorem bytes_eq {a b : ByteArray} (h : a.data.toList = b.data.toList) : a = b := by
  rw [list_bytes a, list_bytes b, h]
/-! ### a text, cut at its spaces -/
def cut : List UInt8 → List (List UInt8)
  | [] => [[]]
  | b :: r => if b = 32 then [] :: cut r else (match cut r with
    | [] => [[b]]
    | q :: qs => (b :: q) :: qs)
theorem cut_ne : ∀ s, cut s ≠ []
  | [] => by simp [cut]
  | b :: r => by
    unfold cut
    split
    · simp
    · split <;> simp
theorem cut_space (r : List UInt8) : cut (32 :: r) = [] :: cut r := by
  rw [cut, if_pos rfl]
theorem cut_head {b : UInt8} (r : List UInt8) (hb : b ≠ 32) : ∃ q qs, cut r = q :: qs ∧ cut (b :: r) = (b :: q) :: qs := by
  cases h : cut r with
  | nil => exact absurd h (cut_ne r)
  | cons q qs => exact ⟨q, qs, rfl, by rw [cut, if_neg hb, h]⟩
theorem splitK_ne : ∀ (k : Nat) (s : List UInt8), Lib.splitK [32] 0 k s ≠ []
  | 0, s => by simp [Lib.splitK]
  | k + 1, s => by
    unfold Lib.splitK
    split <;> simp
theorem splitK_head {b : UInt8} (hb : b ≠ 32) (r : List UInt8) : ∀ k, ∃ q qs, Lib.splitK [32] 0 k r = q :: qs ∧ Lib.splitK [32] 0 k (b :: r) = (b :: q) :: qs
  | 0 => ⟨r, [], rfl, rfl⟩
  | k + 1 => by
    have hi : Lib.index (b :: r) [32] = if Lib.index r [32] == -1 then -1 else Lib.index r [32] + 1 := by
      rw [Lib.index, if_neg (by simp [List.isPrefixOf]; exact fun h => hb h.symm)]
    unfold Lib.splitK
    by_cases h : Lib.index r [32] = -1
    · rw [hi, h]
      exact ⟨r, [], by simp, by simp⟩
    · have hge : -1 ≤ Lib.index r [32] := by
        rw [Lib.index_one]
        exact Lib.indexByte_ge _ _
      obtain ⟨i, e⟩ : ∃ i : Nat, Lib.index r [32] = (i : Int) := ⟨(Lib.index r [32]).toNat, by omega⟩
      have h1 : (Lib.index r [32] == -1) = false := beq_eq_false_iff_ne.mpr h
      have h2 : (Lib.index (b :: r) [32] == -1) = false := by
        rw [hi, h1, e]
        exact beq_eq_false_iff_ne.mpr (by simp; omega)
      have h3 : Lib.index (b :: r) [32] = ((i + 1 : Nat) : Int) := by rw [hi, h1, e]; simp
      rw [h1, h2, h3, e]
      refine ⟨_, _, rfl, ?_⟩
      simp only [Int.toNat_natCast, Nat.add_zero]
      rfl
theorem split_cut : ∀ s : List UInt8, Lib.splitK [32] 0 (s.count 32) s = cut s
  | [] => rfl
  | b :: r => by
    by_cases hb : b = 32
    · subst hb
      rw [cut_space, ← split_cut r, List.count_cons_self]
      have h0 : Lib.index (32 :: r) [32] = 0 := by rw [Lib.index, if_pos (by simp [List.isPrefixOf])]
      conv => lhs; unfold Lib.splitK
      rw [h0]
      rfl
    · rw [List.count_cons_of_ne hb]
      obtain ⟨q, qs, h1, h2⟩ := splitK_head hb r (r.count 32)
      obtain ⟨q', qs', h3, h4⟩ := cut_head r hb
      rw [split_cut r, h3] at h1
      injection h1 with e1 e2
      rw [h2, h4, e1, e2]
theorem join_cut : ∀ s : List UInt8, Lib.join (cut s) [32] = s
  | [] => rfl
  | b :: r => by
    have ih := join_cut r
    by_cases hb : b = 32
    · subst hb
      rw [cut_space]
      cases h : cut r with
      | nil => exact absurd h (cut_ne r)
      | cons q qs =>
        rw [h, Lib.join_cons] at ih
        rw [Lib.join_cons, List.nil_append]
        unfold Lib.joinTail at ih ⊢
        rw [List.map_cons, List.flatten_cons, List.append_assoc, ih]
        rfl
    · obtain ⟨q, qs, h1, h2⟩ := cut_head r hb
      rw [h1, Lib.join_cons] at ih
      rw [h2, Lib.join_cons, List.cons_append, ih]
theorem cut_app : ∀ (x : List UInt8), (∀ b ∈ x, b ≠ 32) → ∀ t, cut (x ++ 32 :: t) = x :: cut t
  | [], _, t => cut_space t
  | b :: x, h, t => by
    obtain ⟨q, qs, h1, h2⟩ := cut_head (x ++ 32 :: t) (h b (List.mem_cons_self ..))
    rw [cut_app x (fun c hc => h c (List.mem_cons_of_mem _ hc)) t] at h1
    injection h1 with e1 e2
    rw [List.cons_append, h2, e1, e2]
theorem cut_one : ∀ (x : List UInt8), (∀ b ∈ x, b ≠ 32) → cut x = [x]
  | [], _ => rfl
  | b :: x, h => by
    obtain ⟨q, qs, h1, h2⟩ := cut_head x (h b (List.mem_cons_self ..))
    rw [cut_one x (fun c hc => h c (List.mem_cons_of_mem _ hc))] at h1
    injection h1 with e1 e2
    rw [h2, ← e1, ← e2]
theorem cut_join : ∀ (r : List (List UInt8)) (x : List UInt8), (∀ q ∈ x :: r, ∀ b ∈ q, b ≠ 32) → cut (Lib.join (x :: r) [32]) = x :: r
  | [], x, h => by
    rw [Lib.join_one]
    exact cut_one x (h x (List.mem_cons_self ..))
  | y :: r, x, h => by
    have e : Lib.join (x :: y :: r) [32] = x ++ 32 :: Lib.join (y :: r) [32] := by
      rw [Lib.join_cons, Lib.join_cons]
      unfold Lib.joinTail
      rw [List.map_cons, List.flatten_cons, List.append_assoc]
      rfl
    rw [e, cut_app x (h x (List.mem_cons_self ..)), cut_join r y (fun q hq => h q (List.mem_cons_of_mem _ hq))]
/-- The numbers that the reference reads. -/
def tok (p : List UInt8) : Option Int := if p = [45, 49] then some (-1) else if p = [48] then some 0 else if p = [49] then some 1 else if p = [50] then some 2 else none
def toks : List (List UInt8) → Option (List Int)
  | [] => some []
  | p :: r => (tok p).bind fun n => (toks r).bind fun ns => some (n :: ns)
theorem tok_some {p : List UInt8} {n : Int} (h : tok p = some n) : -1 ≤ n ∧ n ≤ 2 ∧ p = Lib.itoa n := by
  unfold tok at h
  split at h
  · next e => obtain rfl := Option.some.inj h; exact ⟨by decide, by decide, by rw [e]; decide +kernel⟩
  · split at h
    · next e => obtain rfl := Option.some.inj h; exact ⟨by decide, by decide, by rw [e]; decide +kernel⟩
    · split at h
      · next e => obtain rfl := Option.some.inj h; exact ⟨by decide, by decide, by rw [e]; decide +kernel⟩
      · split at h
        · next e => obtain rfl := Option.some.inj h; exact ⟨by decide, by decide, by rw [e]; decide +kernel⟩
        · cases h
theorem itoa_four {n : Int} (h : -1 ≤ n ∧ n ≤ 2) : tok (Lib.itoa n) = some n ∧ (∀ b ∈ Lib.itoa n, b ≠ 32) ∧ Lib.atoiAll (Lib.itoa n) = .ok n := by
  have hn : n = -1 ∨ n = 0 ∨ n = 1 ∨ n = 2 := by omega
  rcases hn with rfl | rfl | rfl | rfl
  · rw [show Lib.itoa (-1) = [45, 49] by decide +kernel]; exact ⟨by decide, by decide, by decide +kernel⟩
  · rw [show Lib.itoa 0 = [48] by decide +kernel]; exact ⟨by decide, by decide, by decide +kernel⟩
  · rw [show Lib.itoa 1 = [49] by decide +kernel]; exact ⟨by decide, by decide, by decide +kernel⟩
  · rw [show Lib.itoa 2 = [50] by decide +kernel]; exact ⟨by decide, by decide, by decide +kernel⟩
theorem toks_some : ∀ (ps : List (List UInt8)) (ns : List Int), toks ps = some ns → ps = ns.map Lib.itoa ∧ ∀ n ∈ ns, -1 ≤ n ∧ n ≤ 2
  | [], ns, h => by
    obtain rfl := Option.some.inj h
    exact ⟨rfl, by simp⟩
  | p :: r, ns, h => by
    rw [toks] at h
    obtain ⟨n, h1, h⟩ := Option.bind_eq_some_iff.mp h
    obtain ⟨ms, h2, h⟩ := Option.bind_eq_some_iff.mp h
    obtain rfl := Option.some.inj h
    obtain ⟨a, b, c⟩ := tok_some h1
    obtain ⟨d, e⟩ := toks_some r ms h2
    refine ⟨by rw [List.map_cons, ← c, ← d], ?_⟩
    intro m hm
    rcases List.mem_cons.mp hm with rfl | hm
    · exact ⟨a, b⟩
    · exact e m hm
theorem toks_itoa : ∀ (ns : List Int), (∀ n ∈ ns, -1 ≤ n ∧ n ≤ 2) → toks (ns.map Lib.itoa) = some ns
  | [], _ => rfl
  | n :: ns, h => by
    rw [List.map_cons, toks, (itoa_four (h n (List.mem_cons_self ..))).1, Option.bind_some, toks_itoa ns (fun m hm => h m (List.mem_cons_of_mem _ hm)), Option.bind_some]
def readOf (s : List UInt8) : Option (List Int) := toks (cut s)
theorem cut_itoas {ns : List Int} (hn : ns ≠ []) (h : ∀ n ∈ ns, -1 ≤ n ∧ n ≤ 2) : cut (Lib.join (ns.map Lib.itoa) [32]) = ns.map Lib.itoa := by
  cases ns with
  | nil => exact absurd rfl hn
  | cons x r =>
    rw [List.map_cons]
    refine cut_join _ _ ?_
    intro q hq
    rw [← List.map_cons, List.mem_map] at hq
    obtain ⟨m, hm, rfl⟩ := hq
    exact (itoa_four (h m hm)).2.1
/-! ### what the reference reads -/
def readFrom (t : List UInt8) (acc : List Int) : List Int × Bool := match toks (cut t) with
  | some ys => (acc ++ ys, true)
  | none => ([], false)
def afterOf (t : List UInt8) (acc : List Int) : List Int × Bool := match t with
  | [] => (acc, true)
  | c :: r => if c = 32 then readFrom r acc else ([], false)
theorem cut_pre : ∀ (x : List UInt8), (∀ b ∈ x, b ≠ 32) → ∀ (t p : List UInt8) (ps : List (List UInt8)), cut t = p :: ps → cut (x ++ t) = (x ++ p) :: ps
  | [], _, t, p, ps, h => h
  | b :: x, hb, t, p, ps, h => by
    obtain ⟨q, qs, h1, h2⟩ := cut_head (x ++ t) (hb b (List.mem_cons_self ..))
    rw [cut_pre x (fun c hc => hb c (List.mem_cons_of_mem _ hc)) t p ps h] at h1
    injection h1 with e1 e2
    rw [List.cons_append, h2, ← e1, ← e2]
    rfl
theorem read_token (x : List UInt8) (n : Int) (hx : ∀ b ∈ x, b ≠ 32) (ht : tok x = some n) (hbad : ∀ c q, c ≠ 32 → tok (x ++ c :: q) = none) (t : List UInt8) (acc : List Int) : readFrom (x ++ t) acc = afterOf t (acc ++ [n]) := by
  cases t with
  | nil =>
    unfold readFrom afterOf
    rw [List.append_nil, cut_one x hx, toks, ht, Option.bind_some, toks, Option.bind_some]
  | cons c r =>
    unfold afterOf
    by_cases hc : c = 32
    · subst hc
      dsimp only
      rw [if_pos rfl]
      unfold readFrom
      rw [cut_app x hx, toks, ht, Option.bind_some]
      cases toks (cut r) with
      | none => rfl
      | some ys => simp
    · dsimp only
      rw [if_neg hc]
      obtain ⟨q, qs, h1, h2⟩ := cut_head r hc
      unfold readFrom
      rw [cut_pre x hx _ _ _ h2, toks, hbad c q hc]
      rfl
theorem read_minus (t : List UInt8) (acc : List Int) : readFrom (45 :: 49 :: t) acc = afterOf t (acc ++ [-1]) :=
  read_token [45, 49] (-1) (by decide) (by decide) (fun c q _ => by unfold tok; simp) t acc
theorem read_zero (t : List UInt8) (acc : List Int) : readFrom (48 :: t) acc = afterOf t (acc ++ [0]) :=
  read_token [48] 0 (by decide) (by decide) (fun c q _ => by unfold tok; simp) t acc
theorem read_one (t : List UInt8) (acc : List Int) : readFrom (49 :: t) acc = afterOf t (acc ++ [1]) :=
  read_token [49] 1 (by decide) (by decide) (fun c q _ => by unfold tok; simp) t acc
theorem read_two (t : List UInt8) (acc : List Int) : readFrom (50 :: t) acc = afterOf t (acc ++ [2]) :=
  read_token [50] 2 (by decide) (by decide) (fun c q _ => by unfold tok; simp) t acc
theorem read_none {p : List UInt8} {ps : List (List UInt8)} {t : List UInt8} (h : cut t = p :: ps) (ht : tok p = none) (acc : List Int) : readFrom t acc = ([], false) := by
  unfold readFrom
  rw [h, toks, ht]
  rfl
theorem read_bad {b : UInt8} (t : List UInt8) (acc : List Int) (h1 : b ≠ 45) (h2 : b ≠ 48) (h3 : b ≠ 49) (h4 : b ≠ 50) : readFrom (b :: t) acc = ([], false) := by
  by_cases hb : b = 32
  · subst hb
    exact read_none (cut_space t) (by decide) acc
  · obtain ⟨q, qs, _, h⟩ := cut_head t hb
    exact read_none h (by unfold tok; simp [h1, h2, h3, h4]) acc
theorem read_dash (acc : List Int) : readFrom [45] acc = ([], false) := read_none (p := [45]) (ps := []) (by decide) (by decide) acc
theorem read_dash_bad {c : UInt8} (t : List UInt8) (acc : List Int) (hc : c ≠ 49) : readFrom (45 :: c :: t) acc = ([], false) := by
  obtain ⟨q, qs, h0, h⟩ := cut_head (c :: t) (b := 45) (by decide)
  by_cases h32 : c = 32
  · subst h32
    rw [cut_space] at h0
    injection h0 with e1 e2
    subst e1
    exact read_none h (by decide) acc
  · obtain ⟨q', qs', _, h'⟩ := cut_head t h32
    rw [h'] at h0
    injection h0 with e1 e2
    subst e1
    exact read_none h (by unfold tok; simp [hc]) acc
theorem drop_at {s : ByteArray} {i : Nat} (h : i < s.size) : ∃ b : UInt8, s.data.toList.drop i = b :: s.data.toList.drop (i + 1) ∧ bt s (i : Int) = (b.toNat : Int) := by
  have hl : i < s.data.toList.length := by simpa using h
  refine ⟨s.data.toList[i], List.drop_eq_getElem_cons hl, ?_⟩
  unfold bt
  rw [dif_pos (by simpa using h)]
  rfl
theorem drop_end {s : ByteArray} {i : Nat} (h : s.size ≤ i) : s.data.toList.drop i = [] := List.drop_eq_nil_of_le (by simpa using h)
theorem u8_iff (b c : UInt8) : b = c ↔ (b.toNat : Int) = (c.toNat : Int) := by
  rw [← UInt8.toNat_inj]
  omega
theorem nums_step (s : ByteArray) (hs : s.size ≤ 1048576) (d : Nat) (ih : ∀ d' k i acc, d' < d → i + d' = s.size → acc.length ≤ i → 3 * d' + 3 ≤ k → spec_l11Numbers.l0 k s acc (i : Int) = some (readFrom (s.data.toList.drop i) acc)) :
    ∀ d' k i acc, d' < d → i + d' = s.size → acc.length ≤ i → 3 * d' + 1 ≤ k → spec_l11Numbers.j2 k s acc (i : Int) = some (afterOf (s.data.toList.drop i) acc) := by
  intro d' k i acc hd hi ha hk
  obtain ⟨m, rfl⟩ : ∃ m, k = m + 1 := ⟨k - 1, by omega⟩
  rw [spec_l11Numbers.j2]
  by_cases hl : i < s.size
  · obtain ⟨c, e1, e2⟩ := drop_at hl
    rw [if_neg (by omega), if_pos (by omega), if_pos (by omega), e2, e1]
    unfold afterOf
    dsimp only
    by_cases hc : c = 32
    · rw [if_pos hc, if_pos (show (c.toNat : Int) = 32 from (u8_iff c 32).mp hc), wrap_nat (by omega)]
      exact ih (d' - 1) m (i + 1) acc (by omega) (by omega) (by omega) (by omega)
    · rw [if_neg hc, if_neg (show ¬ (c.toNat : Int) = 32 from fun h => hc ((u8_iff c 32).mpr h))]
  · rw [if_pos (by omega), drop_end (by omega)]
    rfl
theorem nums_j1 (s : ByteArray) (hs : s.size ≤ 1048576) (d : Nat) (ih : ∀ d' k i acc, d' < d → i + d' = s.size → acc.length ≤ i → 3 * d' + 3 ≤ k → spec_l11Numbers.l0 k s acc (i : Int) = some (readFrom (s.data.toList.drop i) acc))
    (k i : Nat) (acc : List Int) (hi : i + d = s.size) (hl : i < s.size) (ha : acc.length ≤ i) (hk : 3 * d + 2 ≤ k) (b : UInt8) (e1 : s.data.toList.drop i = b :: s.data.toList.drop (i + 1)) (e2 : bt s (i : Int) = (b.toNat : Int)) (hb : b = 45 → readFrom (s.data.toList.drop i) acc = ([], false)) :
    spec_l11Numbers.j1 k s acc (i : Int) false = some (readFrom (s.data.toList.drop i) acc) := by
  obtain ⟨m, rfl⟩ : ∃ m, k = m + 1 := ⟨k - 1, by omega⟩
  rw [spec_l11Numbers.j1, if_neg (by decide), if_pos (by omega), if_pos (by omega), e2]
  have step : ∀ n : Int, spec_l11Numbers.j2 m s (acc ++ [n]) ((i + 1 : Nat) : Int) = some (afterOf (s.data.toList.drop (i + 1)) (acc ++ [n])) := fun n =>
    nums_step s hs d ih (d - 1) m (i + 1) (acc ++ [n]) (by omega) (by omega) (by simp; omega) (by omega)
  by_cases h48 : b = 48
  · subst h48
    rw [show ((48 : UInt8).toNat : Int) = 48 from rfl, if_pos (by decide), if_pos (by decide), if_pos (by omega), wrap_nat (by omega), show ((48 : Int) - 48) % 256 = 0 from rfl, step, e1, read_zero]
  · by_cases h49 : b = 49
    · subst h49
      rw [show ((49 : UInt8).toNat : Int) = 49 from rfl, if_pos (by decide), if_pos (by decide), if_pos (by omega), wrap_nat (by omega), show ((49 : Int) - 48) % 256 = 1 from rfl, step, e1, read_one]
    · by_cases h50 : b = 50
      · subst h50
        rw [show ((50 : UInt8).toNat : Int) = 50 from rfl, if_pos (by decide), if_pos (by decide), if_pos (by omega), wrap_nat (by omega), show ((50 : Int) - 48) % 256 = 2 from rfl, step, e1, read_two]
      · have hr : readFrom (s.data.toList.drop i) acc = ([], false) := by
          by_cases h45 : b = 45
          · exact hb h45
          · rw [e1]
            exact read_bad _ _ h45 h48 h49 h50
        have a1 : (b.toNat : Int) ≠ 48 := fun h => h48 ((u8_iff b 48).mpr h)
        have a2 : (b.toNat : Int) ≠ 49 := fun h => h49 ((u8_iff b 49).mpr h)
        have a3 : (b.toNat : Int) ≠ 50 := fun h => h50 ((u8_iff b 50).mpr h)
        rw [hr]
        by_cases hge : (b.toNat : Int) ≥ 48
        · rw [if_pos hge, if_neg (by omega)]
        · rw [if_neg hge]
theorem nums_l (s : ByteArray) (hs : s.size ≤ 1048576) : ∀ (d k i : Nat) (acc : List Int), i + d = s.size → acc.length ≤ i → 3 * d + 3 ≤ k → spec_l11Numbers.l0 k s acc (i : Int) = some (readFrom (s.data.toList.drop i) acc) := by
  intro d
  induction d using Nat.strongRecOn with
  | _ d ih0 =>
    intro k i acc hi ha hk
    have ih : ∀ d' k i acc, d' < d → i + d' = s.size → acc.length ≤ i → 3 * d' + 3 ≤ k → spec_l11Numbers.l0 k s acc (i : Int) = some (readFrom (s.data.toList.drop i) acc) := fun d' k i acc h1 => ih0 d' h1 k i acc
    clear ih0
    obtain ⟨m, rfl⟩ : ∃ m, k = m + 1 := ⟨k - 1, by omega⟩
    rw [spec_l11Numbers.l0]
    by_cases hl : i < s.size
    · obtain ⟨b, e1, e2⟩ := drop_at hl
      have J := nums_j1 s hs d ih m i acc hi hl ha (by omega) b e1 e2
      rw [if_pos (by omega), if_pos (by omega), e2]
      by_cases h45 : b = 45
      · subst h45
        rw [if_pos (show ((45 : UInt8).toNat : Int) = 45 from rfl), wrap_nat (by omega)]
        by_cases hl2 : i + 1 < s.size
        · obtain ⟨c, f1, f2⟩ := drop_at hl2
          rw [if_pos (by omega), if_pos (by omega), f2]
          by_cases h49 : c = 49
          · subst h49
            obtain ⟨m2, rfl⟩ : ∃ m2, m = m2 + 1 := ⟨m - 1, by omega⟩
            rw [show (((49 : UInt8).toNat : Int) == 49) = true from rfl, spec_l11Numbers.j1, if_pos rfl, if_pos (by omega), show wrap64 ((i : Int) + 2) = ((i + 2 : Nat) : Int) by unfold wrap64; omega,
              nums_step s hs d ih (d - 2) m2 (i + 2) (acc ++ [-1]) (by omega) (by omega) (by simp; omega) (by omega), e1, f1, read_minus]
          · have : ((c.toNat : Int) == 49) = false := beq_eq_false_iff_ne.mpr (fun h => h49 ((u8_iff c 49).mpr h))
            rw [this]
            exact J (fun _ => by rw [e1, f1]; exact read_dash_bad _ _ h49)
        · rw [if_neg (by omega)]
          exact J (fun _ => by rw [e1, drop_end (by omega)]; exact read_dash acc)
      · rw [if_neg (show ¬ (b.toNat : Int) = 45 from fun h => h45 ((u8_iff b 45).mpr h))]
        exact J (fun h => absurd h h45)
    · rw [if_neg (by omega), drop_end (by omega)]
      rfl
theorem nums_tells (s : ByteArray) (hs : s.size ≤ 1048576) (k : Nat) (hk : 3 * s.size + 3 ≤ k) : spec_l11Numbers.f k s = some (readFrom s.data.toList []) := by
  unfold spec_l11Numbers.f
  exact nums_l s hs s.size k 0 [] (by omega) (by simp) hk
/-! ### proofs of threes, read -/
theorem all_two {a xs : List Int} (h9 : a.length ≤ 9) (h : xs ∈ genAll a) : ∀ y ∈ xs, -1 ≤ y ∧ y ≤ 2 := by
  obtain ⟨m, hm, _, _, h3⟩ := thr_third h
  intro y hy
  have := rg_in xs 0 m hm y hy
  omega
def threesIs (l : List Int) (s : ByteArray) : Int × Bool := match readOf s.data.toList with
  | none => (0, false)
  | some xs => if isOf l xs = true then (thr xs, true) else (0, false)
theorem readFrom_nil (t : List UInt8) : readFrom t [] = match readOf t with
  | some ys => (ys, true)
  | none => ([], false) := by
  unfold readFrom readOf
  cases toks (cut t) <;> rfl
theorem lens_ge : ∀ qs : List (List UInt8), (∀ q ∈ qs, 1 ≤ q.length) → qs.length ≤ Lib.lens qs
  | [], _ => by simp
  | q :: qs, h => by
    have h1 := lens_ge qs (fun x hx => h x (List.mem_cons_of_mem _ hx))
    have h2 := h q (List.mem_cons_self ..)
    unfold Lib.lens at h1 ⊢
    rw [List.map_cons, List.sum_cons, List.length_cons]
    omega
theorem read_ne {t : List UInt8} {xs : List Int} (h : readOf t = some xs) : xs ≠ [] ∧ (∀ n ∈ xs, -1 ≤ n ∧ n ≤ 2) ∧ cut t = xs.map Lib.itoa ∧ xs.length ≤ t.length := by
  obtain ⟨h1, h2⟩ := toks_some _ _ h
  refine ⟨?_, h2, h1, ?_⟩
  · rintro rfl
    exact cut_ne t h1
  · have hj := join_cut t
    rw [h1] at hj
    cases xs with
    | nil => simp
    | cons x r =>
      have hl := congrArg List.length hj
      rw [List.map_cons, Lib.join_length] at hl
      have hg := lens_ge ((x :: r).map Lib.itoa) (fun q hq => by
        obtain ⟨m, hm, rfl⟩ := List.mem_map.mp hq
        obtain ⟨_, _, _⟩ := itoa_four (h2 m hm)
        have hn : m = -1 ∨ m = 0 ∨ m = 1 ∨ m = 2 := by have := h2 m hm; omega
        rcases hn with rfl | rfl | rfl | rfl <;> decide +kernel)
      rw [List.length_map, List.map_cons] at hg
      omega
theorem is_true {a xs : List Int} (h : isOf a xs = true) : isBundle a ∧ xs.length = a.length ∧ xs ∈ genAll a := of_decide_eq_true h
theorem is_spec_threes (l : List Int) (s : ByteArray) (hl : l.length ≤ 1048576) (hs : s.size ≤ 1048576) (k : Nat) (hk : 3 * s.size + l.length + 200 ≤ k) : spec_ProofThreesIs.f k l s = some (threesIs l s) := by
  unfold spec_ProofThreesIs.f threesIs
  rw [nums_tells s hs k (by omega), Option.bind_some, readFrom_nil]
  cases h : readOf s.data.toList with
  | none =>
    dsimp only
    rw [if_neg (by decide)]
  | some xs =>
    dsimp only
    obtain ⟨h1, h2, h3, h4⟩ := read_ne h
    have h5 : s.data.toList.length = s.size := by simp
    rw [if_pos rfl, is_spec l xs hl (by omega) k (by omega), Option.bind_some]
    by_cases hi : isOf l xs = true
    · obtain ⟨b1, b2, b3⟩ := is_true hi
      have b4 := b1.1.2.2
      rw [if_pos hi, if_pos hi, sthr_tells xs (fun y hy => by have := h2 y hy; omega) (by omega) k (by omega), Option.bind_some]
    · rw [if_neg hi, if_neg hi]
/-! the program's reading -/
def loopOf (l : List Int) : List ByteArray → List Int → Option (List Int)
  | [], acc => some acc
  | p :: r, acc => match impl_ProofThreesIs.num p with
    | none => none
    | some n => if (⟨(Lib.itoa n).toArray⟩ : ByteArray) = p then (if (acc.length : Int) > (l.length : Int) then none else loopOf l r (acc ++ [n])) else none
theorem loop_l (l : List Int) (hl : l.length ≤ 900) (ps : List ByteArray) (hp : ps.length ≤ 4194304) : ∀ (d k i : Nat) (acc : List Int), i + d = ps.length → d + 1 ≤ k → impl_ProofThreesIs.l0 k l ps acc (i : Int) = some (loopOf l (ps.drop i) acc) := by
  intro d
  induction d with
  | zero =>
    intro k i acc hi hk
    obtain ⟨m, rfl⟩ : ∃ m, k = m + 1 := ⟨k - 1, by omega⟩
    rw [impl_ProofThreesIs.l0, if_neg (by omega), List.drop_eq_nil_of_le (by omega)]
    rfl
  | succ d ih =>
    intro k i acc hi hk
    obtain ⟨m, rfl⟩ : ∃ m, k = m + 1 := ⟨k - 1, by omega⟩
    have hil : i < ps.length := by omega
    have hr : rdOf ByteArray.empty ps (i : Int) = ps[i] := by simp [rdOf, hil]
    rw [impl_ProofThreesIs.l0, if_pos (by omega), if_pos (by omega), hr, List.drop_eq_getElem_cons hil, loopOf]
    cases hn : impl_ProofThreesIs.num ps[i] with
    | none => rfl
    | some n =>
      dsimp only
      by_cases c1 : (⟨(Lib.itoa n).toArray⟩ : ByteArray) = ps[i]
      · rw [if_pos c1, if_pos c1]
        by_cases c2 : (acc.length : Int) > (l.length : Int)
        · rw [if_pos c2, if_pos c2]
        · rw [if_neg c2, if_neg c2, if_pos (by omega), wrap_nat (by omega)]
          exact ih m (i + 1) _ (by omega) (by omega)
      · rw [if_neg c1, if_neg c1]
theorem loop_some (l : List Int) : ∀ (ps : List ByteArray) (acc xs : List Int), loopOf l ps acc = some xs → acc.length ≤ l.length + 1 → (∃ ys, xs = acc ++ ys ∧ ps.map (·.data.toList) = ys.map Lib.itoa) ∧ xs.length ≤ l.length + 1
  | [], acc, xs, h, ha => by
    obtain rfl := Option.some.inj h
    exact ⟨⟨[], by simp, rfl⟩, ha⟩
  | p :: r, acc, xs, h, ha => by
    rw [loopOf] at h
    split at h
    · cases h
    · next n hn =>
      split at h
      · next c1 =>
        split at h
        · cases h
        · next c2 =>
          obtain ⟨⟨ys, h1, h2⟩, h3⟩ := loop_some l r _ xs h (by rw [List.length_append, List.length_singleton]; omega)
          refine ⟨⟨n :: ys, by rw [h1, List.append_assoc]; rfl, ?_⟩, h3⟩
          rw [List.map_cons, List.map_cons, h2, ← c1]
      · cases h
theorem loop_back (l : List Int) : ∀ (ps : List ByteArray) (acc ys : List Int), ps.map (·.data.toList) = ys.map Lib.itoa → (∀ n ∈ ys, -1 ≤ n ∧ n ≤ 2) → acc.length + ys.length ≤ l.length → loopOf l ps acc = some (acc ++ ys)
  | [], acc, ys, h, _, _ => by
    cases ys with
    | nil => rw [loopOf, List.append_nil]
    | cons y ys => simp at h
  | p :: r, acc, ys, h, hy, hl => by
    cases ys with
    | nil => simp at h
    | cons n ys =>
      rw [List.map_cons, List.map_cons] at h
      injection h with h1 h2
      obtain ⟨_, _, h3⟩ := itoa_four (hy n (List.mem_cons_self ..))
      have hn : impl_ProofThreesIs.num p = some n := by
        unfold impl_ProofThreesIs.num
        rw [h1, h3]
      rw [List.length_cons] at hl
      rw [loopOf, hn]
      dsimp only
      rw [if_pos (bytes_eq (show Lib.itoa n = p.data.toList from h1.symm)), if_neg (by omega), loop_back l r (acc ++ [n]) ys h2 (fun m hm => hy m (List.mem_cons_of_mem _ hm)) (by rw [List.length_append, List.length_singleton]; omega), List.append_assoc]
      rfl
theorem cut_size : ∀ (s : List UInt8), (cut s).length ≤ s.length + 1 ∧ ∀ q ∈ cut s, q.length ≤ s.length
  | [] => by simp [cut]
  | b :: r => by
    obtain ⟨h1, h2⟩ := cut_size r
    by_cases hb : b = 32
    · subst hb
      rw [cut_space, List.length_cons, List.length_cons]
      refine ⟨by omega, fun q hq => ?_⟩
      rcases List.mem_cons.mp hq with rfl | hq
      · simp
      · have := h2 q hq
        omega
    · obtain ⟨q, qs, e1, e2⟩ := cut_head r hb
      rw [e1, List.length_cons] at h1
      rw [e2, List.length_cons, List.length_cons]
      refine ⟨by omega, fun x hx => ?_⟩
      rcases List.mem_cons.mp hx with rfl | hx
      · have := h2 q (by rw [e1]; exact List.mem_cons_self ..)
        rw [List.length_cons]
        omega
      · have := h2 x (by rw [e1]; exact List.mem_cons_of_mem _ hx)
        omega
theorem split_tells (s : ByteArray) (hs : s.size ≤ 1048577) : ∃ ps, strings_Split.f s (⟨#[32]⟩ : ByteArray) = some ps ∧ ps.map (·.data.toList) = cut s.data.toList := by
  refine ⟨Lib.splitB ⟨#[32]⟩ 0 (Lib.countB s ⟨#[32]⟩) s, ?_, ?_⟩
  · unfold strings_Split.f
    rw [if_pos ⟨rfl, by omega⟩]
  · rw [Lib.splitB_data]
    show Lib.splitK [32] 0 (Lib.count s.data.toList [32]) s.data.toList = _
    rw [Lib.count_one, split_cut]
theorem is_impl_threes (l : List Int) (s : ByteArray) (hl : l.length ≤ 1048576) (hs : s.size ≤ 1048576) : ∃ K, ∀ k, K ≤ k → impl_ProofThreesIs.f k l s = some (threesIs l s) := by
  by_cases hb : isBundle l
  · have h9 : l.length ≤ 9 := hb.1.2.2
    have h1 : 1 ≤ l.length := hb.1.2.1
    obtain ⟨ps, p1, p2⟩ := split_tells s (by omega)
    have hsz : s.data.toList.length = s.size := by simp
    have c1 := cut_size s.data.toList
    have hpl : ps.length = (cut s.data.toList).length := by rw [← p2, List.length_map]
    have hps : ∀ p ∈ ps, p.size ≤ 4194304 := by
      intro p hp
      have h := c1.2 p.data.toList (by rw [← p2]; exact List.mem_map_of_mem hp)
      have : p.data.toList.length = p.size := by simp
      omega
    have hloop := fun k (hk : ps.length + 1 ≤ k) => loop_l l (by omega) ps (by omega) ps.length k 0 [] (by omega) hk
    rw [List.drop_zero] at hloop
    cases ho : loopOf l ps [] with
    | none =>
      rw [ho] at hloop
      refine ⟨ps.length + l.length + 100, fun k hk => ?_⟩
      unfold impl_ProofThreesIs.f
      rw [impl_bundle l hl k (by omega), Option.bind_some, if_pos (decide_eq_true hb), p1, Option.bind_some, if_pos hps]
      have hh := hloop k (by omega)
      rw [show ((0 : Nat) : Int) = 0 from rfl] at hh
      rw [hh, Option.bind_some]
      show some ((0 : Int), false) = _
      unfold threesIs
      cases hr : readOf s.data.toList with
      | none => rfl
      | some xs =>
        dsimp only
        obtain ⟨r1, r2, r3, r4⟩ := read_ne hr
        rw [if_neg]
        intro hi
        obtain ⟨b1, b2, b3⟩ := is_true hi
        rw [loop_back l ps [] xs (p2.trans r3) r2 (by simp; omega)] at ho
        cases ho
    | some xs =>
      rw [ho] at hloop
      obtain ⟨⟨ys, e1, e2⟩, e3⟩ := loop_some l ps [] xs ho (by simp)
      rw [List.nil_append] at e1
      subst e1
      obtain ⟨K1, g1⟩ := is_impl l xs hl (by omega)
      refine ⟨ps.length + l.length + 100 + K1, fun k hk => ?_⟩
      unfold impl_ProofThreesIs.f
      rw [impl_bundle l hl k (by omega), Option.bind_some, if_pos (decide_eq_true hb), p1, Option.bind_some, if_pos hps]
      have hh := hloop k (by omega)
      rw [show ((0 : Nat) : Int) = 0 from rfl] at hh
      rw [hh, Option.bind_some]
      dsimp only
      rw [g1 k (by omega), Option.bind_some]
      have hcut : cut s.data.toList = xs.map Lib.itoa := p2.symm.trans e2
      by_cases hi : isOf l xs = true
      · obtain ⟨b1, b2, b3⟩ := is_true hi
        have h2 := all_two h9 b3
        have hr : readOf s.data.toList = some xs := by
          unfold readOf
          rw [hcut]
          exact toks_itoa xs h2
        obtain ⟨M, m1, m2, _⟩ := imax_thr xs (by omega) (by omega) (fun y hy => by have := h2 y hy; omega) k (by omega)
        rw [if_pos hi, m1, Option.bind_some, m2]
        unfold threesIs
        rw [hr]
        dsimp only
        rw [if_pos hi]
      · rw [if_neg hi]
        unfold threesIs
        cases hr : readOf s.data.toList with
        | none => rfl
        | some zs =>
          dsimp only
          obtain ⟨r1, r2, r3, r4⟩ := read_ne hr
          have hz : readOf s.data.toList = toks (xs.map Lib.itoa) := by
            unfold readOf
            rw [hcut]
          rw [if_neg]
          intro hi2
          obtain ⟨b1, b2, b3⟩ := is_true hi2
          have := loop_back l ps [] zs (p2.trans r3) r2 (by simp; omega)
          rw [ho] at this
          have e : xs = zs := by simpa using this
          exact hi (by rw [e]; exact hi2)
  · refine ⟨l.length + 100, fun k hk => ?_⟩
    unfold impl_ProofThreesIs.f threesIs
    rw [impl_bundle l hl k (by omega), Option.bind_some, if_neg (by simp [hb])]
    cases hr : readOf s.data.toList with
    | none => rfl
    | some xs =>
      dsimp only
      rw [if_neg]
      intro hi
      exact hb (is_true hi).1
theorem FnExactProofThreesIs : laws_FnExactProofThreesIs.Pure := by
  intro l s h1 h2 h3 h4
  by_cases hl : (l.length : Int) > 1048576
  · exact ⟨0, by unfold laws_FnExactProofThreesIs.f; rw [if_pos hl]⟩
  · by_cases hs : (s.size : Int) > 1048576
    · exact ⟨0, by unfold laws_FnExactProofThreesIs.f; rw [if_neg hl, if_pos hs]⟩
    · have hl2 : l.length ≤ 1048576 := by omega
      have hs2 : s.size ≤ 1048576 := by omega
      obtain ⟨K1, g1⟩ := is_impl_threes l s hl2 hs2
      refine ⟨K1 + 3 * s.size + l.length + 300 + 1, ?_⟩
      rcases hx : threesIs l s with ⟨x, ok⟩
      unfold laws_FnExactProofThreesIs.f
      rw [if_neg hl, if_neg hs, toInt_tells l hl2 _ (by omega), Option.bind_some, is_spec_threes l s hl2 hs2 _ (by omega), Option.bind_some, Option.bind_some, g1 _ (by omega), Option.bind_some, if_pos rfl, hx]
      show laws_FnExactProofThreesIs.j0 (K1 + 3 * s.size + l.length + 300 + 1) l l (ok != ok) = some true
      rw [laws_FnExactProofThreesIs.j0, if_neg (by simp), toInt_tells l hl2 _ (by omega), Option.bind_some, eqInt_tells l hl2 _ (by omega), Option.bind_some, if_pos rfl]

end Go.Proofs.YtlgcjmgfhbdpgaaDoor.Pure
