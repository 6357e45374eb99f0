/- The law FnExactProofSpanIs, as a statement over plain numbers and lists, is proved: what the program's functions compute is what the reference's compute. -/
import Derived.Test.YthcjahkgljoplaaPFnExactProofSpanIsx2
namespace Go.Proofs.Ythcjahkgljoplaa.Pure
open Go.RowKit Go.Proofs.Ythcjahkgljoplaa.PFnExactProofSpanIs Go.Proofs.YthcjahkgljoplaaW.PrintWords Go.Proofs.YthcjahkgljoplaaW.PrintLast
set_option linter.unusedVariables false
set_option linter.unusedSimpArgs false
/-! ### lists of whole numbers -/
theorem wrap_nat {n : Nat} (h : n < 4611686018427387904) : wrap64 ((n : Int) + 1) = ((n + 1 : Nat) : Int) := by unfold wrap64; omega
theorem rd_at {l : List Int} {i : Nat} (h : i < l.length) : rd l (i : Int) = l[i] := by
  unfold rd
  rw [Int.toNat_natCast, List.getD_eq_getElem?_getD, List.getElem?_eq_getElem h]
  rfl
theorem and_one (a : Nat) (ha : a < 4611686018427387904) : Go.bits .and .i64 (a : Int) 1 = ((a % 2 : Nat) : Int) := by
  have h1 : (BitVec.ofInt 64 (a : Int)).toNat = a := by
    rw [BitVec.ofInt_natCast, BitVec.toNat_ofNat]; exact Nat.mod_eq_of_lt (by omega)
  have h2 : (BitVec.ofInt 64 (1 : Int)).toNat = 1 := by decide
  show IntKind.i64.wrap ((BitVec.ofInt 64 (a : Int) &&& BitVec.ofInt 64 (1 : Int)).toNat : Int) = _
  rw [BitVec.toNat_and, h1, h2, Nat.and_one_is_mod]
  have : a % 2 < 2 := Nat.mod_lt _ (by omega)
  generalize a % 2 = c at this
  simp [IntKind.wrap, IntKind.bits, IntKind.signed]
  omega
theorem ite_same {α : Type} {p q : Prop} [Decidable p] [Decidable q] (h : p ↔ q) {a b : α} : (if p then a else b) = if q then a else b := by
  by_cases hq : q
  · rw [if_pos (h.mpr hq), if_pos hq]
  · rw [if_neg (fun x => hq (h.mp x)), if_neg hq]
theorem toInt_l (l : List Int) (hl : l.length < 4611686018427387904) : ∀ (d k i : Nat), i + d = l.length → d + 1 ≤ k →
    laws_toIntS.l0 k l (l.take i ++ List.replicate d 0) (i : Int) = some l := by
  intro d
  induction d with
  | zero =>
    intro k i hi hk
    obtain ⟨m, rfl⟩ : ∃ m, k = m + 1 := ⟨k - 1, by omega⟩
    rw [laws_toIntS.l0, if_neg (by omega), List.take_of_length_le (by omega)]
    simp
  | succ d ih =>
    intro k i hi hk
    obtain ⟨m, rfl⟩ : ∃ m, k = m + 1 := ⟨k - 1, by omega⟩
    have hil : i < l.length := by omega
    rw [laws_toIntS.l0, if_pos (by omega), if_pos (by omega), if_pos (by simp; omega), rd_at hil, wrap_nat (by omega)]
    have e : ((l.take i ++ List.replicate (d + 1) 0).set ((i : Nat) : Int).toNat l[i]) = l.take (i + 1) ++ List.replicate d 0 := by
      rw [Int.toNat_natCast, List.set_append_right _ _ (by rw [List.length_take]; omega), List.length_take, show i - min i l.length = 0 by omega, List.replicate_succ, List.set_cons_zero, List.take_succ_eq_append_getElem hil, List.append_assoc]
      rfl
    rw [e]
    exact ih m (i + 1) (by omega) (by omega)
theorem toInt_tells (l : List Int) (hl : l.length ≤ 1048576) (k : Nat) (hk : l.length + 1 ≤ k) : laws_toIntS.f k l = some l := by
  unfold laws_toIntS.f
  rw [if_pos (by omega), if_pos (by omega), Int.toNat_natCast]
  have := toInt_l l (by omega) l.length k 0 (by omega) (by omega)
  simpa using this
theorem eqInt_l (l : List Int) (hl : l.length < 4611686018427387904) : ∀ (d k i : Nat), i + d = l.length → d + 1 ≤ k → laws_eqIntS.l0 k l l (i : Int) = some true := by
  intro d
  induction d with
  | zero =>
    intro k i hi hk
    obtain ⟨m, rfl⟩ : ∃ m, k = m + 1 := ⟨k - 1, by omega⟩
    rw [laws_eqIntS.l0, if_neg (by omega)]
  | succ d ih =>
    intro k i hi hk
    obtain ⟨m, rfl⟩ : ∃ m, k = m + 1 := ⟨k - 1, by omega⟩
    rw [laws_eqIntS.l0, if_pos (by omega), if_pos (by omega), if_pos (by omega), if_pos rfl, wrap_nat (by omega)]
    exact ih m (i + 1) (by omega) (by omega)
theorem eqInt_tells (l : List Int) (hl : l.length ≤ 1048576) (k : Nat) (hk : l.length + 1 ≤ k) : laws_eqIntS.f k l l = some true := by
  unfold laws_eqIntS.f
  rw [if_pos rfl]
  exact eqInt_l l (by omega) l.length k 0 (by omega) (by omega)
/-! ### rulers -/
def isRuler (l : List Int) : Prop := (∀ x ∈ l, 1 ≤ x ∧ x ≤ 60) ∧ 1 ≤ l.length ∧ l.length ≤ 9
instance (l : List Int) : Decidable (isRuler l) := by unfold isRuler; infer_instance
theorem spec_in (a b c : Int) : spec_l6In.f a b c = some (decide (b ≤ a ∧ a ≤ c)) := by
  unfold spec_l6In.f
  by_cases h : a ≥ b
  · rw [if_pos h]
    congr 1
    exact decide_eq_decide.mpr ⟨fun x => ⟨h, x⟩, fun x => x.2⟩
  · rw [if_neg h, decide_eq_false (fun x => h x.1)]
theorem spec_ruler_l (l : List Int) (hl : l.length ≤ 1048576) : ∀ (d k i : Nat), i + d = l.length → d + 1 ≤ k →
    spec_l5Ruler.l0 k l (i : Int) = some (decide ((∀ x ∈ l.drop i, 1 ≤ x ∧ x ≤ 60) ∧ 1 ≤ l.length ∧ l.length ≤ 9)) := by
  intro d
  induction d with
  | zero =>
    intro k i hi hk
    obtain ⟨m, rfl⟩ : ∃ m, k = m + 1 := ⟨k - 1, by omega⟩
    rw [spec_l5Ruler.l0, if_neg (by omega), spec_in, List.drop_eq_nil_of_le (by omega)]
    simp only [Option.bind_some, List.not_mem_nil, false_implies, implies_true, true_and]
    congr 1
    exact decide_eq_decide.mpr ⟨fun x => by omega, fun x => by omega⟩
  | succ d ih =>
    intro k i hi hk
    obtain ⟨m, rfl⟩ : ∃ m, k = m + 1 := ⟨k - 1, by omega⟩
    have hil : i < l.length := by omega
    rw [spec_l5Ruler.l0, if_pos (by omega), if_pos (by omega), rd_at hil, spec_in, wrap_nat (by omega), ih m (i + 1) (by omega) (by omega), List.drop_eq_getElem_cons hil]
    simp only [Option.bind_some, decide_eq_true_eq, List.mem_cons, forall_eq_or_imp]
    split
    · next h => congr 1; exact decide_eq_decide.mpr ⟨fun x => ⟨⟨h, x.1⟩, x.2⟩, fun x => ⟨x.1.2, x.2⟩⟩
    · next h => rw [decide_eq_false (fun x => h x.1.1)]
theorem spec_ruler (l : List Int) (hl : l.length ≤ 1048576) (k : Nat) (hk : l.length + 1 ≤ k) : spec_l5Ruler.f k l = some (decide (isRuler l)) :=
  spec_ruler_l l hl l.length k 0 (by omega) (by omega)
theorem impl_ruler_l (l : List Int) (hl : l.length ≤ 1048576) : ∀ (d k i : Nat), i + d = l.length → d + 1 ≤ k →
    impl_isRuler.l0 k l l (l.length : Int) (i : Int) = some (decide ((∀ x ∈ l.drop i, 1 ≤ x ∧ x ≤ 60) ∧ 1 ≤ l.length ∧ l.length ≤ 9)) := by
  intro d
  induction d with
  | zero =>
    intro k i hi hk
    obtain ⟨m, rfl⟩ : ∃ m, k = m + 1 := ⟨k - 1, by omega⟩
    rw [impl_isRuler.l0, if_neg (by omega), List.drop_eq_nil_of_le (by omega)]
    simp only [List.not_mem_nil, false_implies, implies_true, true_and]
    split
    · congr 1
      exact decide_eq_decide.mpr ⟨fun x => by omega, fun x => by omega⟩
    · rw [decide_eq_false (by omega)]
  | succ d ih =>
    intro k i hi hk
    obtain ⟨m, rfl⟩ : ∃ m, k = m + 1 := ⟨k - 1, by omega⟩
    have hil : i < l.length := by omega
    rw [impl_isRuler.l0, if_pos (by omega), if_pos (by omega), if_pos (by omega), rd_at hil, wrap_nat (by omega), ih m (i + 1) (by omega) (by omega), List.drop_eq_getElem_cons hil]
    simp only [List.mem_cons, forall_eq_or_imp]
    split
    · next h => rw [decide_eq_false (fun x => by omega)]
    · next h =>
      split
      · next h => rw [decide_eq_false (fun x => by omega)]
      · next h1 => congr 1; exact decide_eq_decide.mpr ⟨fun x => ⟨⟨⟨by omega, by omega⟩, x.1⟩, x.2⟩, fun x => ⟨x.1.2, x.2⟩⟩
theorem impl_ruler (l : List Int) (hl : l.length ≤ 1048576) (k : Nat) (hk : l.length + 1 ≤ k) : impl_isRuler.f k l = some (decide (isRuler l)) :=
  impl_ruler_l l hl l.length k 0 (by omega) (by omega)
/-- Where one goes along a ruler: at the place, at the least place, at the greatest. -/
def steps : List Int → List Bool → Int × Int × Int → Int × Int × Int
  | x :: l, b :: bs, e => steps l bs (if b = true then e.1 - x else e.1 + x, mn e.2.1 (if b = true then e.1 - x else e.1 + x), mx e.2.2 (if b = true then e.1 - x else e.1 + x))
  | _, _, e => e
/-- The number that bits tell, the first of them being the greatest. -/
def maskTo (bs : List Bool) : Nat → Nat
  | 0 => 0
  | i + 1 => 2 * maskTo bs i + if bs[i]? = some true then 1 else 0
theorem maskTo_lt (bs : List Bool) : ∀ i, maskTo bs i < 2 ^ i
  | 0 => by simp [maskTo]
  | i + 1 => by
    have := maskTo_lt bs i
    rw [maskTo, Nat.pow_succ]
    split <;> omega
theorem maskTo_div (bs : List Bool) : ∀ d i, maskTo bs (i + d) / 2 ^ d = maskTo bs i
  | 0, i => by simp
  | d + 1, i => by
    rw [Nat.pow_succ, Nat.mul_comm, ← Nat.div_div_eq_div_mul, show i + (d + 1) = (i + d) + 1 by omega, maskTo]
    rw [show (2 * maskTo bs (i + d) + if bs[i + d]? = some true then 1 else 0) / 2 = maskTo bs (i + d) by split <;> omega]
    exact maskTo_div bs d i
theorem maskTo_bit (bs : List Bool) (i : Nat) : maskTo bs (i + 1) % 2 = if bs[i]? = some true then 1 else 0 := by
  rw [maskTo]
  split <;> omega
theorem mn_mx_in (a b : Int) : (mn a b = a ∨ mn a b = b) ∧ (mx a b = a ∨ mx a b = b) := by
  unfold mn mx
  constructor <;> split <;> simp
theorem ends5_l (l : List Int) (bs : List Bool) (hr : isRuler l) (hb : bs.length = l.length) : ∀ (d k i : Nat) (p lo hi : Int), i + d = l.length → d + 1 ≤ k → -60 * i ≤ p → p ≤ 60 * i →
    spec_l5Ends.l0 k l ((maskTo bs l.length : Nat) : Int) p lo hi (i : Int) = some (steps (l.drop i) (bs.drop i) (p, lo, hi)) := by
  intro d
  induction d with
  | zero =>
    intro k i p lo hi hi' hk h1 h2
    obtain ⟨m, rfl⟩ : ∃ m, k = m + 1 := ⟨k - 1, by omega⟩
    rw [spec_l5Ends.l0, if_neg (by omega), List.drop_eq_nil_of_le (by omega)]
    rfl
  | succ d ih =>
    intro k i p lo hi hi' hk h1 h2
    obtain ⟨m, rfl⟩ : ∃ m, k = m + 1 := ⟨k - 1, by omega⟩
    have hil : i < l.length := by omega
    obtain ⟨r1, r2, r3⟩ := hr
    have hx := r1 l[i] (List.getElem_mem hil)
    have w1 : wrap64 ((l.length : Int) - 1) = (l.length : Int) - 1 := by unfold wrap64; omega
    have w2 : wrap64 ((l.length : Int) - 1 - i) = (d : Int) := by unfold wrap64; omega
    have w3 : wrap64 (p - l[i]) = p - l[i] := by unfold wrap64; omega
    have w4 : wrap64 (p + l[i]) = p + l[i] := by unfold wrap64; omega
    have hM := maskTo_lt bs l.length
    have hM2 : maskTo bs l.length < 512 := Nat.lt_of_lt_of_le hM (Nat.pow_le_pow_right (by omega) r3 : 2 ^ l.length ≤ 2 ^ 9)
    have hsh : shr .i64 ((maskTo bs l.length : Nat) : Int) (d : Int) = ((maskTo bs (i + 1) : Nat) : Int) := by
      unfold shr
      rw [Int.toNat_natCast, show min d (IntKind.i64.bits) = d by simp only [IntKind.bits]; omega]
      rw [← maskTo_div bs d (i + 1), show i + 1 + d = l.length by omega]
      norm_cast
    have hM3 : maskTo bs (i + 1) < 4611686018427387904 := by
      have := maskTo_div bs d (i + 1)
      rw [show i + 1 + d = l.length by omega] at this
      have := Nat.div_le_self (maskTo bs l.length) (2 ^ d)
      omega
    have hbi : i < bs.length := by omega
    rw [spec_l5Ends.l0, if_pos (by omega), w1, w2, if_pos (by omega), hsh, and_one _ hM3, maskTo_bit, rd_at hil, w3, w4, wrap_nat (by omega), List.drop_eq_getElem_cons hil, List.drop_eq_getElem_cons hbi, List.getElem?_eq_getElem hbi]
    cases hbb : bs[i] with
    | true =>
      rw [if_pos rfl, if_pos (by omega), ih m (i + 1) _ _ _ (by omega) (by omega) (by omega) (by omega)]
      rfl
    | false =>
      rw [if_neg (by decide), if_pos (by omega), ih m (i + 1) _ _ _ (by omega) (by omega) (by omega) (by omega)]
      rfl
theorem ends5 (l : List Int) (bs : List Bool) (hr : isRuler l) (hb : bs.length = l.length) (k : Nat) (hk : l.length + 1 ≤ k) :
    spec_l5Ends.f k l ((maskTo bs l.length : Nat) : Int) = some (steps l bs (0, 0, 0)) :=
  ends5_l l bs hr hb l.length k 0 0 0 0 (by omega) (by omega) (by omega) (by omega)
theorem steps_in : ∀ (l : List Int) (bs : List Bool) (p lo hi : Int) (B : Int), (∀ x ∈ l, 1 ≤ x ∧ x ≤ 60) → -B ≤ p → p ≤ B → -B ≤ lo → lo ≤ B → -B ≤ hi → hi ≤ B →
    -(B + 60 * l.length) ≤ (steps l bs (p, lo, hi)).2.1 ∧ (steps l bs (p, lo, hi)).2.1 ≤ B + 60 * l.length ∧ -(B + 60 * l.length) ≤ (steps l bs (p, lo, hi)).2.2 ∧ (steps l bs (p, lo, hi)).2.2 ≤ B + 60 * l.length
  | [], bs, p, lo, hi, B, _, _, _, _, _, _, _ => by unfold steps; simp; omega
  | x :: l, [], p, lo, hi, B, _, _, _, _, _, _, _ => by unfold steps; simp only [List.length_cons]; omega
  | x :: l, b :: bs, p, lo, hi, B, h, h1, h2, h3, h4, h5, h6 => by
    have hx := h x List.mem_cons_self
    have key := fun p' lo' hi' => steps_in l bs p' lo' hi' (B + 60) (fun y hy => h y (List.mem_cons_of_mem _ hy))
    unfold steps
    simp only [List.length_cons]
    have e := mn_mx_in lo (if b = true then p - x else p + x)
    have e' := mn_mx_in hi (if b = true then p - x else p + x)
    have hp : -(B + 60) ≤ (if b = true then p - x else p + x) ∧ (if b = true then p - x else p + x) ≤ B + 60 := by split <;> omega
    generalize (if b = true then p - x else p + x) = q at *
    have := key q (mn lo q) (mx hi q) (by omega) (by omega) (by omega) (by omega) (by omega) (by omega)
    omega
/-- Bytes as bits: 'l' and 'r'. -/
def LRfrom (s : ByteArray) (i : Nat) : Prop := ∀ j : Nat, j < s.size → i ≤ j → bt s (j : Int) = 108 ∨ bt s (j : Int) = 114
instance (s : ByteArray) (i : Nat) : Decidable (LRfrom s i) := by unfold LRfrom; infer_instance
theorem LR_step {s : ByteArray} {i : Nat} (h : i < s.size) : LRfrom s i ↔ (bt s (i : Int) = 108 ∨ bt s (i : Int) = 114) ∧ LRfrom s (i + 1) := by
  unfold LRfrom
  constructor
  · exact fun x => ⟨x i h (Nat.le_refl _), fun j hj h1 => x j hj (by omega)⟩
  · intro x j hj h1
    by_cases hij : j = i
    · subst hij; exact x.1
    · exact x.2 j hj (by omega)
theorem LR_end {s : ByteArray} {i : Nat} (h : s.size ≤ i) : LRfrom s i := fun j h1 h2 => by omega
def bitsOf (s : ByteArray) : List Bool := s.data.toList.map fun c => c.toNat == 108
theorem bitsOf_length (s : ByteArray) : (bitsOf s).length = s.size := by simp [bitsOf]
theorem bitsOf_at (s : ByteArray) (i : Nat) (h : i < s.size) : (bitsOf s)[i]? = some (decide (bt s (i : Int) = 108)) := by
  unfold bitsOf bt
  rw [dif_pos (by simpa using h)]
  have hl : i < s.data.toList.length := by simpa using h
  rw [List.getElem?_map, List.getElem?_eq_getElem hl]
  simp only [Option.map_some, Option.some.injEq, Int.toNat_natCast]
  apply Bool.eq_iff_iff.mpr
  rw [beq_iff_eq, decide_eq_true_eq]
  have : s.data.toList[i] = s[i]'h := by simp [ByteArray.getElem_eq_getElem_data]
  rw [this]
  omega
def spanOf (l : List Int) (s : ByteArray) : Int × Bool :=
  if isRuler l ∧ s.size = l.length ∧ LRfrom s 0 then ((steps l (bitsOf s) (0, 0, 0)).2.2 - (steps l (bitsOf s) (0, 0, 0)).2.1, true) else (0, false)
theorem span_wrap {l : List Int} {bs : List Bool} (hr : isRuler l) : wrap64 ((steps l bs (0, 0, 0)).2.2 - (steps l bs (0, 0, 0)).2.1) = (steps l bs (0, 0, 0)).2.2 - (steps l bs (0, 0, 0)).2.1 := by
  have := steps_in l bs 0 0 0 0 hr.1 (by omega) (by omega) (by omega) (by omega) (by omega) (by omega)
  have := hr.2.2
  unfold wrap64
  omega
theorem mask_r (M : Nat) (h : M < 512) : wrap64 (2 * (M : Int)) = ((2 * M + 0 : Nat) : Int) := by unfold wrap64; omega
theorem mask_l (M : Nat) (h : M < 512) : wrap64 (wrap64 (2 * (M : Int)) + 1) = ((2 * M + 1 : Nat) : Int) := by
  rw [mask_r M h]
  exact wrap_nat (by omega)
theorem spec_span_l (l : List Int) (s : ByteArray) (hr : isRuler l) (hn : s.size = l.length) : ∀ (d k i : Nat), i + d = l.length → l.length + d + 3 ≤ k →
    spec_ProofSpanIs.l0 k l s ((maskTo (bitsOf s) i : Nat) : Int) (i : Int) = some (if LRfrom s i then ((steps l (bitsOf s) (0, 0, 0)).2.2 - (steps l (bitsOf s) (0, 0, 0)).2.1, true) else (0, false)) := by
  intro d
  induction d with
  | zero =>
    intro k i hi hk
    obtain ⟨m, rfl⟩ : ∃ m, k = m + 1 := ⟨k - 1, by omega⟩
    have hil : i = l.length := by omega
    subst hil
    rw [spec_ProofSpanIs.l0, if_neg (by omega), ends5 l (bitsOf s) hr (by rw [bitsOf_length, hn]) m (by omega), if_pos (LR_end (s := s) (by omega))]
    simp only [Option.bind_some]
    rw [span_wrap hr]
  | succ d ih =>
    intro k i hi hk
    obtain ⟨m, rfl⟩ : ∃ m, k = m + 1 := ⟨k - 1, by omega⟩
    have hil : i < s.size := by omega
    have hr2 := hr.2.2
    have hM := maskTo_lt (bitsOf s) i
    have hM2 : maskTo (bitsOf s) i < 512 := Nat.lt_of_lt_of_le hM (Nat.pow_le_pow_right (by omega) (by omega) : 2 ^ i ≤ 2 ^ 9)
    have hb := bitsOf_at s i hil
    have hm : maskTo (bitsOf s) (i + 1) = 2 * maskTo (bitsOf s) i + if (bitsOf s)[i]? = some true then 1 else 0 := rfl
    rw [hb] at hm
    rw [spec_ProofSpanIs.l0, if_pos (by omega), if_pos (by omega), wrap_nat (by omega)]
    have ih := ih m (i + 1) (by omega) (by omega)
    by_cases h1 : bt s (i : Int) = 108
    · rw [if_pos h1]
      have e : wrap64 (wrap64 (2 * ((maskTo (bitsOf s) i : Nat) : Int)) + 1) = ((maskTo (bitsOf s) (i + 1) : Nat) : Int) := by
        rw [hm, decide_eq_true h1, if_pos rfl]
        exact mask_l _ hM2
      rw [e, ih]
      congr 1
      refine ite_same ?_
      rw [LR_step hil]
      exact ⟨fun x => ⟨.inl h1, x⟩, fun x => x.2⟩
    · rw [if_neg h1]
      have e : wrap64 (2 * ((maskTo (bitsOf s) i : Nat) : Int)) = ((maskTo (bitsOf s) (i + 1) : Nat) : Int) := by
        rw [hm, decide_eq_false h1, if_neg (by decide)]
        exact mask_r _ hM2
      by_cases h2 : bt s (i : Int) = 114
      · rw [if_pos h2, e, ih]
        congr 1
        refine ite_same ?_
        rw [LR_step hil]
        exact ⟨fun x => ⟨.inr h2, x⟩, fun x => x.2⟩
      · rw [if_neg h2, if_neg]
        rw [LR_step hil]
        exact fun x => x.1.elim h1 h2
theorem impl_span_l (l : List Int) (s : ByteArray) (hr : isRuler l) (hn : s.size = l.length) : ∀ (d k i : Nat) (p lo hi : Int), i + d = l.length → d + 1 ≤ k → -60 * i ≤ p → p ≤ 60 * i → -60 * i ≤ lo → lo ≤ 60 * i → -60 * i ≤ hi → hi ≤ 60 * i →
    impl_ProofSpanIs.l0 k s p lo hi l (l.length : Int) (i : Int) = some (if LRfrom s i then ((steps (l.drop i) ((bitsOf s).drop i) (p, lo, hi)).2.2 - (steps (l.drop i) ((bitsOf s).drop i) (p, lo, hi)).2.1, true) else (0, false)) := by
  intro d
  induction d with
  | zero =>
    intro k i p lo hi hd hk h1 h2 h3 h4 h5 h6
    obtain ⟨m, rfl⟩ : ∃ m, k = m + 1 := ⟨k - 1, by omega⟩
    have hr2 := hr.2.2
    rw [impl_ProofSpanIs.l0, if_neg (by omega), if_pos (LR_end (s := s) (by omega)), List.drop_eq_nil_of_le (by omega)]
    unfold steps
    rw [show wrap64 (hi - lo) = hi - lo by unfold wrap64; omega]
  | succ d ih =>
    intro k i p lo hi hd hk h1 h2 h3 h4 h5 h6
    obtain ⟨m, rfl⟩ : ∃ m, k = m + 1 := ⟨k - 1, by omega⟩
    have hil : i < l.length := by omega
    have hbi : i < (bitsOf s).length := by rw [bitsOf_length]; omega
    obtain ⟨r1, r2, r3⟩ := hr
    have hx := r1 l[i] (List.getElem_mem hil)
    have hb := bitsOf_at s i (by omega)
    rw [List.getElem?_eq_getElem hbi] at hb
    injection hb with hb
    have w3 : wrap64 (p - l[i]) = p - l[i] := by unfold wrap64; omega
    have w4 : wrap64 (p + l[i]) = p + l[i] := by unfold wrap64; omega
    rw [impl_ProofSpanIs.l0, if_pos (by omega), if_pos (by omega), if_pos (by omega), if_pos (by omega), rd_at hil, w3, w4, wrap_nat (by omega), List.drop_eq_getElem_cons hil, List.drop_eq_getElem_cons hbi, hb]
    by_cases h2' : bt s (i : Int) = 114
    · have e := mn_mx_in lo (p + l[i])
      have e' := mn_mx_in hi (p + l[i])
      rw [if_pos h2', ih m (i + 1) _ _ _ (by omega) (by omega) (by omega) (by omega) (by omega) (by omega) (by omega) (by omega), decide_eq_false (by omega)]
      congr 1
      refine ite_same ?_
      rw [LR_step (s := s) (i := i) (by omega)]
      exact ⟨fun x => ⟨.inr h2', x⟩, fun x => x.2⟩
    · rw [if_neg h2']
      by_cases h1' : bt s (i : Int) = 108
      · have e := mn_mx_in lo (p - l[i])
        have e' := mn_mx_in hi (p - l[i])
        rw [if_pos h1', ih m (i + 1) _ _ _ (by omega) (by omega) (by omega) (by omega) (by omega) (by omega) (by omega) (by omega), decide_eq_true h1']
        congr 1
        refine ite_same ?_
        rw [LR_step (s := s) (i := i) (by omega)]
        exact ⟨fun x => ⟨.inl h1', x⟩, fun x => x.2⟩
      · rw [if_neg h1', if_neg]
        rw [LR_step (s := s) (i := i) (by omega)]
        exact fun x => x.1.elim h1' h2'
theorem span_is_spec (l : List Int) (s : ByteArray) (hl : l.length ≤ 1048576) (k : Nat) (hk : 2 * l.length + 10 ≤ k) : spec_ProofSpanIs.f k l s = some (spanOf l s) := by
  unfold spec_ProofSpanIs.f spanOf
  rw [spec_ruler l hl k (by omega)]
  simp only [Option.bind_some, decide_eq_true_eq]
  obtain ⟨m, rfl⟩ : ∃ m, k = m + 1 := ⟨k - 1, by omega⟩
  by_cases hr : isRuler l
  · rw [if_pos hr, spec_ProofSpanIs.j0]
    by_cases hn : s.size = l.length
    · have e : ((s.size : Int) != (l.length : Int)) = false := by rw [hn]; simp
      rw [e, if_neg (by decide)]
      have := spec_span_l l s hr hn l.length m 0 (by omega) (by omega)
      have e0 : ((maskTo (bitsOf s) 0 : Nat) : Int) = 0 := rfl
      rw [e0] at this
      rw [show ((0 : Nat) : Int) = 0 from rfl] at this
      rw [this]
      congr 1
      exact ite_same ⟨fun x => ⟨hr, hn, x⟩, fun x => x.2.2⟩
    · have e : ((s.size : Int) != (l.length : Int)) = true := by simp; omega
      rw [e, if_pos rfl, if_neg (fun x => hn x.2.1)]
  · rw [if_neg hr, spec_ProofSpanIs.j0, if_pos rfl, if_neg (fun x => hr x.1)]
theorem span_is_impl (l : List Int) (s : ByteArray) (hl : l.length ≤ 1048576) (k : Nat) (hk : 2 * l.length + 10 ≤ k) : impl_ProofSpanIs.f k l s = some (spanOf l s) := by
  unfold impl_ProofSpanIs.f spanOf
  rw [impl_ruler l hl k (by omega)]
  simp only [Option.bind_some, decide_eq_true_eq]
  obtain ⟨m, rfl⟩ : ∃ m, k = m + 1 := ⟨k - 1, by omega⟩
  by_cases hr : isRuler l
  · rw [if_pos hr, impl_ProofSpanIs.j0]
    by_cases hn : s.size = l.length
    · have e : ((s.size : Int) != (l.length : Int)) = false := by rw [hn]; simp
      rw [e, if_neg (by decide)]
      have := impl_span_l l s hr hn l.length m 0 0 0 0 (by omega) (by omega) (by omega) (by omega) (by omega) (by omega) (by omega) (by omega)
      rw [show ((0 : Nat) : Int) = 0 from rfl] at this
      rw [this]
      congr 1
      exact ite_same ⟨fun x => ⟨hr, hn, x⟩, fun x => x.2.2⟩
    · have e : ((s.size : Int) != (l.length : Int)) = true := by simp; omega
      rw [e, if_pos rfl, if_neg (fun x => hn x.2.1)]
  · rw [if_neg hr, impl_ProofSpanIs.j0, if_pos rfl, if_neg (fun x => hr x.1)]
theorem FnExactProofSpanIs : laws_FnExactProofSpanIs.Pure := by
  intro l s h1 h2 h3 h4
  refine ⟨2 * l.length + 20, ?_⟩
  unfold laws_FnExactProofSpanIs.f
  split
  · rfl
  · next hl =>
    have hl : l.length ≤ 1048576 := by omega
    split
    · rfl
    · rw [toInt_tells l hl _ (by omega)]
      simp only [Option.bind_some]
      rw [span_is_spec l s hl _ (by omega)]
      simp only [Option.bind_some]
      rw [span_is_impl l s hl _ (by omega)]
      simp only [Option.bind_some]
      rw [if_pos trivial, laws_FnExactProofSpanIs.j0, if_neg (by simp), toInt_tells l hl _ (by omega)]
      simp only [Option.bind_some]
      rw [eqInt_tells l hl _ (by omega)]
      rfl

end Go.Proofs.Ythcjahkgljoplaa.Pure
