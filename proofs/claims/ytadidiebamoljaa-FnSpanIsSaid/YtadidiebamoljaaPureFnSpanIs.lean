/- The law FnSpanIs, as a statement over plain numbers and lists, is proved: what the program's functions compute is what the reference's compute. -/
import Derived.Test.YtadidiebamoljaaPFnSpanIsx5
import Derived.Laws.Entries
namespace Go.Proofs.Ytadidiebamoljaa.Pure
open Go.RowKit Go.Proofs.Ytadidiebamoljaa.PFnSpanIs Go.Proofs.YtadidiebamoljaaW.PrintWords Go.Proofs.YtadidiebamoljaaW.PrintLast
set_option linter.unusedVariables false
set_option linter.unusedSimpArgs false
/-! ### lists of whole numbers -/
theorem wrap_nat {n : Nat} (h : n < 4611686018427387904) : wrap64 ((n : Int) + 1) = ((n + 1 : Nat) : Int) := by unfold wrap64; omega
theorem rd_at {l : List Int} {i : Nat} (h : i < l.length) : rd l (i : Int) = l[i] := by
  unfold rd
  rw [Int.toNat_natCast, List.getD_eq_getElem?_getD, List.getElem?_eq_getElem h]
  rfl
theorem and_one (a : Nat) (ha : a < 4611686018427387904) : Go.bits .and .i64 (a : Int) 1 = ((a % 2 : Nat) : Int) := by
  have h1 : (BitVec.ofInt 64 (a : Int)).toNat = a := by
    rw [BitVec.ofInt_natCast, BitVec.toNat_ofNat]; exact Nat.mod_eq_of_lt (by omega)
  have h2 : (BitVec.ofInt 64 (1 : Int)).toNat = 1 := by decide
  show IntKind.i64.wrap ((BitVec.ofInt 64 (a : Int) &&& BitVec.ofInt 64 (1 : Int)).toNat : Int) = _
  rw [BitVec.toNat_and, h1, h2, Nat.and_one_is_mod]
  have : a % 2 < 2 := Nat.mod_lt _ (by omega)
  generalize a % 2 = c at this
  simp [IntKind.wrap, IntKind.bits, IntKind.signed]
  omega
theorem ite_same {α : Type} {p q : Prop} [Decidable p] [Decidable q] (h : p ↔ q) {a b : α} : (if p then a else b) = if q then a else b := by
  by_cases hq : q
  · rw [if_pos (h.mpr hq), if_pos hq]
  · rw [if_neg (fun x => hq (h.mp x)), if_neg hq]
/-! ### rulers -/
def isRuler (l : List Int) : Prop := (∀ x ∈ l, 1 ≤ x ∧ x ≤ 60) ∧ 1 ≤ l.length ∧ l.length ≤ 9
instance (l : List Int) : Decidable (isRuler l) := by unfold isRuler; infer_instance
theorem spec_in (a b c : Int) : spec_l6In.f a b c = some (decide (b ≤ a ∧ a ≤ c)) := by
  unfold spec_l6In.f
  by_cases h : a ≥ b
  · rw [if_pos h]
    congr 1
    exact decide_eq_decide.mpr ⟨fun x => ⟨h, x⟩, fun x => x.2⟩
  · rw [if_neg h, decide_eq_false (fun x => h x.1)]
theorem spec_ruler_l (l : List Int) (hl : l.length ≤ 1048576) : ∀ (d k i : Nat), i + d = l.length → d + 1 ≤ k →
    spec_l5Ruler.l0 k l (i : Int) = some (decide ((∀ x ∈ l.drop i, 1 ≤ x ∧ x ≤ 60) ∧ 1 ≤ l.length ∧ l.length ≤ 9)) := by
  intro d
  induction d with
  | zero =>
    intro k i hi hk
    obtain ⟨m, rfl⟩ : ∃ m, k = m + 1 := ⟨k - 1, by omega⟩
    rw [spec_l5Ruler.l0, if_neg (by omega), spec_in, List.drop_eq_nil_of_le (by omega)]
    simp only [Option.bind_some, List.not_mem_nil, false_implies, implies_true, true_and]
    congr 1
    exact decide_eq_decide.mpr ⟨fun x => by omega, fun x => by omega⟩
  | succ d ih =>
    intro k i hi hk
    obtain ⟨m, rfl⟩ : ∃ m, k = m + 1 := ⟨k - 1, by omega⟩
    have hil : i < l.length := by omega
    rw [spec_l5Ruler.l0, if_pos (by omega), if_pos (by omega), rd_at hil, spec_in, wrap_nat (by omega), ih m (i + 1) (by omega) (by omega), List.drop_eq_getElem_cons hil]
    simp only [Option.bind_some, decide_eq_true_eq, List.mem_cons, forall_eq_or_imp]
    split
    · next h => congr 1; exact decide_eq_decide.mpr ⟨fun x => ⟨⟨h, x.1⟩, x.2⟩, fun x => ⟨x.1.2, x.2⟩⟩
    · next h => rw [decide_eq_false (fun x => h x.1.1)]
theorem spec_ruler (l : List Int) (hl : l.length ≤ 1048576) (k : Nat) (hk : l.length + 1 ≤ k) : spec_l5Ruler.f k l = some (decide (isRuler l)) :=
  spec_ruler_l l hl l.length k 0 (by omega) (by omega)
theorem impl_ruler_l (l : List Int) (hl : l.length ≤ 1048576) : ∀ (d k i : Nat), i + d = l.length → d + 1 ≤ k →
    impl_isRuler.l0 k l l (l.length : Int) (i : Int) = some (decide ((∀ x ∈ l.drop i, 1 ≤ x ∧ x ≤ 60) ∧ 1 ≤ l.length ∧ l.length ≤ 9)) := by
  intro d
  induction d with
  | zero =>
    intro k i hi hk
    obtain ⟨m, rfl⟩ : ∃ m, k = m + 1 := ⟨k - 1, by omega⟩
    rw [impl_isRuler.l0, if_neg (by omega), List.drop_eq_nil_of_le (by omega)]
    simp only [List.not_mem_nil, false_implies, implies_true, true_and]
    split
    · congr 1
      exact decide_eq_decide.mpr ⟨fun x => by omega, fun x => by omega⟩
    · rw [decide_eq_false (by omega)]
  | succ d ih =>
    intro k i hi hk
    obtain ⟨m, rfl⟩ : ∃ m, k = m + 1 := ⟨k - 1, by omega⟩
    have hil : i < l.length := by omega
    rw [impl_isRuler.l0, if_pos (by omega), if_pos (by omega), if_pos (by omega), rd_at hil, wrap_nat (by omega), ih m (i + 1) (by omega) (by omega), List.drop_eq_getElem_cons hil]
    simp only [List.mem_cons, forall_eq_or_imp]
    split
    · next h => rw [decide_eq_false (fun x => by omega)]
    · next h =>
      split
      · next h => rw [decide_eq_false (fun x => by omega)]
      · next h1 => congr 1; exact decide_eq_decide.mpr ⟨fun x => ⟨⟨⟨by omega, by omega⟩, x.1⟩, x.2⟩, fun x => ⟨x.1.2, x.2⟩⟩
theorem impl_ruler (l : List Int) (hl : l.length ≤ 1048576) (k : Nat) (hk : l.length + 1 ≤ k) : impl_isRuler.f k l = some (decide (isRuler l)) :=
  impl_ruler_l l hl l.length k 0 (by omega) (by omega)
/-- Where one goes along a ruler: at the place, at the least place, at the greatest. -/
def steps : List Int → List Bool → Int × Int × Int → Int × Int × Int
  | x :: l, b :: bs, e => steps l bs (if b = true then e.1 - x else e.1 + x, mn e.2.1 (if b = true then e.1 - x else e.1 + x), mx e.2.2 (if b = true then e.1 - x else e.1 + x))
  | _, _, e => e
/-- The number that bits tell, the first of them being the greatest. -/
def maskTo (bs : List Bool) : Nat → Nat
  | 0 => 0
  | i + 1 => 2 * maskTo bs i + if bs[i]? = some true then 1 else 0
theorem maskTo_lt (bs : List Bool) : ∀ i, maskTo bs i < 2 ^ i
  | 0 => by simp [maskTo]
  | i + 1 => by
    have := maskTo_lt bs i
    rw [maskTo, Nat.pow_succ]
    split <;> omega
theorem maskTo_div (bs : List Bool) : ∀ d i, maskTo bs (i + d) / 2 ^ d = maskTo bs i
  | 0, i => by simp
  | d + 1, i => by
    rw [Nat.pow_succ, Nat.mul_comm, ← Nat.div_div_eq_div_mul, show i + (d + 1) = (i + d) + 1 by omega, maskTo]
    rw [show (2 * maskTo bs (i + d) + if bs[i + d]? = some true then 1 else 0) / 2 = maskTo bs (i + d) by split <;> omega]
    exact maskTo_div bs d i
theorem maskTo_bit (bs : List Bool) (i : Nat) : maskTo bs (i + 1) % 2 = if bs[i]? = some true then 1 else 0 := by
  rw [maskTo]
  split <;> omega
theorem mn_mx_in (a b : Int) : (mn a b = a ∨ mn a b = b) ∧ (mx a b = a ∨ mx a b = b) := by
  unfold mn mx
  constructor <;> split <;> simp
theorem steps_in : ∀ (l : List Int) (bs : List Bool) (p lo hi : Int) (B : Int), (∀ x ∈ l, 1 ≤ x ∧ x ≤ 60) → -B ≤ p → p ≤ B → -B ≤ lo → lo ≤ B → -B ≤ hi → hi ≤ B →
    -(B + 60 * l.length) ≤ (steps l bs (p, lo, hi)).2.1 ∧ (steps l bs (p, lo, hi)).2.1 ≤ B + 60 * l.length ∧ -(B + 60 * l.length) ≤ (steps l bs (p, lo, hi)).2.2 ∧ (steps l bs (p, lo, hi)).2.2 ≤ B + 60 * l.length
  | [], bs, p, lo, hi, B, _, _, _, _, _, _, _ => by unfold steps; simp; omega
  | x :: l, [], p, lo, hi, B, _, _, _, _, _, _, _ => by unfold steps; simp only [List.length_cons]; omega
  | x :: l, b :: bs, p, lo, hi, B, h, h1, h2, h3, h4, h5, h6 => by
    have hx := h x List.mem_cons_self
    have key := fun p' lo' hi' => steps_in l bs p' lo' hi' (B + 60) (fun y hy => h y (List.mem_cons_of_mem _ hy))
    unfold steps
    simp only [List.length_cons]
    have e := mn_mx_in lo (if b = true then p - x else p + x)
    have e' := mn_mx_in hi (if b = true then p - x else p + x)
    have hp : -(B + 60) ≤ (if b = true then p - x else p + x) ∧ (if b = true then p - x else p + x) ≤ B + 60 := by split <;> omega
    generalize (if b = true then p - x else p + x) = q at *
    have := key q (mn lo q) (mx hi q) (by omega) (by omega) (by omega) (by omega) (by omega) (by omega)
    omega
theorem ends5_l (l : List Int) (bs : List Bool) (hr : isRuler l) (hb : bs.length = l.length) : ∀ (d k i : Nat) (p lo hi : Int), i + d = l.length → d + 1 ≤ k → -60 * i ≤ p → p ≤ 60 * i →
    spec_l5Ends.l0 k l ((maskTo bs l.length : Nat) : Int) p lo hi (i : Int) = some (steps (l.drop i) (bs.drop i) (p, lo, hi)) := by
  intro d
  induction d with
  | zero =>
    intro k i p lo hi hi' hk h1 h2
    obtain ⟨m, rfl⟩ : ∃ m, k = m + 1 := ⟨k - 1, by omega⟩
    rw [spec_l5Ends.l0, if_neg (by omega), List.drop_eq_nil_of_le (by omega)]
    rfl
  | succ d ih =>
    intro k i p lo hi hi' hk h1 h2
    obtain ⟨m, rfl⟩ : ∃ m, k = m + 1 := ⟨k - 1, by omega⟩
    have hil : i < l.length := by omega
    obtain ⟨r1, r2, r3⟩ := hr
    have hx := r1 l[i] (List.getElem_mem hil)
    have w1 : wrap64 ((l.length : Int) - 1) = (l.length : Int) - 1 := by unfold wrap64; omega
    have w2 : wrap64 ((l.length : Int) - 1 - i) = (d : Int) := by unfold wrap64; omega
    have w3 : wrap64 (p - l[i]) = p - l[i] := by unfold wrap64; omega
    have w4 : wrap64 (p + l[i]) = p + l[i] := by unfold wrap64; omega
    have hM := maskTo_lt bs l.length
    have hM2 : maskTo bs l.length < 512 := Nat.lt_of_lt_of_le hM (Nat.pow_le_pow_right (by omega) r3 : 2 ^ l.length ≤ 2 ^ 9)
    have hsh : shr .i64 ((maskTo bs l.length : Nat) : Int) (d : Int) = ((maskTo bs (i + 1) : Nat) : Int) := by
      unfold shr
      rw [Int.toNat_natCast, show min d (IntKind.i64.bits) = d by simp only [IntKind.bits]; omega]
      rw [← maskTo_div bs d (i + 1), show i + 1 + d = l.length by omega]
      norm_cast
    have hM3 : maskTo bs (i + 1) < 4611686018427387904 := by
      have := maskTo_div bs d (i + 1)
      rw [show i + 1 + d = l.length by omega] at this
      have := Nat.div_le_self (maskTo bs l.length) (2 ^ d)
      omega
    have hbi : i < bs.length := by omega
    rw [spec_l5Ends.l0, if_pos (by omega), w1, w2, if_pos (by omega), hsh, and_one _ hM3, maskTo_bit, rd_at hil, w3, w4, wrap_nat (by omega), List.drop_eq_getElem_cons hil, List.drop_eq_getElem_cons hbi, List.getElem?_eq_getElem hbi]
    cases hbb : bs[i] with
    | true =>
      rw [if_pos rfl, if_pos (by omega), ih m (i + 1) _ _ _ (by omega) (by omega) (by omega) (by omega)]
      rfl
    | false =>
      rw [if_neg (by decide), if_pos (by omega), ih m (i + 1) _ _ _ (by omega) (by omega) (by omega) (by omega)]
      rfl
theorem ends5 (l : List Int) (bs : List Bool) (hr : isRuler l) (hb : bs.length = l.length) (k : Nat) (hk : l.length + 1 ≤ k) :
    spec_l5Ends.f k l ((maskTo bs l.length : Nat) : Int) = some (steps l bs (0, 0, 0)) :=
  ends5_l l bs hr hb l.length k 0 0 0 0 (by omega) (by omega) (by omega) (by omega)
/-- Bytes as bits: 'l' and 'r'. -/
def LRfrom (s : ByteArray) (i : Nat) : Prop := ∀ j : Nat, j < s.size → i ≤ j → bt s (j : Int) = 108 ∨ bt s (j : Int) = 114
instance (s : ByteArray) (i : Nat) : Decidable (LRfrom s i) := by unfold LRfrom; infer_instance
theorem LR_step {s : ByteArray} {i : Nat} (h : i < s.size) : LRfrom s i ↔ (bt s (i : Int) = 108 ∨ bt s (i : Int) = 114) ∧ LRfrom s (i + 1) := by
  unfold LRfrom
  constructor
  · exact fun x => ⟨x i h (Nat.le_refl _), fun j hj h1 => x j hj (by omega)⟩
  · intro x j hj h1
    by_cases hij : j = i
    · subst hij; exact x.1
    · exact x.2 j hj (by omega)
theorem LR_end {s : ByteArray} {i : Nat} (h : s.size ≤ i) : LRfrom s i := fun j h1 h2 => by omega
def bitsOf (s : ByteArray) : List Bool := s.data.toList.map fun c => c.toNat == 108
theorem bitsOf_length (s : ByteArray) : (bitsOf s).length = s.size := by simp [bitsOf]
theorem bitsOf_at (s : ByteArray) (i : Nat) (h : i < s.size) : (bitsOf s)[i]? = some (decide (bt s (i : Int) = 108)) := by
  unfold bitsOf bt
  rw [dif_pos (by simpa using h)]
  have hl : i < s.data.toList.length := by simpa using h
  rw [List.getElem?_map, List.getElem?_eq_getElem hl]
  simp only [Option.map_some, Option.some.injEq, Int.toNat_natCast]
  apply Bool.eq_iff_iff.mpr
  rw [beq_iff_eq, decide_eq_true_eq]
  have : s.data.toList[i] = s[i]'h := by simp [ByteArray.getElem_eq_getElem_data]
  rw [this]
  omega
def spanOf (l : List Int) (s : ByteArray) : Int × Bool :=
  if isRuler l ∧ s.size = l.length ∧ LRfrom s 0 then ((steps l (bitsOf s) (0, 0, 0)).2.2 - (steps l (bitsOf s) (0, 0, 0)).2.1, true) else (0, false)
theorem span_wrap {l : List Int} {bs : List Bool} (hr : isRuler l) : wrap64 ((steps l bs (0, 0, 0)).2.2 - (steps l bs (0, 0, 0)).2.1) = (steps l bs (0, 0, 0)).2.2 - (steps l bs (0, 0, 0)).2.1 := by
  have := steps_in l bs 0 0 0 0 hr.1 (by omega) (by omega) (by omega) (by omega) (by omega) (by omega)
  have := hr.2.2
  unfold wrap64
  omega
theorem mask_r (M : Nat) (h : M < 512) : wrap64 (2 * (M : Int)) = ((2 * M + 0 : Nat) : Int) := by unfold wrap64; omega
theorem mask_l (M : Nat) (h : M < 512) : wrap64 (wrap64 (2 * (M : Int)) + 1) = ((2 * M + 1 : Nat) : Int) := by
  rw [mask_r M h]
  exact wrap_nat (by omega)
theorem spec_span_l (l : List Int) (s : ByteArray) (hr : isRuler l) (hn : s.size = l.length) : ∀ (d k i : Nat), i + d = l.length → l.length + d + 3 ≤ k →
    spec_ProofSpanIs.l0 k l s ((maskTo (bitsOf s) i : Nat) : Int) (i : Int) = some (if LRfrom s i then ((steps l (bitsOf s) (0, 0, 0)).2.2 - (steps l (bitsOf s) (0, 0, 0)).2.1, true) else (0, false)) := by
  intro d
  induction d with
  | zero =>
    intro k i hi hk
    obtain ⟨m, rfl⟩ : ∃ m, k = m + 1 := ⟨k - 1, by omega⟩
    have hil : i = l.length := by omega
    subst hil
    rw [spec_ProofSpanIs.l0, if_neg (by omega), ends5 l (bitsOf s) hr (by rw [bitsOf_length, hn]) m (by omega), if_pos (LR_end (s := s) (by omega))]
    simp only [Option.bind_some]
    rw [span_wrap hr]
  | succ d ih =>
    intro k i hi hk
    obtain ⟨m, rfl⟩ : ∃ m, k = m + 1 := ⟨k - 1, by omega⟩
    have hil : i < s.size := by omega
    have hr2 := hr.2.2
    have hM := maskTo_lt (bitsOf s) i
    have hM2 : maskTo (bitsOf s) i < 512 := Nat.lt_of_lt_of_le hM (Nat.pow_le_pow_right (by omega) (by omega) : 2 ^ i ≤ 2 ^ 9)
    have hb := bitsOf_at s i hil
    have hm : maskTo (bitsOf s) (i + 1) = 2 * maskTo (bitsOf s) i + if (bitsOf s)[i]? = some true then 1 else 0 := rfl
    rw [hb] at hm
    rw [spec_ProofSpanIs.l0, if_pos (by omega), if_pos (by omega), wrap_nat (by omega)]
    have ih := ih m (i + 1) (by omega) (by omega)
    by_cases h1 : bt s (i : Int) = 108
    · rw [if_pos h1]
      have e : wrap64 (wrap64 (2 * ((maskTo (bitsOf s) i : Nat) : Int)) + 1) = ((maskTo (bitsOf s) (i + 1) : Nat) : Int) := by
        rw [hm, decide_eq_true h1, if_pos rfl]
        exact mask_l _ hM2
      rw [e, ih]
      congr 1
      refine ite_same ?_
      rw [LR_step hil]
      exact ⟨fun x => ⟨.inl h1, x⟩, fun x => x.2⟩
    · rw [if_neg h1]
      have e : wrap64 (2 * ((maskTo (bitsOf s) i : Nat) : Int)) = ((maskTo (bitsOf s) (i + 1) : Nat) : Int) := by
        rw [hm, decide_eq_false h1, if_neg (by decide)]
        exact mask_r _ hM2
      by_cases h2 : bt s (i : Int) = 114
      · rw [if_pos h2, e, ih]
        congr 1
        refine ite_same ?_
        rw [LR_step hil]
        exact ⟨fun x => ⟨.inr h2, x⟩, fun x => x.2⟩
      · rw [if_neg h2, if_neg]
        rw [LR_step hil]
        exact fun x => x.1.elim h1 h2
theorem span_is_spec (l : List Int) (s : ByteArray) (hl : l.length ≤ 1048576) (k : Nat) (hk : 2 * l.length + 10 ≤ k) : spec_ProofSpanIs.f k l s = some (spanOf l s) := by
  unfold spec_ProofSpanIs.f spanOf
  rw [spec_ruler l hl k (by omega)]
  simp only [Option.bind_some, decide_eq_true_eq]
  obtain ⟨m, rfl⟩ : ∃ m, k = m + 1 := ⟨k - 1, by omega⟩
  by_cases hr : isRuler l
  · rw [if_pos hr, spec_ProofSpanIs.j0]
    by_cases hn : s.size = l.length
    · have e : ((s.size : Int) != (l.length : Int)) = false := by rw [hn]; simp
      rw [e, if_neg (by decide)]
      have := spec_span_l l s hr hn l.length m 0 (by omega) (by omega)
      have e0 : ((maskTo (bitsOf s) 0 : Nat) : Int) = 0 := rfl
      rw [e0] at this
      rw [show ((0 : Nat) : Int) = 0 from rfl] at this
      rw [this]
      congr 1
      exact ite_same ⟨fun x => ⟨hr, hn, x⟩, fun x => x.2.2⟩
    · have e : ((s.size : Int) != (l.length : Int)) = true := by simp; omega
      rw [e, if_pos rfl, if_neg (fun x => hn x.2.1)]
  · rw [if_neg hr, spec_ProofSpanIs.j0, if_pos rfl, if_neg (fun x => hr x.1)]
theorem impl_span_l (l : List Int) (s : ByteArray) (hr : isRuler l) (hn : s.size = l.length) : ∀ (d k i : Nat) (p lo hi : Int), i + d = l.length → d + 1 ≤ k → -60 * i ≤ p → p ≤ 60 * i → -60 * i ≤ lo → lo ≤ 60 * i → -60 * i ≤ hi → hi ≤ 60 * i →
    impl_ProofSpanIs.l0 k s p lo hi l (l.length : Int) (i : Int) = some (if LRfrom s i then ((steps (l.drop i) ((bitsOf s).drop i) (p, lo, hi)).2.2 - (steps (l.drop i) ((bitsOf s).drop i) (p, lo, hi)).2.1, true) else (0, false)) := by
  intro d
  induction d with
  | zero =>
    intro k i p lo hi hd hk h1 h2 h3 h4 h5 h6
    obtain ⟨m, rfl⟩ : ∃ m, k = m + 1 := ⟨k - 1, by omega⟩
    have hr2 := hr.2.2
    rw [impl_ProofSpanIs.l0, if_neg (by omega), if_pos (LR_end (s := s) (by omega)), List.drop_eq_nil_of_le (by omega)]
    unfold steps
    rw [show wrap64 (hi - lo) = hi - lo by unfold wrap64; omega]
  | succ d ih =>
    intro k i p lo hi hd hk h1 h2 h3 h4 h5 h6
    obtain ⟨m, rfl⟩ : ∃ m, k = m + 1 := ⟨k - 1, by omega⟩
    have hil : i < l.length := by omega
    have hbi : i < (bitsOf s).length := by rw [bitsOf_length]; omega
    obtain ⟨r1, r2, r3⟩ := hr
    have hx := r1 l[i] (List.getElem_mem hil)
    have hb := bitsOf_at s i (by omega)
    rw [List.getElem?_eq_getElem hbi] at hb
    injection hb with hb
    have w3 : wrap64 (p - l[i]) = p - l[i] := by unfold wrap64; omega
    have w4 : wrap64 (p + l[i]) = p + l[i] := by unfold wrap64; omega
    rw [impl_ProofSpanIs.l0, if_pos (by omega), if_pos (by omega), if_pos (by omega), if_pos (by omega), rd_at hil, w3, w4, wrap_nat (by omega), List.drop_eq_getElem_cons hil, List.drop_eq_getElem_cons hbi, hb]
    by_cases h2' : bt s (i : Int) = 114
    · have e := mn_mx_in lo (p + l[i])
      have e' := mn_mx_in hi (p + l[i])
      rw [if_pos h2', ih m (i + 1) _ _ _ (by omega) (by omega) (by omega) (by omega) (by omega) (by omega) (by omega) (by omega), decide_eq_false (by omega)]
      congr 1
      refine ite_same ?_
      rw [LR_step (s := s) (i := i) (by omega)]
      exact ⟨fun x => ⟨.inr h2', x⟩, fun x => x.2⟩
    · rw [if_neg h2']
      by_cases h1' : bt s (i : Int) = 108
      · have e := mn_mx_in lo (p - l[i])
        have e' := mn_mx_in hi (p - l[i])
        rw [if_pos h1', ih m (i + 1) _ _ _ (by omega) (by omega) (by omega) (by omega) (by omega) (by omega) (by omega) (by omega), decide_eq_true h1']
        congr 1
        refine ite_same ?_
        rw [LR_step (s := s) (i := i) (by omega)]
        exact ⟨fun x => ⟨.inl h1', x⟩, fun x => x.2⟩
      · rw [if_neg h1', if_neg]
        rw [LR_step (s := s) (i := i) (by omega)]
        exact fun x => x.1.elim h1' h2'
theorem span_is_impl (l : List Int) (s : ByteArray) (hl : l.length ≤ 1048576) (k : Nat) (hk : 2 * l.length + 10 ≤ k) : impl_ProofSpanIs.f k l s = some (spanOf l s) := by
  unfold impl_ProofSpanIs.f spanOf
  rw [impl_ruler l hl k (by omega)]
  simp only [Option.bind_some, decide_eq_true_eq]
  obtain ⟨m, rfl⟩ : ∃ m, k = m + 1 := ⟨k - 1, by omega⟩
  by_cases hr : isRuler l
  · rw [if_pos hr, impl_ProofSpanIs.j0]
    by_cases hn : s.size = l.length
    · have e : ((s.size : Int) != (l.length : Int)) = false := by rw [hn]; simp
      rw [e, if_neg (by decide)]
      have := impl_span_l l s hr hn l.length m 0 0 0 0 (by omega) (by omega) (by omega) (by omega) (by omega) (by omega) (by omega) (by omega)
      rw [show ((0 : Nat) : Int) = 0 from rfl] at this
      rw [this]
      congr 1
      exact ite_same ⟨fun x => ⟨hr, hn, x⟩, fun x => x.2.2⟩
    · have e : ((s.size : Int) != (l.length : Int)) = true := by simp; omega
      rw [e, if_pos rfl, if_neg (fun x => hn x.2.1)]
  · rw [if_neg hr, impl_ProofSpanIs.j0, if_pos rfl, if_neg (fun x => hr x.1)]
theorem sum_l (l : List Int) (hl : l.length ≤ 100) (hx : ∀ x ∈ l, 1 ≤ x ∧ x ≤ 60) : ∀ (d k i : Nat) (s : Int), i + d = l.length → d + 1 ≤ k → 0 ≤ s → s ≤ 60 * i →
    impl_sum.l0 k s l (l.length : Int) (i : Int) = some (s + (l.drop i).sum) := by
  intro d
  induction d with
  | zero =>
    intro k i s hi hk h0 h1
    obtain ⟨m, rfl⟩ : ∃ m, k = m + 1 := ⟨k - 1, by omega⟩
    rw [impl_sum.l0, if_neg (by omega), List.drop_eq_nil_of_le (by omega)]
    simp
  | succ d ih =>
    intro k i s hi hk h0 h1
    obtain ⟨m, rfl⟩ : ∃ m, k = m + 1 := ⟨k - 1, by omega⟩
    have hil : i < l.length := by omega
    have hx := hx l[i] (List.getElem_mem hil)
    have w : wrap64 (s + l[i]) = s + l[i] := by unfold wrap64; omega
    rw [impl_sum.l0, if_pos (by omega), if_pos (by omega), if_pos (by omega), rd_at hil, w, wrap_nat (by omega), ih m (i + 1) _ (by omega) (by omega) (by omega) (by omega), List.drop_eq_getElem_cons hil, List.sum_cons]
    congr 1
    omega
theorem sum_tells (l : List Int) (hl : l.length ≤ 100) (hx : ∀ x ∈ l, 1 ≤ x ∧ x ≤ 60) (k : Nat) (hk : l.length + 1 ≤ k) : impl_sum.f k l = some l.sum := by
  have := sum_l l hl hx l.length k 0 0 (by omega) hk (by omega) (by omega)
  unfold impl_sum.f
  rw [show ((0 : Nat) : Int) = 0 from rfl] at this
  rw [this]
  simp
/-! ### foldings -/
def bitsN (n m : Nat) : List Bool := (List.range n).map fun i => decide (m / 2 ^ (n - 1 - i) % 2 = 1)
theorem bitsN_length (n m : Nat) : (bitsN n m).length = n := by simp [bitsN]
theorem bitsN_at (n m i : Nat) (h : i < n) : (bitsN n m)[i]? = some (decide (m / 2 ^ (n - 1 - i) % 2 = 1)) := by
  simp [bitsN, h]
theorem maskTo_bitsN (n m : Nat) (hm : m < 2 ^ n) : ∀ i, i ≤ n → maskTo (bitsN n m) i = m / 2 ^ (n - i)
  | 0, _ => by rw [maskTo, Nat.sub_zero, Nat.div_eq_of_lt hm]
  | i + 1, h => by
    rw [maskTo, maskTo_bitsN n m hm i (by omega), bitsN_at n m i (by omega), show n - i = (n - (i + 1)) + 1 by omega, Nat.pow_succ, ← Nat.div_div_eq_div_mul, show n - 1 - i = n - (i + 1) by omega]
    generalize m / 2 ^ (n - (i + 1)) = q
    simp only [Option.some.injEq, decide_eq_true_eq]
    split <;> omega
theorem maskTo_bitsN_all (n m : Nat) (hm : m < 2 ^ n) : maskTo (bitsN n m) n = m := by
  rw [maskTo_bitsN n m hm n (Nat.le_refl _), Nat.sub_self, Nat.pow_zero, Nat.div_one]
def textN (bs : List Bool) : List Int := bs.map fun b => if b = true then 108 else 114
theorem textN_length (bs : List Bool) : (textN bs).length = bs.length := by simp [textN]
/-- The span of a folding. -/
def spN (l : List Int) (m : Nat) : Int := (steps l (bitsN l.length m) (0, 0, 0)).2.2 - (steps l (bitsN l.length m) (0, 0, 0)).2.1
theorem fold1_l (l : List Int) (bs : List Bool) (hr : isRuler l) (hb : bs.length = l.length) : ∀ (d k i : Nat) (p lo hi : Int), i + d = l.length → d + 1 ≤ k → -60 * i ≤ p → p ≤ 60 * i →
    impl_foldings.l1 k l ((maskTo bs l.length : Nat) : Int) (textN (bs.take i)) p lo hi (i : Int) = some (textN bs, steps (l.drop i) (bs.drop i) (p, lo, hi)) := by
  intro d
  induction d with
  | zero =>
    intro k i p lo hi hi' hk h1 h2
    obtain ⟨m, rfl⟩ : ∃ m, k = m + 1 := ⟨k - 1, by omega⟩
    rw [impl_foldings.l1, if_neg (by omega), List.drop_eq_nil_of_le (by omega), List.take_of_length_le (by omega)]
    rfl
  | succ d ih =>
    intro k i p lo hi hi' hk h1 h2
    obtain ⟨m, rfl⟩ : ∃ m, k = m + 1 := ⟨k - 1, by omega⟩
    have hil : i < l.length := by omega
    obtain ⟨r1, r2, r3⟩ := hr
    have hx := r1 l[i] (List.getElem_mem hil)
    have w1 : wrap64 ((l.length : Int) - 1) = (l.length : Int) - 1 := by unfold wrap64; omega
    have w2 : wrap64 ((l.length : Int) - 1 - i) = (d : Int) := by unfold wrap64; omega
    have w3 : wrap64 (p - l[i]) = p - l[i] := by unfold wrap64; omega
    have w4 : wrap64 (p + l[i]) = p + l[i] := by unfold wrap64; omega
    have hM := maskTo_lt bs l.length
    have hM2 : maskTo bs l.length < 512 := Nat.lt_of_lt_of_le hM (Nat.pow_le_pow_right (by omega) r3 : 2 ^ l.length ≤ 2 ^ 9)
    have hsh : shr .i64 ((maskTo bs l.length : Nat) : Int) (d : Int) = ((maskTo bs (i + 1) : Nat) : Int) := by
      unfold shr
      rw [Int.toNat_natCast, show min d (IntKind.i64.bits) = d by simp only [IntKind.bits]; omega]
      rw [← maskTo_div bs d (i + 1), show i + 1 + d = l.length by omega]
      norm_cast
    have hM3 : maskTo bs (i + 1) < 4611686018427387904 := by
      have := maskTo_div bs d (i + 1)
      rw [show i + 1 + d = l.length by omega] at this
      have := Nat.div_le_self (maskTo bs l.length) (2 ^ d)
      omega
    have hbi : i < bs.length := by omega
    have ht : (textN (bs.take i)).length < 1000 := by rw [textN_length, List.length_take]; omega
    have htk : textN (bs.take (i + 1)) = textN (bs.take i) ++ [if bs[i] = true then 108 else 114] := by
      unfold textN
      rw [List.take_succ_eq_append_getElem hbi, List.map_append]
      rfl
    rw [impl_foldings.l1, if_pos (by omega), if_pos (by omega), w1, w2, if_pos (by omega), if_pos ht, hsh, and_one _ hM3, maskTo_bit, rd_at hil, w3, w4, wrap_nat (by omega), List.drop_eq_getElem_cons hil, List.drop_eq_getElem_cons hbi, List.getElem?_eq_getElem hbi]
    cases hbb : bs[i] with
    | true =>
      rw [hbb, if_pos rfl] at htk
      rw [if_neg (by decide), ← htk, ih m (i + 1) _ _ _ (by omega) (by omega) (by omega) (by omega)]
      rfl
    | false =>
      rw [hbb, if_neg (by decide)] at htk
      rw [if_pos (by decide), ← htk, ih m (i + 1) _ _ _ (by omega) (by omega) (by omega) (by omega)]
      rfl
theorem fold1 (l : List Int) (hr : isRuler l) (m : Nat) (hm : m < 2 ^ l.length) (k : Nat) (hk : l.length + 1 ≤ k) :
    impl_foldings.l1 k l (m : Int) [] 0 0 0 0 = some (textN (bitsN l.length m), steps l (bitsN l.length m) (0, 0, 0)) := by
  have := fold1_l l (bitsN l.length m) hr (bitsN_length _ _) l.length k 0 0 0 0 (by omega) (by omega) (by omega) (by omega)
  rw [maskTo_bitsN_all _ _ hm] at this
  exact this
theorem pow9 {l : List Int} (hr : isRuler l) : 2 ^ l.length ≤ 512 := (Nat.pow_le_pow_right (by omega) hr.2.2 : 2 ^ l.length ≤ 2 ^ 9)
theorem shl_len {l : List Int} (hr : isRuler l) : shl .i64 1 (l.length : Int) = ((2 ^ l.length : Nat) : Int) := by
  have h9 := pow9 hr
  have hl := hr.2.2
  unfold shl
  rw [Int.toNat_natCast, show min l.length (IntKind.i64.bits) = l.length by simp only [IntKind.bits]; omega, Int.one_mul]
  have e : (2 : Int) ^ l.length = ((2 ^ l.length : Nat) : Int) := by norm_cast
  rw [e]
  generalize 2 ^ l.length = q at h9
  simp [IntKind.wrap, IntKind.bits, IntKind.signed]
  omega
theorem folds_l {S : Type} (step : S → ByteArray → Int → Int → Option S) (l : List Int) (hr : isRuler l) (Inv : Nat → S → Prop)
    (hstep : ∀ m s, m < 2 ^ l.length → Inv m s → ∃ s', step s (strOfNums (textN (bitsN l.length m))) (steps l (bitsN l.length m) (0, 0, 0)).1 (spN l m) = some s' ∧ Inv (m + 1) s') :
    ∀ (d k m : Nat) (s : S), m + d = 2 ^ l.length → d + l.length + 2 ≤ k → Inv m s → ∃ s', impl_foldings.l0 step k l ((2 ^ l.length : Nat) : Int) s (m : Int) = some s' ∧ Inv (2 ^ l.length) s' := by
  have h9 := pow9 hr
  intro d
  induction d with
  | zero =>
    intro k m s hm hk hi
    obtain ⟨j, rfl⟩ : ∃ j, k = j + 1 := ⟨k - 1, by omega⟩
    have : m = 2 ^ l.length := by omega
    subst this
    rw [impl_foldings.l0, if_neg (by omega)]
    exact ⟨s, rfl, hi⟩
  | succ d ih =>
    intro k m s hm hk hi
    obtain ⟨j, rfl⟩ : ∃ j, k = j + 1 := ⟨k - 1, by omega⟩
    obtain ⟨s', h1, h2⟩ := hstep m s (by omega) hi
    rw [impl_foldings.l0, if_pos (by omega), fold1 l hr m (by omega) j (by omega)]
    simp only [Option.bind_some]
    rw [span_wrap hr]
    unfold spN at h1
    rw [h1]
    simp only [Option.bind_some]
    rw [wrap_nat (by omega)]
    exact ih j (m + 1) s' (by omega) (by omega) h2
theorem folds {S : Type} (step : S → ByteArray → Int → Int → Option S) (l : List Int) (hr : isRuler l) (Inv : Nat → S → Prop)
    (hstep : ∀ m s, m < 2 ^ l.length → Inv m s → ∃ s', step s (strOfNums (textN (bitsN l.length m))) (steps l (bitsN l.length m) (0, 0, 0)).1 (spN l m) = some s' ∧ Inv (m + 1) s')
    (k : Nat) (hk : 2 ^ l.length + l.length + 2 ≤ k) (s : S) (hs : Inv 0 s) : ∃ s', impl_foldings.f step k l s = some s' ∧ Inv (2 ^ l.length) s' := by
  unfold impl_foldings.f
  rw [shl_len hr]
  exact folds_l step l hr Inv hstep (2 ^ l.length) k 0 s (by omega) hk hs
/-- The first folding of the least span. -/
def Best (l : List Int) (m : Nat) (b : Int) (f : Nat) : Prop := f < m ∧ spN l f = b ∧ (∀ j, j < m → b ≤ spN l j) ∧ ∀ j, j < f → b < spN l j
theorem Best_one {l : List Int} {m : Nat} {b b' : Int} {f f' : Nat} (h : Best l m b f) (h' : Best l m b' f') : b = b' ∧ f = f' := by
  obtain ⟨h1, h2, h3, h4⟩ := h
  obtain ⟨g1, g2, g3, g4⟩ := h'
  have e1 := h3 f' g1
  have e2 := g3 f h1
  have e : b = b' := by omega
  refine ⟨e, ?_⟩
  rcases Nat.lt_trichotomy f f' with h | h | h
  · have := g4 f h; omega
  · exact h
  · have := h4 f' h; omega
theorem spN_in {l : List Int} (hr : isRuler l) (m : Nat) : -1080 ≤ spN l m ∧ spN l m ≤ 1080 := by
  have := steps_in l (bitsN l.length m) 0 0 0 0 hr.1 (by omega) (by omega) (by omega) (by omega) (by omega) (by omega)
  have := hr.2.2
  unfold spN
  omega
theorem best_ex (l : List Int) : ∀ m, 0 < m → ∃ b f, Best l m b f
  | 0, h => absurd h (by decide)
  | 1, _ => ⟨spN l 0, 0, by omega, rfl, fun j hj => by rw [show j = 0 by omega]; exact Int.le_refl _, fun j hj => by omega⟩
  | m + 2, _ => by
    obtain ⟨b, f, h1, h2, h3, h4⟩ := best_ex l (m + 1) (by omega)
    by_cases h : spN l (m + 1) < b
    · refine ⟨spN l (m + 1), m + 1, by omega, rfl, fun j hj => ?_, fun j hj => ?_⟩
      · by_cases hj2 : j < m + 1
        · have := h3 j hj2
          omega
        · rw [show j = m + 1 by omega]
          exact Int.le_refl _
      · have := h3 j hj
        omega
    · refine ⟨b, f, by omega, h2, fun j hj => ?_, h4⟩
      by_cases hj2 : j < m + 1
      · exact h3 j hj2
      · rw [show j = m + 1 by omega]
        omega
theorem steps_r : ∀ (l : List Int) (n : Nat) (p lo hi : Int), (∀ x ∈ l, 1 ≤ x ∧ x ≤ 60) → l.length ≤ n → 0 ≤ p → lo = 0 → hi = p → steps l (List.replicate n false) (p, lo, hi) = (p + l.sum, 0, p + l.sum)
  | [], n, p, lo, hi, _, _, _, h1, h2 => by
    subst h1 h2
    unfold steps
    simp
  | x :: l, 0, p, lo, hi, _, h, _, _, _ => by simp at h
  | x :: l, n + 1, p, lo, hi, hx, hn, h0, h1, h2 => by
    have h := hx x List.mem_cons_self
    rw [List.replicate_succ, steps]
    simp only [Bool.false_eq_true, if_false]
    subst h1 h2
    rw [show mn 0 (hi + x) = 0 by unfold mn; split <;> omega, show mx hi (hi + x) = hi + x by unfold mx; split <;> omega, steps_r l n _ _ _ (fun y hy => hx y (List.mem_cons_of_mem _ hy)) (by simpa using hn) (by omega) rfl rfl, List.sum_cons, Int.add_assoc]
theorem bitsN_zero (n : Nat) : bitsN n 0 = List.replicate n false := by
  refine List.ext_getElem? fun i => ?_
  by_cases h : i < n
  · rw [bitsN_at n 0 i h, List.getElem?_replicate, if_pos h]
    simp
  · rw [List.getElem?_eq_none (by rw [bitsN_length]; omega), List.getElem?_eq_none (by simp; omega)]
theorem spN_zero {l : List Int} (hr : isRuler l) : spN l 0 = l.sum := by
  unfold spN
  rw [bitsN_zero, steps_r l _ 0 0 0 hr.1 (Nat.le_refl _) (by omega) rfl rfl]
  simp
theorem mn_le (a b : Int) : mn a b ≤ a ∧ mn a b ≤ b ∧ (mn a b = a ∨ mn a b = b) := by
  unfold mn
  split <;> omega
theorem foldspan_tells (l : List Int) (hl : l.length ≤ 1048576) (k : Nat) (hk : l.length + 600 ≤ k) : ∃ r, impl_FoldSpan.f k l = some r ∧ (if isRuler l then r.2 = true ∧ ∃ f, Best l (2 ^ l.length) r.1 f else r = (0, false)) := by
  unfold impl_FoldSpan.f
  rw [impl_ruler l hl k (by omega)]
  simp only [Option.bind_some, decide_eq_true_eq]
  by_cases hr : isRuler l
  · have h9 := pow9 hr
    have hl9 := hr.2.2
    rw [if_pos hr, sum_tells l (by omega) hr.1 k (by omega)]
    simp only [Option.bind_some]
    obtain ⟨s, h1, h2⟩ := folds impl_FoldSpan.step l hr (fun m s => (m = 0 ∧ s = l.sum) ∨ ((∃ j, j < m ∧ spN l j = s) ∧ ∀ j, j < m → s ≤ spN l j)) (fun m s hm hi => by
      refine ⟨_, rfl, .inr ?_⟩
      have e := mn_le s (spN l m)
      rcases hi with ⟨rfl, rfl⟩ | ⟨⟨j, hj, he⟩, hle⟩
      · rw [spN_zero hr] at *
        refine ⟨⟨0, by omega, by rw [spN_zero hr]; omega⟩, fun j hj => ?_⟩
        obtain rfl : j = 0 := by omega
        rw [spN_zero hr]; omega
      · constructor
        · rcases e.2.2 with e2 | e2
          · exact ⟨j, by omega, by omega⟩
          · exact ⟨m, by omega, by omega⟩
        · intro i hi
          rcases Nat.lt_or_ge i m with h | h
          · have := hle i h; omega
          · obtain rfl : i = m := by omega
            omega) k (by omega) l.sum (.inl ⟨rfl, rfl⟩)
    rw [h1]
    simp only [Option.bind_some]
    refine ⟨_, rfl, ?_⟩
    rw [if_pos hr]
    refine ⟨rfl, ?_⟩
    obtain ⟨b, f, hB⟩ := best_ex l (2 ^ l.length) (Nat.two_pow_pos _)
    have hpos : 0 < 2 ^ l.length := Nat.two_pow_pos _
    rcases h2 with ⟨h2, _⟩ | ⟨⟨j, hj, he⟩, hle⟩
    · omega
    · obtain ⟨g1, g2, g3, g4⟩ := hB
      have e1 := hle f g1
      have e2 := g3 j hj
      have e : b = s := by omega
      subst e
      exact ⟨f, g1, g2, g3, g4⟩
  · rw [if_neg hr]
    exact ⟨_, rfl, by rw [if_neg hr]⟩
/-! ### a folding of a span is found within that span -/
theorem bool_at {at_ : List Bool} {i : Nat} (h : i < at_.length) : rdOf false at_ (i : Int) = at_[i] := by
  unfold rdOf
  rw [Int.toNat_natCast, List.getD_eq_getElem?_getD, List.getElem?_eq_getElem h]
  rfl
theorem bool_set (at_ : List Bool) (i j : Nat) (h : i < at_.length) : rdOf false (at_.set i true) (j : Int) = if i = j then true else rdOf false at_ (j : Int) := by
  unfold rdOf
  rw [Int.toNat_natCast, List.getD_eq_getElem?_getD, List.getD_eq_getElem?_getD, List.getElem?_set]
  by_cases hij : i = j
  · rw [if_pos hij, if_pos h, if_pos hij]
    rfl
  · rw [if_neg hij, if_neg hij]
theorem bindex_l (xs : List Bool) (hl : xs.length ≤ 1000) : ∀ (d k i : Nat), i + d = xs.length → d + 1 ≤ k → ∃ r, slices_Index_bool_bool.l0 k xs true (xs.length : Int) (i : Int) = some r ∧ (r ≥ 0 ↔ true ∈ xs.drop i) := by
  intro d
  induction d with
  | zero =>
    intro k i hi hk
    obtain ⟨m, rfl⟩ : ∃ m, k = m + 1 := ⟨k - 1, by omega⟩
    rw [slices_Index_bool_bool.l0, if_neg (by omega), List.drop_eq_nil_of_le (by omega)]
    exact ⟨-1, rfl, by simp⟩
  | succ d ih =>
    intro k i hi hk
    obtain ⟨m, rfl⟩ : ∃ m, k = m + 1 := ⟨k - 1, by omega⟩
    have hil : i < xs.length := by omega
    rw [slices_Index_bool_bool.l0, if_pos (by omega), if_pos (by omega), if_pos (by omega), bool_at hil, wrap_nat (by omega), List.drop_eq_getElem_cons hil]
    by_cases h : xs[i] = true
    · rw [if_pos (by rw [h]; rfl)]
      exact ⟨(i : Int), rfl, ⟨fun _ => by rw [h]; exact List.mem_cons_self, fun _ => by omega⟩⟩
    · rw [if_neg (by rw [Bool.eq_false_iff.mpr h]; decide)]
      obtain ⟨r, h1, h2⟩ := ih m (i + 1) (by omega) (by omega)
      refine ⟨r, h1, h2.trans ?_⟩
      rw [List.mem_cons]
      exact ⟨.inr, fun q => q.resolve_left (fun e => h e.symm)⟩
theorem bcontains (xs : List Bool) (hl : xs.length ≤ 1000) (k : Nat) (hk : xs.length + 1 ≤ k) : slices_Contains_bool_bool.f k xs true = some (decide (true ∈ xs)) := by
  obtain ⟨r, h1, h2⟩ := bindex_l xs hl xs.length k 0 (by omega) hk
  unfold slices_Contains_bool_bool.f slices_Index_bool_bool.f
  rw [show ((0 : Nat) : Int) = 0 from rfl] at h1
  rw [List.drop_zero] at h2
  rw [h1]
  simp only [Option.bind_some]
  congr 1
  exact decide_eq_decide.mpr h2
/-- What a round over the places has laid so far. -/
def Laid (at_ next : List Bool) (x S kk : Nat) : Prop := ∀ p : Nat, p < kk → rdOf false at_ (p : Int) = true → (p + x ≤ S → rdOf false next ((p + x : Nat) : Int) = true) ∧ (x ≤ p → rdOf false next ((p - x : Nat) : Int) = true)
def up (at_ next : List Bool) (x S kk : Nat) : List Bool := if rdOf false at_ (kk : Int) = true ∧ kk + x ≤ S then next.set (kk + x) true else next
def down (at_ next : List Bool) (x kk : Nat) : List Bool := if rdOf false at_ (kk : Int) = true ∧ x ≤ kk then next.set (kk - x) true else next
theorem up_len (at_ next : List Bool) (x S kk : Nat) : (up at_ next x S kk).length = next.length := by
  unfold up
  split <;> simp
theorem down_len (at_ next : List Bool) (x kk : Nat) : (down at_ next x kk).length = next.length := by
  unfold down
  split <;> simp
theorem up_keeps {at_ next : List Bool} {x S kk j : Nat} (hS : S < next.length) (h : rdOf false next (j : Int) = true) : rdOf false (up at_ next x S kk) (j : Int) = true := by
  unfold up
  split
  · next hc =>
    rw [bool_set _ _ _ (by omega)]
    split
    · rfl
    · exact h
  · exact h
theorem down_keeps {at_ next : List Bool} {x kk j : Nat} (hk : kk < next.length) (h : rdOf false next (j : Int) = true) : rdOf false (down at_ next x kk) (j : Int) = true := by
  unfold down
  split
  · next hc =>
    rw [bool_set _ _ _ (by omega)]
    split
    · rfl
    · exact h
  · exact h
theorem laid_next {at_ next : List Bool} {x S kk : Nat} (hS : S < next.length) (hk : kk < next.length) (h : Laid at_ next x S kk) : Laid at_ (down at_ (up at_ next x S kk) x kk) x S (kk + 1) := by
  have hk2 : kk < (up at_ next x S kk).length := by rw [up_len]; exact hk
  intro p hp ha
  by_cases hpk : p = kk
  · subst hpk
    refine ⟨fun hx => down_keeps hk2 ?_, fun hx => ?_⟩
    · unfold up
      rw [if_pos ⟨ha, hx⟩, bool_set _ _ _ (by omega), if_pos rfl]
    · unfold down
      rw [if_pos ⟨ha, hx⟩, bool_set _ _ _ (by omega), if_pos rfl]
  · obtain ⟨h1, h2⟩ := h p (by omega) ha
    exact ⟨fun hx => down_keeps hk2 (up_keeps hS (h1 hx)), fun hx => down_keeps hk2 (up_keeps hS (h2 hx))⟩
theorem fits_step (l : List Int) (S x at0 n i : Nat) (at_ next : List Bool) (kk : Nat) (hx : 1 ≤ x ∧ x ≤ 60) (hS : S ≤ 900) (ha : at_.length = S + 1) (hn : next.length = S + 1) (hk : kk < S + 1) (k : Nat) :
    impl_FoldFits.l2 (k + 2) l (S : Int) (x : Int) next ((S + 1 : Nat) : Int) (at0 : Int) l (n : Int) (i : Int) at_ ((S + 1 : Nat) : Int) (kk : Int) = impl_FoldFits.l2 k l (S : Int) (x : Int) (down at_ (up at_ next x S kk) x kk) ((S + 1 : Nat) : Int) (at0 : Int) l (n : Int) (i : Int) at_ ((S + 1 : Nat) : Int) ((kk + 1 : Nat) : Int) := by
  have w1 : wrap64 ((kk : Int) + (x : Int)) = ((kk + x : Nat) : Int) := by unfold wrap64; omega
  have w2 : wrap64 ((kk : Int) - (x : Int)) = (kk : Int) - (x : Int) := by unfold wrap64; omega
  rw [impl_FoldFits.l2, if_pos (by omega), if_pos (by omega), if_pos (by omega), w1]
  cases hb : rdOf false at_ (kk : Int) with
  | false =>
    have e1 : up at_ next x S kk = next := by unfold up; rw [hb, if_neg (fun q => absurd q.1 (by decide))]
    have e2 : down at_ next x kk = next := by unfold down; rw [hb, if_neg (fun q => absurd q.1 (by decide))]
    rw [if_neg (by decide), impl_FoldFits.j4, if_neg (by decide), if_neg (by decide), wrap_nat (by omega), e1, e2]
  | true =>
    rw [if_pos rfl, impl_FoldFits.j4, w1, w2, wrap_nat (by omega)]
    have e2 : ∀ nx : List Bool, nx.length = S + 1 → (if (kk : Int) - (x : Int) ≥ 0 then (if 0 ≤ (kk : Int) - (x : Int) then (if (kk : Int) - (x : Int) < (nx.length : Int) then (impl_FoldFits.l2 k l (S : Int) (x : Int) (nx.set ((kk : Int) - (x : Int)).toNat true) ((S + 1 : Nat) : Int) (at0 : Int) l (n : Int) (i : Int) at_ ((S + 1 : Nat) : Int) ((kk + 1 : Nat) : Int)) else none) else none) else impl_FoldFits.l2 k l (S : Int) (x : Int) nx ((S + 1 : Nat) : Int) (at0 : Int) l (n : Int) (i : Int) at_ ((S + 1 : Nat) : Int) ((kk + 1 : Nat) : Int)) = impl_FoldFits.l2 k l (S : Int) (x : Int) (down at_ nx x kk) ((S + 1 : Nat) : Int) (at0 : Int) l (n : Int) (i : Int) at_ ((S + 1 : Nat) : Int) ((kk + 1 : Nat) : Int) := by
      intro nx hnx
      unfold down
      by_cases h : x ≤ kk
      · rw [if_pos (show (kk : Int) - (x : Int) ≥ 0 by omega), if_pos (by omega), if_pos (by omega), if_pos ⟨hb, h⟩, show ((kk : Int) - (x : Int)).toNat = kk - x by omega]
      · rw [if_neg (show ¬ (kk : Int) - (x : Int) ≥ 0 by omega), if_neg (fun q => h q.2)]
    have e0 : next.length = (up at_ next x S kk).length := (up_len _ _ _ _ _).symm
    by_cases h : kk + x ≤ S
    · have e1 : up at_ next x S kk = next.set (kk + x) true := by unfold up; rw [if_pos ⟨hb, h⟩]
      rw [if_pos (by simp; omega), if_pos (by omega), if_pos (by omega), Option.bind_some, if_pos rfl, Int.toNat_natCast, ← e1, e0]
      exact e2 _ (by rw [up_len]; exact hn)
    · have e1 : up at_ next x S kk = next := by unfold up; rw [if_neg (fun q => h q.2)]
      rw [if_neg (by simp; omega), if_pos rfl, e1]
      exact e2 next hn
theorem fits_l2 (l : List Int) (S x at0 n i : Nat) (at_ : List Bool) (hx : 1 ≤ x ∧ x ≤ 60) (hS : S ≤ 900) (ha : at_.length = S + 1) (hi : i < 1000)
    (hc : ∀ next : List Bool, next.length = S + 1 → Laid at_ next x S (S + 1) → ∃ K, ∀ k, K ≤ k → impl_FoldFits.l1 k l (S : Int) next ((S + 1 : Nat) : Int) (at0 : Int) l (n : Int) ((i + 1 : Nat) : Int) = some true) :
    ∀ (d kk : Nat) (next : List Bool), kk + d = S + 1 → next.length = S + 1 → Laid at_ next x S kk → ∃ K, ∀ k, K ≤ k → impl_FoldFits.l2 k l (S : Int) (x : Int) next ((S + 1 : Nat) : Int) (at0 : Int) l (n : Int) (i : Int) at_ ((S + 1 : Nat) : Int) (kk : Int) = some true := by
  intro d
  induction d with
  | zero =>
    intro kk next hk hn hl
    have hk : kk = S + 1 := by omega
    subst hk
    obtain ⟨K, h⟩ := hc next hn hl
    refine ⟨K + 1, fun k hk => ?_⟩
    obtain ⟨m, rfl⟩ : ∃ m, k = m + 1 := ⟨k - 1, by omega⟩
    rw [impl_FoldFits.l2, if_neg (by omega), wrap_nat (by omega)]
    exact h m (by omega)
  | succ d ih =>
    intro kk next hk hn hl
    obtain ⟨K, h⟩ := ih (kk + 1) (down at_ (up at_ next x S kk) x kk) (by omega) (by rw [down_len, up_len]; exact hn) (laid_next (by omega) (by omega) hl)
    refine ⟨K + 2, fun k hk2 => ?_⟩
    obtain ⟨m, rfl⟩ : ∃ m, k = m + 2 := ⟨k - 2, by omega⟩
    rw [fits_step l S x at0 n i at_ next kk hx hS ha hn (by omega) m]
    exact h m (by omega)
theorem S_small {S : Nat} (h : S ≤ 900) : (0 : Int) ≤ ((S + 1 : Nat) : Int) ∧ (((S + 1 : Nat) : Int)).toNat ≤ 281474976710656 ∧ wrap64 ((S : Int) + 1) = ((S + 1 : Nat) : Int) := ⟨by omega, by rw [Int.toNat_natCast]; omega, wrap_nat (by omega)⟩
/-- The walk stays within the places. -/
def stays (S : Int) : List Int → List Bool → Int → Prop
  | x :: l, b :: bs, p => (0 ≤ (if b = true then p - x else p + x) ∧ (if b = true then p - x else p + x) ≤ S) ∧ stays S l bs (if b = true then p - x else p + x)
  | _, _, _ => True
theorem fits_l1 (l : List Int) (S at0 : Nat) (hl : ∀ x ∈ l, 1 ≤ x ∧ x ≤ 60) (h9 : l.length ≤ 9) (hS : S ≤ 900) : ∀ (d i : Nat) (at_ : List Bool), i + d = l.length → at_.length = S + 1 →
    ((∃ (p : Nat) (bs : List Bool), bs.length = d ∧ rdOf false at_ (p : Int) = true ∧ p < S + 1 ∧ stays (S : Int) (l.drop i) bs (p : Int)) ∨ ∃ K, ∀ k, K ≤ k → impl_FoldFits.l0 k l (S : Int) ((S + 1 : Nat) : Int) ((at0 + 1 : Nat) : Int) = some true) → at0 ≤ S →
    ∃ K, ∀ k, K ≤ k → impl_FoldFits.l1 k l (S : Int) at_ ((S + 1 : Nat) : Int) (at0 : Int) l (l.length : Int) (i : Int) = some true := by
  intro d
  induction d with
  | zero =>
    intro i at_ hi ha hp h0
    have hin : ∀ p : Nat, p < S + 1 → rdOf false at_ (p : Int) = true → true ∈ at_ := fun p hp h => by
      rw [bool_at (by omega)] at h
      rw [← h]
      exact List.getElem_mem _
    rcases hp with ⟨p, bs, _, h1, h2, _⟩ | ⟨K, h⟩
    · refine ⟨S + 10, fun k hk => ?_⟩
      obtain ⟨m, rfl⟩ : ∃ m, k = m + 1 := ⟨k - 1, by omega⟩
      rw [impl_FoldFits.l1, if_neg (by omega), bcontains at_ (by omega) m (by omega), Option.bind_some, decide_eq_true (hin p h2 h1), if_pos rfl]
    · refine ⟨K + S + 10, fun k hk => ?_⟩
      obtain ⟨m, rfl⟩ : ∃ m, k = m + 1 := ⟨k - 1, by omega⟩
      rw [impl_FoldFits.l1, if_neg (by omega), bcontains at_ (by omega) m (by omega), Option.bind_some]
      split
      · rfl
      · rw [wrap_nat (by omega)]
        exact h m (by omega)
  | succ d ih =>
    intro i at_ hi ha hp h0
    have hil : i < l.length := by omega
    have hx := hl _ (List.getElem_mem hil)
    obtain ⟨x, hxe⟩ : ∃ x : Nat, l[i] = (x : Int) := ⟨l[i].toNat, by omega⟩
    have hx2 : 1 ≤ x ∧ x ≤ 60 := by omega
    have hrep : (List.replicate (S + 1) false).length = S + 1 := by simp
    have hlaid : Laid at_ (List.replicate (S + 1) false) x S 0 := fun p hp => by omega
    have hc : ∀ next : List Bool, next.length = S + 1 → Laid at_ next x S (S + 1) → ∃ K, ∀ k, K ≤ k → impl_FoldFits.l1 k l (S : Int) next ((S + 1 : Nat) : Int) (at0 : Int) l (l.length : Int) ((i + 1 : Nat) : Int) = some true := by
      intro next hn hla
      refine ih (i + 1) next (by omega) hn ?_ h0
      rcases hp with ⟨p, bs, b1, b2, b3, b4⟩ | h
      · left
        rw [List.drop_eq_getElem_cons hil, hxe] at b4
        match bs, b1, b4 with
        | b :: bs, b1, b4 =>
          obtain ⟨⟨c1, c2⟩, c3⟩ := b4
          obtain ⟨l1, l2⟩ := hla p b3 b2
          cases b with
          | true =>
            rw [if_pos rfl] at c1 c2 c3
            rw [show (p : Int) - (x : Int) = ((p - x : Nat) : Int) by omega] at c3
            exact ⟨p - x, bs, by simpa using b1, l2 (by omega), by omega, c3⟩
          | false =>
            rw [if_neg (by decide)] at c1 c2 c3
            rw [show (p : Int) + (x : Int) = ((p + x : Nat) : Int) by omega] at c3
            exact ⟨p + x, bs, by simpa using b1, l1 (by omega), by omega, c3⟩
      · exact .inr h
    obtain ⟨K, h⟩ := fits_l2 l S x at0 l.length i at_ hx2 hS ha (by omega) hc (S + 1) 0 (List.replicate (S + 1) false) (by omega) hrep hlaid
    refine ⟨K + 1, fun k hk => ?_⟩
    obtain ⟨m, rfl⟩ : ∃ m, k = m + 1 := ⟨k - 1, by omega⟩
    obtain ⟨w0, w1, w⟩ := S_small hS
    rw [impl_FoldFits.l1, if_pos (by omega), if_pos (by omega), if_pos (by omega), w, if_pos w0, if_pos w1, rd_at hil, hxe, Int.toNat_natCast, ha]
    exact h m (by omega)
theorem fits_l0 (l : List Int) (S q : Nat) (bs : List Bool) (hl : ∀ x ∈ l, 1 ≤ x ∧ x ≤ 60) (h9 : l.length ≤ 9) (hS : S ≤ 900) (hb : bs.length = l.length) (hq : q ≤ S) (hst : stays (S : Int) l bs (q : Int)) : ∀ (d at0 : Nat), at0 + d = q → ∃ K, ∀ k, K ≤ k → impl_FoldFits.l0 k l (S : Int) ((S + 1 : Nat) : Int) (at0 : Int) = some true := by
  intro d
  induction d with
  | zero =>
    intro at0 h0
    have h0 : at0 = q := by omega
    subst h0
    obtain ⟨K, h⟩ := fits_l1 l S at0 hl h9 hS l.length 0 ((List.replicate (S + 1) false).set at0 true) (by omega) (by simp) (.inl ⟨at0, bs, hb, by rw [bool_set _ _ _ (by simp; omega), if_pos rfl], by omega, by rw [List.drop_zero]; exact hst⟩) hq
    refine ⟨K + 1, fun k hk => ?_⟩
    obtain ⟨m, rfl⟩ : ∃ m, k = m + 1 := ⟨k - 1, by omega⟩
    rw [impl_FoldFits.l0, if_pos (by omega), wrap_nat (by omega), if_pos (by omega), if_pos (by omega), Option.bind_some, if_pos (by omega), if_pos (by simp; omega), Int.toNat_natCast, Int.toNat_natCast]
    exact h m (by omega)
  | succ d ih =>
    intro at0 h0
    obtain ⟨K, h⟩ := fits_l1 l S at0 hl h9 hS l.length 0 ((List.replicate (S + 1) false).set at0 true) (by omega) (by simp) (.inr (ih (at0 + 1) (by omega))) (by omega)
    refine ⟨K + 1, fun k hk => ?_⟩
    obtain ⟨m, rfl⟩ : ∃ m, k = m + 1 := ⟨k - 1, by omega⟩
    rw [impl_FoldFits.l0, if_pos (by omega), wrap_nat (by omega), if_pos (by omega), if_pos (by omega), Option.bind_some, if_pos (by omega), if_pos (by simp; omega), Int.toNat_natCast, Int.toNat_natCast]
    exact h m (by omega)
theorem steps_mono : ∀ (l : List Int) (bs : List Bool) (p lo hi : Int), (steps l bs (p, lo, hi)).2.1 ≤ lo ∧ hi ≤ (steps l bs (p, lo, hi)).2.2
  | [], _, _, _, _ => ⟨Int.le_refl _, Int.le_refl _⟩
  | _ :: _, [], _, _, _ => ⟨Int.le_refl _, Int.le_refl _⟩
  | x :: l, b :: bs, p, lo, hi => by
    rw [steps]
    simp only
    generalize (if b = true then p - x else p + x) = p'
    have h := steps_mono l bs p' (mn lo p') (mx hi p')
    have h1 : mn lo p' ≤ lo := by unfold mn; split <;> omega
    have h2 : hi ≤ mx hi p' := by unfold mx; split <;> omega
    omega
theorem steps_stays : ∀ (l : List Int) (bs : List Bool) (p lo hi L S : Int), L ≤ (steps l bs (p, lo, hi)).2.1 → (steps l bs (p, lo, hi)).2.2 ≤ L + S → stays S l bs (p - L)
  | [], _, _, _, _, _, _, _, _ => trivial
  | _ :: _, [], _, _, _, _, _, _, _ => trivial
  | x :: l, b :: bs, p, lo, hi, L, S, h1, h2 => by
    rw [steps] at h1 h2
    simp only at h1 h2
    rw [stays]
    have e : (if b = true then p - L - x else p - L + x) = (if b = true then p - x else p + x) - L := by split <;> omega
    rw [e]
    generalize (if b = true then p - x else p + x) = p' at h1 h2
    have h := steps_mono l bs p' (mn lo p') (mx hi p')
    have h3 : mn lo p' ≤ p' := by unfold mn; split <;> omega
    have h4 : p' ≤ mx hi p' := by unfold mx; split <;> omega
    exact ⟨⟨by omega, by omega⟩, steps_stays l bs p' _ _ L S h1 h2⟩
theorem steps_wide : ∀ (l : List Int) (bs : List Bool) (p lo hi : Int), (∀ x ∈ l, 1 ≤ x ∧ x ≤ 60) → lo ≤ p → p ≤ hi → (steps l bs (p, lo, hi)).2.2 - (steps l bs (p, lo, hi)).2.1 ≤ hi - lo + l.sum
  | [], _, _, _, _, _, _, _ => by simp [steps]
  | x :: l, [], p, lo, hi, hl, h1, h2 => by
    have hp := hl x List.mem_cons_self
    have h3 : 0 ≤ l.sum := by
      have : ∀ l : List Int, (∀ x ∈ l, 1 ≤ x ∧ x ≤ 60) → 0 ≤ l.sum := by
        intro l
        induction l with
        | nil => intro _; simp
        | cons x l ih =>
          intro h
          have a := h x List.mem_cons_self
          have b := ih (fun y hy => h y (List.mem_cons_of_mem _ hy))
          rw [List.sum_cons]
          omega
      exact this l (fun y hy => hl y (List.mem_cons_of_mem _ hy))
    show hi - lo ≤ _
    rw [List.sum_cons]
    omega
  | x :: l, b :: bs, p, lo, hi, hl, h1, h2 => by
    have hp := hl x List.mem_cons_self
    rw [steps, List.sum_cons]
    simp only
    have hd : (if b = true then p - x else p + x) = p - x ∨ (if b = true then p - x else p + x) = p + x := by split <;> simp
    generalize (if b = true then p - x else p + x) = p' at hd
    have h3 : mn lo p' ≤ p' ∧ (mn lo p' = lo ∨ mn lo p' = p') := by unfold mn; split <;> omega
    have h4 : p' ≤ mx hi p' ∧ (mx hi p' = hi ∨ mx hi p' = p') := by unfold mx; split <;> omega
    have h := steps_wide l bs p' (mn lo p') (mx hi p') (fun y hy => hl y (List.mem_cons_of_mem _ hy)) h3.1 h4.1
    omega
theorem fits_tells (l : List Int) (hr : isRuler l) (bs : List Bool) (hb : bs.length = l.length) : ∃ K, ∀ k, K ≤ k → impl_FoldFits.f k l ((steps l bs (0, 0, 0)).2.2 - (steps l bs (0, 0, 0)).2.1) = some true := by
  have h9 := hr.2.2
  have hl2 : l.length ≤ 1048576 := by omega
  have hm := steps_mono l bs 0 0 0
  have hw := steps_wide l bs 0 0 0 hr.1 (by omega) (by omega)
  have hs := sum_tells l (by omega) hr.1
  have hst := steps_stays l bs 0 0 0 (steps l bs (0, 0, 0)).2.1 ((steps l bs (0, 0, 0)).2.2 - (steps l bs (0, 0, 0)).2.1) (Int.le_refl _) (by omega)
  have hin := steps_in l bs 0 0 0 0 hr.1 (by omega) (by omega) (by omega) (by omega) (by omega) (by omega)
  generalize (steps l bs (0, 0, 0)).2.1 = L at hm hw hst hin
  generalize (steps l bs (0, 0, 0)).2.2 = H at hm hw hst hin
  obtain ⟨S, hSe⟩ : ∃ S : Nat, H - L = (S : Int) := ⟨(H - L).toNat, by omega⟩
  obtain ⟨q, hqe⟩ : ∃ q : Nat, 0 - L = (q : Int) := ⟨(0 - L).toNat, by omega⟩
  rw [hSe] at hst ⊢
  rw [hqe] at hst
  have hq : q ≤ S := by omega
  have hS9 : S ≤ 900 ∨ True := .inr trivial
  have hsum : l.sum ≤ 60 * l.length := by
    have : ∀ l : List Int, (∀ x ∈ l, 1 ≤ x ∧ x ≤ 60) → l.sum ≤ 60 * l.length := by
      intro l
      induction l with
      | nil => intro _; simp
      | cons x l ih =>
        intro h
        have a := h x List.mem_cons_self
        have b := ih (fun y hy => h y (List.mem_cons_of_mem _ hy))
        rw [List.sum_cons, List.length_cons]
        omega
    exact this l hr.1
  have hS : S ≤ 540 := by omega
  obtain ⟨K, h⟩ := fits_l0 l S q bs hr.1 h9 (by omega) hb hq hst q 0 (by omega)
  refine ⟨K + l.length + 100, fun k hk => ?_⟩
  obtain ⟨m, rfl⟩ : ∃ m, k = m + 1 := ⟨k - 1, by omega⟩
  unfold impl_FoldFits.f
  rw [impl_ruler l hl2 _ (by omega), decide_eq_true hr]
  simp only [Option.bind_some]
  rw [if_pos trivial, impl_FoldFits.j0, if_neg (by simp), hs m (by omega), Option.bind_some]
  rw [show mn (S : Int) l.sum = (S : Int) by unfold mn; split <;> omega, wrap_nat (by omega)]
  exact h m (by omega)
/-! ### the reader of draws -/
theorem wrap_id {x : Int} (h0 : -9223372036854775808 ≤ x) (h1 : x ≤ 9223372036854775807) : wrap64 x = x := by unfold wrap64; omega
theorem wf_u8 {l : List Int} (h : ∀ x ∈ l, (Lit.int .u8 x).wf = true) : ∀ x ∈ l, 0 ≤ x ∧ x ≤ 255 := by
  intro x hx
  have := h x hx
  simp [Lit.wf, IntKind.min, IntKind.max, IntKind.bits, IntKind.signed] at this
  omega
theorem rd_u8 {b : List Int} (hb : ∀ x ∈ b, 0 ≤ x ∧ x ≤ 255) (i : Int) (h0 : 0 ≤ i) (h1 : i < b.length) : 0 ≤ rd b i ∧ rd b i ≤ 255 := by
  have hl : i.toNat < b.length := by omega
  have : rd b i = b[i.toNat] := by
    unfold rd
    rw [List.getD_eq_getElem?_getD, List.getElem?_eq_getElem hl]
    rfl
  rw [this]
  exact hb _ (List.getElem_mem hl)
theorem xor_i64 (a b : Nat) (ha : a < 4611686018427387904) (hb : b < 4611686018427387904) : Go.bits .xor .i64 (a : Int) (b : Int) = ((a ^^^ b : Nat) : Int) := by
  have hx : a ^^^ b < 2 ^ 62 := Nat.xor_lt_two_pow (by omega) (by omega)
  have h1 : (BitVec.ofInt 64 (a : Int)).toNat = a := by
    rw [BitVec.ofInt_natCast, BitVec.toNat_ofNat]; exact Nat.mod_eq_of_lt (by omega)
  have h2 : (BitVec.ofInt 64 (b : Int)).toNat = b := by
    rw [BitVec.ofInt_natCast, BitVec.toNat_ofNat]; exact Nat.mod_eq_of_lt (by omega)
  show IntKind.i64.wrap ((BitVec.ofInt 64 (a : Int) ^^^ BitVec.ofInt 64 (b : Int)).toNat : Int) = _
  rw [BitVec.toNat_xor, h1, h2]
  generalize a ^^^ b = c at hx
  simp [IntKind.wrap, IntKind.bits, IntKind.signed]
  omega
theorem tmod_in {x n : Int} (hx : 0 ≤ x) (hn : 1 ≤ n) : 0 ≤ Int.tmod x n ∧ Int.tmod x n < n := by
  rw [Int.tmod_eq_emod_of_nonneg hx]
  exact ⟨Int.emod_nonneg _ (by omega), Int.emod_lt_of_pos _ (by omega)⟩
theorem tdiv_in {x n : Int} (hx : 0 ≤ x) (hn : 1 ≤ n) : 0 ≤ Int.tdiv x n ∧ Int.tdiv x n ≤ x := by
  rw [Int.tdiv_eq_ediv_of_nonneg hx]
  exact ⟨Int.ediv_nonneg hx (by omega), Int.ediv_le_self _ hx⟩
theorem pick_tells (b : List Int) (hb : ∀ x ∈ b, 0 ≤ x ∧ x ≤ 255) (hl : b.length ≤ 2000) (p n : Int) (hp : 0 ≤ p) (hp2 : p ≤ 1000000) (hn : 1 ≤ n) (hn2 : n ≤ 1000000) (k : Nat) (hk : 1 ≤ k) :
    ∃ r, spec_l6Rd_pick.f k b p n = some (r, p + 1) ∧ 0 ≤ r ∧ r < n := by
  obtain ⟨m, rfl⟩ : ∃ m, k = m + 1 := ⟨k - 1, by omega⟩
  unfold spec_l6Rd_pick.f
  have e0 : wrap64 (p + 1) = p + 1 := wrap_id (by omega) (by omega)
  have e1 : wrap64 (p + 1 - 1) = p := by rw [show p + 1 - 1 = p by omega]; exact wrap_id (by omega) (by omega)
  rw [if_neg (by omega), spec_l6Rd_pick.j0, e0, e1]
  by_cases hz : b.length = 0
  · rw [if_pos (by simp [hz])]
    exact ⟨0, rfl, by omega, by omega⟩
  · have hz2 : ((b.length : Int) == 0) = false := by rw [beq_eq_false_iff_ne]; omega
    rw [hz2, if_neg (by decide)]
    by_cases h : p < b.length
    · rw [if_pos h, if_pos hp, if_neg (by omega)]
      have hr := rd_u8 hb p hp h
      rw [wrap_id (x := rd b p) (by omega) (by omega)]
      exact ⟨_, rfl, tmod_in hr.1 hn⟩
    · rw [if_neg h, if_neg (by omega)]
      have hlen : (1 : Int) ≤ b.length := by omega
      have q1 := tmod_in hp hlen
      have e7 : wrap64 (p * 7) = p * 7 := wrap_id (by omega) (by omega)
      have e8 : wrap64 (p * 7 + 3) = p * 7 + 3 := wrap_id (by omega) (by omega)
      rw [e7, e8]
      have q2 := tmod_in (show (0 : Int) ≤ p * 7 + 3 by omega) hlen
      rw [if_pos q1.1, if_pos q1.2, if_pos q2.1, if_pos q2.2, if_neg (by omega)]
      have r1 := rd_u8 hb _ q1.1 q1.2
      have r2 := rd_u8 hb _ q2.1 q2.2
      have q3 := tdiv_in hp hlen
      generalize rd b (Int.tmod p b.length) = x1 at r1
      generalize rd b (Int.tmod (p * 7 + 3) b.length) = x2 at r2
      generalize Int.tdiv p b.length = x3 at q3
      rw [wrap_id (x := x1) (by omega) (by omega), wrap_id (x := x2) (by omega) (by omega), wrap_id (x := x3) (by omega) (by omega), wrap_id (x := x1 * 131) (by omega) (by omega), wrap_id (x := x2 * 1117) (by omega) (by omega),
        wrap_id (x := x1 * 131 + x2 * 1117) (by omega) (by omega), wrap_id (x := p * 29) (by omega) (by omega), wrap_id (x := x1 * 131 + x2 * 1117 + p * 29) (by omega) (by omega), wrap_id (x := x3 * 53) (by omega) (by omega),
        wrap_id (x := x1 * 131 + x2 * 1117 + p * 29 + x3 * 53) (by omega) (by omega)]
      obtain ⟨X, hX⟩ : ∃ X : Nat, x1 * 131 + x2 * 1117 + p * 29 + x3 * 53 = X := ⟨(x1 * 131 + x2 * 1117 + p * 29 + x3 * 53).toNat, by omega⟩
      rw [hX]
      have hXb : X < 1000000000 := by omega
      have q4 := tdiv_in (show (0 : Int) ≤ (X : Int) by omega) (show (1 : Int) ≤ 64 by omega)
      rw [wrap_id (x := Int.tdiv X 64) (by omega) (by omega)]
      obtain ⟨Y, hY⟩ : ∃ Y : Nat, Int.tdiv X 64 = Y := ⟨(Int.tdiv X 64).toNat, by omega⟩
      rw [hY, xor_i64 X Y (by omega) (by omega)]
      exact ⟨_, rfl, tmod_in (by omega) hn⟩
/-- The bytes that the reader takes. -/
theorem open_tells (l : List Int) (h : ∀ x ∈ l, 0 ≤ x ∧ x ≤ 255) : ∃ b, spec_l6Open.f l = some (b, 0) ∧ b.length ≤ 2000 ∧ ∀ x ∈ b, 0 ≤ x ∧ x ≤ 255 := by
  unfold spec_l6Open.f
  by_cases hl : (l.length : Int) > 2000
  · rw [if_pos hl, if_pos (by omega)]
    exact ⟨_, rfl, by rw [List.length_take]; omega, fun x hx => h x (List.mem_of_mem_take hx)⟩
  · rw [if_neg hl]
    exact ⟨_, rfl, by omega, h⟩
/-! ### a ruler that is drawn -/
theorem length_tells (b : List Int) (hb : ∀ x ∈ b, 0 ≤ x ∧ x ≤ 255) (hl : b.length ≤ 2000) (p : Int) (hp : 0 ≤ p) (hp2 : p ≤ 900000) (k : Nat) (hk : 1 ≤ k) :
    ∃ r q, spec_l91Length.f k b p = some (r, q) ∧ p ≤ q ∧ q ≤ p + 3 := by
  unfold spec_l91Length.f
  obtain ⟨r1, h1, _⟩ := pick_tells b hb hl p 12 hp (by omega) (by omega) (by omega) k hk
  obtain ⟨r2, h2, _⟩ := pick_tells b hb hl (p + 1) 6 (by omega) (by omega) (by omega) (by omega) k hk
  obtain ⟨r3, h3, _⟩ := pick_tells b hb hl (p + 1 + 1) 48 (by omega) (by omega) (by omega) (by omega) k hk
  rw [h1]
  simp only [Option.bind_some]
  rw [h2]
  simp only [Option.bind_some]
  rw [h3]
  simp only [Option.bind_some]
  exact ⟨_, _, rfl, by omega, by omega⟩
theorem ruler_draw_l (b : List Int) (hb : ∀ x ∈ b, 0 ≤ x ∧ x ≤ 255) (hl : b.length ≤ 2000) (n : Nat) (hn : 1 ≤ n) (hn9 : n ≤ 9) : ∀ (d k i : Nat) (out : List Int) (p : Int), i + d = n → d + 2 ≤ k → out.length = i → 0 ≤ p → p ≤ 1000 + 3 * i →
    ∃ a q, spec_l91Ruler.l0 k out (n : Int) (i : Int) b p = some (a, q) ∧ a.length = n ∧ 0 ≤ q ∧ q ≤ 1003 + 3 * n := by
  intro d
  induction d with
  | zero =>
    intro k i out p hi hk ho hp hp2
    obtain ⟨m, rfl⟩ : ∃ m, k = m + 1 := ⟨k - 1, by omega⟩
    rw [spec_l91Ruler.l0, if_neg (by omega)]
    obtain ⟨r1, h1, _⟩ := pick_tells b hb hl p 30 hp (by omega) (by omega) (by omega) m (by omega)
    rw [h1]
    simp only [Option.bind_some]
    split
    · obtain ⟨r2, h2, g1, g2⟩ := pick_tells b hb hl (p + 1) n (by omega) (by omega) (by omega) (by omega) m (by omega)
      obtain ⟨r3, h3, _⟩ := pick_tells b hb hl (p + 1 + 1) 2 (by omega) (by omega) (by omega) (by omega) m (by omega)
      rw [h2]
      simp only [Option.bind_some]
      rw [h3]
      simp only [Option.bind_some]
      rw [if_pos g1, if_pos (by omega)]
      exact ⟨_, _, rfl, by rw [List.length_set]; omega, by omega, by omega⟩
    · exact ⟨_, _, rfl, by omega, by omega, by omega⟩
  | succ d ih =>
    intro k i out p hi hk ho hp hp2
    obtain ⟨m, rfl⟩ : ∃ m, k = m + 1 := ⟨k - 1, by omega⟩
    rw [spec_l91Ruler.l0, if_pos (by omega)]
    obtain ⟨r, q, h1, h2, h3⟩ := length_tells b hb hl p hp (by omega) m (by omega)
    rw [h1]
    simp only [Option.bind_some]
    rw [if_pos (by omega), wrap_nat (by omega)]
    exact ih m (i + 1) _ q (by omega) (by omega) (by rw [List.length_append]; simp; omega) (by omega) (by omega)
theorem ruler_draw (b : List Int) (hb : ∀ x ∈ b, 0 ≤ x ∧ x ≤ 255) (hl : b.length ≤ 2000) (k : Nat) (hk : 20 ≤ k) :
    ∃ a q, spec_l91Ruler.f k b 0 8 = some (a, q) ∧ a.length ≤ 8 ∧ 0 ≤ q ∧ q ≤ 1100 := by
  unfold spec_l91Ruler.f
  obtain ⟨r, h, g1, g2⟩ := pick_tells b hb hl 0 8 (by omega) (by omega) (by omega) (by omega) k (by omega)
  rw [h]
  simp only [Option.bind_some]
  obtain ⟨n, hn⟩ : ∃ n : Nat, r = n := ⟨r.toNat, by omega⟩
  subst hn
  rw [show wrap64 (1 + (n : Int)) = ((n + 1 : Nat) : Int) by unfold wrap64; omega]
  obtain ⟨a, q, h1, h2, h3, h4⟩ := ruler_draw_l b hb hl (n + 1) (by omega) (by omega) (n + 1) k 0 [] (0 + 1) (by omega) (by omega) rfl (by omega) (by omega)
  exact ⟨a, q, h1, by omega, h3, by omega⟩
theorem of_one (b : List Int) (hb : ∀ x ∈ b, 0 ≤ x ∧ x ≤ 255) (hl : b.length ≤ 2000) (p : Int) (hp : 0 ≤ p) (hp2 : p ≤ 1000000) (l : List ByteArray) (hn : 1 ≤ l.length) (hn2 : l.length ≤ 1000000) (B : Nat) (hB : ∀ s ∈ l, s.size ≤ B) (k : Nat) (hk : 1 ≤ k) :
    ∃ s, spec_l6Rd_of.f k b p l = some (s, p + 1) ∧ s.size ≤ B := by
  unfold spec_l6Rd_of.f
  obtain ⟨r, h1, h2, h3⟩ := pick_tells b hb hl p (l.length : Int) hp hp2 (by omega) (by omega) k hk
  rw [h1]
  simp only [Option.bind_some]
  rw [if_pos h2, if_pos h3]
  refine ⟨_, rfl, ?_⟩
  have h4 : r.toNat < l.length := by omega
  show (rdOf ByteArray.empty l r).size ≤ B
  unfold rdOf
  rw [List.getD_eq_getElem?_getD, List.getElem?_eq_getElem h4]
  exact hB _ (List.getElem_mem h4)
theorem bits_mask (bs : List Bool) (n : Nat) (hn : bs.length = n) : bitsN n (maskTo bs n) = bs := by
  apply List.ext_getElem?
  intro i
  by_cases hi : i < n
  · have h1 := maskTo_div bs (n - 1 - i) (i + 1)
    rw [show i + 1 + (n - 1 - i) = n by omega] at h1
    have h2 := maskTo_bit bs i
    rw [bitsN_at n _ i hi, h1, h2, List.getElem?_eq_getElem (by omega)]
    cases hb : bs[i] <;> simp
  · rw [List.getElem?_eq_none (by rw [bitsN_length]; omega), List.getElem?_eq_none (by omega)]
theorem drawspan_l (a b : List Int) (hb : ∀ x ∈ b, 0 ≤ x ∧ x ≤ 255) (hl : b.length ≤ 2000) (ha : a.length ≤ 8) : ∀ (d k i : Nat) (s : ByteArray) (q : Int), i + d = a.length → d + 5 ≤ k → s.size ≤ i → 0 ≤ q → q ≤ 2000 + i →
    ∃ s', spec_DrawProofSpanIs.l0 k a s (i : Int) b q = some (a, s') := by
  intro d
  induction d with
  | zero =>
    intro k i s q hi hk hs h0 h1
    obtain ⟨m, rfl⟩ : ∃ m, k = m + 1 := ⟨k - 1, by omega⟩
    rw [spec_DrawProofSpanIs.l0, if_neg (by omega)]
    obtain ⟨r, e1, e2, e3⟩ := pick_tells b hb hl q 16 h0 (by omega) (by omega) (by omega) m (by omega)
    rw [e1]
    simp only [Option.bind_some]
    by_cases c0 : r = 0
    · rw [if_pos c0, if_pos (by omega)]
      exact ⟨_, rfl⟩
    · rw [if_neg c0]
      by_cases c1 : r = 1
      · rw [if_pos c1]
        obtain ⟨t, g1, _⟩ := of_one b hb hl (q + 1) (by omega) (by omega) ([(⟨#[120]⟩ : ByteArray), (⟨#[]⟩ : ByteArray), (⟨#[82]⟩ : ByteArray), (⟨#[114, 32]⟩ : ByteArray)]) (by simp) (by simp) 2 (by decide) m (by omega)
        rw [g1]
        exact ⟨_, rfl⟩
      · rw [if_neg c1]
        exact ⟨_, rfl⟩
  | succ d ih =>
    intro k i s q hi hk hs h0 h1
    obtain ⟨m, rfl⟩ : ∃ m, k = m + 1 := ⟨k - 1, by omega⟩
    rw [spec_DrawProofSpanIs.l0, if_pos (by omega)]
    obtain ⟨t, g1, g2⟩ := of_one b hb hl q h0 (by omega) ([(⟨#[114]⟩ : ByteArray), (⟨#[108]⟩ : ByteArray)]) (by simp) (by simp) 1 (by decide) m (by omega)
    rw [g1]
    simp only [Option.bind_some]
    rw [if_pos (by omega), wrap_nat (by omega)]
    exact ih m (i + 1) (s ++ t) (q + 1) (by omega) (by omega) (by rw [ByteArray.size_append]; omega) (by omega) (by omega)
theorem drawspan_tells (l : List Int) (hb : ∀ x ∈ l, 0 ≤ x ∧ x ≤ 255) : ∃ a s, (∀ k, 60 ≤ k → spec_DrawProofSpanIs.f k l = some (a, s)) ∧ a.length ≤ 8 := by
  obtain ⟨a, s, h, h8⟩ : ∃ a s, spec_DrawProofSpanIs.f 60 l = some (a, s) ∧ a.length ≤ 8 := by
    unfold spec_DrawProofSpanIs.f
    obtain ⟨b, h1, h2, h3⟩ := open_tells l hb
    rw [h1]
    simp only [Option.bind_some]
    obtain ⟨a, q, g1, g2, g3, g4⟩ := ruler_draw b h3 h2 60 (by omega)
    rw [g1]
    simp only [Option.bind_some]
    obtain ⟨s, e⟩ := drawspan_l a b h3 h2 g2 a.length 60 0 ⟨#[]⟩ q (by omega) (by omega) (by decide) g3 (by omega)
    exact ⟨a, s, e, g2⟩
  exact ⟨a, s, fun k hk => at_rounds (fun k => spec_DrawProofSpanIs.mono l k) hk h, h8⟩
theorem span_law (a : List Int) (s : ByteArray) (h8 : a.length ≤ 8) (x : Int) (h : spanOf a s = (x, true)) : ∃ K, ∀ k, K ≤ k → laws_FnSpanIs.j0 (k + 1) a x true x true false = some true := by
  unfold spanOf at h
  split at h
  · next hc =>
    obtain ⟨hr, hn, _⟩ := hc
    have hx := (Prod.mk.inj h).1
    have hbl : (bitsOf s).length = a.length := by rw [bitsOf_length, hn]
    obtain ⟨K, g⟩ := fits_tells a hr (bitsOf s) hbl
    have hsp : spN a (maskTo (bitsOf s) a.length) = x := by
      unfold spN
      rw [bits_mask _ _ hbl]
      exact hx
    rw [hx] at g
    refine ⟨K + 2000, fun k hk => ?_⟩
    obtain ⟨⟨b, ok⟩, e1, e2⟩ := foldspan_tells a (by omega) k (by omega)
    rw [if_pos hr] at e2
    obtain ⟨e2, f, e3⟩ := e2
    have e2 : ok = true := e2
    subst e2
    have hle : b ≤ x := by
      rw [← hsp]
      exact e3.2.2.1 _ (maskTo_lt _ _)
    rw [laws_FnSpanIs.j0, if_neg (by decide), e1, Option.bind_some]
    show (if (true = true) then (if x ≥ b then _ else _) else _) = _
    rw [if_pos rfl, if_pos hle, g k (by omega), Option.bind_some]
  · exact absurd (Prod.mk.inj h).2 (by decide)
theorem FnSpanIs : laws_FnSpanIs.Pure := by
  intro l h1 h2 h3
  by_cases hl : (l.length : Int) > 1048576
  · exact ⟨0, by unfold laws_FnSpanIs.f; rw [if_pos hl]⟩
  · obtain ⟨a, s, p1, p2⟩ := drawspan_tells l (wf_u8 h3)
    have g1 := fun k hk => span_is_impl a s (by omega) k hk
    have g2 := fun k hk => span_is_spec a s (by omega) k hk
    rcases hc : spanOf a s with ⟨x, ok⟩
    cases ok with
    | true =>
      obtain ⟨K, g⟩ := span_law a s p2 x hc
      refine ⟨K + 100 + 1, ?_⟩
      unfold laws_FnSpanIs.f
      rw [if_neg hl, p1 _ (by omega), Option.bind_some, g1 _ (by omega), Option.bind_some, g2 _ (by omega), Option.bind_some, hc, if_neg (by simp)]
      show (if x = x then _ else _) = _
      rw [if_pos rfl]
      exact g _ (by omega)
    | false =>
      refine ⟨100 + 1, ?_⟩
      unfold laws_FnSpanIs.f
      rw [if_neg hl, p1 _ (by omega), Option.bind_some, g1 _ (by omega), Option.bind_some, g2 _ (by omega), Option.bind_some, hc, if_neg (by simp)]
      show (if x = x then _ else _) = _
      rw [if_pos rfl]
      show laws_FnSpanIs.j0 (100 + 1) a x false x false true = some true
      rw [laws_FnSpanIs.j0, if_pos rfl, if_pos (by decide), beq_self_eq_true]

end Go.Proofs.Ytadidiebamoljaa.Pure
