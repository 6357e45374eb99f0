/- The law FnProofSpan, as a statement over plain numbers and lists, is proved: what the program's functions compute is what the reference's compute. -/
import Derived.Test.YthcjahkgljoplaaPFnProofSpanx3
import Derived.Laws.Entries
namespace Go.Proofs.Ythcjahkgljoplaa.Pure
open Go.RowKit Go.Proofs.Ythcjahkgljoplaa.PFnProofSpan Go.Proofs.YthcjahkgljoplaaW.PrintWords Go.Proofs.YthcjahkgljoplaaW.PrintLast
set_option linter.unusedVariables false
set_option linter.unusedSimpArgs false
/-! ### lists of whole numbers -/
theorem wrap_nat {n : Nat} (h : n < 4611686018427387904) : wrap64 ((n : Int) + 1) = ((n + 1 : Nat) : Int) := by unfold wrap64; omega
theorem rd_at {l : List Int} {i : Nat} (h : i < l.length) : rd l (i : Int) = l[i] := by
  unfold rd
  rw [Int.toNat_natCast, List.getD_eq_getElem?_getD, List.getElem?_eq_getElem h]
  rfl
theorem and_one (a : Nat) (ha : a < 4611686018427387904) : Go.bits .and .i64 (a : Int) 1 = ((a % 2 : Nat) : Int) := by
  have h1 : (BitVec.ofInt 64 (a : Int)).toNat = a := by
    rw [BitVec.ofInt_natCast, BitVec.toNat_ofNat]; exact Nat.mod_eq_of_lt (by omega)
  have h2 : (BitVec.ofInt 64 (1 : Int)).toNat = 1 := by decide
  show IntKind.i64.wrap ((BitVec.ofInt 64 (a : Int) &&& BitVec.ofInt 64 (1 : Int)).toNat : Int) = _
  rw [BitVec.toNat_and, h1, h2, Nat.and_one_is_mod]
  have : a % 2 < 2 := Nat.mod_lt _ (by omega)
  generalize a % 2 = c at this
  simp [IntKind.wrap, IntKind.bits, IntKind.signed]
  omega
theorem ite_same {α : Type} {p q : Prop} [Decidable p] [Decidable q] (h : p ↔ q) {a b : α} : (if p then a else b) = if q then a else b := by
  by_cases hq : q
  · rw [if_pos (h.mpr hq), if_pos hq]
  · rw [if_neg (fun x => hq (h.mp x)), if_neg hq]
/-! ### rulers -/
def isRuler (l : List Int) : Prop := (∀ x ∈ l, 1 ≤ x ∧ x ≤ 60) ∧ 1 ≤ l.length ∧ l.length ≤ 9
instance (l : List Int) : Decidable (isRuler l) := by unfold isRuler; infer_instance
theorem spec_in (a b c : Int) : spec_l6In.f a b c = some (decide (b ≤ a ∧ a ≤ c)) := by
  unfold spec_l6In.f
  by_cases h : a ≥ b
  · rw [if_pos h]
    congr 1
    exact decide_eq_decide.mpr ⟨fun x => ⟨h, x⟩, fun x => x.2⟩
  · rw [if_neg h, decide_eq_false (fun x => h x.1)]
theorem spec_ruler_l (l : List Int) (hl : l.length ≤ 1048576) : ∀ (d k i : Nat), i + d = l.length → d + 1 ≤ k →
    spec_l5Ruler.l0 k l (i : Int) = some (decide ((∀ x ∈ l.drop i, 1 ≤ x ∧ x ≤ 60) ∧ 1 ≤ l.length ∧ l.length ≤ 9)) := by
  intro d
  induction d with
  | zero =>
    intro k i hi hk
    obtain ⟨m, rfl⟩ : ∃ m, k = m + 1 := ⟨k - 1, by omega⟩
    rw [spec_l5Ruler.l0, if_neg (by omega), spec_in, List.drop_eq_nil_of_le (by omega)]
    simp only [Option.bind_some, List.not_mem_nil, false_implies, implies_true, true_and]
    congr 1
    exact decide_eq_decide.mpr ⟨fun x => by omega, fun x => by omega⟩
  | succ d ih =>
    intro k i hi hk
    obtain ⟨m, rfl⟩ : ∃ m, k = m + 1 := ⟨k - 1, by omega⟩
    have hil : i < l.length := by omega
    rw [spec_l5Ruler.l0, if_pos (by omega), if_pos (by omega), rd_at hil, spec_in, wrap_nat (by omega), ih m (i + 1) (by omega) (by omega), List.drop_eq_getElem_cons hil]
    simp only [Option.bind_some, decide_eq_true_eq, List.mem_cons, forall_eq_or_imp]
    split
    · next h => congr 1; exact decide_eq_decide.mpr ⟨fun x => ⟨⟨h, x.1⟩, x.2⟩, fun x => ⟨x.1.2, x.2⟩⟩
    · next h => rw [decide_eq_false (fun x => h x.1.1)]
theorem spec_ruler (l : List Int) (hl : l.length ≤ 1048576) (k : Nat) (hk : l.length + 1 ≤ k) : spec_l5Ruler.f k l = some (decide (isRuler l)) :=
  spec_ruler_l l hl l.length k 0 (by omega) (by omega)
theorem impl_ruler_l (l : List Int) (hl : l.length ≤ 1048576) : ∀ (d k i : Nat), i + d = l.length → d + 1 ≤ k →
    impl_isRuler.l0 k l l (l.length : Int) (i : Int) = some (decide ((∀ x ∈ l.drop i, 1 ≤ x ∧ x ≤ 60) ∧ 1 ≤ l.length ∧ l.length ≤ 9)) := by
  intro d
  induction d with
  | zero =>
    intro k i hi hk
    obtain ⟨m, rfl⟩ : ∃ m, k = m + 1 := ⟨k - 1, by omega⟩
    rw [impl_isRuler.l0, if_neg (by omega), List.drop_eq_nil_of_le (by omega)]
    simp only [List.not_mem_nil, false_implies, implies_true, true_and]
    split
    · congr 1
      exact decide_eq_decide.mpr ⟨fun x => by omega, fun x => by omega⟩
    · rw [decide_eq_false (by omega)]
  | succ d ih =>
    intro k i hi hk
    obtain ⟨m, rfl⟩ : ∃ m, k = m + 1 := ⟨k - 1, by omega⟩
    have hil : i < l.length := by omega
    rw [impl_isRuler.l0, if_pos (by omega), if_pos (by omega), if_pos (by omega), rd_at hil, wrap_nat (by omega), ih m (i + 1) (by omega) (by omega), List.drop_eq_getElem_cons hil]
    simp only [List.mem_cons, forall_eq_or_imp]
    split
    · next h => rw [decide_eq_false (fun x => by omega)]
    · next h =>
      split
      · next h => rw [decide_eq_false (fun x => by omega)]
      · next h1 => congr 1; exact decide_eq_decide.mpr ⟨fun x => ⟨⟨⟨by omega, by omega⟩, x.1⟩, x.2⟩, fun x => ⟨x.1.2, x.2⟩⟩
theorem impl_ruler (l : List Int) (hl : l.length ≤ 1048576) (k : Nat) (hk : l.length + 1 ≤ k) : impl_isRuler.f k l = some (decide (isRuler l)) :=
  impl_ruler_l l hl l.length k 0 (by omega) (by omega)
/-- Where one goes along a ruler: at the place, at the least place, at the greatest. -/
def steps : List Int → List Bool → Int × Int × Int → Int × Int × Int
  | x :: l, b :: bs, e => steps l bs (if b = true then e.1 - x else e.1 + x, mn e.2.1 (if b = true then e.1 - x else e.1 + x), mx e.2.2 (if b = true then e.1 - x else e.1 + x))
  | _, _, e => e
/-- The number that bits tell, the first of them being the greatest. -/
def maskTo (bs : List Bool) : Nat → Nat
  | 0 => 0
  | i + 1 => 2 * maskTo bs i + if bs[i]? = some true then 1 else 0
theorem maskTo_lt (bs : List Bool) : ∀ i, maskTo bs i < 2 ^ i
  | 0 => by simp [maskTo]
  | i + 1 => by
    have := maskTo_lt bs i
    rw [maskTo, Nat.pow_succ]
    split <;> omega
theorem maskTo_div (bs : List Bool) : ∀ d i, maskTo bs (i + d) / 2 ^ d = maskTo bs i
  | 0, i => by simp
  | d + 1, i => by
    rw [Nat.pow_succ, Nat.mul_comm, ← Nat.div_div_eq_div_mul, show i + (d + 1) = (i + d) + 1 by omega, maskTo]
    rw [show (2 * maskTo bs (i + d) + if bs[i + d]? = some true then 1 else 0) / 2 = maskTo bs (i + d) by split <;> omega]
    exact maskTo_div bs d i
theorem maskTo_bit (bs : List Bool) (i : Nat) : maskTo bs (i + 1) % 2 = if bs[i]? = some true then 1 else 0 := by
  rw [maskTo]
  split <;> omega
theorem mn_mx_in (a b : Int) : (mn a b = a ∨ mn a b = b) ∧ (mx a b = a ∨ mx a b = b) := by
  unfold mn mx
  constructor <;> split <;> simp
theorem ends5_l (l : List Int) (bs : List Bool) (hr : isRuler l) (hb : bs.length = l.length) : ∀ (d k i : Nat) (p lo hi : Int), i + d = l.length → d + 1 ≤ k → -60 * i ≤ p → p ≤ 60 * i →
    spec_l5Ends.l0 k l ((maskTo bs l.length : Nat) : Int) p lo hi (i : Int) = some (steps (l.drop i) (bs.drop i) (p, lo, hi)) := by
  intro d
  induction d with
  | zero =>
    intro k i p lo hi hi' hk h1 h2
    obtain ⟨m, rfl⟩ : ∃ m, k = m + 1 := ⟨k - 1, by omega⟩
    rw [spec_l5Ends.l0, if_neg (by omega), List.drop_eq_nil_of_le (by omega)]
    rfl
  | succ d ih =>
    intro k i p lo hi hi' hk h1 h2
    obtain ⟨m, rfl⟩ : ∃ m, k = m + 1 := ⟨k - 1, by omega⟩
    have hil : i < l.length := by omega
    obtain ⟨r1, r2, r3⟩ := hr
    have hx := r1 l[i] (List.getElem_mem hil)
    have w1 : wrap64 ((l.length : Int) - 1) = (l.length : Int) - 1 := by unfold wrap64; omega
    have w2 : wrap64 ((l.length : Int) - 1 - i) = (d : Int) := by unfold wrap64; omega
    have w3 : wrap64 (p - l[i]) = p - l[i] := by unfold wrap64; omega
    have w4 : wrap64 (p + l[i]) = p + l[i] := by unfold wrap64; omega
    have hM := maskTo_lt bs l.length
    have hM2 : maskTo bs l.length < 512 := Nat.lt_of_lt_of_le hM (Nat.pow_le_pow_right (by omega) r3 : 2 ^ l.length ≤ 2 ^ 9)
    have hsh : shr .i64 ((maskTo bs l.length : Nat) : Int) (d : Int) = ((maskTo bs (i + 1) : Nat) : Int) := by
      unfold shr
      rw [Int.toNat_natCast, show min d (IntKind.i64.bits) = d by simp only [IntKind.bits]; omega]
      rw [← maskTo_div bs d (i + 1), show i + 1 + d = l.length by omega]
      norm_cast
    have hM3 : maskTo bs (i + 1) < 4611686018427387904 := by
      have := maskTo_div bs d (i + 1)
      rw [show i + 1 + d = l.length by omega] at this
      have := Nat.div_le_self (maskTo bs l.length) (2 ^ d)
      omega
    have hbi : i < bs.length := by omega
    rw [spec_l5Ends.l0, if_pos (by omega), w1, w2, if_pos (by omega), hsh, and_one _ hM3, maskTo_bit, rd_at hil, w3, w4, wrap_nat (by omega), List.drop_eq_getElem_cons hil, List.drop_eq_getElem_cons hbi, List.getElem?_eq_getElem hbi]
    cases hbb : bs[i] with
    | true =>
      rw [if_pos rfl, if_pos (by omega), ih m (i + 1) _ _ _ (by omega) (by omega) (by omega) (by omega)]
      rfl
    | false =>
      rw [if_neg (by decide), if_pos (by omega), ih m (i + 1) _ _ _ (by omega) (by omega) (by omega) (by omega)]
      rfl
theorem ends5 (l : List Int) (bs : List Bool) (hr : isRuler l) (hb : bs.length = l.length) (k : Nat) (hk : l.length + 1 ≤ k) :
    spec_l5Ends.f k l ((maskTo bs l.length : Nat) : Int) = some (steps l bs (0, 0, 0)) :=
  ends5_l l bs hr hb l.length k 0 0 0 0 (by omega) (by omega) (by omega) (by omega)
theorem steps_in : ∀ (l : List Int) (bs : List Bool) (p lo hi : Int) (B : Int), (∀ x ∈ l, 1 ≤ x ∧ x ≤ 60) → -B ≤ p → p ≤ B → -B ≤ lo → lo ≤ B → -B ≤ hi → hi ≤ B →
    -(B + 60 * l.length) ≤ (steps l bs (p, lo, hi)).2.1 ∧ (steps l bs (p, lo, hi)).2.1 ≤ B + 60 * l.length ∧ -(B + 60 * l.length) ≤ (steps l bs (p, lo, hi)).2.2 ∧ (steps l bs (p, lo, hi)).2.2 ≤ B + 60 * l.length
  | [], bs, p, lo, hi, B, _, _, _, _, _, _, _ => by unfold steps; simp; omega
  | x :: l, [], p, lo, hi, B, _, _, _, _, _, _, _ => by unfold steps; simp only [List.length_cons]; omega
  | x :: l, b :: bs, p, lo, hi, B, h, h1, h2, h3, h4, h5, h6 => by
    have hx := h x List.mem_cons_self
    have key := fun p' lo' hi' => steps_in l bs p' lo' hi' (B + 60) (fun y hy => h y (List.mem_cons_of_mem _ hy))
    unfold steps
    simp only [List.length_cons]
    have e := mn_mx_in lo (if b = true then p - x else p + x)
    have e' := mn_mx_in hi (if b = true then p - x else p + x)
    have hp : -(B + 60) ≤ (if b = true then p - x else p + x) ∧ (if b = true then p - x else p + x) ≤ B + 60 := by split <;> omega
    generalize (if b = true then p - x else p + x) = q at *
    have := key q (mn lo q) (mx hi q) (by omega) (by omega) (by omega) (by omega) (by omega) (by omega)
    omega
/-- Bytes as bits: 'l' and 'r'. -/
def LRfrom (s : ByteArray) (i : Nat) : Prop := ∀ j : Nat, j < s.size → i ≤ j → bt s (j : Int) = 108 ∨ bt s (j : Int) = 114
instance (s : ByteArray) (i : Nat) : Decidable (LRfrom s i) := by unfold LRfrom; infer_instance
theorem LR_step {s : ByteArray} {i : Nat} (h : i < s.size) : LRfrom s i ↔ (bt s (i : Int) = 108 ∨ bt s (i : Int) = 114) ∧ LRfrom s (i + 1) := by
  unfold LRfrom
  constructor
  · exact fun x => ⟨x i h (Nat.le_refl _), fun j hj h1 => x j hj (by omega)⟩
  · intro x j hj h1
    by_cases hij : j = i
    · subst hij; exact x.1
    · exact x.2 j hj (by omega)
theorem LR_end {s : ByteArray} {i : Nat} (h : s.size ≤ i) : LRfrom s i := fun j h1 h2 => by omega
def bitsOf (s : ByteArray) : List Bool := s.data.toList.map fun c => c.toNat == 108
theorem bitsOf_length (s : ByteArray) : (bitsOf s).length = s.size := by simp [bitsOf]
theorem bitsOf_at (s : ByteArray) (i : Nat) (h : i < s.size) : (bitsOf s)[i]? = some (decide (bt s (i : Int) = 108)) := by
  unfold bitsOf bt
  rw [dif_pos (by simpa using h)]
  have hl : i < s.data.toList.length := by simpa using h
  rw [List.getElem?_map, List.getElem?_eq_getElem hl]
  simp only [Option.map_some, Option.some.injEq, Int.toNat_natCast]
  apply Bool.eq_iff_iff.mpr
  rw [beq_iff_eq, decide_eq_true_eq]
  have : s.data.toList[i] = s[i]'h := by simp [ByteArray.getElem_eq_getElem_data]
  rw [this]
  omega
def spanOf (l : List Int) (s : ByteArray) : Int × Bool :=
  if isRuler l ∧ s.size = l.length ∧ LRfrom s 0 then ((steps l (bitsOf s) (0, 0, 0)).2.2 - (steps l (bitsOf s) (0, 0, 0)).2.1, true) else (0, false)
theorem span_wrap {l : List Int} {bs : List Bool} (hr : isRuler l) : wrap64 ((steps l bs (0, 0, 0)).2.2 - (steps l bs (0, 0, 0)).2.1) = (steps l bs (0, 0, 0)).2.2 - (steps l bs (0, 0, 0)).2.1 := by
  have := steps_in l bs 0 0 0 0 hr.1 (by omega) (by omega) (by omega) (by omega) (by omega) (by omega)
  have := hr.2.2
  unfold wrap64
  omega
theorem impl_span_l (l : List Int) (s : ByteArray) (hr : isRuler l) (hn : s.size = l.length) : ∀ (d k i : Nat) (p lo hi : Int), i + d = l.length → d + 1 ≤ k → -60 * i ≤ p → p ≤ 60 * i → -60 * i ≤ lo → lo ≤ 60 * i → -60 * i ≤ hi → hi ≤ 60 * i →
    impl_ProofSpanIs.l0 k s p lo hi l (l.length : Int) (i : Int) = some (if LRfrom s i then ((steps (l.drop i) ((bitsOf s).drop i) (p, lo, hi)).2.2 - (steps (l.drop i) ((bitsOf s).drop i) (p, lo, hi)).2.1, true) else (0, false)) := by
  intro d
  induction d with
  | zero =>
    intro k i p lo hi hd hk h1 h2 h3 h4 h5 h6
    obtain ⟨m, rfl⟩ : ∃ m, k = m + 1 := ⟨k - 1, by omega⟩
    have hr2 := hr.2.2
    rw [impl_ProofSpanIs.l0, if_neg (by omega), if_pos (LR_end (s := s) (by omega)), List.drop_eq_nil_of_le (by omega)]
    unfold steps
    rw [show wrap64 (hi - lo) = hi - lo by unfold wrap64; omega]
  | succ d ih =>
    intro k i p lo hi hd hk h1 h2 h3 h4 h5 h6
    obtain ⟨m, rfl⟩ : ∃ m, k = m + 1 := ⟨k - 1, by omega⟩
    have hil : i < l.length := by omega
    have hbi : i < (bitsOf s).length := by rw [bitsOf_length]; omega
    obtain ⟨r1, r2, r3⟩ := hr
    have hx := r1 l[i] (List.getElem_mem hil)
    have hb := bitsOf_at s i (by omega)
    rw [List.getElem?_eq_getElem hbi] at hb
    injection hb with hb
    have w3 : wrap64 (p - l[i]) = p - l[i] := by unfold wrap64; omega
    have w4 : wrap64 (p + l[i]) = p + l[i] := by unfold wrap64; omega
    rw [impl_ProofSpanIs.l0, if_pos (by omega), if_pos (by omega), if_pos (by omega), if_pos (by omega), rd_at hil, w3, w4, wrap_nat (by omega), List.drop_eq_getElem_cons hil, List.drop_eq_getElem_cons hbi, hb]
    by_cases h2' : bt s (i : Int) = 114
    · have e := mn_mx_in lo (p + l[i])
      have e' := mn_mx_in hi (p + l[i])
      rw [if_pos h2', ih m (i + 1) _ _ _ (by omega) (by omega) (by omega) (by omega) (by omega) (by omega) (by omega) (by omega), decide_eq_false (by omega)]
      congr 1
      refine ite_same ?_
      rw [LR_step (s := s) (i := i) (by omega)]
      exact ⟨fun x => ⟨.inr h2', x⟩, fun x => x.2⟩
    · rw [if_neg h2']
      by_cases h1' : bt s (i : Int) = 108
      · have e := mn_mx_in lo (p - l[i])
        have e' := mn_mx_in hi (p - l[i])
        rw [if_pos h1', ih m (i + 1) _ _ _ (by omega) (by omega) (by omega) (by omega) (by omega) (by omega) (by omega) (by omega), decide_eq_true h1']
        congr 1
        refine ite_same ?_
        rw [LR_step (s := s) (i := i) (by omega)]
        exact ⟨fun x => ⟨.inl h1', x⟩, fun x => x.2⟩
      · rw [if_neg h1', if_neg]
        rw [LR_step (s := s) (i := i) (by omega)]
        exact fun x => x.1.elim h1' h2'
theorem span_is_impl (l : List Int) (s : ByteArray) (hl : l.length ≤ 1048576) (k : Nat) (hk : 2 * l.length + 10 ≤ k) : impl_ProofSpanIs.f k l s = some (spanOf l s) := by
  unfold impl_ProofSpanIs.f spanOf
  rw [impl_ruler l hl k (by omega)]
  simp only [Option.bind_some, decide_eq_true_eq]
  obtain ⟨m, rfl⟩ : ∃ m, k = m + 1 := ⟨k - 1, by omega⟩
  by_cases hr : isRuler l
  · rw [if_pos hr, impl_ProofSpanIs.j0]
    by_cases hn : s.size = l.length
    · have e : ((s.size : Int) != (l.length : Int)) = false := by rw [hn]; simp
      rw [e, if_neg (by decide)]
      have := impl_span_l l s hr hn l.length m 0 0 0 0 (by omega) (by omega) (by omega) (by omega) (by omega) (by omega) (by omega) (by omega)
      rw [show ((0 : Nat) : Int) = 0 from rfl] at this
      rw [this]
      congr 1
      exact ite_same ⟨fun x => ⟨hr, hn, x⟩, fun x => x.2.2⟩
    · have e : ((s.size : Int) != (l.length : Int)) = true := by simp; omega
      rw [e, if_pos rfl, if_neg (fun x => hn x.2.1)]
  · rw [if_neg hr, impl_ProofSpanIs.j0, if_pos rfl, if_neg (fun x => hr x.1)]
/-! ### foldings -/
def bitsN (n m : Nat) : List Bool := (List.range n).map fun i => decide (m / 2 ^ (n - 1 - i) % 2 = 1)
theorem bitsN_length (n m : Nat) : (bitsN n m).length = n := by simp [bitsN]
theorem bitsN_at (n m i : Nat) (h : i < n) : (bitsN n m)[i]? = some (decide (m / 2 ^ (n - 1 - i) % 2 = 1)) := by
  simp [bitsN, h]
theorem maskTo_bitsN (n m : Nat) (hm : m < 2 ^ n) : ∀ i, i ≤ n → maskTo (bitsN n m) i = m / 2 ^ (n - i)
  | 0, _ => by rw [maskTo, Nat.sub_zero, Nat.div_eq_of_lt hm]
  | i + 1, h => by
    rw [maskTo, maskTo_bitsN n m hm i (by omega), bitsN_at n m i (by omega), show n - i = (n - (i + 1)) + 1 by omega, Nat.pow_succ, ← Nat.div_div_eq_div_mul, show n - 1 - i = n - (i + 1) by omega]
    generalize m / 2 ^ (n - (i + 1)) = q
    simp only [Option.some.injEq, decide_eq_true_eq]
    split <;> omega
theorem maskTo_bitsN_all (n m : Nat) (hm : m < 2 ^ n) : maskTo (bitsN n m) n = m := by
  rw [maskTo_bitsN n m hm n (Nat.le_refl _), Nat.sub_self, Nat.pow_zero, Nat.div_one]
def textN (bs : List Bool) : List Int := bs.map fun b => if b = true then 108 else 114
theorem textN_length (bs : List Bool) : (textN bs).length = bs.length := by simp [textN]
/-- The span of a folding. -/
def spN (l : List Int) (m : Nat) : Int := (steps l (bitsN l.length m) (0, 0, 0)).2.2 - (steps l (bitsN l.length m) (0, 0, 0)).2.1
theorem fold1_l (l : List Int) (bs : List Bool) (hr : isRuler l) (hb : bs.length = l.length) : ∀ (d k i : Nat) (p lo hi : Int), i + d = l.length → d + 1 ≤ k → -60 * i ≤ p → p ≤ 60 * i →
    impl_foldings.l1 k l ((maskTo bs l.length : Nat) : Int) (textN (bs.take i)) p lo hi (i : Int) = some (textN bs, steps (l.drop i) (bs.drop i) (p, lo, hi)) := by
  intro d
  induction d with
  | zero =>
    intro k i p lo hi hi' hk h1 h2
    obtain ⟨m, rfl⟩ : ∃ m, k = m + 1 := ⟨k - 1, by omega⟩
    rw [impl_foldings.l1, if_neg (by omega), List.drop_eq_nil_of_le (by omega), List.take_of_length_le (by omega)]
    rfl
  | succ d ih =>
    intro k i p lo hi hi' hk h1 h2
    obtain ⟨m, rfl⟩ : ∃ m, k = m + 1 := ⟨k - 1, by omega⟩
    have hil : i < l.length := by omega
    obtain ⟨r1, r2, r3⟩ := hr
    have hx := r1 l[i] (List.getElem_mem hil)
    have w1 : wrap64 ((l.length : Int) - 1) = (l.length : Int) - 1 := by unfold wrap64; omega
    have w2 : wrap64 ((l.length : Int) - 1 - i) = (d : Int) := by unfold wrap64; omega
    have w3 : wrap64 (p - l[i]) = p - l[i] := by unfold wrap64; omega
    have w4 : wrap64 (p + l[i]) = p + l[i] := by unfold wrap64; omega
    have hM := maskTo_lt bs l.length
    have hM2 : maskTo bs l.length < 512 := Nat.lt_of_lt_of_le hM (Nat.pow_le_pow_right (by omega) r3 : 2 ^ l.length ≤ 2 ^ 9)
    have hsh : shr .i64 ((maskTo bs l.length : Nat) : Int) (d : Int) = ((maskTo bs (i + 1) : Nat) : Int) := by
      unfold shr
      rw [Int.toNat_natCast, show min d (IntKind.i64.bits) = d by simp only [IntKind.bits]; omega]
      rw [← maskTo_div bs d (i + 1), show i + 1 + d = l.length by omega]
      norm_cast
    have hM3 : maskTo bs (i + 1) < 4611686018427387904 := by
      have := maskTo_div bs d (i + 1)
      rw [show i + 1 + d = l.length by omega] at this
      have := Nat.div_le_self (maskTo bs l.length) (2 ^ d)
      omega
    have hbi : i < bs.length := by omega
    have ht : (textN (bs.take i)).length < 1000 := by rw [textN_length, List.length_take]; omega
    have htk : textN (bs.take (i + 1)) = textN (bs.take i) ++ [if bs[i] = true then 108 else 114] := by
      unfold textN
      rw [List.take_succ_eq_append_getElem hbi, List.map_append]
      rfl
    rw [impl_foldings.l1, if_pos (by omega), if_pos (by omega), w1, w2, if_pos (by omega), if_pos ht, hsh, and_one _ hM3, maskTo_bit, rd_at hil, w3, w4, wrap_nat (by omega), List.drop_eq_getElem_cons hil, List.drop_eq_getElem_cons hbi, List.getElem?_eq_getElem hbi]
    cases hbb : bs[i] with
    | true =>
      rw [hbb, if_pos rfl] at htk
      rw [if_neg (by decide), ← htk, ih m (i + 1) _ _ _ (by omega) (by omega) (by omega) (by omega)]
      rfl
    | false =>
      rw [hbb, if_neg (by decide)] at htk
      rw [if_pos (by decide), ← htk, ih m (i + 1) _ _ _ (by omega) (by omega) (by omega) (by omega)]
      rfl
theorem fold1 (l : List Int) (hr : isRuler l) (m : Nat) (hm : m < 2 ^ l.length) (k : Nat) (hk : l.length + 1 ≤ k) :
    impl_foldings.l1 k l (m : Int) [] 0 0 0 0 = some (textN (bitsN l.length m), steps l (bitsN l.length m) (0, 0, 0)) := by
  have := fold1_l l (bitsN l.length m) hr (bitsN_length _ _) l.length k 0 0 0 0 (by omega) (by omega) (by omega) (by omega)
  rw [maskTo_bitsN_all _ _ hm] at this
  exact this
theorem pow9 {l : List Int} (hr : isRuler l) : 2 ^ l.length ≤ 512 := (Nat.pow_le_pow_right (by omega) hr.2.2 : 2 ^ l.length ≤ 2 ^ 9)
theorem shl_len {l : List Int} (hr : isRuler l) : shl .i64 1 (l.length : Int) = ((2 ^ l.length : Nat) : Int) := by
  have h9 := pow9 hr
  have hl := hr.2.2
  unfold shl
  rw [Int.toNat_natCast, show min l.length (IntKind.i64.bits) = l.length by simp only [IntKind.bits]; omega, Int.one_mul]
  have e : (2 : Int) ^ l.length = ((2 ^ l.length : Nat) : Int) := by norm_cast
  rw [e]
  generalize 2 ^ l.length = q at h9
  simp [IntKind.wrap, IntKind.bits, IntKind.signed]
  omega
theorem folds_l {S : Type} (step : S → ByteArray → Int → Int → Option S) (l : List Int) (hr : isRuler l) (Inv : Nat → S → Prop)
    (hstep : ∀ m s, m < 2 ^ l.length → Inv m s → ∃ s', step s (strOfNums (textN (bitsN l.length m))) (steps l (bitsN l.length m) (0, 0, 0)).1 (spN l m) = some s' ∧ Inv (m + 1) s') :
    ∀ (d k m : Nat) (s : S), m + d = 2 ^ l.length → d + l.length + 2 ≤ k → Inv m s → ∃ s', impl_foldings.l0 step k l ((2 ^ l.length : Nat) : Int) s (m : Int) = some s' ∧ Inv (2 ^ l.length) s' := by
  have h9 := pow9 hr
  intro d
  induction d with
  | zero =>
    intro k m s hm hk hi
    obtain ⟨j, rfl⟩ : ∃ j, k = j + 1 := ⟨k - 1, by omega⟩
    have : m = 2 ^ l.length := by omega
    subst this
    rw [impl_foldings.l0, if_neg (by omega)]
    exact ⟨s, rfl, hi⟩
  | succ d ih =>
    intro k m s hm hk hi
    obtain ⟨j, rfl⟩ : ∃ j, k = j + 1 := ⟨k - 1, by omega⟩
    obtain ⟨s', h1, h2⟩ := hstep m s (by omega) hi
    rw [impl_foldings.l0, if_pos (by omega), fold1 l hr m (by omega) j (by omega)]
    simp only [Option.bind_some]
    rw [span_wrap hr]
    unfold spN at h1
    rw [h1]
    simp only [Option.bind_some]
    rw [wrap_nat (by omega)]
    exact ih j (m + 1) s' (by omega) (by omega) h2
theorem folds {S : Type} (step : S → ByteArray → Int → Int → Option S) (l : List Int) (hr : isRuler l) (Inv : Nat → S → Prop)
    (hstep : ∀ m s, m < 2 ^ l.length → Inv m s → ∃ s', step s (strOfNums (textN (bitsN l.length m))) (steps l (bitsN l.length m) (0, 0, 0)).1 (spN l m) = some s' ∧ Inv (m + 1) s')
    (k : Nat) (hk : 2 ^ l.length + l.length + 2 ≤ k) (s : S) (hs : Inv 0 s) : ∃ s', impl_foldings.f step k l s = some s' ∧ Inv (2 ^ l.length) s' := by
  unfold impl_foldings.f
  rw [shl_len hr]
  exact folds_l step l hr Inv hstep (2 ^ l.length) k 0 s (by omega) hk hs
/-- The first folding of the least span. -/
def Best (l : List Int) (m : Nat) (b : Int) (f : Nat) : Prop := f < m ∧ spN l f = b ∧ (∀ j, j < m → b ≤ spN l j) ∧ ∀ j, j < f → b < spN l j
theorem Best_one {l : List Int} {m : Nat} {b b' : Int} {f f' : Nat} (h : Best l m b f) (h' : Best l m b' f') : b = b' ∧ f = f' := by
  obtain ⟨h1, h2, h3, h4⟩ := h
  obtain ⟨g1, g2, g3, g4⟩ := h'
  have e1 := h3 f' g1
  have e2 := g3 f h1
  have e : b = b' := by omega
  refine ⟨e, ?_⟩
  rcases Nat.lt_trichotomy f f' with h | h | h
  · have := g4 f h; omega
  · exact h
  · have := h4 f' h; omega
theorem spN_in {l : List Int} (hr : isRuler l) (m : Nat) : -1080 ≤ spN l m ∧ spN l m ≤ 1080 := by
  have := steps_in l (bitsN l.length m) 0 0 0 0 hr.1 (by omega) (by omega) (by omega) (by omega) (by omega) (by omega)
  have := hr.2.2
  unfold spN
  omega
theorem least_l (l : List Int) (hr : isRuler l) : ∀ (d k m : Nat) (b : Int) (f : Nat), m + d = 2 ^ l.length → d + l.length + 2 ≤ k → (m = 0 ∨ Best l m b f) →
    ∃ b' f', spec_l5Least.l0 k l b (f : Int) (m : Int) = some (b', ((f' : Nat) : Int)) ∧ (2 ^ l.length = 0 ∨ Best l (2 ^ l.length) b' f') := by
  have h9 := pow9 hr
  intro d
  induction d with
  | zero =>
    intro k m b f hm hk hi
    obtain ⟨j, rfl⟩ : ∃ j, k = j + 1 := ⟨k - 1, by omega⟩
    have : m = 2 ^ l.length := by omega
    subst this
    rw [spec_l5Least.l0, shl_len hr, if_neg (by omega)]
    exact ⟨b, f, rfl, hi⟩
  | succ d ih =>
    intro k m b f hm hk hi
    obtain ⟨j, rfl⟩ : ∃ j, k = j + 1 := ⟨k - 1, by omega⟩
    have e5 := ends5 l (bitsN l.length m) hr (bitsN_length _ _) j (by omega)
    rw [maskTo_bitsN_all _ _ (by omega)] at e5
    rw [spec_l5Least.l0, shl_len hr, if_pos (by omega), e5]
    simp only [Option.bind_some]
    rw [span_wrap hr, show (steps l (bitsN l.length m) (0, 0, 0)).2.2 - (steps l (bitsN l.length m) (0, 0, 0)).2.1 = spN l m from rfl, wrap_nat (by omega)]
    by_cases h0 : m = 0
    · rw [if_pos (by omega)]
      refine ih j (m + 1) _ _ (by omega) (by omega) (.inr ?_)
      subst h0
      exact ⟨by omega, rfl, fun j hj => by obtain rfl : j = 0 := by omega
                                           exact Int.le_refl _, fun j hj => by omega⟩
    · rw [if_neg (by omega)]
      obtain ⟨g1, g2, g3, g4⟩ : Best l m b f := hi.resolve_left h0
      by_cases h1 : spN l m < b
      · rw [if_pos h1]
        refine ih j (m + 1) _ _ (by omega) (by omega) (.inr ⟨by omega, rfl, fun j hj => ?_, fun j hj => ?_⟩)
        · rcases Nat.lt_or_ge j m with h | h
          · have := g3 j h; omega
          · obtain rfl : j = m := by omega
            exact Int.le_refl _
        · have := g3 j hj; omega
      · rw [if_neg h1]
        refine ih j (m + 1) _ _ (by omega) (by omega) (.inr ⟨by omega, g2, fun j hj => ?_, g4⟩)
        rcases Nat.lt_or_ge j m with h | h
        · exact g3 j h
        · obtain rfl : j = m := by omega
          omega
theorem least_tells (l : List Int) (hr : isRuler l) (k : Nat) (hk : 2 ^ l.length + l.length + 2 ≤ k) : ∃ b f, spec_l5Least.f k l = some (b, ((f : Nat) : Int)) ∧ Best l (2 ^ l.length) b f := by
  obtain ⟨b, f, h1, h2⟩ := least_l l hr (2 ^ l.length) k 0 0 0 (by omega) hk (.inl rfl)
  refine ⟨b, f, h1, h2.resolve_left ?_⟩
  have : 0 < 2 ^ l.length := Nat.two_pow_pos _
  omega
theorem sum_l (l : List Int) (hl : l.length ≤ 100) (hx : ∀ x ∈ l, 1 ≤ x ∧ x ≤ 60) : ∀ (d k i : Nat) (s : Int), i + d = l.length → d + 1 ≤ k → 0 ≤ s → s ≤ 60 * i →
    impl_sum.l0 k s l (l.length : Int) (i : Int) = some (s + (l.drop i).sum) := by
  intro d
  induction d with
  | zero =>
    intro k i s hi hk h0 h1
    obtain ⟨m, rfl⟩ : ∃ m, k = m + 1 := ⟨k - 1, by omega⟩
    rw [impl_sum.l0, if_neg (by omega), List.drop_eq_nil_of_le (by omega)]
    simp
  | succ d ih =>
    intro k i s hi hk h0 h1
    obtain ⟨m, rfl⟩ : ∃ m, k = m + 1 := ⟨k - 1, by omega⟩
    have hil : i < l.length := by omega
    have hx := hx l[i] (List.getElem_mem hil)
    have w : wrap64 (s + l[i]) = s + l[i] := by unfold wrap64; omega
    rw [impl_sum.l0, if_pos (by omega), if_pos (by omega), if_pos (by omega), rd_at hil, w, wrap_nat (by omega), ih m (i + 1) _ (by omega) (by omega) (by omega) (by omega), List.drop_eq_getElem_cons hil, List.sum_cons]
    congr 1
    omega
theorem sum_tells (l : List Int) (hl : l.length ≤ 100) (hx : ∀ x ∈ l, 1 ≤ x ∧ x ≤ 60) (k : Nat) (hk : l.length + 1 ≤ k) : impl_sum.f k l = some l.sum := by
  have := sum_l l hl hx l.length k 0 0 (by omega) hk (by omega) (by omega)
  unfold impl_sum.f
  rw [show ((0 : Nat) : Int) = 0 from rfl] at this
  rw [this]
  simp
theorem steps_r : ∀ (l : List Int) (n : Nat) (p lo hi : Int), (∀ x ∈ l, 1 ≤ x ∧ x ≤ 60) → l.length ≤ n → 0 ≤ p → lo = 0 → hi = p → steps l (List.replicate n false) (p, lo, hi) = (p + l.sum, 0, p + l.sum)
  | [], n, p, lo, hi, _, _, _, h1, h2 => by
    subst h1 h2
    unfold steps
    simp
  | x :: l, 0, p, lo, hi, _, h, _, _, _ => by simp at h
  | x :: l, n + 1, p, lo, hi, hx, hn, h0, h1, h2 => by
    have h := hx x List.mem_cons_self
    rw [List.replicate_succ, steps]
    simp only [Bool.false_eq_true, if_false]
    subst h1 h2
    rw [show mn 0 (hi + x) = 0 by unfold mn; split <;> omega, show mx hi (hi + x) = hi + x by unfold mx; split <;> omega, steps_r l n _ _ _ (fun y hy => hx y (List.mem_cons_of_mem _ hy)) (by simpa using hn) (by omega) rfl rfl, List.sum_cons, Int.add_assoc]
theorem bitsN_zero (n : Nat) : bitsN n 0 = List.replicate n false := by
  refine List.ext_getElem? fun i => ?_
  by_cases h : i < n
  · rw [bitsN_at n 0 i h, List.getElem?_replicate, if_pos h]
    simp
  · rw [List.getElem?_eq_none (by rw [bitsN_length]; omega), List.getElem?_eq_none (by simp; omega)]
theorem spN_zero {l : List Int} (hr : isRuler l) : spN l 0 = l.sum := by
  unfold spN
  rw [bitsN_zero, steps_r l _ 0 0 0 hr.1 (Nat.le_refl _) (by omega) rfl rfl]
  simp
theorem mn_le (a b : Int) : mn a b ≤ a ∧ mn a b ≤ b ∧ (mn a b = a ∨ mn a b = b) := by
  unfold mn
  split <;> omega
theorem foldspan_tells (l : List Int) (hl : l.length ≤ 1048576) (k : Nat) (hk : l.length + 600 ≤ k) : ∃ r, impl_FoldSpan.f k l = some r ∧ (if isRuler l then r.2 = true ∧ ∃ f, Best l (2 ^ l.length) r.1 f else r = (0, false)) := by
  unfold impl_FoldSpan.f
  rw [impl_ruler l hl k (by omega)]
  simp only [Option.bind_some, decide_eq_true_eq]
  by_cases hr : isRuler l
  · have h9 := pow9 hr
    have hl9 := hr.2.2
    rw [if_pos hr, sum_tells l (by omega) hr.1 k (by omega)]
    simp only [Option.bind_some]
    obtain ⟨s, h1, h2⟩ := folds impl_FoldSpan.step l hr (fun m s => (m = 0 ∧ s = l.sum) ∨ ((∃ j, j < m ∧ spN l j = s) ∧ ∀ j, j < m → s ≤ spN l j)) (fun m s hm hi => by
      refine ⟨_, rfl, .inr ?_⟩
      have e := mn_le s (spN l m)
      rcases hi with ⟨rfl, rfl⟩ | ⟨⟨j, hj, he⟩, hle⟩
      · rw [spN_zero hr] at *
        refine ⟨⟨0, by omega, by rw [spN_zero hr]; omega⟩, fun j hj => ?_⟩
        obtain rfl : j = 0 := by omega
        rw [spN_zero hr]; omega
      · constructor
        · rcases e.2.2 with e2 | e2
          · exact ⟨j, by omega, by omega⟩
          · exact ⟨m, by omega, by omega⟩
        · intro i hi
          rcases Nat.lt_or_ge i m with h | h
          · have := hle i h; omega
          · obtain rfl : i = m := by omega
            omega) k (by omega) l.sum (.inl ⟨rfl, rfl⟩)
    rw [h1]
    simp only [Option.bind_some]
    refine ⟨_, rfl, ?_⟩
    rw [if_pos hr]
    refine ⟨rfl, ?_⟩
    obtain ⟨b, f, _, hB⟩ := least_tells l hr (2 ^ l.length + l.length + 2) (Nat.le_refl _)
    have hpos : 0 < 2 ^ l.length := Nat.two_pow_pos _
    rcases h2 with ⟨h2, _⟩ | ⟨⟨j, hj, he⟩, hle⟩
    · omega
    · obtain ⟨g1, g2, g3, g4⟩ := hB
      have e1 := hle f g1
      have e2 := g3 j hj
      have e : b = s := by omega
      subst e
      exact ⟨f, g1, g2, g3, g4⟩
  · rw [if_neg hr]
    exact ⟨_, rfl, by rw [if_neg hr]⟩
theorem strOfNums_size (t : List Int) : (strOfNums t).size = t.length := by simp [strOfNums, ByteArray.size]
theorem foldbest_tells (l : List Int) (hl : l.length ≤ 1048576) (k : Nat) (hk : l.length + 600 ≤ k) : ∃ r, impl_FoldBest.f k l = some r ∧ (if isRuler l then r.2 = true ∧ ∃ b f, Best l (2 ^ l.length) b f ∧ r.1 = strOfNums (textN (bitsN l.length f)) else r = (⟨#[]⟩, false)) := by
  unfold impl_FoldBest.f
  obtain ⟨⟨b, t⟩, h1, h2⟩ := foldspan_tells l hl k hk
  rw [h1]
  simp only [Option.bind_some]
  by_cases hr : isRuler l
  · have h9 := pow9 hr
    have hl9 := hr.2.2
    rw [if_pos hr] at h2
    obtain ⟨h2, f, hB⟩ := h2
    simp only at h2 hB
    subst h2
    rw [if_pos rfl]
    have hpos : ∀ m, (strOfNums (textN (bitsN l.length m))).size ≠ 0 := fun m => by rw [strOfNums_size, textN_length, bitsN_length]; have := hr.2.1; omega
    obtain ⟨s, h3, h4⟩ := folds (impl_FoldBest.step b) l hr (fun m s => (s = ⟨#[]⟩ ∧ ∀ j, j < m → spN l j ≠ b) ∨ (∃ i, i < m ∧ s = strOfNums (textN (bitsN l.length i)) ∧ spN l i = b ∧ ∀ j, j < i → spN l j ≠ b)) (fun m s hm hi => by
      refine ⟨_, rfl, ?_⟩
      by_cases e : spN l m = b
      · rw [if_pos e]
        rcases hi with ⟨rfl, hi⟩ | ⟨i, hi, rfl, h5, h6⟩
        · rw [if_pos (show (⟨#[]⟩ : ByteArray).size = 0 from rfl)]
          exact .inr ⟨m, by omega, rfl, e, hi⟩
        · rw [if_neg (hpos i)]
          exact .inr ⟨i, by omega, rfl, h5, h6⟩
      · rw [if_neg e]
        rcases hi with ⟨rfl, hi⟩ | ⟨i, hi, rfl, h5, h6⟩
        · refine .inl ⟨rfl, fun j hj => ?_⟩
          rcases Nat.lt_or_ge j m with h | h
          · exact hi j h
          · obtain rfl : j = m := by omega
            exact e
        · exact .inr ⟨i, by omega, rfl, h5, h6⟩) k (by omega) ⟨#[]⟩ (.inl ⟨rfl, fun j hj => by omega⟩)
    rw [h3]
    simp only [Option.bind_some]
    refine ⟨_, rfl, ?_⟩
    rw [if_pos hr]
    refine ⟨rfl, b, f, hB, ?_⟩
    obtain ⟨g1, g2, g3, g4⟩ := hB
    rcases h4 with ⟨rfl, h4⟩ | ⟨i, hi, rfl, h5, h6⟩
    · exact absurd g2 (h4 f g1)
    · have : i = f := by
        rcases Nat.lt_trichotomy i f with h | h | h
        · have := g4 i h; omega
        · exact h
        · exact absurd g2 (h6 f h)
      subst this
      rfl
  · rw [if_neg hr] at h2
    injection h2 with h2 h3
    subst h3
    rw [if_neg (by decide)]
    exact ⟨_, rfl, by rw [if_neg hr]⟩
theorem bt_rl : bt (⟨#[114, 108]⟩ : ByteArray) 0 = 114 ∧ bt (⟨#[114, 108]⟩ : ByteArray) 1 = 108 := by constructor <;> rfl
theorem specbest_l (l : List Int) (hr : isRuler l) (f : Nat) (hf : f < 2 ^ l.length) : ∀ (d k i : Nat), i + d = l.length → d + 1 ≤ k →
    spec_FoldBest.l0 k l (f : Int) (textN ((bitsN l.length f).take i)) (i : Int) = some (strOfNums (textN (bitsN l.length f)), true) := by
  have hbl := bitsN_length l.length f
  have hmk := maskTo_bitsN_all l.length f hf
  generalize bitsN l.length f = bs at hbl hmk
  intro d
  induction d with
  | zero =>
    intro k i hi hk
    obtain ⟨m, rfl⟩ : ∃ m, k = m + 1 := ⟨k - 1, by omega⟩
    rw [spec_FoldBest.l0, if_neg (by omega), List.take_of_length_le (by omega)]
  | succ d ih =>
    intro k i hi hk
    obtain ⟨m, rfl⟩ : ∃ m, k = m + 1 := ⟨k - 1, by omega⟩
    have hil : i < l.length := by omega
    obtain ⟨r1, r2, r3⟩ := hr
    have w1 : wrap64 ((l.length : Int) - 1) = (l.length : Int) - 1 := by unfold wrap64; omega
    have w2 : wrap64 ((l.length : Int) - 1 - i) = (d : Int) := by unfold wrap64; omega
    have hM := maskTo_lt bs l.length
    have hM2 : maskTo bs l.length < 512 := Nat.lt_of_lt_of_le hM (Nat.pow_le_pow_right (by omega) r3 : 2 ^ l.length ≤ 2 ^ 9)
    have hsh : shr .i64 (f : Int) (d : Int) = ((maskTo bs (i + 1) : Nat) : Int) := by
      rw [← hmk]
      unfold shr
      rw [Int.toNat_natCast, show min d (IntKind.i64.bits) = d by simp only [IntKind.bits]; omega]
      rw [← maskTo_div bs d (i + 1), show i + 1 + d = l.length by omega]
      norm_cast
    have hM3 : maskTo bs (i + 1) < 4611686018427387904 := by
      have := maskTo_div bs d (i + 1)
      rw [show i + 1 + d = l.length by omega] at this
      have := Nat.div_le_self (maskTo bs l.length) (2 ^ d)
      omega
    have hbi : i < bs.length := by omega
    have ht : (textN (bs.take i)).length < 140737488355328 := by rw [textN_length, List.length_take]; omega
    have htk : textN (bs.take (i + 1)) = textN (bs.take i) ++ [if bs[i] = true then 108 else 114] := by
      unfold textN
      rw [List.take_succ_eq_append_getElem hbi, List.map_append]
      rfl
    have hb := maskTo_bit bs i
    rw [List.getElem?_eq_getElem hbi] at hb
    rw [spec_FoldBest.l0, if_pos (by omega), w1, w2, if_pos (by omega), hsh, and_one _ hM3, if_pos (by omega), if_pos (by omega), if_pos ht, wrap_nat (by omega), hb]
    cases hbb : bs[i] with
    | true =>
      rw [hbb, if_pos rfl] at htk
      rw [if_pos rfl, show ((1 : Nat) : Int) = 1 from rfl, bt_rl.2, ← htk, ih m (i + 1) (by omega) (by omega)]
    | false =>
      rw [hbb, if_neg (by decide)] at htk
      rw [if_neg (by decide), show ((0 : Nat) : Int) = 0 from rfl, bt_rl.1, ← htk, ih m (i + 1) (by omega) (by omega)]
theorem specbest_tells (l : List Int) (hl : l.length ≤ 1048576) (k : Nat) (hk : l.length + 600 ≤ k) : ∃ r, spec_FoldBest.f k l = some r ∧ (if isRuler l then r.2 = true ∧ ∃ b f, Best l (2 ^ l.length) b f ∧ r.1 = strOfNums (textN (bitsN l.length f)) else r = (⟨#[]⟩, false)) := by
  unfold spec_FoldBest.f
  rw [spec_ruler l hl k (by omega)]
  simp only [Option.bind_some, decide_eq_true_eq]
  by_cases hr : isRuler l
  · have h9 := pow9 hr
    have hl9 := hr.2.2
    obtain ⟨b, f, h1, hB⟩ := least_tells l hr k (by omega)
    rw [if_pos hr, h1]
    simp only [Option.bind_some]
    have := specbest_l l hr f hB.1 l.length k 0 (by omega) (by omega)
    rw [show ((0 : Nat) : Int) = 0 from rfl] at this
    refine ⟨_, this, ?_⟩
    rw [if_pos hr]
    exact ⟨rfl, b, f, hB, rfl⟩
  · rw [if_neg hr]
    exact ⟨_, rfl, by rw [if_neg hr]⟩
theorem bests_same (l : List Int) (hl : l.length ≤ 1048576) (k k' : Nat) (hk : l.length + 600 ≤ k) (hk' : l.length + 600 ≤ k') : ∃ r, impl_FoldBest.f k l = some r ∧ spec_FoldBest.f k' l = some r ∧ (if isRuler l then r.2 = true ∧ ∃ b f, Best l (2 ^ l.length) b f ∧ r.1 = strOfNums (textN (bitsN l.length f)) else r = (⟨#[]⟩, false)) := by
  obtain ⟨r, h1, h2⟩ := foldbest_tells l hl k hk
  obtain ⟨r', g1, g2⟩ := specbest_tells l hl k' hk'
  have e : r' = r := by
    by_cases hr : isRuler l
    · rw [if_pos hr] at h2 g2
      obtain ⟨h3, b, f, hB, h4⟩ := h2
      obtain ⟨g3, b', f', hB', g4⟩ := g2
      have := Best_one hB hB'
      rw [← this.2, ← h4] at g4
      exact Prod.ext g4 (g3.trans h3.symm)
    · rw [if_neg hr] at h2 g2
      rw [h2, g2]
  subst e
  exact ⟨r', h1, g1, g2⟩
/-! ### a folding's text, read back -/
theorem strOfNums_at (t : List Int) (ht : ∀ x ∈ t, x = 108 ∨ x = 114) (i : Nat) (h : i < t.length) : bt (strOfNums t) (i : Int) = t[i] := by
  have hi : i < (strOfNums t).size := by rw [strOfNums_size]; exact h
  unfold bt
  rw [dif_pos (by simpa using hi)]
  have e : (strOfNums t)[i]'hi = UInt8.ofNat t[i].toNat := by
    simp [strOfNums, ByteArray.getElem_eq_getElem_data]
  simp only [Int.toNat_natCast]
  rw [e]
  rcases ht _ (List.getElem_mem h) with h | h <;> rw [h] <;> rfl
theorem textN_in (bs : List Bool) : ∀ x ∈ textN bs, x = 108 ∨ x = 114 := by
  intro x hx
  simp only [textN, List.mem_map] at hx
  obtain ⟨b, _, rfl⟩ := hx
  cases b <;> simp
theorem text_LR (bs : List Bool) : LRfrom (strOfNums (textN bs)) 0 := by
  intro j hj _
  rw [strOfNums_size] at hj
  rw [strOfNums_at _ (textN_in bs) j hj]
  exact textN_in bs _ (List.getElem_mem hj)
theorem text_bits (bs : List Bool) : bitsOf (strOfNums (textN bs)) = bs := by
  refine List.ext_getElem? fun i => ?_
  by_cases h : i < bs.length
  · have h1 : i < (textN bs).length := by rw [textN_length]; exact h
    rw [bitsOf_at _ i (by rw [strOfNums_size]; exact h1), strOfNums_at _ (textN_in bs) i h1, List.getElem?_eq_getElem h]
    congr 1
    simp only [textN, List.getElem_map]
    cases bs[i] <;> rfl
  · rw [List.getElem?_eq_none (by rw [bitsOf_length, strOfNums_size, textN_length]; omega), List.getElem?_eq_none (by omega)]
theorem spanOf_text (l : List Int) (hr : isRuler l) (m : Nat) : spanOf l (strOfNums (textN (bitsN l.length m))) = (spN l m, true) := by
  unfold spanOf
  rw [if_pos ⟨hr, by rw [strOfNums_size, textN_length, bitsN_length], text_LR _⟩, text_bits]
  rfl
/-- The first best folding begins to the right. -/
theorem steps_flip : ∀ (l : List Int) (bs : List Bool) (p lo hi : Int), steps l (bs.map (!·)) (-p, -hi, -lo) = (-(steps l bs (p, lo, hi)).1, -(steps l bs (p, lo, hi)).2.2, -(steps l bs (p, lo, hi)).2.1)
  | [], bs, p, lo, hi => by simp [steps]
  | x :: l, [], p, lo, hi => by simp [steps]
  | x :: l, b :: bs, p, lo, hi => by
    rw [List.map_cons, steps, steps]
    have e := steps_flip l bs (if b = true then p - x else p + x) (mn lo (if b = true then p - x else p + x)) (mx hi (if b = true then p - x else p + x))
    rw [← e]
    congr 1
    have h0 : (if (!b) = true then -p - x else -p + x) = -(if b = true then p - x else p + x) := by cases b <;> simp <;> omega
    simp only []
    rw [h0]
    generalize (if b = true then p - x else p + x) = q
    refine Prod.ext rfl (Prod.ext ?_ ?_)
    · show mn (-hi) (-q) = -mx hi q
      unfold mn mx
      split <;> split <;> omega
    · show mx (-lo) (-q) = -mn lo q
      unfold mn mx
      split <;> split <;> omega
theorem bitsN_flip (n m : Nat) (hm : m < 2 ^ n) : bitsN n (2 ^ n - 1 - m) = (bitsN n m).map (!·) := by
  refine List.ext_getElem? fun i => ?_
  rw [List.getElem?_map]
  by_cases h : i < n
  · rw [bitsN_at _ _ _ h, bitsN_at _ _ _ h, Option.map_some]
    congr 1
    obtain ⟨c, hc⟩ : ∃ c, c = n - 1 - i := ⟨_, rfl⟩
    rw [← hc]
    have e : 2 ^ n = 2 ^ c * (2 * 2 ^ i) := by
      rw [← Nat.pow_succ', ← Nat.pow_add]
      congr 1
      omega
    have hp : 0 < 2 ^ c := Nat.two_pow_pos _
    have hq : 0 < 2 ^ i := Nat.two_pow_pos _
    generalize 2 ^ c = C at *
    generalize 2 ^ i = I at *
    have h1 := Nat.div_add_mod m C
    have h2 := Nat.mod_lt m hp
    have h3 : m / C < 2 * I := by
      rw [Nat.div_lt_iff_lt_mul hp, Nat.mul_comm]
      omega
    have e2 : (2 ^ n - 1 - m) / C = 2 * I - 1 - m / C := by
      rw [e]
      generalize m / C = q at *
      generalize m % C = r at *
      have e3 : C * (2 * I) - 1 - m = C * (2 * I - 1 - q) + (C - 1 - r) := by
        rw [← h1, Nat.mul_sub, Nat.mul_sub]
        have e4 : C * q + C ≤ C * (2 * I) := by
          rw [← Nat.mul_succ]
          exact Nat.mul_le_mul_left _ (by omega)
        generalize C * q = X at *
        generalize C * (2 * I) = Y at *
        omega
      rw [e3, Nat.mul_add_div hp, Nat.div_eq_of_lt (by omega), Nat.add_zero]
    rw [e2]
    generalize m / C = q at *
    by_cases hq2 : q % 2 = 1
    · rw [decide_eq_true hq2, decide_eq_false (by omega)]
      rfl
    · rw [decide_eq_false hq2, decide_eq_true (by omega)]
      rfl
  · rw [List.getElem?_eq_none (by rw [bitsN_length]; omega), List.getElem?_eq_none (by rw [bitsN_length]; omega)]
    rfl
theorem spN_flip (l : List Int) (m : Nat) (hm : m < 2 ^ l.length) : spN l (2 ^ l.length - 1 - m) = spN l m := by
  have e := steps_flip l (bitsN l.length m) 0 0 0
  unfold spN
  rw [bitsN_flip _ _ hm]
  rw [show (-0 : Int) = 0 from rfl] at e
  rw [e]
  simp only []
  omega
theorem best_r (l : List Int) (hr : isRuler l) (b : Int) (f : Nat) (h : Best l (2 ^ l.length) b f) : bt (strOfNums (textN (bitsN l.length f))) 0 = 114 := by
  obtain ⟨g1, g2, g3, g4⟩ := h
  have hl := hr.2.1
  have hlen : 0 < (textN (bitsN l.length f)).length := by rw [textN_length, bitsN_length]; omega
  have := strOfNums_at _ (textN_in (bitsN l.length f)) 0 hlen
  rw [show ((0 : Nat) : Int) = 0 from rfl] at this
  rw [this]
  have hb := bitsN_at l.length f 0 (by omega)
  rw [List.getElem?_eq_getElem (by rw [bitsN_length]; omega)] at hb
  injection hb with hb
  have e : (textN (bitsN l.length f))[0] = if (bitsN l.length f)[0]'(by rw [bitsN_length]; omega) = true then 108 else 114 := by simp only [textN, List.getElem_map]
  rw [e, hb, if_neg]
  rw [decide_eq_true_eq]
  intro h1
  have e2 : 2 ^ l.length = 2 * 2 ^ (l.length - 1 - 0) := by rw [← Nat.pow_succ']; congr 1; omega
  have h2 := Nat.div_add_mod f (2 ^ (l.length - 1 - 0))
  have h3 : f / 2 ^ (l.length - 1 - 0) ≠ 0 := by intro h; rw [h] at h1; omega
  have h4 : 2 ^ (l.length - 1 - 0) ≤ f := by
    rcases Nat.lt_or_ge f (2 ^ (l.length - 1 - 0)) with h | h
    · exact absurd (Nat.div_eq_of_lt h) h3
    · exact h
  have e3 := spN_flip l f g1
  have := g4 (2 ^ l.length - 1 - f) (by omega)
  omega
/-! ### the reader of draws -/
theorem wrap_id {x : Int} (h0 : -9223372036854775808 ≤ x) (h1 : x ≤ 9223372036854775807) : wrap64 x = x := by unfold wrap64; omega
theorem wf_u8 {l : List Int} (h : ∀ x ∈ l, (Lit.int .u8 x).wf = true) : ∀ x ∈ l, 0 ≤ x ∧ x ≤ 255 := by
  intro x hx
  have := h x hx
  simp [Lit.wf, IntKind.min, IntKind.max, IntKind.bits, IntKind.signed] at this
  omega
theorem rd_u8 {b : List Int} (hb : ∀ x ∈ b, 0 ≤ x ∧ x ≤ 255) (i : Int) (h0 : 0 ≤ i) (h1 : i < b.length) : 0 ≤ rd b i ∧ rd b i ≤ 255 := by
  have hl : i.toNat < b.length := by omega
  have : rd b i = b[i.toNat] := by
    unfold rd
    rw [List.getD_eq_getElem?_getD, List.getElem?_eq_getElem hl]
    rfl
  rw [this]
  exact hb _ (List.getElem_mem hl)
theorem xor_i64 (a b : Nat) (ha : a < 4611686018427387904) (hb : b < 4611686018427387904) : Go.bits .xor .i64 (a : Int) (b : Int) = ((a ^^^ b : Nat) : Int) := by
  have hx : a ^^^ b < 2 ^ 62 := Nat.xor_lt_two_pow (by omega) (by omega)
  have h1 : (BitVec.ofInt 64 (a : Int)).toNat = a := by
    rw [BitVec.ofInt_natCast, BitVec.toNat_ofNat]; exact Nat.mod_eq_of_lt (by omega)
  have h2 : (BitVec.ofInt 64 (b : Int)).toNat = b := by
    rw [BitVec.ofInt_natCast, BitVec.toNat_ofNat]; exact Nat.mod_eq_of_lt (by omega)
  show IntKind.i64.wrap ((BitVec.ofInt 64 (a : Int) ^^^ BitVec.ofInt 64 (b : Int)).toNat : Int) = _
  rw [BitVec.toNat_xor, h1, h2]
  generalize a ^^^ b = c at hx
  simp [IntKind.wrap, IntKind.bits, IntKind.signed]
  omega
theorem tmod_in {x n : Int} (hx : 0 ≤ x) (hn : 1 ≤ n) : 0 ≤ Int.tmod x n ∧ Int.tmod x n < n := by
  rw [Int.tmod_eq_emod_of_nonneg hx]
  exact ⟨Int.emod_nonneg _ (by omega), Int.emod_lt_of_pos _ (by omega)⟩
theorem tdiv_in {x n : Int} (hx : 0 ≤ x) (hn : 1 ≤ n) : 0 ≤ Int.tdiv x n ∧ Int.tdiv x n ≤ x := by
  rw [Int.tdiv_eq_ediv_of_nonneg hx]
  exact ⟨Int.ediv_nonneg hx (by omega), Int.ediv_le_self _ hx⟩
theorem pick_tells (b : List Int) (hb : ∀ x ∈ b, 0 ≤ x ∧ x ≤ 255) (hl : b.length ≤ 2000) (p n : Int) (hp : 0 ≤ p) (hp2 : p ≤ 1000000) (hn : 1 ≤ n) (hn2 : n ≤ 1000000) (k : Nat) (hk : 1 ≤ k) :
    ∃ r, spec_l6Rd_pick.f k b p n = some (r, p + 1) ∧ 0 ≤ r ∧ r < n := by
  obtain ⟨m, rfl⟩ : ∃ m, k = m + 1 := ⟨k - 1, by omega⟩
  unfold spec_l6Rd_pick.f
  have e0 : wrap64 (p + 1) = p + 1 := wrap_id (by omega) (by omega)
  have e1 : wrap64 (p + 1 - 1) = p := by rw [show p + 1 - 1 = p by omega]; exact wrap_id (by omega) (by omega)
  rw [if_neg (by omega), spec_l6Rd_pick.j0, e0, e1]
  by_cases hz : b.length = 0
  · rw [if_pos (by simp [hz])]
    exact ⟨0, rfl, by omega, by omega⟩
  · have hz2 : ((b.length : Int) == 0) = false := by rw [beq_eq_false_iff_ne]; omega
    rw [hz2, if_neg (by decide)]
    by_cases h : p < b.length
    · rw [if_pos h, if_pos hp, if_neg (by omega)]
      have hr := rd_u8 hb p hp h
      rw [wrap_id (x := rd b p) (by omega) (by omega)]
      exact ⟨_, rfl, tmod_in hr.1 hn⟩
    · rw [if_neg h, if_neg (by omega)]
      have hlen : (1 : Int) ≤ b.length := by omega
      have q1 := tmod_in hp hlen
      have e7 : wrap64 (p * 7) = p * 7 := wrap_id (by omega) (by omega)
      have e8 : wrap64 (p * 7 + 3) = p * 7 + 3 := wrap_id (by omega) (by omega)
      rw [e7, e8]
      have q2 := tmod_in (show (0 : Int) ≤ p * 7 + 3 by omega) hlen
      rw [if_pos q1.1, if_pos q1.2, if_pos q2.1, if_pos q2.2, if_neg (by omega)]
      have r1 := rd_u8 hb _ q1.1 q1.2
      have r2 := rd_u8 hb _ q2.1 q2.2
      have q3 := tdiv_in hp hlen
      generalize rd b (Int.tmod p b.length) = x1 at r1
      generalize rd b (Int.tmod (p * 7 + 3) b.length) = x2 at r2
      generalize Int.tdiv p b.length = x3 at q3
      rw [wrap_id (x := x1) (by omega) (by omega), wrap_id (x := x2) (by omega) (by omega), wrap_id (x := x3) (by omega) (by omega), wrap_id (x := x1 * 131) (by omega) (by omega), wrap_id (x := x2 * 1117) (by omega) (by omega),
        wrap_id (x := x1 * 131 + x2 * 1117) (by omega) (by omega), wrap_id (x := p * 29) (by omega) (by omega), wrap_id (x := x1 * 131 + x2 * 1117 + p * 29) (by omega) (by omega), wrap_id (x := x3 * 53) (by omega) (by omega),
        wrap_id (x := x1 * 131 + x2 * 1117 + p * 29 + x3 * 53) (by omega) (by omega)]
      obtain ⟨X, hX⟩ : ∃ X : Nat, x1 * 131 + x2 * 1117 + p * 29 + x3 * 53 = X := ⟨(x1 * 131 + x2 * 1117 + p * 29 + x3 * 53).toNat, by omega⟩
      rw [hX]
      have hXb : X < 1000000000 := by omega
      have q4 := tdiv_in (show (0 : Int) ≤ (X : Int) by omega) (show (1 : Int) ≤ 64 by omega)
      rw [wrap_id (x := Int.tdiv X 64) (by omega) (by omega)]
      obtain ⟨Y, hY⟩ : ∃ Y : Nat, Int.tdiv X 64 = Y := ⟨(Int.tdiv X 64).toNat, by omega⟩
      rw [hY, xor_i64 X Y (by omega) (by omega)]
      exact ⟨_, rfl, tmod_in (by omega) hn⟩
/-- The bytes that the reader takes. -/
theorem open_tells (l : List Int) (h : ∀ x ∈ l, 0 ≤ x ∧ x ≤ 255) : ∃ b, spec_l6Open.f l = some (b, 0) ∧ b.length ≤ 2000 ∧ ∀ x ∈ b, 0 ≤ x ∧ x ≤ 255 := by
  unfold spec_l6Open.f
  by_cases hl : (l.length : Int) > 2000
  · rw [if_pos hl, if_pos (by omega)]
    exact ⟨_, rfl, by rw [List.length_take]; omega, fun x hx => h x (List.mem_of_mem_take hx)⟩
  · rw [if_neg hl]
    exact ⟨_, rfl, by omega, h⟩
/-! ### a ruler that is drawn -/
theorem length_tells (b : List Int) (hb : ∀ x ∈ b, 0 ≤ x ∧ x ≤ 255) (hl : b.length ≤ 2000) (p : Int) (hp : 0 ≤ p) (hp2 : p ≤ 900000) (k : Nat) (hk : 1 ≤ k) :
    ∃ r q, spec_l91Length.f k b p = some (r, q) ∧ p ≤ q ∧ q ≤ p + 3 := by
  unfold spec_l91Length.f
  obtain ⟨r1, h1, _⟩ := pick_tells b hb hl p 12 hp (by omega) (by omega) (by omega) k hk
  obtain ⟨r2, h2, _⟩ := pick_tells b hb hl (p + 1) 6 (by omega) (by omega) (by omega) (by omega) k hk
  obtain ⟨r3, h3, _⟩ := pick_tells b hb hl (p + 1 + 1) 48 (by omega) (by omega) (by omega) (by omega) k hk
  rw [h1]
  simp only [Option.bind_some]
  rw [h2]
  simp only [Option.bind_some]
  rw [h3]
  simp only [Option.bind_some]
  exact ⟨_, _, rfl, by omega, by omega⟩
theorem ruler_draw_l (b : List Int) (hb : ∀ x ∈ b, 0 ≤ x ∧ x ≤ 255) (hl : b.length ≤ 2000) (n : Nat) (hn : 1 ≤ n) (hn9 : n ≤ 9) : ∀ (d k i : Nat) (out : List Int) (p : Int), i + d = n → d + 2 ≤ k → out.length = i → 0 ≤ p → p ≤ 1000 + 3 * i →
    ∃ a q, spec_l91Ruler.l0 k out (n : Int) (i : Int) b p = some (a, q) ∧ a.length = n ∧ 0 ≤ q ∧ q ≤ 1003 + 3 * n := by
  intro d
  induction d with
  | zero =>
    intro k i out p hi hk ho hp hp2
    obtain ⟨m, rfl⟩ : ∃ m, k = m + 1 := ⟨k - 1, by omega⟩
    rw [spec_l91Ruler.l0, if_neg (by omega)]
    obtain ⟨r1, h1, _⟩ := pick_tells b hb hl p 30 hp (by omega) (by omega) (by omega) m (by omega)
    rw [h1]
    simp only [Option.bind_some]
    split
    · obtain ⟨r2, h2, g1, g2⟩ := pick_tells b hb hl (p + 1) n (by omega) (by omega) (by omega) (by omega) m (by omega)
      obtain ⟨r3, h3, _⟩ := pick_tells b hb hl (p + 1 + 1) 2 (by omega) (by omega) (by omega) (by omega) m (by omega)
      rw [h2]
      simp only [Option.bind_some]
      rw [h3]
      simp only [Option.bind_some]
      rw [if_pos g1, if_pos (by omega)]
      exact ⟨_, _, rfl, by rw [List.length_set]; omega, by omega, by omega⟩
    · exact ⟨_, _, rfl, by omega, by omega, by omega⟩
  | succ d ih =>
    intro k i out p hi hk ho hp hp2
    obtain ⟨m, rfl⟩ : ∃ m, k = m + 1 := ⟨k - 1, by omega⟩
    rw [spec_l91Ruler.l0, if_pos (by omega)]
    obtain ⟨r, q, h1, h2, h3⟩ := length_tells b hb hl p hp (by omega) m (by omega)
    rw [h1]
    simp only [Option.bind_some]
    rw [if_pos (by omega), wrap_nat (by omega)]
    exact ih m (i + 1) _ q (by omega) (by omega) (by rw [List.length_append]; simp; omega) (by omega) (by omega)
theorem ruler_draw (b : List Int) (hb : ∀ x ∈ b, 0 ≤ x ∧ x ≤ 255) (hl : b.length ≤ 2000) (k : Nat) (hk : 20 ≤ k) :
    ∃ a q, spec_l91Ruler.f k b 0 8 = some (a, q) ∧ a.length ≤ 8 ∧ 0 ≤ q ∧ q ≤ 1100 := by
  unfold spec_l91Ruler.f
  obtain ⟨r, h, g1, g2⟩ := pick_tells b hb hl 0 8 (by omega) (by omega) (by omega) (by omega) k (by omega)
  rw [h]
  simp only [Option.bind_some]
  obtain ⟨n, hn⟩ : ∃ n : Nat, r = n := ⟨r.toNat, by omega⟩
  subst hn
  rw [show wrap64 (1 + (n : Int)) = ((n + 1 : Nat) : Int) by unfold wrap64; omega]
  obtain ⟨a, q, h1, h2, h3, h4⟩ := ruler_draw_l b hb hl (n + 1) (by omega) (by omega) (n + 1) k 0 [] (0 + 1) (by omega) (by omega) rfl (by omega) (by omega)
  exact ⟨a, q, h1, by omega, h3, by omega⟩
theorem rule_tells (l : List Int) (h : ∀ x ∈ l, 0 ≤ x ∧ x ≤ 255) (k : Nat) (hk : 20 ≤ k) : ∃ a, spec_l91Rule.f k l = some a ∧ a.length ≤ 8 := by
  unfold spec_l91Rule.f
  obtain ⟨b, h1, h2, h3⟩ := open_tells l h
  rw [h1]
  simp only [Option.bind_some]
  obtain ⟨a, q, g1, g2, _⟩ := ruler_draw b h3 h2 k hk
  rw [g1]
  exact ⟨a, rfl, g2⟩
theorem FnProofSpan : laws_FnProofSpan.Pure := by
  intro l h1 h2 h3
  refine ⟨2000, ?_⟩
  unfold laws_FnProofSpan.f
  split
  · rfl
  · obtain ⟨a, g1, g2⟩ := rule_tells l (wf_u8 h3) 2000 (by omega)
    unfold spec_DrawProofSpan.f spec_ProofSpan.f impl_ProofSpan.f
    rw [g1]
    simp only [Option.bind_some]
    obtain ⟨⟨t, ok⟩, e1, e2, e3⟩ := bests_same a (by omega) 2000 2000 (by omega) (by omega)
    rw [e1]
    simp only [Option.bind_some]
    rw [e2]
    simp only [Option.bind_some]
    rw [if_neg (by simp), if_pos trivial]
    by_cases hr : isRuler a
    · rw [if_pos hr] at e3
      obtain ⟨f1, b, f, hB, f2⟩ := e3
      simp only at f1 f2
      subst f1 f2
      rw [laws_FnProofSpan.j0, if_neg (by decide)]
      obtain ⟨⟨s, t⟩, d1, d2⟩ := foldspan_tells a (by omega) 1999 (by omega)
      rw [if_pos hr] at d2
      obtain ⟨d2, f', hB'⟩ := d2
      have hbf := Best_one hB hB'
      rw [span_is_impl a _ (by omega) 1999 (by omega), spanOf_text a hr]
      simp only [Option.bind_some]
      rw [d1]
      simp only [Option.bind_some]
      rw [if_pos trivial, if_pos d2, hB.2.1, hbf.1]
      simp
    · rw [if_neg hr] at e3
      injection e3 with e3 e4
      subst e3 e4
      rw [laws_FnProofSpan.j0, if_pos (by decide), if_pos (by decide)]
      exact congrArg some (beq_self_eq_true _)

end Go.Proofs.Ythcjahkgljoplaa.Pure
